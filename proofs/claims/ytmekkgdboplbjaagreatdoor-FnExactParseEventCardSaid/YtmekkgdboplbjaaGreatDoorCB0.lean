/- The logic. No condition. -/
import Derived.Test.YtmekkgdboplbjaaGreatDoorCA0
import Derived.Deep.LoopGhost
import Derived.Laws.StructEq
import Derived.KernelRfl
import Derived.Laws.Strings3
import Derived.Laws.BytesString
import Derived.Laws.Concat
import Derived.Lib.LaidTab
import Derived.Lib.Join
import Derived.Lib.ItoaNum
import Derived.Lib.ItoaLen
import Derived.Sort.Grow
import Derived.Deep.Draws
import Derived.ProofKit
import Derived.OpenShut
import Derived.Carry
import Derived.Below
import Derived.ChangeSame
import Derived.ChangeArms
import Derived.WideKeyArgs
import Derived.Deep.Slices
set_option linter.all false
namespace Go.Proofs.YtmekkgdboplbjaaGreatDoor.M
open Go Go.RowKit
section
section
variable {P : Program} {n : Nat} {ops : Array Oper} {h0 : Nat → Prop} {w0 : World} {Fz0 : aj} {σ τ : St} {a : Act} {w : World} {φ : Nat → Nat} {Fz : aj} {Fp : Nat → List Nat}
def bL.take : ∀ {l : List (Bool × List PV)} {vs : List Value} {F : List Nat} {i : Nat} {ag : Bool} {cs qs : List PV}, bL l Fz w vs F → l[i]? = some (ag, cs) → ao cs qs → ak qs → F.Nodup →
  ∃ v F1 F2, vs[i]? = some v ∧ aL ag cs Fz w v F1 ∧ bL (l.set i (ag, qs)) Fz w vs F2 ∧ (∀ b, b ∈ F1 ++ F2 → b ∈ F) ∧ (F1 ++ F2).Nodup
 | [], _, _, i, _, _, _, _, hi, _, _, _ => by simp at hi
 | p :: l, vs, F, 0, ag, cs, qs, h, hi, ht, hb, hn => by
  obtain ⟨v, vs', F1, F2, rfl, rfl, h1, h2⟩ := h
  simp at hi
  subst hi
  exact ⟨v, F1, F2, rfl, h1, ⟨v, vs', [], F2, rfl, rfl, ⟨h1.1, hb.own (ht.rel h1.2.rel)⟩, h2⟩, fun b hb => hb, hn⟩
 | p :: l, vs, F, i + 1, ag, cs, qs, h, hi, ht, hb, hn => by
  obtain ⟨v, vs', F1, F2, rfl, rfl, h1, h2⟩ := h
  rw [bH] at hn
  obtain ⟨u, G1, G2, e1, e2, e3, e4, e5⟩ := bL.take h2 (by simpa using hi) ht hb hn.2.1
  rw [bH] at e5
  refine ⟨u, G1, F1 ++ G2, by simpa using e1, e2, ⟨v, vs', F1, G2, rfl, rfl, h1, e3⟩, fun b hb => ?_, ?_⟩
  ·simp only [bB] at hb ⊢
   rcases hb with hb | hb | hb
   ·exact .inr (e4 b (by simp [hb]))
   ·exact .inl hb
   ·exact .inr (e4 b (by simp [hb]))
  ·rw [bH, bH]
   refine ⟨e5.1, ⟨hn.1, e5.2.1, fun x hx y hy => hn.2.2 x hx y (e4 y (by simp [hy]))⟩, fun x hx y hy e => ?_⟩
   rcases List.mem_append.1 hy with hy | hy
   ·exact hn.2.2 y hy x (e4 x (by simp [hx])) e.symm
   ·exact e5.2.2 x hx y hy e
def jP {t d i : Nat} {ty : TypeId} {pos : String} {af : Array Edge} {g : Option (Nat × Bool)} {l : List (Bool × List PV)} {ag : Bool} {cs qs : List PV} (hd : d < n) (hi : l[i]? = some (ag, cs)) (ht : ao cs qs) (hb : ak qs) :
  Loc P n ⟨some d, .extract (.tmp t) i, ty, pos, af, g⟩ ⟨[(t, RV.tup l)], [], [(t, some (RV.tup (l.set i (ag, qs)))), (d, some (RV.sv ag cs))], [], none⟩ := by
 intro h0 w0 Fz0 σ a w K Q hc hr _ _ h5
 obtain ⟨φ, Fz, Fp, hc⟩ := hc
 obtain ⟨vs, hv, hT⟩ := hc.slot t _ hr.1
 have ht' : t < n := by
  rcases Nat.lt_or_ge t n with h | h
  ·exact h
  ·rw [Array.getD_eq_getD_getElem?, Array.getElem?_eq_none (by rw [hc.siz]; exact h)] at hv
   cases hv
   have := hT.len
   cases l with
   | nil => simp at hi
   | cons p l => simp at this
 have c1 := hc.pull t
 have e0 : mv Fp (2 * t + 1) 0 = Fp (2 * t + 1) ++ Fp 0 := by simp [mv]
 have hnd := c1.nod 0
 rw [e0, bH] at hnd
 obtain ⟨v, F1, F2, e1, e2, e3, e4, e5⟩ := hT.take hi ht hb hnd.1
 have c2 := c1.push (i := t) (rv := RV.tup (l.set i (ag, qs))) (v := .tuple vs) (F := F2) (X := F1) ht' ⟨vs, rfl, e3⟩
  (fun b hb => by
   rw [e0]
   refine List.mem_append_left _ (e4 b ?_)
   simp only [bB] at hb ⊢; exact hb.symm)
  ((oF).nodup_iff.2 e5)
 have c3 := c2.push (i := d) (rv := RV.sv ag cs) (v := v) (F := F1) (X := []) hd e2
  (fun b hb => by simp [cn] at hb ⊢; exact hb) (by rw [fK]; exact (List.nodup_append.1 e5).1)
 have hput : (a.put (some t) (.tuple vs)) = a := by
  have : a.tmps.setIfInBounds t (.tuple vs) = a.tmps := by
   apply Array.ext (by simp)
   intro j hj1 hj2
   rw [Array.getElem_setIfInBounds (by simpa using hj1)]
   split
   ·rename_i hjt
    subst hjt
    rw [← hv, Array.getD_eq_getD_getElem?, Array.getElem?_eq_getElem hj2]; rfl
   ·rfl
  show ({ tmps := a.tmps.setIfInBounds t (.tuple vs), defers := a.defers } : Act) = a
  rw [this]
 rw [hput] at c3
 refine bC (v := v) (w' := w) ?_ (h5 _ _ (aP.eqv ⟨_, _, _, c3⟩ (fun j => ?_) (fun e => rfl)))
 ·unfold execOp
  have hv' : a.eval (.tmp t) = .tuple vs := hv
  have e1' : vs[i]? = some v := by simpa using e1
  simp [hv', Instr.extract, e1']
 ·show bd [(t, _), (d, _)] σ.s j = _
  simp only [bd, St.set]
  cases hjd : Nat.beq j d <;> cases hjt : Nat.beq j t <;> rfl
def cr : List (Bool × List PV) → aj → World → List Value → Prop
 | [], _, _, vs => vs = []
 | p :: ps, Fz, w, vs => ∃ v vs', vs = v :: vs' ∧ dL p.1 p.2 Fz w v ∧ cr ps Fz w vs'
def aD (P : Program) (f : FuncId) (args : List (Bool × List PV)) (r : RV) : Prop :=
 ∀ (w : World) (vs : List Value) (Fz : aj), (∀ b o, Fz b o → b < w.heap.size) → cr args Fz w vs → Calls P f vs.toArray w fun e w' => ∃ v Fz' F, e = .returned v ∧ Below w.heap.size w w' ∧
  (∀ b o, b < w.heap.size → (Fz' b o ↔ Fz b o)) ∧ (∀ b o, Fz' b o → b < w'.heap.size) ∧ (∀ φ, r.holds φ Fz' w' v F) ∧ F.Nodup ∧ ∀ b, b ∈ F → w.heap.size ≤ b ∧ b < w'.heap.size
def aw (P : Program) (f : FuncId) : Bool := match P.funcs[f]? with
 | some fn => !(fn.name == "runtime.NumGoroutine") && fn.body.isSome
 | none => false
def oR {f : FuncId} (h : aw P f = true) (args : Array Value) (w : World) : (callFunc f args).run P w = .ok (.enter f args) w := by
 unfold aw at h
 split at h
 ·rename_i fn hf
  rw [bK, Bool.not_eq_true'] at h
  simp only [callFunc, Sem.run_bind, run_program, Result.andThen_ok, hf]
  rw [if_neg (by rw [h.1]; simp), if_neg (by cases hb : fn.body <;> simp_all)]
  rfl
 ·cases h
def aE.relT (h : aE h0 w0 Fz0 n σ a w φ Fz Fp) : ∀ {xs : List Operand} {qs : List (Bool × List PV)}, au (eO xs qs) σ.s → fN xs qs → cr qs Fz w (xs.map a.eval)
 | [], [], _, _ => rfl
 | [], _ :: _, _, hk => hk.elim
 | _ :: _, [], _, hk => hk.elim
 | x :: xs, q :: qs, hr, hk => by
  obtain ⟨F, hF⟩ := h.op hr.left hk.1
  exact ⟨_, _, rfl, ⟨hF.1, hF.2.rel⟩, h.relT hr.right hk.2⟩
def eP : List (Bool × List PV) → List (Bool × List PV) → Prop
 | [], [] => True
 | p :: ps, q :: qs => (p.1 = q.1 ∧ ao p.2 q.2) ∧ eP ps qs
 | _, _ => False
def eP.rel : ∀ {ps qs : List (Bool × List PV)} {vs : List Value}, eP ps qs → cr ps Fz w vs → cr qs Fz w vs
 | [], [], _, _, h => h
 | p :: ps, q :: qs, _, k, h => by obtain ⟨v, vs', rfl, h1, h2⟩ := h; exact ⟨v, vs', rfl, ⟨by rw [← k.1.1]; exact h1.1, k.1.2.rel h1.2⟩, eP.rel k.2 h2⟩
def eP.refl : ∀ ps : List (Bool × List PV), eP ps ps
 | [] => True.intro
 | p :: ps => ⟨⟨rfl, ao.refl _⟩, eP.refl ps⟩
def sC {f d : Nat} {args : Array Operand} {tys : Array TypeId} {ty : TypeId} {pos : String} {af : Array Edge} {g : Option (Nat × Bool)} {qs as_ : List (Bool × List PV)} {r : RV} (hd : d < n) (hf : aw P f = true) (hok : fN args.toList qs) (hto : eP qs as_) (hs : aD P f as_ r) :
  Loc P n ⟨some d, .call { callee := .value (.func f), args := args, argTypes := tys }, ty, pos, af, g⟩ ⟨eO args.toList qs, [], [(d, some r)], [], none⟩ := by
 intro h0 w0 Fz0 σ a w K Q hc hr _ _ h5
 obtain ⟨φ, Fz, Fp, hc⟩ := hc
 have hrel := hto.rel (hc.relT hr hok)
 have hrun : (execOp a.eval ⟨some d, .call { callee := .value (.func f), args := args, argTypes := tys }, ty, pos, af, g⟩).run P w = .ok (.enter f (args.toList.map a.eval).toArray) w := by
  unfold execOp
  have e : (#[] ++ args.map a.eval ++ #[] : Array Value) = (args.toList.map a.eval).toArray := by apply Array.ext'; simp
  simp only [resolve, Act.eval, Deferred.ofValue, Sem.run_bind, Sem.run_pure, Result.andThen_ok, invoke]
  rw [oR hf, e]
 unfold Oper.wp
 rw [hrun, Oper.upon_enter]
 refine (hs w _ Fz hc.fzl hrel).mono ?_
 rintro e w' ⟨v, Fz', F, rfl, hb, hz1, hz2, hv, hn, hF⟩
 refine h5 _ _ ?_
 have k := hc.world (w' := w') (Fz' := Fz') (X := F) hb.os hb.tape hb.output hb.size (fun b hb' _ => ⟨hb.block b hb', fun o ho => (hz1 b o hb').1 ho⟩)
  (fun b o ho => ⟨(hz1 b o (hc.fzl b o ho)).2 ho, World.cell?_of_block (hb.block b (hc.fzl b o ho))⟩) hz2 (fun b hb' => .inr (hF b hb')) hn
 exact ⟨φ, Fz', _, k.push (i := d) (rv := r) (v := v) (F := F) (X := []) hd (hv φ) (fun b hb => by simpa using hb) (by simpa using hn)⟩
def SW (P : Program) (n : Nat) (h0 : Nat → Prop) (w0 : World) (Fz0 : aj) (c : Code) (σ : St) (Q : Exit → St → Prop) : Prop :=
 ∀ a w, aP h0 w0 Fz0 n σ a w → c.wp P (fun e a' w' => ∃ τ, Q e τ ∧ aP h0 w0 Fz0 n τ a' w') a w
def jQ (N : St → Prop) (Q : Exit → St → Prop) : Exit → St → Prop
 | .normal, τ => N τ
 | e, τ => Q e τ
def sD (id : Nat) (Q : Exit → St → Prop) : Exit → St → Prop
 | .exit id', τ => if id' = id then Q .normal τ else Q (.exit id') τ
 | e, τ => Q e τ
variable {Q : Exit → St → Prop} {x y c : Code}
def cd {id : Nat} {ops : Array Oper} (h : ai P n ops (fun τ => Q .normal τ) ops.toList σ) : SW P n h0 w0 Fz0 (.region id ops false) σ Q :=
 fun _ _ hc => yQ hc h fun τ _ _ hq hc' => ⟨τ, hq, hc'⟩
def ce {id : Nat} {ops : Array Oper} (hm : P.follows .mixedOrders = true) (h : bz P n ops σ (fun _ _ => True) (fun τ => Q .normal τ) ops.toList [] σ) : SW P n h0 w0 Fz0 (.region id ops true) σ Q :=
 fun _ _ hc => yR hm hc h fun τ _ _ hq hc' => ⟨τ, hq, hc'⟩
def aT (h : SW P n h0 w0 Fz0 x σ (jQ (fun τ => SW P n h0 w0 Fz0 y τ Q) Q)) : SW P n h0 w0 Fz0 (.seq x y) σ Q := fun a w hc =>
 wp_seq (wp_mono (h a w hc) fun e a' w' ⟨τ, hq, hc'⟩ => by
  cases e with
  | normal => exact hq a' w' hc'
  | _ => exact ⟨τ, hq, hc'⟩)
def oS {t : Nat} {b : Bool} (ht : σ.s t = some (RV.bool b)) (h1 : b = true → SW P n h0 w0 Fz0 x σ Q) (h2 : b = false → SW P n h0 w0 Fz0 y σ Q) : SW P n h0 w0 Fz0 (.cond (.tmp t) x y) σ Q := fun a w hc => by
 obtain ⟨φ, Fz, Fp, h⟩ := hc
 refine wp_cond (t := b) (h.one_ ht).1 ?_
 cases b
 ·exact h2 rfl a w ⟨φ, Fz, Fp, h⟩
 ·exact h1 rfl a w ⟨φ, Fz, Fp, h⟩
def fi {id : Nat} (h : SW P n h0 w0 Fz0 c σ (sD id Q)) : SW P n h0 w0 Fz0 (.block id c) σ Q := fun a w hc =>
 wp_block (wp_mono (h a w hc) fun e a' w' ⟨τ, hq, hc'⟩ => by
  cases e with
  | exit i =>
   simp only [Exit.inBlock, sD] at hq ⊢
   split
   ·rename_i hi; rw [if_pos hi] at hq; exact ⟨τ, hq, hc'⟩
   ·rename_i hi; rw [if_neg hi] at hq; exact ⟨τ, hq, hc'⟩
  | _ => exact ⟨τ, hq, hc'⟩)
def aK (h : Q .normal σ) : SW P n h0 w0 Fz0 .skip σ Q := fun _ _ hc => wp_skip ⟨σ, h, hc⟩
def cU {id : Nat} (h : Q (.exit id) σ) : SW P n h0 w0 Fz0 (.exit id) σ Q := fun _ _ hc => wp_exit ⟨σ, h, hc⟩
def eC (h : Q .ret σ) : SW P n h0 w0 Fz0 .ret σ Q := fun _ _ hc => wp_ret ⟨σ, h, hc⟩
def aP.of {l : List (Nat × RV)} {b : List (Nat × (Nat × List PV))} (h : aP h0 w0 Fz0 n σ a w) (hl : au l σ.s) (hb : au b σ.b) : aP h0 w0 Fz0 n (St.of l b) a w :=
 h.less (fun i rv hi => hl.mem (i, rv) (gD hi)) (fun d cs hd => hb.mem (d, cs) (gD hd))
def zy {l : List (Nat × RV)} {b : List (Nat × (Nat × List PV))} (hl : au l σ.s) (hb : au b σ.b) (h : SW P n h0 w0 Fz0 c (St.of l b) Q) : SW P n h0 w0 Fz0 c σ Q := fun a w hc => h a w (hc.of hl hb)
def au.app {β : Type} {l m : List (Nat × β)} {f : Nat → Option β} (h : au l f) (k : au m f) : au (l ++ m) f := au.of_mem fun p hp => by
 rcases List.mem_append.1 hp with hp | hp
 ·exact h.mem p hp
 ·exact k.mem p hp
def zz {ι : Type} (I : ι → Prop) {l0 : List (Nat × RV)} {b0 : List (Nat × (Nat × List PV))} (l : ι → List (Nat × RV)) (b : ι → List (Nat × (Nat × List PV))) (m : ι → Nat) (i0 : ι) (h0' : I i0) (hl0 : au l0 σ.s) (hb0 : au b0 σ.b) (hl : au (l i0) σ.s) (hb : au (b i0) σ.b)
  (round : ∀ i, I i → SW P n h0 w0 Fz0 c (St.of (l0 ++ l i) (b0 ++ b i)) (jQ (fun τ => ∃ j, I j ∧ m j < m i ∧ (au l0 τ.s ∧ au b0 τ.b) ∧ au (l j) τ.s ∧ au (b j) τ.b) Q)) : SW P n h0 w0 Fz0 (.loop c) σ Q := fun a w hc => by
 refine wp_loop_ghost (fun k a w => ∃ i, I i ∧ m i = k ∧ aP h0 w0 Fz0 n (St.of (l0 ++ l i) (b0 ++ b i)) a w) (m i0) ⟨i0, h0', rfl, hc.of (hl0.app hl) (hb0.app hb)⟩ ?_
 rintro k a w ⟨i, hi, rfl, hc⟩
 refine wp_mono (round i hi a w hc) fun e a' w' ⟨τ, hq, hc'⟩ => ?_
 cases e with
 | normal =>
  obtain ⟨j, h1, h2, h3, h4, h5⟩ := hq
  exact ⟨m j, h2, j, h1, rfl, hc'.of (h3.1.app h4) (h3.2.app h5)⟩
 | _ => exact ⟨τ, hq, hc'⟩
def zA {s : Nat} {o : Fl} {es : List (List PV)} (hs : σ.s s = some (RV.slc o es)) (h : es.length ≤ 9223372036854775807 → SW P n h0 w0 Fz0 c σ Q) : SW P n h0 w0 Fz0 c σ Q := fun a w hc => h (hc.lenle hs) a w hc
def jR (P : Program) : List ResultVar → List (Bool × List PV) → St → Prop
 | [], [], _ => True
 | .tmp t :: rs, q :: qs, τ => τ.s t = some (RV.sv q.1 q.2) ∧ jR P rs qs (τ.set t none)
 | .cell t T :: rs, q :: qs, τ => (∃ d ty, τ.s t = some (RV.ptr d 0) ∧ τ.b d = some (ty, q.2) ∧ cB P T = some (q.1, q.2.length) ∧ (q.1 = false → q.2.length = 1) ∧ jR P rs qs (τ.setB d none))
 | _, _, _ => False
def jS (t : Array Value) : ResultVar → Sem Value
 | .tmp x => pure (t.getD x undef)
 | .cell x T => do loadVar T (← asAddr (t.getD x undef))
def sE (fn : Func) (t : Array Value) : results fn t = (do let vs ← fn.results.mapM (jS t); pure (if h : vs.size = 1 then vs[0] else .tuple vs)) := by
 unfold results
 congr 1
def oT : ∀ (rs : List ResultVar) (qs : List (Bool × List PV)) {σ : St} {Fp : Nat → List Nat}, aE h0 w0 Fz0 n σ a w φ Fz Fp → jR P rs qs σ →
  ∃ vs F, Sem.run P (rs.mapM (jS a.tmps)) w = .ok vs w ∧ bL qs Fz w vs F ∧ F.Nodup ∧
   (∀ b, b ∈ F → ∃ r, r ≠ 0 ∧ b ∈ Fp r)
 | [], [], σ, Fp, _, _ => ⟨[], [], by simp, ⟨rfl, rfl⟩, List.nodup_nil, by simp⟩
 | .tmp t :: rs, q :: qs, σ, Fp, h, hr => by
  obtain ⟨h1, h2⟩ := hr
  have hv := h.slot t _ h1
  obtain ⟨vs, F, e1, e2, e3, e4⟩ := oT rs qs (h.pull t) h2
  refine ⟨a.tmps.getD t undef :: vs, Fp (2 * t + 1) ++ F, ?_, ⟨_, _, _, _, rfl, rfl, hv, e2⟩, ?_, fun b hb => ?_⟩
  ·rw [List.mapM_cons]
   simp only [jS, Sem.run_bind, Sem.run_pure, Result.andThen_ok, e1]
  ·rw [bH]
   refine ⟨h.nod _, e3, fun u hu y hy e => ?_⟩
   subst e
   obtain ⟨r, hr0, hr⟩ := e4 u hy
   rcases fL hr with ⟨e, _⟩ | ⟨hne, hr⟩
   ·exact hr0 e
   ·exact h.dis _ _ (fun e => hne e.symm) u hu hr
  ·rcases List.mem_append.1 hb with hb | hb
   ·exact ⟨_, by omega, hb⟩
   ·obtain ⟨r, hr0, hr⟩ := e4 b hb
    rcases fL hr with ⟨e, _⟩ | ⟨_, hr⟩
    ·exact absurd e hr0
    ·exact ⟨r, hr0, hr⟩
 | .cell t T :: rs, q :: qs, σ, Fp, h, hr => by
  obtain ⟨d, ty, h1, h2, h3, h4, h5⟩ := hr
  obtain ⟨ep, _⟩ := h.slot t _ h1
  obtain ⟨cur, hg, ho⟩ := h.box d _ h2
  have hlen := ho.len
  obtain ⟨v, k1, k2, k3⟩ := mq h3 w (φ d) 0 cur.toList hlen h4 (fun j u hu => by
   rw [cell_of_row w (φ d) _ cur ty (0, 0) hg, Nat.zero_add]; simpa using hu) ho.one
  obtain ⟨vs, F, e1, e2, e3, e4⟩ := oT rs qs (h.pullB h2) h5
  have e4' : ∀ b, b ∈ F → ∃ r, r ≠ 0 ∧ r ≠ 2 * d + 2 ∧ b ∈ Fp r := by
   intro b hb
   obtain ⟨r, hr0, hr⟩ := e4 b hb
   rw [if_neg hr0] at hr
   rcases fL hr with ⟨e, _⟩ | ⟨hne, hr⟩
   ·exact absurd e hr0
   ·exact ⟨r, hr0, hne, hr⟩
  refine ⟨v :: vs, Fp (2 * d + 2) ++ F, ?_, ⟨_, _, _, _, rfl, rfl, ⟨k2, by rw [k3]; exact ho⟩, e2⟩, ?_, fun b hb => ?_⟩
  ·rw [List.mapM_cons]
   simp only [jS, Sem.run_bind, ep, asAddr, Sem.run_pure, Result.andThen_ok, k1, e1]
  ·rw [bH]
   refine ⟨h.nod _, e3, fun u hu y hy e => ?_⟩
   subst e
   obtain ⟨r, hr0, hne, hr⟩ := e4' u hy
   exact h.dis _ _ (fun e => hne e.symm) u hu hr
  ·rcases List.mem_append.1 hb with hb | hb
   ·exact ⟨_, by omega, hb⟩
   ·obtain ⟨r, hr0, _, hr⟩ := e4' b hb
    exact ⟨r, hr0, hr⟩
 | [], _ :: _, _, _, _, hr => hr.elim
 | .tmp _ :: _, [], _, _, _, hr => hr.elim
 | .cell _ _ :: _, [], _, _, _, hr => hr.elim
def dM : Nat → List (Bool × List PV) → List (Nat × RV)
 | _, [] => []
 | k, q :: qs => (k, RV.sv q.1 q.2) :: dM (k + 1) qs
def ar : List (Bool × List PV) → RV
 | [q] => RV.sv q.1 q.2
 | qs => RV.tup qs
def kP (P : Program) (rs : List ResultVar) (qs : List (Bool × List PV)) : Exit → St → Prop
 | .normal, τ => jR P rs qs τ
 | .ret, τ => jR P rs qs τ
 | _, _ => False
def BorT.own : ∀ {qs : List (Bool × List PV)} {k : Nat} {vs : List Value} {i : Nat} {rv : RV}, (∀ q, q ∈ qs → ak q.2) → cr qs Fz w vs → lk (dM k qs) i = some rv → ∃ j v, i = k + j ∧ j < vs.length ∧ vs[j]? = some v ∧ rv.holds φ Fz w v []
 | [], _, _, _, _, _, _, h => by cases h
 | q :: qs, k, vs, i, rv, hb, hr, h => by
  obtain ⟨v, vs', rfl, h1, h2⟩ := hr
  rw [dM, lk, beq_eq] at h
  by_cases hi : i = k
  ·rw [decide_eq_true hi] at h
   simp only [cond_true, Option.some.injEq] at h
   subst h
   exact ⟨0, v, by omega, by simp, rfl, ⟨h1.1, (hb q (by simp)).own h1.2⟩⟩
  ·rw [decide_eq_false hi] at h
   obtain ⟨j, u, e1, e2, e3, e4⟩ := BorT.own (k := k + 1) (fun x hx => hb x (by simp [hx])) h2 h
   exact ⟨j + 1, u, by omega, by simp; omega, by simpa using e3, e4⟩
def cr.len : ∀ {qs : List (Bool × List PV)} {vs : List Value}, cr qs Fz w vs → vs.length = qs.length
 | [], vs, h => by rw [show vs = [] from h]; rfl
 | q :: qs, vs, h => by obtain ⟨v, vs', rfl, _, h2⟩ := h; simp [cr.len h2]
def oU {f : FuncId} {fn : Func} {c : Code} {args rs : List (Bool × List PV)} (hf : P.funcs[f]? = some fn) (hb : fn.body = some c) (hn : args.length ≤ fn.ntmps) (hbor : ∀ q, q ∈ args → ak q.2) (w : World) (Fz : aj)
  (h : SW P fn.ntmps (fun b => b < w.heap.size) w Fz c (St.of (dM 0 args) []) (kP P fn.results.toList rs)) (vs : List Value) (hz : ∀ b o, Fz b o → b < w.heap.size) (hrel : cr args Fz w vs) : Calls P f vs.toArray w fun e w' => ∃ v Fz' F, e = .returned v ∧ Below w.heap.size w w' ∧
  (∀ b o, b < w.heap.size → (Fz' b o ↔ Fz b o)) ∧ (∀ b o, Fz' b o → b < w'.heap.size) ∧ (∀ φ, (ar rs).holds φ Fz' w' v F) ∧ F.Nodup ∧ ∀ b, b ∈ F → w.heap.size ≤ b ∧ b < w'.heap.size := by
 have hvl := hrel.len
 refine calls_of_wp hf hb ?_
 have hc : aP (fun b => b < w.heap.size) w Fz fn.ntmps (St.of (dM 0 args) []) { tmps := vs.toArray ++ Array.replicate (fn.ntmps - vs.toArray.size) undef, defers := [] } w := by
  refine ⟨fun _ => 0, Fz, fun _ => [], ⟨gB.refl _ _, rfl, by simp; omega, fun _ hb => hb, fun _ _ _ => Iff.rfl, hz, fun i rv hi => ?_, fun d cs hd => (by cases hd), fun d cs hd => (by cases hd), fun d d' cs cs' hd => (by cases hd), fun _ _ _ b hb => (by simp at hb), fun _ => List.nodup_nil, fun _ b hb => (by simp at hb)⟩⟩
  obtain ⟨j, v, e1, e2, e3, e4⟩ := BorT.own (φ := fun _ => 0) hbor hrel hi
  rw [Nat.zero_add] at e1
  subst e1
  have : (vs.toArray ++ Array.replicate (fn.ntmps - vs.toArray.size) undef).getD i undef = v := by
   rw [Array.getD_eq_getD_getElem?, Array.getElem?_append_left (by simpa using e2)]
   simp [e3]
  rw [this]; exact e4
 refine wp_mono (h _ w hc) fun e a' w' ⟨τ, hq, hc'⟩ => ?_
 obtain ⟨φ, Fz', Fp, hc'⟩ := hc'
 have hres : jR P fn.results.toList rs τ → a'.defers = [] ∧ ∃ v, (results fn a'.tmps).run P w' = .ok v w' ∧ ∃ v' Fz' F, Ending.returned v = .returned v' ∧ Below w.heap.size w w' ∧
   (∀ b o, b < w.heap.size → (Fz' b o ↔ Fz b o)) ∧ (∀ b o, Fz' b o → b < w'.heap.size) ∧ (∀ φ, (ar rs).holds φ Fz' w' v' F) ∧ F.Nodup ∧ ∀ b, b ∈ F → w.heap.size ≤ b ∧ b < w'.heap.size := by
  intro hr
  obtain ⟨vs', F, e1, e2, e3, e4⟩ := oT _ rs hc' hr
  have hF : ∀ b, b ∈ F → w.heap.size ≤ b ∧ b < w'.heap.size := fun b hb => by
   obtain ⟨r, _, hr⟩ := e4 b hb
   exact ⟨Nat.le_of_not_lt (hc'.low r b hr).1, (hc'.low r b hr).2⟩
  have hl := e2.len
  have erun : Sem.run P (fn.results.mapM (jS a'.tmps)) w' = .ok vs'.toArray w' := by
   rw [Array.mapM_eq_mapM_toList]
   simp only [map_eq_pure_bind, Sem.run_bind, e1, Result.andThen_ok, Sem.run_pure]
  refine ⟨hc'.dfr, ?_⟩
  rw [sE]
  simp only [Sem.run_bind, erun, Result.andThen_ok, Sem.run_pure]
  refine ⟨_, rfl, _, Fz', F, rfl, ⟨hc'.bel.os, hc'.bel.tape, hc'.bel.output, hc'.bel.size, hc'.bel.block⟩, hc'.fz0, hc'.fzl, fun φ => ?_, e3, hF⟩
  by_cases h1 : vs'.toArray.size = 1
  ·rw [dif_pos h1]
   have hl1 : rs.length = 1 := by rw [← hl]; simpa using h1
   obtain ⟨q, rfl⟩ := List.length_eq_one_iff.1 hl1
   obtain ⟨v, vs2, F1, F2, rfl, rfl, k1, k2, rfl⟩ := e2
   rw [fK]
   exact k1
  ·rw [dif_neg h1]
   have hne : rs.length ≠ 1 := fun e => h1 (by simp [hl, e])
   have : ar rs = RV.tup rs := by
    cases rs with
    | nil => rfl
    | cons q rs => cases rs with
     | nil => simp at hne
     | cons _ _ => rfl
   rw [this]
   exact ⟨vs'.toArray, rfl, by simpa using e2⟩
 cases e with
 | normal => exact hres hq
 | ret => exact hres hq
 | _ => exact hq.elim
def zB {f : FuncId} {fn : Func} {c : Code} {args rs : List (Bool × List PV)} (hf : P.funcs[f]? = some fn) (hb : fn.body = some c) (hn : args.length ≤ fn.ntmps) (hbor : ∀ q, q ∈ args → ak q.2)
  (h : ∀ (h0 : Nat → Prop) (w0 : World) (Fz0 : aj), SW P fn.ntmps h0 w0 Fz0 c (St.of (dM 0 args) []) (kP P fn.results.toList rs)) : aD P f args (ar rs) :=
 fun w vs Fz hz hrel => oU hf hb hn hbor w Fz (h _ w Fz) vs hz hrel
def dN {b c : Bool} (h : b = c) : some (RV.bool b) = some (RV.bool c) := by rw [h]
def dz {b c : Int} (h : b = c) : some (RV.int b) = some (RV.int c) := by rw [h]
def hZ {o : Fl} {es ds : List (List PV)} (h : es = ds) : some (RV.slc o es) = some (RV.slc o ds) := by rw [h]
def dq {ag : Bool} {cs ds : List PV} (h : cs = ds) : some (RV.sv ag cs) = some (RV.sv ag ds) := by rw [h]
def PV.to_none {o : Fl} {es : List (List PV)} : (PV.sl o es).To (PV.sl .v es) := fun h => ⟨h.1, True.intro⟩
def zC {α : Type} {xs : List α} {f : α → List PV} {k : Nat} (h : k < xs.length) : (xs.map f)[k]? = some (f xs[k]) := by simp [h]
def bq {α : Type} {xs : List α} {f : α → List PV} {k : Nat} {cs : List PV} (h : k < xs.length) (hc : f xs[k] = cs) : (xs.map f)[k]? = some cs := by rw [← hc]; exact zC h
def br {p : Nat → Prop} : ∀ d, (none : Option Nat) = some d → p d := fun _ h => nomatch h
def sH {p : Nat → Prop} {e : Nat} (h : p e) : ∀ d, some e = some d → p d := fun d hd => by injection hd with hd; exact hd ▸ h
def mu (args : List (Bool × List PV)) : Prop := ∀ q, q ∈ args → ak q.2
def cN : mu [] := fun q hq => by simp at hq
def cD {p : Bool × List PV} {l : List (Bool × List PV)} (h : ak p.2) (k : mu l) : mu (p :: l) := fun q hq => by
 rcases List.mem_cons.1 hq with rfl | hq
 ·exact h
 ·exact k q hq
def kQ {Fz : aj} {w : World} : ay [] Fz w [] [] := ⟨rfl, rfl⟩
def cV {Fz : aj} {w : World} {v : Value} {ps : List PV} {vs : List Value} (h : v.oneCell' = true) (k : ay ps Fz w vs []) : ay (PV.val v :: ps) Fz w (v :: vs) [] := ⟨v, vs, [], [], rfl, rfl, ⟨⟨rfl, h⟩, rfl⟩, k⟩
def iN {Fz : aj} {w : World} {t e : Nat} {ps : List PV} {vs : List Value} (k : ay ps Fz w vs []) : ay (PV.sl (.own t e) [] :: ps) Fz w (.slice none 0 0 :: vs) [] :=
 ⟨_, vs, [], [], rfl, rfl, ⟨[], [], World.ownsRow_nil w 0 t e, ⟨rfl, rfl⟩, fun g hg => by simp [Value.ownBlock] at hg, by simp [Value.ownBlock], fun g hg => by simp [Value.ownBlock] at hg⟩, k⟩
end
end
section
section
variable {P : Program} {n : Nat} {ops : Array Oper} {h0 : Nat → Prop} {w0 : World} {Fz0 : aj} {σ τ : St} {a : Act} {w : World} {φ : Nat → Nat} {Fz : aj} {Fp : Nat → List Nat}
def RV.hdr (d m : Nat) (c : Nat := m) : RV where
 holds φ _ _ v F := (v = .slice (some ⟨φ d, 0, none⟩) m c ∧ m ≤ c ∧ c ≤ maxLen) ∧ F = []
 men x := Nat.beq x d
 mono h _ _ hφ := ⟨⟨by rw [hφ d (by simp)]; exact h.1.1, h.1.2⟩, h.2⟩
 lt h := by rw [h.2]; simp
def Cp.hdr {d m c : Nat} : Cp (RV.hdr d m c) (RV.hdr d m c) := fun h => ⟨h.1, rfl⟩
def FR {α : Type} (xs : List α) (f : α → List PV) (z : List PV) (k : Nat) : List (List PV) := (xs.take k).map f ++ List.replicate (xs.length - k) z
def mw {e : Nat} : ∀ {es : List (List PV)}, (∀ cs, cs ∈ es → cs.length = e) → es.flatten.length = es.length * e
 | [], _ => by simp
 | c :: es, h => by rw [List.flatten_cons, aX, mw fun x hx => h x (by simp [hx]), h c (by simp), List.length_cons, Nat.succ_mul]; omega
def sI {T E e bs d s b m c : Nat} {ty : TypeId} {pos : String} {af : Array Edge} {g : Option (Nat × Bool)} (hd : d < n) (hT : dY P T = some (E, e, bs)) :
  Loc P n ⟨some d, .call { callee := .builtin .len, args := #[.tmp s], argTypes := #[T] }, ty, pos, af, g⟩ ⟨[(s, RV.hdr b m c)], [], [(d, some (RV.int (m : Int)))], [], none⟩ := by
 intro h0 w0 Fz0 σ a w K Q hc hr _ _ h5
 obtain ⟨φ, Fz, Fp, hc⟩ := hc
 obtain ⟨⟨ev, _⟩, _⟩ := hc.slot s _ hr.1
 obtain ⟨hu, _⟩ := jM hT
 refine bC (v := .int .i64 (m : Int)) (w' := w) ?_ (h5 _ _ (hc.put0 hd (aL.of_sc rfl)))
 have es' : a.eval (.tmp s) = .slice (some ⟨φ b, 0, none⟩) m c := ev
 unfold execOp
 simp [resolve, invoke, builtin, es', Builtin.len_, run_underlying hu, goInt]
def sJ {T E e bs d s b m c k : Nat} {i : Operand} {ty : TypeId} {pos : String} {af : Array Edge} {g : Option (Nat × Bool)} {q : Int} (hd : d < n) (hT : dY P T = some (E, e, bs)) (hi : aF i (RV.int q)) (hq : q = (k : Int)) (hk : k < m) :
  Loc P n ⟨some d, .indexAddr T (.tmp s) i, ty, pos, af, g⟩ ⟨(s, RV.hdr b m c) :: az i (RV.int q), [], [(d, some (RV.ptr b (k * e)))], [], none⟩ := by
 intro h0 w0 Fz0 σ a w K Q hc hr _ _ h5
 obtain ⟨φ, Fz, Fp, hc⟩ := hc
 subst hq
 have ei := hc.sc hr.2 hi
 obtain ⟨⟨ev, _⟩, _⟩ := hc.slot s _ hr.1
 obtain ⟨hu, inf, hinf, hsz, _⟩ := jM hT
 refine bC (v := .pointer (some ⟨φ b, k * e, none⟩)) (w' := w) ?_ (h5 _ _ (hc.put0 hd ⟨rfl, rfl⟩))
 unfold execOp
 have es' : a.eval (.tmp s) = .slice (some ⟨φ b, 0, none⟩) m c := ev
 have hlt' : (0 : Int) ≤ (k : Int) ∧ (k : Int) < (m : Int) := by omega
 simp only [es', ei, Instr.indexAt, asIntOf, Sem.run_bind, Sem.run_pure, Result.andThen_ok, run_underlying hu]
 simp [hlt', sizeOf, typeInfo, hinf, hsz, jN]
def aE.freeze {h0 : Nat → Prop} {w0 : World} {Fz0 : aj} {σ : St} {a : Act} {w : World} {φ : Nat → Nat} {Fz : aj} {Fp : Nat → List Nat} {s b m c E e : Nat} {es : List (List PV)} {jk : List Value} (hc : aE h0 w0 Fz0 n σ a w φ Fz Fp)
  (hb : σ.b b = some (E, es.flatten ++ jk.map PV.val)) (hmc : m ≤ c) (hmx : c ≤ maxLen) (hl : es.length = m) (he : ∀ c, c ∈ es → c.length = e) (hj : m * e + jk.length = c * e) :
  ∃ Fz' Fp', aE h0 w0 Fz0 n ((σ.setB b none).set s none) a w φ Fz' Fp' ∧ dm E e es Fz' w (.slice (some ⟨φ b, 0, none⟩) m c) (φ b :: Fp (2 * b + 2)) ∧ (∀ x, x ∈ φ b :: Fp (2 * b + 2) → x ∈ Fp' 0) ∧ (φ b :: Fp (2 * b + 2)).Nodup ∧ Fp' (2 * s + 1) = [] := by
 obtain ⟨cur, hg, ho⟩ := hc.box b _ hb
 obtain ⟨k1, k2, k3⟩ := hc.bxb b _ hb
 have hlt : φ b < w.heap.size := (Array.getElem?_eq_some_iff.1 hg).1
 have c1 := hc.pullB hb
 have c2 := c1.pull s
 have hol : cur.size = c * e := by
  have : cur.toList.length = (es.flatten ++ jk.map PV.val).length := ho.len
  rw [aX, mw he, bc, hl, hj] at this
  simpa using this
 have hone := ho.one
 obtain ⟨v1, v2, G1, G2, hv12, hG12, o1, o2⟩ := ho.split
 have hl1 : v1.length = es.length * e := by rw [o1.len, mw he]
 have hG2 : G2 = [] := by
  have : ∀ (jk : List Value) (v2 : List Value) (G2 : List Nat), ay (jk.map PV.val) Fz w v2 G2 → G2 = [] := by
   intro jk
   induction jk with
   | nil => intro v2 G2 h; exact h.2
   | cons j jk ih =>
    intro v2 G2 h
    obtain ⟨v, vs', F1, F2, _, rfl, h1, h2⟩ := h
    rw [ih _ _ h2, h1.2]; rfl
  exact this _ _ _ o2
 subst hG2
 rw [fK] at hG12
 generalize hF0 : (fun x => if x = 0 then φ b :: mv Fp (2 * b + 2) 0 else mv Fp (2 * b + 2) x) = Fp1 at c1 c2
 have e1 : Fp1 0 = φ b :: (Fp (2 * b + 2) ++ Fp 0) := by rw [← hF0]; simp [mv]
 have e2 : mv Fp1 (2 * s + 1) 0 = Fp1 (2 * s + 1) ++ Fp1 0 := by simp [mv]
 have hnd := c1.nod 0
 rw [e1] at hnd
 have hX : ∀ x, x ∈ φ b :: Fp (2 * b + 2) → x ∈ mv Fp1 (2 * s + 1) 0 := by
  intro x hx
  rw [e2, e1]
  rcases List.mem_cons.1 hx with rfl | hx
  ·simp
  ·simp [hx]
 have hndX : (φ b :: Fp (2 * b + 2)).Nodup := by
  rw [← List.cons_append] at hnd
  exact (List.nodup_append.1 hnd).1
 have hFin : ∀ x o, (Fz x o ∨ (x = φ b ∧ o < es.length * e)) → x < w.heap.size := by
  rintro x o (h | ⟨rfl, _⟩)
  ·exact hc.fzl x o h
  ·exact hlt
 have c3 := c2.world (w' := w) (Fz' := fun x o => Fz x o ∨ (x = φ b ∧ o < es.length * e)) (X := φ b :: Fp (2 * b + 2)) rfl rfl rfl (Nat.le_refl _)
  (fun x hx h0 => ⟨rfl, fun o ho => by
   rcases ho with ho | ⟨rfl, _⟩
   ·exact ho
   ·exact absurd (hX _ (by simp)) h0⟩) (fun x o hxo => ⟨.inl hxo, rfl⟩) (fun x o h => hFin x o h) (fun x hx => .inl (hX x hx)) hndX
 have hsl : dm E e es (fun x o => Fz x o ∨ (x = φ b ∧ o < es.length * e)) w (.slice (some ⟨φ b, 0, none⟩) m c) (φ b :: Fp (2 * b + 2)) := by
  refine ⟨v1, Fp (2 * b + 2), ⟨hl1, .inr ⟨φ b, c, cur, by rw [hl], Nat.zero_le _, hg, by omega, hmx, hol, by rw [hv12, ← hl1]; exact List.take_left⟩⟩,
   (ay.chunk he (by rw [hG12]; exact o1)).mono (fun x o h => ⟨.inl h, rfl⟩) (fun x hx => ⟨rfl, fun o ho => by
    rcases ho with ho | ⟨rfl, _⟩
    ·exact ho
    ·exact absurd hx (k3 _)⟩), ?_, by simp [Value.ownBlock], ?_⟩
  ·intro g hg' o
   simp [Value.ownBlock] at hg'
   subst hg'
   constructor
   ·rintro (h | ⟨_, h⟩)
    ·exact absurd h (k2 o)
    ·exact h
   ·intro h; exact .inr ⟨rfl, h⟩
  ·intro g hg' cur' t' o' hc' x hx
   simp [Value.ownBlock] at hg'
   subst hg'
   rw [hg] at hc'
   simp only [Option.some.injEq, Obj.cells.injEq] at hc'
   rw [← hc'.1] at hx
   exact hone x hx
 exact ⟨_, _, c3, hsl, fun x hx => by simpa using hx, hndX, by simp [mv]⟩
end
end
end Go.Proofs.YtmekkgdboplbjaaGreatDoor.M
namespace Go.Proofs.YtmekkgdboplbjaaGreatDoor.M
open Go Go.RowKit
def PV.nv (u : Value) (p : PV) : PV where
 rel Fz w v := v = u ∧ p.rel Fz w v
 own Fz w v F := v = u ∧ p.own Fz w v F
 one h := p.one h.2
 toRel h := ⟨h.1, p.toRel h.2⟩
 relMono h k := ⟨h.1, p.relMono h.2 k⟩
 ownMono h k hh := ⟨h.1, p.ownMono h.2 k hh⟩
 lt h := p.lt h.2
def PV.nv_val {u : Value} {p : PV} : (PV.nv u p).To (PV.val u) := fun h => ⟨h.1, by have := p.one h.2; rwa [h.1] at this⟩
def PV.nv_to {u : Value} {p q : PV} (h : p.To q) : (PV.nv u p).To q := fun k => h k.2
def PV.bor_nv {u : Value} {p : PV} (h : p.Bor) : (PV.nv u p).Bor := fun k => ⟨k.1, h k.2⟩
def Nm (ps : List PV) (us : List Value) : Prop := ∀ {Fz : aj} {w : World} {vs : List Value}, aY ps Fz w vs → vs = us
def Nm.nil : Nm [] [] := fun h => h
def Nm.nv {u : Value} {p : PV} {ps : List PV} {us : List Value} (h : Nm ps us) : Nm (PV.nv u p :: ps) (u :: us) := fun hh => by
 obtain ⟨v, vs', rfl, h1, h2⟩ := hh
 rw [h1.1, h h2]
def Nm.val {u : Value} {ps : List PV} {us : List Value} (h : Nm ps us) : Nm (PV.val u :: ps) (u :: us) := fun hh => by
 obtain ⟨v, vs', rfl, h1, h2⟩ := hh
 rw [h1.1, h h2]
def iO : List Value → List PV → List PV
 | u :: us, p :: ps => PV.nv u p :: iO us ps
 | _, _ => []
def oV {Fz : aj} {w : World} : ∀ {us : List Value} {ps : List PV} {F : List Nat}, ay ps Fz w us F → ay (iO us ps) Fz w us F
 | us, [], F, h => by obtain ⟨rfl, rfl⟩ := h; exact ⟨rfl, rfl⟩
 | us, p :: ps, F, h => by obtain ⟨v, vs', F1, F2, rfl, rfl, h1, h2⟩ := h; exact ⟨v, vs', F1, F2, rfl, rfl, ⟨rfl, h1⟩, oV h2⟩
def ax (ps qs : List PV) : Prop := ∀ {Fz : aj} {w : World} {vs : List Value} {F : List Nat}, ay ps Fz w vs F → ay qs Fz w vs F
def ax.nil : ax [] [] := fun h => h
def ax.nv {u : Value} {p : PV} {ps qs : List PV} (h : ax ps qs) : ax (PV.nv u p :: ps) (p :: qs) := fun hh => by
 obtain ⟨v, vs', F1, F2, rfl, rfl, h1, h2⟩ := hh
 exact ⟨v, vs', F1, F2, rfl, rfl, h1.2, h h2⟩
def ax.same {p : PV} {ps qs : List PV} (h : ax ps qs) : ax (p :: ps) (p :: qs) := fun hh => by
 obtain ⟨v, vs', F1, F2, rfl, rfl, h1, h2⟩ := hh
 exact ⟨v, vs', F1, F2, rfl, rfl, h1, h h2⟩
def PV.ToB (L : Nat → Prop) (p q : PV) : Prop := ∀ {Fz : aj} {w : World} {v : Value}, (∀ b o, Fz b o → L b) → p.rel Fz w v → q.rel Fz w v
def bR (L : Nat → Prop) : List PV → List PV → Prop
 | [], [] => True
 | p :: ps, q :: qs => p.ToB L q ∧ bR L ps qs
 | _, _ => False
def PV.tob_refl {L : Nat → Prop} {p : PV} : p.ToB L p := fun _ h => h
def bR.nil {L : Nat → Prop} : bR L [] [] := True.intro
def bR.cons {L : Nat → Prop} {p q : PV} {ps qs : List PV} (h : p.ToB L q) (k : bR L ps qs) : bR L (p :: ps) (q :: qs) := ⟨h, k⟩
def bR.len {L : Nat → Prop} : ∀ {ps qs : List PV}, bR L ps qs → ps.length = qs.length
 | [], [], _ => rfl
 | _ :: _, _ :: _, h => by simp [bR.len h.2]
def bR.rel {L : Nat → Prop} {Fz : aj} {w : World} (hz : ∀ b o, Fz b o → L b) : ∀ {ps qs : List PV} {vs : List Value}, bR L ps qs → aY ps Fz w vs → aY qs Fz w vs
 | [], [], _, _, h => h
 | p :: ps, q :: qs, _, k, h => by obtain ⟨v, vs', rfl, h1, h2⟩ := h; exact ⟨v, vs', rfl, k.1 hz h1, bR.rel hz k.2 h2⟩
def bR.at_ {L : Nat → Prop} : ∀ {ps qs : List PV} {j : Nat} {q : PV}, bR L ps qs → qs[j]? = some q → ∃ p, ps[j]? = some p ∧ p.ToB L q
 | [], [], _, _, _, h => by simp at h
 | p :: ps, q' :: qs, 0, q, k, h => by simp at h; subst h; exact ⟨p, rfl, k.1⟩
 | p :: ps, q' :: qs, j + 1, q, k, h => by simp at h; simpa using bR.at_ k.2 h
def PV.tob_map {α : Type} {L : Nat → Prop} {o : Fl} {xs : List α} {f g : α → List PV} (hne : ∀ x, 0 < (f x).length) (h : ∀ x, bR L (f x) (g x)) : (PV.sl o (xs.map f)).ToB L (PV.sl (.lo L) (xs.map g)) := by
 intro Fz w v hz hr
 obtain ⟨⟨a, c, e, u, rfl, h1, h2, h3, h4, h5⟩, _⟩ := hr
 rw [bc] at *
 refine ⟨⟨a, c, e, u, by rw [bc], by rw [bc]; exact h1, h2, ?_, ?_, ?_⟩, ?_⟩
 ·intro cs hcs
  obtain ⟨x, hx, rfl⟩ := List.mem_map.1 hcs
  rw [← (h x).len]; exact h3 _ (List.mem_map.2 ⟨x, hx, rfl⟩)
 ·rcases h4 with h4 | ⟨b, off, ha, h4⟩
  ·left
   simpa using h4
  ·exact .inr ⟨b, off, ha, fun i j hi hj => h4 i j (by simpa using hi) hj⟩
 ·intro i cs' j q hi hj
  rw [List.getElem?_map] at hi
  cases hx : xs[i]? with
  | none => rw [hx] at hi; simp at hi
  | some x =>
   rw [hx] at hi; simp at hi; subst hi
   obtain ⟨p, hp, hto⟩ := (h x).at_ hj
   exact hto hz (h5 i (f x) j p (by rw [List.getElem?_map, hx]; rfl) hp)
 ·show _ ∨ _
  rw [bc]
  cases xs with
  | nil => exact .inl rfl
  | cons x xs =>
   right
   intro g hg
   rcases h4 with h4 | ⟨b, off, rfl, h4⟩
   ·simp at h4
   ·simp [Value.ownBlock] at hg
    subst hg
    have he : 0 < e := by rw [← h3 (f x) (by simp)]; exact hne x
    exact hz _ _ (h4 0 0 (by simp) he).1
def ia (L : Nat → Prop) : List (Bool × List PV) → List (Bool × List PV) → Prop
 | [], [] => True
 | p :: ps, q :: qs => (p.1 = q.1 ∧ bR L p.2 q.2) ∧ ia L ps qs
 | _, _ => False
def ia.rel {L : Nat → Prop} {Fz : aj} {w : World} (hz : ∀ b o, Fz b o → L b) : ∀ {ps qs : List (Bool × List PV)} {vs : List Value}, ia L ps qs → cr ps Fz w vs → cr qs Fz w vs
 | [], [], _, _, h => h
 | p :: ps, q :: qs, _, k, h => by
  obtain ⟨v, vs', rfl, h1, h2⟩ := h
  exact ⟨v, vs', rfl, ⟨h1.1.trans k.1.1, k.1.2.rel hz h1.2⟩, ia.rel hz k.2 h2⟩
def ia.len {L : Nat → Prop} : ∀ {ps qs : List (Bool × List PV)}, ia L ps qs → ps.length = qs.length
 | [], [], _ => rfl
 | _ :: _, _ :: _, h => by simp [ia.len h.2]
def PV.Lcl (L : Nat → Prop) (p : PV) : Prop := ∀ {Fz Fz' : aj} {w w' : World} {v : Value} {F : List Nat}, p.own Fz w v F → (∀ b, L b ∨ b ∈ F → w'.heap[b]? = w.heap[b]? ∧ ∀ o, Fz' b o ↔ Fz b o) → p.own Fz' w' v F
def PV.LclR (L : Nat → Prop) (p : PV) : Prop := ∀ {Fz Fz' : aj} {w w' : World} {v : Value}, p.rel Fz w v → (∀ b, L b → w'.heap[b]? = w.heap[b]? ∧ ∀ o, Fz' b o ↔ Fz b o) → p.rel Fz' w' v
def aB (L : Nat → Prop) (ps : List PV) : Prop := ∀ p, p ∈ ps → p.Lcl L
def dO (L : Nat → Prop) (ps : List PV) : Prop := ∀ p, p ∈ ps → p.LclR L
def RV.Lcl (L : Nat → Prop) (r : RV) : Prop := ∀ {φ : Nat → Nat} {Fz Fz' : aj} {w w' : World} {v : Value} {F : List Nat}, r.holds φ Fz w v F → (∀ b, L b ∨ b ∈ F → w'.heap[b]? = w.heap[b]? ∧ ∀ o, Fz' b o ↔ Fz b o) → r.holds φ Fz' w' v F
def PV.lcl_val {L : Nat → Prop} {x : Value} : (PV.val x).Lcl L := fun h _ => h
def PV.lclr_val {L : Nat → Prop} {x : Value} : (PV.val x).LclR L := fun h _ => h
def PV.lcl_nv {L : Nat → Prop} {u : Value} {p : PV} (h : p.Lcl L) : (PV.nv u p).Lcl L := fun k hk => ⟨k.1, h k.2 hk⟩
def aB.nil {L : Nat → Prop} : aB L [] := fun p hp => by simp at hp
def aB.cons {L : Nat → Prop} {p : PV} {ps : List PV} (h : p.Lcl L) (k : aB L ps) : aB L (p :: ps) := fun q hq => by
 rcases List.mem_cons.1 hq with rfl | hq
 ·exact h
 ·exact k q hq
def aB.app {L : Nat → Prop} {ps qs : List PV} (h : aB L ps) (k : aB L qs) : aB L (ps ++ qs) := fun q hq => by
 rcases List.mem_append.1 hq with hq | hq
 ·exact h q hq
 ·exact k q hq
def aB.flat {L : Nat → Prop} {es : List (List PV)} (h : ∀ cs, cs ∈ es → aB L cs) : aB L es.flatten := fun q hq => by
 obtain ⟨cs, h1, h2⟩ := List.mem_flatten.1 hq
 exact h cs h1 q h2
def aB.map {L : Nat → Prop} {α : Type} {xs : List α} {f : α → List PV} (h : ∀ x, aB L (f x)) : ∀ cs, cs ∈ xs.map f → aB L cs := fun cs hcs => by
 obtain ⟨x, _, rfl⟩ := List.mem_map.1 hcs
 exact h x
def aB.vals {L : Nat → Prop} {xs : List Value} : aB L (xs.map PV.val) := fun p hp => by
 obtain ⟨x, _, rfl⟩ := List.mem_map.1 hp
 exact PV.lcl_val
def dO.nil {L : Nat → Prop} : dO L [] := fun p hp => by simp at hp
def dO.cons {L : Nat → Prop} {p : PV} {ps : List PV} (h : p.LclR L) (k : dO L ps) : dO L (p :: ps) := fun q hq => by
 rcases List.mem_cons.1 hq with rfl | hq
 ·exact h
 ·exact k q hq
def dO.map {L : Nat → Prop} {α : Type} {xs : List α} {f : α → List PV} (h : ∀ x, dO L (f x)) : ∀ cs, cs ∈ xs.map f → dO L cs := fun cs hcs => by
 obtain ⟨x, _, rfl⟩ := List.mem_map.1 hcs
 exact h x
def aB.own {L : Nat → Prop} {Fz Fz' : aj} {w w' : World} : ∀ {ps : List PV} {vs : List Value} {F : List Nat}, aB L ps → ay ps Fz w vs F → (∀ b, L b ∨ b ∈ F → w'.heap[b]? = w.heap[b]? ∧ ∀ o, Fz' b o ↔ Fz b o) → ay ps Fz' w' vs F
 | [], _, _, _, h, _ => h
 | p :: ps, vs, F, hl, h, hk => by
  obtain ⟨v, vs', F1, F2, rfl, rfl, h1, h2⟩ := h
  exact ⟨v, vs', F1, F2, rfl, rfl, hl p (by simp) h1 (fun b hb => hk b (by rcases hb with hb | hb <;> simp [hb])),
   aB.own (fun q hq => hl q (by simp [hq])) h2 fun b hb => hk b (by rcases hb with hb | hb <;> simp [hb])⟩
def oW {L : Nat → Prop} {e : Nat} {Fz Fz' : aj} {w w' : World} : ∀ {es : List (List PV)} {vs : List Value} {F : List Nat}, (∀ cs, cs ∈ es → aB L cs) → bj e es Fz w vs F → (∀ b, L b ∨ b ∈ F → w'.heap[b]? = w.heap[b]? ∧ ∀ o, Fz' b o ↔ Fz b o) → bj e es Fz' w' vs F
 | [], _, _, _, h, _ => h
 | cs :: es, vs, F, hl, h, hk => by
  obtain ⟨c, d, F1, F2, rfl, rfl, h0, h1, h2⟩ := h
  exact ⟨c, d, F1, F2, rfl, rfl, h0, (hl cs (by simp)).own h1 (fun b hb => hk b (by rcases hb with hb | hb <;> simp [hb])),
   oW (fun q hq => hl q (by simp [hq])) h2 fun b hb => hk b (by rcases hb with hb | hb <;> simp [hb])⟩
def PV.lcl_own {L : Nat → Prop} {t e : Nat} {es : List (List PV)} (h : ∀ cs, cs ∈ es → aB L cs) : (PV.sl (.own t e) es).Lcl L := by
 intro Fz Fz' w w' v F hh hk
 obtain ⟨css, F', ho, hl, hf, rfl, h1⟩ := hh
 refine ⟨css, F', ⟨ho.1, ?_⟩, oW h hl (fun b hb => hk b (by rcases hb with hb | hb <;> simp [hb])), ?_, rfl, ?_⟩
 ·rcases ho.2 with hn | ⟨g, cap, cur, rfl, hb, hg, rest⟩
  ·exact .inl hn
  ·exact .inr ⟨g, cap, cur, rfl, hb, (hk g (by simp [Value.ownBlock])).1.trans hg, rest⟩
 ·intro g hg o
  rw [(hk g (by simp [hg])).2 o]; exact hf g hg o
 ·intro g hg cur t' o hc
  rw [(hk g (by simp [hg])).1] at hc
  exact h1 g hg cur t' o hc
def PV.lclr_lo {L : Nat → Prop} {es : List (List PV)} (h : ∀ cs, cs ∈ es → dO L cs) : (PV.sl (.lo L) es).LclR L := by
 intro Fz Fz' w w' v hh hk
 obtain ⟨⟨a, c, e, u, rfl, h1, h2, h3, h4, h5⟩, hlo⟩ := hh
 refine ⟨⟨a, c, e, u, rfl, h1, h2, h3, ?_, fun i cs j p hi hj => h cs (List.mem_of_getElem? hi) p (List.mem_of_getElem? hj) (h5 i cs j p hi hj) hk⟩, hlo⟩
 rcases h4 with h4 | ⟨b, off, rfl, h4⟩
 ·exact .inl h4
 ·rcases hlo with hlo | hlo
  ·exact .inl (hJ hlo)
  ·refine .inr ⟨b, off, rfl, fun i j hi hj => ?_⟩
   have hbl := hk b (hlo b rfl)
   exact ⟨(hbl.2 _).2 (h4 i j hi hj).1, (World.cell?_of_block hbl.1).trans (h4 i j hi hj).2⟩
def PV.lcl_lo {L : Nat → Prop} {es : List (List PV)} (h : ∀ cs, cs ∈ es → dO L cs) : (PV.sl (.lo L) es).Lcl L := fun hh hk => ⟨PV.lclr_lo h hh.1 fun b hb => hk b (.inl hb), hh.2⟩
def RV.lcl_sv {L : Nat → Prop} {ag : Bool} {cs : List PV} (h : aB L cs) : (RV.sv ag cs).Lcl L := fun hh hk => ⟨hh.1, h.own hh.2 hk⟩
def RV.lcl_ptr {L : Nat → Prop} {d off : Nat} : (RV.ptr d off).Lcl L := fun hh _ => hh
def RV.lcl_hdr {L : Nat → Prop} {d m c : Nat} : (RV.hdr d m c).Lcl L := fun hh _ => hh
end Go.Proofs.YtmekkgdboplbjaaGreatDoor.M
namespace Go.Proofs.YtmekkgdboplbjaaGreatDoor.M
open Go Go.RowKit
section
section
variable {P : Program} {n : Nat} {h0 : Nat → Prop} {w0 : World} {Fz0 : aj} {σ : St} {Q : Exit → St → Prop} {c : Code}
def zD {o : Fl} {es : List (List PV)} {Fz : aj} {w : World} {v : Value} (h : (PV.sl o es).rel Fz w v) : es.length ≤ 9223372036854775807 := by
 obtain ⟨⟨a, c, e, u, _, h1, h2, _⟩, _⟩ := h
 unfold maxLen at h2
 omega
def zE {s j : Nat} {ag : Bool} {cs : List PV} {o : Fl} {es : List (List PV)} (hs : σ.s s = some (RV.sv ag cs)) (hj : cs[j]? = some (PV.sl o es)) (h : es.length ≤ 9223372036854775807 → SW P n h0 w0 Fz0 c σ Q) : SW P n h0 w0 Fz0 c σ Q := fun a w hc => by
 have hc' := hc
 obtain ⟨φ, Fz, Fp, k⟩ := hc'
 obtain ⟨v, _, hr⟩ := (k.slot s _ hs).2.rel.at_ hj
 exact h (zD hr) a w hc
end
end
end Go.Proofs.YtmekkgdboplbjaaGreatDoor.M
namespace Go.Proofs.YtmekkgdboplbjaaGreatDoor.M
open Go Go.RowKit
section
section
variable {P : Program} {n : Nat} {h0 : Nat → Prop} {w0 : World} {Fz0 : aj}
section
variable {σ : St} {a : Act} {w w' : World} {φ : Nat → Nat} {Fz Fz' : aj} {Fp : Nat → List Nat} {L : Nat → Prop}
def aE.uworld (h : aE h0 w0 Fz0 n σ a w φ Fz Fp) (hos : w'.os = w.os) (htape : w'.tape = w.tape) (hout : w'.output = w.output) (hsz : w.heap.size ≤ w'.heap.size)
  (hb : ∀ b, b < w.heap.size → b ∉ Fp 0 → w'.heap[b]? = w.heap[b]? ∧ ∀ o, Fz' b o ↔ Fz b o) (hL : ∀ b, L b → h0 b) (hls : ∀ i rv, σ.s i = some rv → rv.Lcl L) (hlb : ∀ d bx, σ.b d = some bx → aB L bx.2)
  (hl : ∀ b o, Fz' b o → b < w'.heap.size) {X : List Nat} (hX : ∀ b, b ∈ X → b ∈ Fp 0 ∨ (w.heap.size ≤ b ∧ b < w'.heap.size)) (hn : X.Nodup) :
  aE h0 w0 Fz0 n σ a w' φ Fz' (fun x => if x = 0 then X else Fp x) := by
 have key : ∀ r, r ≠ 0 → ∀ b, L b ∨ b ∈ Fp r → w'.heap[b]? = w.heap[b]? ∧ ∀ o, Fz' b o ↔ Fz b o := fun r hr b hbr => by
  rcases hbr with hbr | hbr
  ·exact hb b (h.hlt b (hL b hbr)) fun hm => (h.low 0 b hm).1 (hL b hbr)
  ·exact hb b (h.low r b hbr).2 (h.dis r 0 hr b hbr)
 have hmem : ∀ x b, b ∈ (if x = 0 then X else Fp x) → (x = 0 ∧ b ∈ X) ∨ (x ≠ 0 ∧ b ∈ Fp x) := by
  intro x b hb
  split at hb
  ·rename_i hx; exact .inl ⟨hx, hb⟩
  ·rename_i hx; exact .inr ⟨hx, hb⟩
 refine ⟨h.bel.trans ⟨hos, htape, hout, hsz, fun k hk' => (hb k (h.hlt k hk') fun hm => (h.low 0 k hm).1 hk').1⟩, h.dfr, h.siz, fun b hb' => Nat.lt_of_lt_of_le (h.hlt b hb') hsz, ?_, hl, ?_, ?_, ?_, h.inj, ?_, ?_, ?_⟩
 ·intro b o hbl
  rw [← h.fz0 b o hbl]
  exact (hb b (h.hlt b hbl) fun hm => (h.low 0 b hm).1 hbl).2 o
 ·intro i rv hi
  rw [if_neg (by omega)]
  exact hls i rv hi (h.slot i rv hi) (key _ (by omega))
 ·intro d cs hd
  obtain ⟨cur, h1, h2⟩ := h.box d cs hd
  obtain ⟨k1, k2, k3⟩ := h.bxb d cs hd
  have hlt : φ d < w.heap.size := (Array.getElem?_eq_some_iff.1 h1).1
  rw [if_neg (by omega)]
  exact ⟨cur, (hb _ hlt (k3 0)).1.trans h1, (hlb d cs hd).own h2 (key _ (by omega))⟩
 ·intro d cs hd
  obtain ⟨cur, h1, h2⟩ := h.box d cs hd
  obtain ⟨k1, k2, k3⟩ := h.bxb d cs hd
  have hlt : φ d < w.heap.size := (Array.getElem?_eq_some_iff.1 h1).1
  refine ⟨k1, fun o ho => k2 o (((hb _ hlt (k3 0)).2 o).1 ho), fun r hr => ?_⟩
  rcases hmem _ _ hr with ⟨rfl, hr⟩ | ⟨_, hr⟩
  ·rcases hX _ hr with hr | hr
   ·exact k3 0 hr
   ·omega
  ·exact k3 r hr
 ·intro r r' hne b hr hr'
  rcases hmem _ _ hr with ⟨rfl, hr⟩ | ⟨e1, hr⟩ <;> rcases hmem _ _ hr' with ⟨rfl, hr'⟩ | ⟨e2, hr'⟩
  ·exact hne rfl
  ·rcases hX _ hr with hr | hr
   ·exact h.dis 0 r' hne b hr hr'
   ·have := (h.low r' b hr').2; omega
  ·rcases hX _ hr' with hr' | hr'
   ·exact h.dis r 0 hne b hr hr'
   ·have := (h.low r b hr).2; omega
  ·exact h.dis r r' hne b hr hr'
 ·intro r
  split
  ·exact hn
  ·exact h.nod r
 ·intro r b hr
  rcases hmem _ _ hr with ⟨rfl, hr⟩ | ⟨e1, hr⟩
  ·rcases hX _ hr with hr | hr
   ·exact ⟨(h.low 0 b hr).1, by have := (h.low 0 b hr).2; omega⟩
   ·exact ⟨fun hh => by have := h.hlt b hh; omega, hr.2⟩
  ·exact ⟨(h.low r b hr).1, by have := (h.low r b hr).2; omega⟩
def aE.reslot (h : aE h0 w0 Fz0 n σ a w φ Fz Fp) {s : Nat} {rv : RV} (hv : rv.holds φ Fz w (a.tmps.getD s undef) (Fp (2 * s + 1))) : aE h0 w0 Fz0 n (σ.set s (some rv)) a w φ Fz Fp :=
 { h with
  slot := fun i r hi => by
   rw [St.set_s] at hi
   split at hi
   ·rename_i hs; subst hs; injection hi with hi; subst hi; exact hv
   ·exact h.slot i r hi
  box := fun d bx hd => h.box d bx hd
  bxb := fun d bx hd => h.bxb d bx hd
  inj := fun d d' cs cs' h1 h2 => h.inj d d' cs cs' h1 h2 }
def aE.rebox (h : aE h0 w0 Fz0 n σ a w φ Fz Fp) {d t : Nat} {cs cs' : List PV} (hd : σ.b d = some (t, cs)) (hv : ∀ (cur : Array Value), ay cs Fz w cur.toList (Fp (2 * d + 2)) → w.heap[φ d]? = some (.cells cur t (0, 0)) → ay cs' Fz w cur.toList (Fp (2 * d + 2))) :
  aE h0 w0 Fz0 n (σ.setB d (some (t, cs'))) a w φ Fz Fp :=
 { h with
  slot := fun i r hi => h.slot i r hi
  box := fun e bx he => by
   rw [St.setB_b] at he
   split at he
   ·rename_i hs; subst hs; injection he with he; subst he
    obtain ⟨cur, h1, h2⟩ := h.box _ _ hd
    exact ⟨cur, h1, hv cur h2 h1⟩
   ·exact h.box e bx he
  bxb := fun e bx he => by
   rw [St.setB_b] at he
   split at he
   ·rename_i hs; subst hs; exact h.bxb _ _ hd
   ·exact h.bxb e bx he
  inj := fun e e' cs1 cs2 h1 h2 => by
   rw [St.setB_b] at h1 h2
   have f : ∀ x y, (if x = d then some (t, cs') else σ.b x) = some y → ∃ z, σ.b x = some z := by
    intro x y hx
    split at hx
    ·rename_i hs; subst hs; exact ⟨_, hd⟩
    ·exact ⟨y, hx⟩
   obtain ⟨z1, f1⟩ := f _ _ h1
   obtain ⟨z2, f2⟩ := f _ _ h2
   exact h.inj e e' z1 z2 f1 f2 }
end
section
variable {σ : St} {Q : Exit → St → Prop} {c : Code}
def sK {Fz : aj} {w : World} {A ms B : List PV} {vs : List Value} {F : List Nat} (h : ay (A ++ (ms ++ B)) Fz w vs F) : ∃ vA vM vB FA FM FB, vs = vA ++ (vM ++ vB) ∧ F = FA ++ (FM ++ FB) ∧ ay A Fz w vA FA ∧ ay ms Fz w vM FM ∧ ay B Fz w vB FB := by
 obtain ⟨v1, v2, F1, F2, rfl, rfl, k1, k2⟩ := ay.split h
 obtain ⟨v3, v4, F3, F4, rfl, rfl, k3, k4⟩ := ay.split k2
 exact ⟨_, _, _, _, _, _, rfl, rfl, k1, k3, k4⟩
def zF {d t : Nat} {A ms B : List PV} (hd : σ.b d = some (t, A ++ (ms ++ B))) (h : ∀ us : List Value, us.length = ms.length → SW P n h0 w0 Fz0 c (σ.setB d (some (t, A ++ (iO us ms ++ B)))) Q) : SW P n h0 w0 Fz0 c σ Q := fun a w hc => by
 obtain ⟨φ, Fz, Fp, hc⟩ := hc
 obtain ⟨cur, h1, h2⟩ := hc.box d _ hd
 obtain ⟨vA, vM, vB, FA, FM, FB, e1, e2, kA, kM, kB⟩ := sK h2
 refine h vM kM.len a w ⟨φ, Fz, Fp, hc.rebox hd fun cur' h2' h1' => ?_⟩
 rw [h1] at h1'
 injection h1' with h1'
 injection h1' with h1'
 subst h1'
 rw [e1, e2]
 exact kA.append ((oV kM).append kB)
def eD {d t : Nat} {cs cs' : List PV} (hd : σ.b d = some (t, cs)) (he : cs = cs') (h : SW P n h0 w0 Fz0 c (σ.setB d (some (t, cs'))) Q) : SW P n h0 w0 Fz0 c σ Q := fun a w hc => by
 obtain ⟨φ, Fz, Fp, hc⟩ := hc
 exact h a w ⟨φ, Fz, Fp, hc.rebox hd fun _ k _ => he ▸ k⟩
def kR (L : Nat → Prop) (s : Nat) : List (Nat × RV) → Prop
 | [] => True
 | p :: l => (p.1 = s ∨ p.2.Lcl L) ∧ kR L s l
def jT (L : Nat → Prop) (d : Nat) : List (Nat × (Nat × List PV)) → Prop
 | [] => True
 | p :: l => (p.1 = d ∨ aB L p.2.2) ∧ jT L d l
def kR.mem {L : Nat → Prop} {s : Nat} : ∀ {l : List (Nat × RV)}, kR L s l → ∀ p, p ∈ l → p.1 = s ∨ p.2.Lcl L
 | [], _, p, hp => by simp at hp
 | q :: l, h, p, hp => by
  rcases List.mem_cons.1 hp with rfl | hp
  ·exact h.1
  ·exact kR.mem h.2 p hp
def jT.mem {L : Nat → Prop} {s : Nat} : ∀ {l : List (Nat × (Nat × List PV))}, jT L s l → ∀ p, p ∈ l → p.1 = s ∨ aB L p.2.2
 | [], _, p, hp => by simp at hp
 | q :: l, h, p, hp => by
  rcases List.mem_cons.1 hp with rfl | hp
  ·exact h.1
  ·exact jT.mem h.2 p hp
def RV.nm (u : Value) (r : RV) : RV where
 holds φ Fz w v F := v = u ∧ r.holds φ Fz w v F
 men := r.men
 mono h k hh hφ := ⟨h.1, r.mono h.2 k hh hφ⟩
 lt h := r.lt h.2
def RV.lcl_nm {L : Nat → Prop} {u : Value} {r : RV} (h : r.Lcl L) : (RV.nm u r).Lcl L := fun hh hk => ⟨hh.1, h hh.2 hk⟩
def Cp.nm {u : Value} {r r' : RV} (h : Cp r r') : Cp (RV.nm u r) r' := fun k => h k.2
def bj.flat {e : Nat} {Fz : aj} {w : World} : ∀ {es : List (List PV)} {vs : List Value} {F : List Nat}, bj e es Fz w vs F → ay es.flatten Fz w vs F
 | [], _, _, h => h
 | cs :: es, vs, F, h => by
  obtain ⟨c, d, F1, F2, rfl, rfl, h0, h1, h2⟩ := h
  exact h1.append (bj.flat h2)
def sN {l : List (Nat × RV)} {b : List (Nat × (Nat × List PV))} {L : Nat → Prop} {s D E e : Nat} {u : Value} {es : List (List PV)} (hs : lk l s = some (RV.sv false [PV.nv u (PV.sl (.own E e) es)])) (hne : es ≠ []) (hD : lk b D = none) (hfr : (l.all fun p => !p.2.men D) = true)
  (hL : ∀ x, L x → h0 x) (hls : kR L s l) (hlb : jT L D b) (hes : ∀ cs, cs ∈ es → aB L cs)
  (h : ∀ (cp : Nat) (jk : List Value), es.length ≤ 9223372036854775807 → es.length ≤ cp → es.length * e + jk.length = cp * e → SW P n h0 w0 Fz0 c (((St.of l b).set s (some (RV.nm u (RV.hdr D es.length cp)))).setB D (some (E, es.flatten ++ jk.map PV.val))) Q) : SW P n h0 w0 Fz0 c (St.of l b) Q := fun a w hc => by
 obtain ⟨φ, Fz, Fp, hc⟩ := hc
 have hv := (aL.atom (hc.slot s _ hs))
 obtain ⟨hu, css, F', ho, hl, hf, hF, h1⟩ := hv
 rcases ho.2 with ⟨_, hn⟩ | ⟨g, cap, cur, hval, _, hg, hnc, hcm, hcs, htake⟩
 ·exact absurd (hJ hn) hne
 have hob : (a.tmps.getD s undef).ownBlock = some g := by rw [hval]; rfl
 rw [hob] at hF hf
 have hF : Fp (2 * s + 1) = g :: F' := hF
 have hgl := hc.low (2 * s + 1) g (by rw [hF]; simp)
 have c1 := hc.pull s
 have e0 : mv Fp (2 * s + 1) 0 = g :: F' ++ Fp 0 := by simp [mv, hF]
 have hnd := c1.nod 0
 rw [e0] at hnd
 have c2 := c1.uworld (w' := w) (Fz' := fun x o => Fz x o ∧ x ≠ g) (L := L) rfl rfl rfl (Nat.le_refl _)
  (fun x hx h0' => ⟨rfl, fun o => ⟨fun k => k.1, fun k => ⟨k, fun e => h0' (by rw [e0, e]; simp)⟩⟩⟩) hL
  (fun i rv hi => by
   rw [St.set_s] at hi
   split at hi
   ·cases hi
   ·rename_i hne'
    rcases hls.mem _ (gD hi) with e | k
    ·exact absurd e hne'
    ·exact k)
  (fun d bx hd => by
   rcases hlb.mem _ (gD hd) with e | k
   ·have e : d = D := e
    rw [e] at hd
    have hd' : lk b D = some bx := hd
    rw [hD] at hd'; cases hd'
   ·exact k)
  (fun x o k => hc.fzl x o k.1) (X := mv Fp (2 * s + 1) 0) (fun x hx => .inl hx) (c1.nod 0)
 have hgF : g ∉ F' := by
  have := (List.nodup_append.1 hnd).1
  exact (List.nodup_cons.1 this).1
 have hl2 : bj e es (fun x o => Fz x o ∧ x ≠ g) w css F' := oW (L := L) hes hl (fun x hx => ⟨rfl, fun o => ⟨fun k => k.1, fun k => ⟨k, fun e => by
   rcases hx with hx | hx
   ·exact hgl.1 (e ▸ hL x hx)
   ·rw [e] at hx; exact hgF hx⟩⟩⟩)
 have hone := h1 g hob cur E (0, 0) hg
 have hcl : css.length = es.length * e := hl.len
 have hjl : es.length * e + (cur.toList.drop (es.length * e)).length = cap * e := by
  have hle : es.length * e ≤ cap * e := Nat.mul_le_mul_right _ hnc
  rw [fJ, show cur.toList.length = cap * e from by rw [← hcs]; simp]; omega
 have hcur : ay (es.flatten ++ (cur.toList.drop (es.length * e)).map PV.val) (fun x o => Fz x o ∧ x ≠ g) w cur.toList F' := by
  have k := (bj.flat hl2).append (oP (Fz := fun x o => Fz x o ∧ x ≠ g) (w := w) (vs := cur.toList.drop (es.length * e)) fun v hv => hone v (List.mem_of_mem_drop hv))
  rw [← htake, gz, fK] at k
  exact k
 have c3 := c2.pushB (d := D) (g := g) (t := E) (cs := es.flatten ++ (cur.toList.drop (es.length * e)).map PV.val) (F := F') (X := Fp 0) hD hg hcur (fun o k => k.2 rfl)
  (fun x hx => by
   simp only [if_true]
   rw [e0]
   rcases List.mem_append.1 hx with hx | hx
   ·simp [hx]
   ·rcases List.mem_cons.1 hx with rfl | hx
    ·simp
    ·simp [hx])
  (by
   simp only [List.cons_append, fI, bB] at hnd
   rw [bH] at hnd ⊢
   obtain ⟨k1, k2, k3, k4⟩ := hnd
   refine ⟨k2, List.nodup_cons.2 ⟨fun hh => k1 (.inr hh), k3⟩, fun x hx y hy e => ?_⟩
   rcases List.mem_cons.1 hy with rfl | hy
   ·exact k1 (.inl (e ▸ hx))
   ·exact k4 x hx y hy e)
  (.inr fun i rv hi => by
   rw [St.set_s] at hi
   split at hi
   ·cases hi
   ·have := List.all_eq_true.1 hfr _ (gD hi)
    simpa using this)
 have c4 := c3.reslot (s := s) (rv := RV.nm u (RV.hdr D es.length cap)) ⟨hu, ⟨by rw [hval]; simp, hnc, hcm⟩, by simp only [cn, mv]; rw [if_neg (by omega), if_neg (by omega), if_neg (by omega), if_neg (by omega), if_pos True.intro]⟩
 exact h cap _ (by unfold maxLen at hcm; omega) hnc hjl a w (aP.eqv ⟨_, _, _, c4⟩ (fun i => by
  simp only [St.set_s, St.setB_s]
  split <;> rfl) (fun d => rfl))
def sU {s D E e m cp : Nat} {u : Value} {es : List (List PV)} {jk : List Value} (hs : σ.s s = some (RV.nm u (RV.hdr D m cp))) (hb : σ.b D = some (E, es.flatten ++ jk.map PV.val)) (hl : es.length = m) (he : ∀ c, c ∈ es → c.length = e) (hj : m * e + jk.length = cp * e)
  (h : SW P n h0 w0 Fz0 c ((σ.setB D none).set s (some (RV.sv false [PV.nv u (PV.sl (.own E e) es)]))) Q) : SW P n h0 w0 Fz0 c σ Q := fun a w hc => by
 obtain ⟨φ, Fz, Fp, hc⟩ := hc
 obtain ⟨hu, ⟨ev, hmc, hmx⟩, _⟩ := hc.slot s _ hs
 obtain ⟨Fz', Fp', c3, hsl, hX, hnd, hs0⟩ := hc.freeze (s := s) hb hmc hmx hl he hj
 have hself : a.put (some s) (a.tmps.getD s undef) = a := by
  have : a.tmps.setIfInBounds s (a.tmps.getD s undef) = a.tmps := by
   apply Array.ext_getElem?
   intro i
   by_cases hi : s = i
   ·subst hi
    by_cases hlt : s < a.tmps.size
    ·rw [Array.getElem?_setIfInBounds_self_of_lt hlt, Array.getD_eq_getD_getElem?, Array.getElem?_eq_getElem hlt]; rfl
    ·rw [Array.setIfInBounds_eq_of_size_le (by omega)]
   ·rw [Array.getElem?_setIfInBounds_ne hi]
  show Act.mk (a.tmps.setIfInBounds s (a.tmps.getD s undef)) a.defers = a
  rw [this]
 have hsn : s < n := by
  rcases Nat.lt_or_ge s n with h | h
  ·exact h
  ·exfalso
   rw [Array.getD_eq_getD_getElem?, Array.getElem?_eq_none (by rw [hc.siz]; exact h)] at ev
   simp [undef] at ev
 have c4 := c3.push (i := s) (rv := RV.sv false [PV.nv u (PV.sl (.own E e) es)]) (v := a.tmps.getD s undef) (F := φ D :: Fp (2 * D + 2)) (X := []) hsn
  (aL.of_atom (p := PV.nv u (PV.sl (.own E e) es)) ⟨hu, by rw [ev]; exact hsl⟩) (fun x hx => hX x (by simpa using hx)) (by simpa using hnd)
 rw [hself] at c4
 exact h a w (aP.eqv ⟨_, _, _, c4⟩ (fun i => by simp only [St.set_s]; split <;> rfl) (fun d => rfl))
end
def ib (P : Program) (f : FuncId) (ag : Bool) (qs qs' : List PV) (args : List (Bool × List PV)) (r : Value) : Prop :=
 ∀ (w : World) (v : Value) (vs : List Value) (Fz : aj) (F : List Nat), (∀ b o, Fz b o → b < w.heap.size) → aL ag qs Fz w v F → F.Nodup → cr args Fz w vs →
  Calls P f (v :: vs).toArray w fun e w' => ∃ (Fz' : aj) (F' : List Nat), e = .returned r ∧ w'.os = w.os ∧ w'.tape = w.tape ∧ w'.output = w.output ∧ w.heap.size ≤ w'.heap.size ∧
   (∀ b, b < w.heap.size → b ∉ F → w'.heap[b]? = w.heap[b]? ∧ ∀ o, Fz' b o ↔ Fz b o) ∧ (∀ b o, Fz' b o → b < w'.heap.size) ∧ aL ag qs' Fz' w' v F' ∧ F'.Nodup ∧
   ∀ b, b ∈ F' → b ∈ F ∨ (w.heap.size ≤ b ∧ b < w'.heap.size)
def zG : List ResultVar → Value → St → Prop
 | [], r, _ => r = .tuple #[]
 | [.tmp t], r, τ => τ.s t = some (RV.sc r)
 | _, _, _ => False
def oX (rs : List ResultVar) (us : List Value) (ag : Bool) (qs' : List PV) (r : Value) (τ : St) : Prop :=
 zG rs r τ ∧ ∃ ms, (τ.s 0 = some (RV.sv ag ms) ∨ ∃ d T, τ.b d = some (T, ms)) ∧ Nm ms us ∧ ax ms qs'
def zH (rs : List ResultVar) (us : List Value) (ag : Bool) (qs' : List PV) (r : Value) : Exit → St → Prop
 | .normal, τ => oX rs us ag qs' r τ
 | .ret, τ => oX rs us ag qs' r τ
 | _, _ => False
def jU {f : FuncId} {fn : Func} {c : Code} {ag : Bool} {qs qs' : List PV} {args : List (Bool × List PV)} {r : Value} (hf : P.funcs[f]? = some fn) (hb : fn.body = some c) (hn : args.length + 1 ≤ fn.ntmps) (hbor : ∀ q, q ∈ args → ak q.2)
  (h : ∀ (us : List Value) (h0 : Nat → Prop) (w0 : World) (Fz0 : aj), us.length = qs.length → SW P fn.ntmps h0 w0 Fz0 c (St.of ((0, RV.sv ag (iO us qs)) :: dM 1 args) []) (zH fn.results.toList us ag qs' r)) : ib P f ag qs qs' args r := by
 intro w v vs Fz F hz hown hnd hrel
 have hvl := hrel.len
 refine calls_of_wp hf hb ?_
 have hFlt : ∀ b, b ∈ F → b < w.heap.size := fun b hb => hown.2.lt b hb
 have hc : aP (fun b => b < w.heap.size ∧ b ∉ F) w Fz fn.ntmps (St.of ((0, RV.sv ag (iO v.cells.toList qs)) :: dM 1 args) []) { tmps := (v :: vs).toArray ++ Array.replicate (fn.ntmps - (v :: vs).toArray.size) undef, defers := [] } w := by
  refine ⟨fun _ => 0, Fz, fun x => if x = 1 then F else [], ⟨gB.refl _ _, rfl, by simp; omega, fun _ hb => hb.1, fun _ _ _ => Iff.rfl, hz, fun i rv hi => ?_, fun d cs hd => (by cases hd), fun d cs hd => (by cases hd), fun d d' cs cs' hd => (by cases hd), ?_, ?_, ?_⟩⟩
  ·by_cases hi0 : i = 0
   ·subst hi0
    have hi' : RV.sv ag (iO v.cells.toList qs) = rv := by injection hi
    subst hi'
    have : ((v :: vs).toArray ++ Array.replicate (fn.ntmps - (v :: vs).toArray.size) undef).getD 0 undef = v := by
     rw [Array.getD_eq_getD_getElem?, Array.getElem?_append_left (by simp)]
     simp
    rw [this]
    exact ⟨hown.1, oV hown.2⟩
   ·have hi' : lk (dM 1 args) i = some rv := by
     have : (bif Nat.beq i 0 then some (RV.sv ag (iO v.cells.toList qs)) else lk (dM 1 args) i) = some rv := hi
     rw [beq_eq] at this
     simpa [hi0] using this
    obtain ⟨j, u, e1, e2, e3, e4⟩ := BorT.own (φ := fun _ => 0) hbor hrel hi'
    subst e1
    have : ((v :: vs).toArray ++ Array.replicate (fn.ntmps - (v :: vs).toArray.size) undef).getD (1 + j) undef = u := by
     rw [Array.getD_eq_getD_getElem?, Array.getElem?_append_left (by simp; omega)]
     rw [Nat.add_comm]
     simp [e3]
    rw [this, if_neg (by omega)]; exact e4
  ·intro x y hxy b hbx hby
   split at hbx
   ·split at hby
    ·omega
    ·simp at hby
   ·simp at hbx
  ·intro x
   split
   ·exact hnd
   ·exact List.nodup_nil
  ·intro x b hbx
   split at hbx
   ·exact ⟨fun k => k.2 hbx, hFlt b hbx⟩
   ·simp at hbx
 refine wp_mono (h v.cells.toList _ w Fz hown.2.len _ w hc) fun e a' w' ⟨τ, hq, hc'⟩ => ?_
 obtain ⟨φ, Fz', Fp, hc'⟩ := hc'
 have hres : oX fn.results.toList v.cells.toList ag qs' r τ → a'.defers = [] ∧ ∃ v2, (results fn a'.tmps).run P w' = .ok v2 w' ∧ ∃ (Fz' : aj) (F' : List Nat), Ending.returned v2 = .returned r ∧ w'.os = w.os ∧ w'.tape = w.tape ∧ w'.output = w.output ∧ w.heap.size ≤ w'.heap.size ∧
   (∀ b, b < w.heap.size → b ∉ F → w'.heap[b]? = w.heap[b]? ∧ ∀ o, Fz' b o ↔ Fz b o) ∧ (∀ b o, Fz' b o → b < w'.heap.size) ∧ aL ag qs' Fz' w' v F' ∧ F'.Nodup ∧
   ∀ b, b ∈ F' → b ∈ F ∨ (w.heap.size ≤ b ∧ b < w'.heap.size) := by
  rintro ⟨hout, ms, hms, hnm, hto⟩
  refine ⟨hc'.dfr, r, ?_, ?_⟩
  ·rw [sE, Array.mapM_eq_mapM_toList]
   revert hout
   generalize fn.results.toList = rs
   intro hout
   match rs, hout with
   | [], hout => simp only [show r = .tuple #[] from hout]; simp
   | [.tmp t], hout =>
    have := (aL.sc (hc'.slot t _ hout)).1
    simp [jS, this]
  ·have hlow : ∀ {x b}, b ∈ Fp x → b ∈ F ∨ (w.heap.size ≤ b ∧ b < w'.heap.size) := fun {x b} hx => by
    have := hc'.low x b hx
    by_cases hbF : b ∈ F
    ·exact .inl hbF
    ·exact .inr ⟨Nat.le_of_not_lt fun hlt => this.1 ⟨hlt, hbF⟩, this.2⟩
   have common : ∀ (x : Nat) (ws : List Value), ay ms Fz' w' ws (Fp x) → ∃ (Fz' : aj) (F' : List Nat), Ending.returned r = .returned r ∧ w'.os = w.os ∧ w'.tape = w.tape ∧ w'.output = w.output ∧ w.heap.size ≤ w'.heap.size ∧
     (∀ b, b < w.heap.size → b ∉ F → w'.heap[b]? = w.heap[b]? ∧ ∀ o, Fz' b o ↔ Fz b o) ∧ (∀ b o, Fz' b o → b < w'.heap.size) ∧ aL ag qs' Fz' w' v F' ∧ F'.Nodup ∧
     ∀ b, b ∈ F' → b ∈ F ∨ (w.heap.size ≤ b ∧ b < w'.heap.size) := fun x ws hw => by
    have e := hnm hw.rel
    subst e
    exact ⟨Fz', Fp x, rfl, hc'.bel.os, hc'.bel.tape, hc'.bel.output, hc'.bel.size, fun b h1 h2 => ⟨hc'.bel.block b ⟨h1, h2⟩, fun o => hc'.fz0 b o ⟨h1, h2⟩⟩, hc'.fzl, ⟨hown.1, hto hw⟩, hc'.nod x, fun b hb => hlow hb⟩
   rcases hms with hms | ⟨d, T, hms⟩
   ·exact common _ _ (hc'.slot 0 _ hms).2
   ·obtain ⟨cur, _, ho⟩ := hc'.box d _ hms
    exact common _ _ ho
 cases e with
 | normal => exact hres hq
 | ret => exact hres hq
 | _ => exact hq.elim
end
end
section
section
variable {P : Program} {n : Nat} {h0 : Nat → Prop} {w0 : World} {Fz0 : aj} {ops : Array Oper} {σ : St} {Q : Exit → St → Prop}
def ic (P : Program) (n : Nat) (h0 : Nat → Prop) (w0 : World) (Fz0 : aj) (ops : Array Oper) (l : List Oper) (σ : St) (Q : Exit → St → Prop) : Prop :=
 ∀ a w, aP h0 w0 Fz0 n σ a w → wpList P ops (fun e a' w' => ∃ τ, Q e τ ∧ aP h0 w0 Fz0 n τ a' w') l a w
def iP (h : Q .normal σ) : ic P n h0 w0 Fz0 ops [] σ Q := fun a w hc => ⟨σ, h, hc⟩
def bS {o : Oper} {l : List Oper} {L : av} (h1 : au L.rs σ.s) (h2 : au L.rb σ.b) (hl : aN P n ops o L) (h3 : ∀ d, L.al = some d → cJ d σ) (h5 : ic P n h0 w0 Fz0 ops l (σ.app L) Q) : ic P n h0 w0 Fz0 ops (o :: l) σ Q := fun a w hc => by
 have k := hl (K := wpList P ops (fun e a' w' => ∃ τ, Q e τ ∧ aP h0 w0 Fz0 n τ a' w') l) (Q := fun e a' w' => ∃ τ, Q e τ ∧ aP h0 w0 Fz0 n τ a' w') hc h1 h2 h3 (fun a' w' hc' => h5 a' w' hc')
 unfold wpList
 split
 ·rename_i hw; rw [if_pos hw] at k; exact .inl k
 ·rename_i hw; rw [if_neg hw] at k; exact k
def iQ {id : Nat} (h : ic P n h0 w0 Fz0 ops ops.toList σ Q) : SW P n h0 w0 Fz0 (.region id ops false) σ Q := fun a w hc => wp_region_list (h a w hc)
def iR {l : List (Nat × RV)} {b : List (Nat × (Nat × List PV))} {ol : List Oper} (hl : au l σ.s) (hb : au b σ.b) (h : ic P n h0 w0 Fz0 ops ol (St.of l b) Q) : ic P n h0 w0 Fz0 ops ol σ Q := fun a w hc => h a w (hc.of hl hb)
def be (us : List Value) (qs ms : List PV) : Prop := ∀ {Fz : aj} {w : World} {F : List Nat}, ay qs Fz w us F → ay ms Fz w us F
def be.nil : be [] [] [] := fun h => h
def be.nv {u : Value} {us : List Value} {p : PV} {qs ms : List PV} (h : be us qs ms) : be (u :: us) (p :: qs) (PV.nv u p :: ms) := fun hh => by
 obtain ⟨v, vs', F1, F2, e, rfl, h1, h2⟩ := hh
 injection e with e1 e2
 subst e1 e2
 exact ⟨_, _, F1, F2, rfl, rfl, ⟨rfl, h1⟩, h h2⟩
def mx (L : Nat → Prop) : List (Nat × (Nat × List PV)) → Prop
 | [] => True
 | p :: l => aB L p.2.2 ∧ mx L l
def mx.mem {L : Nat → Prop} : ∀ {l : List (Nat × (Nat × List PV))}, mx L l → ∀ p, p ∈ l → aB L p.2.2
 | [], _, p, hp => by simp at hp
 | q :: l, h, p, hp => by
  rcases List.mem_cons.1 hp with rfl | hp
  ·exact h.1
  ·exact mx.mem h.2 p hp
def fj (L : Nat → Prop) (l : List (Nat × RV)) : Prop := ∀ p, p ∈ l → p.2.Lcl L
def fj.nil {L : Nat → Prop} : fj L [] := fun p hp => by simp at hp
def fj.cons {L : Nat → Prop} {p : Nat × RV} {l : List (Nat × RV)} (h : p.2.Lcl L) (k : fj L l) : fj L (p :: l) := fun q hq => by
 rcases List.mem_cons.1 hq with rfl | hq
 ·exact h
 ·exact k q hq
def zI {f d t : Nat} {xs : List Operand} {args : Array Operand} {tys : Array TypeId} {ty : TypeId} {pos : String} {af : Array Edge} {a : Act} {w : World} (hf : aw P f = true) (he : args.toList = .tmp t :: xs) :
  (execOp a.eval ⟨some d, .call { callee := .value (.func f), args := args, argTypes := tys }, ty, pos, af, none⟩).run P w = .ok (.enter f (a.tmps.getD t undef :: xs.map a.eval).toArray) w := by
 unfold execOp
 have e : (#[] ++ args.map a.eval ++ #[] : Array Value) = (a.tmps.getD t undef :: xs.map a.eval).toArray := by
  apply Array.ext'
  simp only [Array.toList_append, Array.toList_map, he, List.map_cons, fK, List.nil_append]
  rfl
 simp only [resolve, Act.eval, Deferred.ofValue, Sem.run_bind, Sem.run_pure, Result.andThen_ok, invoke]
 rw [oR hf, e]
def iS {f d t bx T : Nat} {L : Nat → Prop} {xs : List Operand} {args : Array Operand} {tys : Array TypeId} {ty : TypeId} {pos : String} {af : Array Edge} {ol : List Oper} {ag : Bool} {l : List (Nat × RV)} {b : List (Nat × (Nat × List PV))} {us : List Value} {qs qs' ps ms ms' A B : List PV} {qr as_ : List (Bool × List PV)} {r : Value}
  (hd : d < n) (hf : aw P f = true) (he : args.toList = .tmp t :: xs) (ht : lk l t = some (RV.sv ag ps)) (hps : Nm ps us) (hrd : au (eO xs qr) (lk l)) (hok : fN xs qr) (hto : eP qr as_)
  (hs : lk b bx = some (T, A ++ (ms ++ B))) (hms : Nm ms us) (h1 : ax ms qs) (hu : ib P f ag qs qs' as_ r) (h2 : be us qs' ms') (hL : ∀ x, L x → h0 x) (hls : fj L l) (hlb : jT L bx b) (hlA : aB L A) (hlB : aB L B) (hr1 : r.oneCell' = true)
  (h : ic P n h0 w0 Fz0 ops ol (((St.of l b).setB bx (some (T, A ++ (ms' ++ B)))).set d (some (RV.sc r))) Q) :
  ic P n h0 w0 Fz0 ops (⟨some d, .call { callee := .value (.func f), args := args, argTypes := tys }, ty, pos, af, none⟩ :: ol) (St.of l b) Q := fun a w hc => by
 obtain ⟨φ, Fz, Fp, hc⟩ := hc
 have hvt := (hc.slot t _ ht)
 obtain ⟨cur, hg, hob⟩ := hc.box bx _ hs
 obtain ⟨g1, g2, g3⟩ := hc.bxb bx _ hs
 have hlt : φ bx < w.heap.size := (Array.getElem?_eq_some_iff.1 hg).1
 obtain ⟨vA, vM, vB, FA, FM, FB, ev, eF, kA, kM, kB⟩ := sK hob
 have e1 : (a.tmps.getD t undef).cells.toList = us := hps hvt.2.rel
 have e2 : vM = us := hms kM.rel
 have hown : aL ag qs Fz w (a.tmps.getD t undef) FM := ⟨hvt.1, by rw [e1, ← e2]; exact h1 kM⟩
 have hrel := hto.rel (hc.relT (xs := xs) hrd hok)
 have hnod := hc.nod (2 * bx + 2)
 rw [eF] at hnod
 have hnFM : FM.Nodup := (List.nodup_append.1 (List.nodup_append.1 hnod).2.1).1
 refine wpList_plain rfl fun K hK => ?_
 unfold Oper.wp
 rw [zI hf he, Oper.upon_enter]
 refine (hu w _ _ Fz _ hc.fzl hown hnFM hrel).mono ?_
 rintro e w' ⟨Fz', F', rfl, k1, k2, k3, k4, k5, k6, k7, k8, k9⟩
 have c1 := hc.pullB hs
 have e0 : mv Fp (2 * bx + 2) 0 = FA ++ (FM ++ FB) ++ Fp 0 := by simp [mv, eF]
 have hnd := c1.nod 0
 simp only [if_true] at hnd
 rw [e0] at hnd
 have hlow : ∀ x, x ∈ φ bx :: (FA ++ (FM ++ FB) ++ Fp 0) → x < w.heap.size := fun x hx => by
  have := (c1.low 0 x (by simp only [if_true]; rw [e0]; exact hx)).2
  exact this
 have hX : ∀ x, x ∈ φ bx :: (FA ++ (F' ++ FB) ++ Fp 0) → x ∈ φ bx :: (FA ++ (FM ++ FB) ++ Fp 0) ∨ (w.heap.size ≤ x ∧ x < w'.heap.size) := by
  intro x hx
  simp only [hI, bB] at hx ⊢
  rcases hx with hx | ((hx | hx | hx) | hx)
  ·exact .inl (.inl hx)
  ·exact .inl (.inr (.inl (.inl hx)))
  ·rcases k9 x hx with hx | hx
   ·exact .inl (.inr (.inl (.inr (.inl hx))))
   ·exact .inr hx
  ·exact .inl (.inr (.inl (.inr (.inr hx))))
  ·exact .inl (.inr (.inr hx))
 have hnew : ∀ x, x ∈ F' → x ∉ FM → w.heap.size ≤ x := fun x hx hn => by
  rcases k9 x hx with h | h
  ·exact absurd h hn
  ·exact h.1
 have hndX : (φ bx :: (FA ++ (F' ++ FB) ++ Fp 0)).Nodup := by
  have hd' := hnd
  simp only [fI, bH, bB] at hd' ⊢
  obtain ⟨m0, ⟨m1, ⟨m2, m3, m23⟩, m123⟩, m4, m1234⟩ := hd'
  have hF' : ∀ x, x ∈ F' → x ∈ FM ∨ w.heap.size ≤ x := fun x hx => by
   rcases k9 x hx with h | h
   ·exact .inl h
   ·exact .inr h.1
  have lA : ∀ x, x ∈ FA → x < w.heap.size := fun x hx => hlow x (by simp [hx])
  have lB : ∀ x, x ∈ FB → x < w.heap.size := fun x hx => hlow x (by simp [hx])
  have l0 : ∀ x, x ∈ Fp 0 → x < w.heap.size := fun x hx => hlow x (by simp [hx])
  refine ⟨?_, ⟨m1, ⟨k8, m3, ?_⟩, ?_⟩, m4, ?_⟩
  ·rintro ((hx | hx | hx) | hx)
   ·exact m0 (.inl (.inl hx))
   ·rcases hF' _ hx with hx | hx
    ·exact m0 (.inl (.inr (.inl hx)))
    ·omega
   ·exact m0 (.inl (.inr (.inr hx)))
   ·exact m0 (.inr hx)
  ·intro x hx y hy e
   rcases hF' _ hx with hx | hx
   ·exact m23 x hx y hy e
   ·have := lB y hy; omega
  ·intro x hx y hy e
   rcases hy with hy | hy
   ·rcases hF' _ hy with hy | hy
    ·exact m123 x hx y (.inl hy) e
    ·have := lA x hx; omega
   ·exact m123 x hx y (.inr hy) e
  ·intro x hx y hy e
   rcases hx with hx | hx | hx
   ·exact m1234 x (.inl hx) y hy e
   ·rcases hF' _ hx with hx | hx
    ·exact m1234 x (.inr (.inl hx)) y hy e
    ·have := l0 y hy; omega
   ·exact m1234 x (.inr (.inr hx)) y hy e
 have hnotFM : ∀ x, x ∈ φ bx :: (FA ++ FB) → x ∉ FM := by
  intro x hx hm
  simp only [fI, bH, bB] at hnd
  obtain ⟨m0, ⟨m1, ⟨m2, m3, m23⟩, m123⟩, m4, m1234⟩ := hnd
  rcases List.mem_cons.1 hx with rfl | hx
  ·exact m0 (.inl (.inr (.inl hm)))
  ·rcases List.mem_append.1 hx with hx | hx
   ·exact m123 x hx x (.inl hm) rfl
   ·exact m23 x hm x hx rfl
 have c2 := c1.uworld (w' := w') (Fz' := Fz') (L := L) k1 k2 k3 k4 (fun x hx hx0 => k5 x hx fun hh => hx0 (by simp only [if_true]; rw [e0]; simp [hh])) hL
  (fun i rv hi => hls _ (gD hi))
  (fun e bxx hd => by
   rw [St.setB_b] at hd
   split at hd
   ·cases hd
   ·rename_i hne'
    rcases hlb.mem _ (gD hd) with e | k
    ·exact absurd e hne'
    ·exact k) k6 (X := φ bx :: (FA ++ (F' ++ FB) ++ Fp 0)) (fun x hx => by
   simp only [if_true]; rw [e0]
   exact hX x hx) hndX
 have hsame : ∀ x, x ∈ φ bx :: (FA ++ FB) → w'.heap[x]? = w.heap[x]? ∧ ∀ o, Fz' x o ↔ Fz x o := fun x hx => k5 x (hlow x (by
   rcases List.mem_cons.1 hx with rfl | hx
   ·simp
   ·rcases List.mem_append.1 hx with hx | hx <;> simp [hx])) (hnotFM x hx)
 have hlk : ∀ x, L x → w'.heap[x]? = w.heap[x]? ∧ ∀ o, Fz' x o ↔ Fz x o := fun x hx => k5 x (hc.hlt x (hL x hx)) fun hh => (hc.low (2 * bx + 2) x (by rw [eF]; simp [hh])).1 (hL x hx)
 have hg' : w'.heap[φ bx]? = some (.cells cur T (0, 0)) := (hsame _ (by simp)).1.trans hg
 have ho' : ay (A ++ (ms' ++ B)) Fz' w' cur.toList (FA ++ (F' ++ FB)) := by
  rw [ev]
  refine (hlA.own kA fun x hx => ?_).append (ay.append (by rw [e2]; exact h2 (by rw [← e1]; exact k7.2)) (hlB.own kB fun x hx => ?_))
  ·rcases hx with hx | hx
   ·exact hlk x hx
   ·exact hsame x (by simp [hx])
  ·rcases hx with hx | hx
   ·exact hlk x hx
   ·exact hsame x (by simp [hx])
 have c3 := c2.pushB (d := bx) (g := φ bx) (t := T) (cs := A ++ (ms' ++ B)) (F := FA ++ (F' ++ FB)) (X := Fp 0) (by rw [St.setB_b, if_pos rfl]) hg' ho' (fun o ho => g2 o (((hsame _ (by simp)).2 o).1 ho))
  (fun x hx => by
   simp only [if_true]
   rcases List.mem_append.1 hx with hx | hx
   ·simp only [hI, bB] at hx ⊢; exact .inr (.inl hx)
   ·rcases List.mem_cons.1 hx with rfl | hx
    ·simp
    ·simp [hx])
  (by
   simp only [fI, bB] at hndX
   rw [bH] at hndX ⊢
   obtain ⟨m0, m1, m2, m3⟩ := hndX
   refine ⟨m1, List.nodup_cons.2 ⟨fun hh => m0 (.inr hh), m2⟩, fun x hx y hy e => ?_⟩
   rcases List.mem_cons.1 hy with rfl | hy
   ·refine m0 (.inl ?_)
    rw [e] at hx
    simpa using hx
   ·exact m3 x hx y hy e)
  (.inl rfl)
 have c4 := c3.put0 (d := d) (r := RV.sc r) (v := r) hd (aL.of_sc hr1)
 exact hK _ _ (h _ _ (aP.eqv c4 (fun i => rfl) (fun e => by
  simp only [St.set_b, St.setB_b]
  split <;> rfl)))
end
end
end Go.Proofs.YtmekkgdboplbjaaGreatDoor.M
namespace Go.Proofs.YtmekkgdboplbjaaGreatDoor.M
open Go Go.RowKit
section
section
variable {P : Program} {n : Nat}
variable {T T2 : TypeId} {x y : Operand} {d : Nat} {ty : TypeId} {pos : String} {af : Array Edge} {g : Option (Nat × Bool)} {i j : Bool} (hd : d < n) (hT : P.underlying T = some .bool) (hx : aF x (RV.bool i)) (hy : aF y (RV.bool j))
include hd hT hx hy
def sV : Loc P n ⟨some d, .binOp .neq T x y T2, ty, pos, af, g⟩ ⟨az x (RV.bool i) ++ az y (RV.bool j), [], [(d, some (RV.bool (!(i == j))))], [], none⟩ :=
 cS hd hx hy rfl fun w => by simp [eqGuard, run_neq_bool w T i j hT]
end
section
variable {P : Program} {n : Nat}
end
end
end Go.Proofs.YtmekkgdboplbjaaGreatDoor.M
namespace Go.Proofs.YtmekkgdboplbjaaGreatDoor.M
open Go Go.RowKit
section
section
variable {P : Program} {n : Nat} {h0 : Nat → Prop} {w0 : World} {Fz0 : aj} {σ : St} {Q : Exit → St → Prop} {c : Code}
def zJ {α : Type} {A m B : List α} {o : Nat} (ho : o ≤ m.length) : (A ++ (m ++ B)).take (A.length + o) = A ++ m.take o := by
 rw [List.take_append, mh (by omega), show A.length + o - A.length = o by omega, List.take_append_of_le_length ho]
def zK {α : Type} {A m B : List α} {o : Nat} (ho : o ≤ m.length) : (A ++ (m ++ B)).drop (A.length + o) = m.drop o ++ B := by
 rw [List.drop_append, List.drop_of_length_le (by omega), show A.length + o - A.length = o by omega, List.drop_append_of_le_length ho, List.nil_append]
def my {T p b off t o : Nat} {x : Operand} {ty : TypeId} {pos : String} {af : Array Edge} {g : Option (Nat × Bool)} {ag : Bool} {k : Nat} {A m B vs : List PV} (hoff : off = A.length + o) (hT : cB P T = some (ag, k)) (hx : aF x (RV.sv ag vs)) (hv : vs.length = k) (hk : o + k ≤ m.length) :
  Loc P n ⟨none, .store T (.tmp p) x, ty, pos, af, g⟩ ⟨(p, RV.ptr b off) :: az x (RV.sv ag vs), [(b, (t, A ++ (m ++ B)))], jO x, [(b, some (t, A ++ ((m.take o ++ (vs ++ m.drop (o + k))) ++ B)))], none⟩ := by
 have h : Loc P n ⟨none, .store T (.tmp p) x, ty, pos, af, g⟩ ⟨(p, RV.ptr b off) :: az x (RV.sv ag vs), [(b, (t, A ++ (m ++ B)))], jO x, [(b, some (t, (A ++ (m ++ B)).take off ++ (vs ++ (A ++ (m ++ B)).drop (off + k))))], none⟩ :=
  bv hT hx hv (by rw [hoff]; simp only [aX]; omega)
 have e : (A ++ (m ++ B)).take off ++ (vs ++ (A ++ (m ++ B)).drop (off + k)) = A ++ ((m.take o ++ (vs ++ m.drop (o + k))) ++ B) := by
  rw [hoff, zJ (by omega), show A.length + o + k = A.length + (o + k) by omega, zK hk]
  simp only [de]
 rw [e] at h
 exact @h
end
def am {α : Type} (f : α → Int → α × Int) : List α → Int → List α × Int
 | [], k => ([], k)
 | x :: xs, k => ((f x k).1 :: (am f xs (f x k).2).1, (am f xs (f x k).2).2)
section
variable {α : Type} {f : α → Int → α × Int}
def ie : ∀ (xs : List α) (k : Int), (am f xs k).1.length = xs.length
 | [], _ => rfl
 | x :: xs, k => by simp [am, ie xs]
def cv (h : ∀ x k, k ≤ (f x k).2) : ∀ (xs : List α) (k : Int), k ≤ (am f xs k).2
 | [], k => Int.le_refl k
 | x :: xs, k => Int.le_trans (h x k) (cv h xs _)
def mz : ∀ (xs ys : List α) (k : Int), am f (xs ++ ys) k = ((am f xs k).1 ++ (am f ys (am f xs k).2).1, (am f ys (am f xs k).2).2)
 | [], ys, k => rfl
 | x :: xs, ys, k => by
  show am f (x :: (xs ++ ys)) k = _
  simp only [am, mz xs ys, List.cons_append]
def gG {xs : List α} {i : Nat} (hi : i < xs.length) (k : Int) : am f (xs.take (i + 1)) k = ((am f (xs.take i) k).1 ++ [(f xs[i] (am f (xs.take i) k).2).1], (f xs[i] (am f (xs.take i) k).2).2) := by
 rw [eN hi, mz]; rfl
def mA (h : ∀ x k, k ≤ (f x k).2) (xs : List α) (i : Nat) (k : Int) : (am f (xs.take i) k).2 ≤ (am f xs k).2 := by
 have e : am f xs k = am f (xs.take i ++ xs.drop i) k := by rw [gz]
 rw [e, mz]
 exact cv h _ _
def zL {xs : List α} {i : Nat} (hi : i < xs.length) (k : Int) (hi' : i < (am f xs k).1.length) : (am f xs k).1[i] = (f xs[i] (am f (xs.take i) k).2).1 := by
 have e : (am f xs k).1 = (am f (xs.take (i + 1)) k).1 ++ (am f (xs.drop (i + 1)) (am f (xs.take (i + 1)) k).2).1 := by
  have := mz (f := f) (xs.take (i + 1)) (xs.drop (i + 1)) k
  rw [gz] at this
  rw [this]
 have hl : (am f (xs.take i) k).1.length = i := by rw [ie, bQ]; omega
 have h : (am f xs k).1[i]? = some (f xs[i] (am f (xs.take i) k).2).1 := by
  rw [e, gG hi, List.getElem?_append_left (by simp [hl]), List.getElem?_append_right (by omega)]
  simp [hl]
 exact (List.getElem?_eq_some_iff.1 h).2
def sW {c : α → List PV} {xs : List α} {i : Nat} {k : Int} {cs : List PV} (hi : i < xs.length) (hc : c (f xs[i] (am f (xs.take i) k).2).1 = cs) : ((am f xs k).1.map c)[i]? = some cs := by
 have hi' : i < (am f xs k).1.length := by rw [ie]; exact hi
 rw [List.getElem?_map, List.getElem?_eq_getElem hi', zL hi, ← hc]; rfl
variable {c : α → List PV}
def sY {xs : List α} {k : Int} {i : Nat} {J : List PV} (hi : i < xs.length) : (((am f (xs.take i) k).1 ++ xs.drop i).map c).flatten ++ J = ((am f (xs.take i) k).1.map c).flatten ++ (c xs[i] ++ (((xs.drop (i + 1)).map c).flatten ++ J)) := by
 rw [List.drop_eq_getElem_cons hi]; simp only [dJ, List.map_cons, List.flatten_append, List.flatten_cons, de]
def sZ {xs : List α} {k : Int} {i : Nat} {J cs : List PV} (hi : i < xs.length) (hc : cs = c (f xs[i] (am f (xs.take i) k).2).1) : ((am f (xs.take i) k).1.map c).flatten ++ (cs ++ (((xs.drop (i + 1)).map c).flatten ++ J)) = (((am f (xs.take (i + 1)) k).1 ++ xs.drop (i + 1)).map c).flatten ++ J := by
 subst hc
 rw [gG hi]; simp only [dJ, List.map_cons, List.map_nil, List.flatten_append, List.flatten_cons, List.flatten_nil, de, fK, List.nil_append]
def ta {xs : List α} {k : Int} {i e : Nat} (hc : ∀ x, (c x).length = e) (hi : i ≤ xs.length) : ((am f (xs.take i) k).1.map c).flatten.length = i * e := by
 rw [mw (e := e) (fun cs hcs => by obtain ⟨x, _, rfl⟩ := List.mem_map.1 hcs; exact hc x), bc, ie, bQ, Nat.min_eq_left hi]
def tb {xs : List α} {k : Int} {J : List PV} : (xs.map c).flatten ++ J = (((am f (xs.take 0) k).1 ++ xs.drop 0).map c).flatten ++ J := by simp [am]
def tc {xs : List α} {k : Int} {i : Nat} {J : List PV} (hi : i = xs.length) : (((am f (xs.take i) k).1 ++ xs.drop i).map c).flatten ++ J = ((am f xs k).1.map c).flatten ++ J := by
 subst hi; simp
def oY {w : α → Nat} {s c C : Int} (h : ∀ x k, (f x k).2 ≤ k + s + c * (w x : Int)) (hs : s ≤ C) (hc : c ≤ C) : ∀ (xs : List α) (k : Int), (am f xs k).2 ≤ k + C * ((xs.length + (xs.map w).sum : Nat) : Int)
 | [], k => by simp [am]
 | x :: xs, k => by
  have h1 := h x k
  have h2 := oY h hs hc xs (f x k).2
  have h3 : c * (w x : Int) ≤ C * (w x : Int) := Int.mul_le_mul_of_nonneg_right hc (Int.natCast_nonneg _)
  have e : C * (((x :: xs).length + ((x :: xs).map w).sum : Nat) : Int) = C + C * (w x : Int) + C * ((xs.length + (xs.map w).sum : Nat) : Int) := by
   simp only [List.length_cons, List.map_cons, List.sum_cons, Int.natCast_add, Int.mul_add, Int.natCast_one, Int.mul_one]
   omega
  rw [e]
  show (am f xs (f x k).2).2 ≤ _
  omega
def gH {t : Nat} {cs ds : List PV} (h : cs = ds) : some (t, cs) = some (t, ds) := by rw [h]
def td {us : List Value} (h : us.length = 1) : ∃ u, us = [u] := List.length_eq_one_iff.1 h
end
end
section
def RV.gh (us : List Value) (cs : List PV) : RV where
 holds _ Fz w _ F := ay cs Fz w us F
 men _ := false
 mono h k hh _ := h.mono k hh
 lt h := h.lt
def RV.lcl_gh {L : Nat → Prop} {us : List Value} {cs : List PV} (h : aB L cs) : (RV.gh us cs).Lcl L := fun hh hk => h.own hh hk
section
variable {P : Program} {n : Nat} {h0 : Nat → Prop} {w0 : World} {Fz0 : aj} {σ : St} {Q : Exit → St → Prop} {c : Code}
end
section
variable {P : Program} {n : Nat}
def tf : Option Operand → RV → List (Nat × RV)
 | none, _ => []
 | some x, r => az x r
def tg : Option Operand → Prop → RV → Prop
 | none, p, _ => p
 | some x, _, r => aF x r
end
end
section
section
variable {P : Program} {n : Nat} {h0 : Nat → Prop} {w0 : World} {Fz0 : aj} {ops : Array Oper}
def e0 : av := ⟨[], [], [], [], none⟩
def zM (AI : List (Nat × av)) (σ τ : St) : Prop := ∀ x, (∀ q, q ∈ AI → dn q.2.ws x = false) → τ.s x = σ.s x
end
section
variable {P : Program} {n : Nat} {h0 : Nat → Prop} {w0 : World} {Fz0 : aj} {ops : Array Oper}
def jV (Fz : aj) (w : World) : List (List Value) → List (Bool × List PV) → Prop
 | [], [] => True
 | us :: uss, q :: l => aY q.2 Fz w us ∧ jV Fz w uss l
 | _, _ => False
def jV.cons {uss : List (List Value)} {q : Bool × List PV} {l : List (Bool × List PV)} (h : ∃ Fz w, jV Fz w uss (q :: l)) : ∃ us rest, uss = us :: rest ∧ us.length = q.2.length ∧ (∃ Fz w, aY q.2 Fz w us) ∧ ∃ Fz w, jV Fz w rest l := by
 obtain ⟨Fz, w, h⟩ := h
 cases uss with
 | nil => exact h.elim
 | cons us rest => exact ⟨us, rest, rfl, h.1.len, ⟨Fz, w, h.1⟩, ⟨Fz, w, h.2⟩⟩
def jV.nil {uss : List (List Value)} (h : ∃ Fz w, jV Fz w uss []) : uss = [] := by
 obtain ⟨Fz, w, h⟩ := h
 cases uss with
 | nil => rfl
 | cons _ _ => exact h.elim
def au.ext {AI : List (Nat × av)} {σ τ : St} (h : zM AI σ τ) : ∀ {l : List (Nat × RV)}, (AI.all fun q => !dp q.2.ws l) = true → au l σ.s → au l τ.s := by
 intro l hm hr
 refine au.of_mem fun p hp => ?_
 rw [h p.1 fun q hq => ?_]
 ·exact hr.mem p hp
 ·have := List.all_eq_true.1 hm q hq
  rw [Bool.not_eq_true'] at this
  cases hx : dn q.2.ws p.1
  ·rfl
  ·have h2 := mj this p.1 hx
   rw [rZ hp] at h2; cases h2
def gI {t d i : Nat} {ty : TypeId} {pos : String} {af : Array Edge} {g : Option (Nat × Bool)} {l : List (Bool × List PV)} {ag : Bool} {cs : List PV} (hd : d < n) (hi : l[i]? = some (ag, cs)) (hb : ak cs) :
  Loc P n ⟨some d, .extract (.tmp t) i, ty, pos, af, g⟩ ⟨[(t, RV.tup l)], [], [(d, some (RV.sv ag cs))], [], none⟩ := by
 intro h0 w0 Fz0 σ a w K Q hc hr _ _ h5
 obtain ⟨φ, Fz, Fp, hc⟩ := hc
 obtain ⟨vs, ev, hvs⟩ := hc.slot t _ hr.1
 obtain ⟨v, F1, F2, hv, h1, _⟩ := hvs.take hi (ao.refl cs) hb (hc.nod _)
 have hown : aL ag cs Fz w v [] := ⟨h1.1, hb.own h1.2.rel⟩
 refine bC (v := v) (w' := w) ?_ (h5 _ _ (hc.put0 hd hown))
 have ev' : a.eval (.tmp t) = .tuple vs := ev
 unfold execOp
 have hv' : vs[i]? = some v := by simpa using hv
 simp [ev', Instr.extract, hv']
end
end
section
def cr.mono {Fz Fz' : aj} {w w' : World} (k : cm Fz w Fz' w') : ∀ {l : List (Bool × List PV)} {vs : List Value}, cr l Fz w vs → cr l Fz' w' vs
 | [], _, h => h
 | p :: l, vs, h => by
  obtain ⟨v, vs', rfl, h1, h2⟩ := h
  exact ⟨v, vs', rfl, ⟨h1.1, h1.2.mono k⟩, h2.mono k⟩
def cr.app {Fz : aj} {w : World} : ∀ {l m : List (Bool × List PV)} {vs us : List Value}, cr l Fz w vs → cr m Fz w us → cr (l ++ m) Fz w (vs ++ us)
 | [], m, vs, us, h, k => by rw [show vs = [] from h]; exact k
 | p :: l, m, vs, us, h, k => by
  obtain ⟨v, vs', rfl, h1, h2⟩ := h
  exact ⟨v, vs' ++ us, rfl, h1, h2.app k⟩
def PV.clo (P : Program) {γ : Type} (as_ : γ → List (Bool × List PV)) (r : γ → RV) : PV where
 rel Fz w v := ∃ (f : FuncId) (cap : Array Value) (caps : List (Bool × List PV)), v = .func (.func f) #[] cap ∧ aw P f = true ∧ cr caps Fz w cap.toList ∧ ∀ x, aD P f (as_ x ++ caps) (r x)
 own Fz w v F := (∃ (f : FuncId) (cap : Array Value) (caps : List (Bool × List PV)), v = .func (.func f) #[] cap ∧ aw P f = true ∧ cr caps Fz w cap.toList ∧ ∀ x, aD P f (as_ x ++ caps) (r x)) ∧ F = []
 one h := by obtain ⟨f, cap, caps, rfl, _⟩ := h; rfl
 toRel h := h.1
 relMono h k := by obtain ⟨f, cap, caps, h1, h2, h3, h4⟩ := h; exact ⟨f, cap, caps, h1, h2, h3.mono k, h4⟩
 ownMono h k _ := by obtain ⟨⟨f, cap, caps, h1, h2, h3, h4⟩, h5⟩ := h; exact ⟨⟨f, cap, caps, h1, h2, h3.mono k, h4⟩, h5⟩
 lt h := by rw [h.2]; simp
def PV.bor_clo {P : Program} {γ : Type} (as_ : γ → List (Bool × List PV)) (r : γ → RV) : (PV.clo P as_ r).Bor := fun h => ⟨h, rfl⟩
def PV.ep (cs : List PV) : PV where
 rel Fz w v := ∃ b off vs, v = .pointer (some ⟨b, off, none⟩) ∧ aY cs Fz w vs ∧ ∀ (j : Nat) u, vs[j]? = some u → Fz b (off + j) ∧ w.cell? ⟨b, off + j, none⟩ = some u
 own Fz w v F := (∃ b off vs, v = .pointer (some ⟨b, off, none⟩) ∧ aY cs Fz w vs ∧ ∀ (j : Nat) u, vs[j]? = some u → Fz b (off + j) ∧ w.cell? ⟨b, off + j, none⟩ = some u) ∧ F = []
 one h := by obtain ⟨b, off, vs, rfl, _⟩ := h; rfl
 toRel h := h.1
 relMono h k := by
  obtain ⟨b, off, vs, hv, hr, hc⟩ := h
  exact ⟨b, off, vs, hv, hr.mono k, fun j u hu => ⟨(k _ _ (hc j u hu).1).1, (k _ _ (hc j u hu).1).2.trans (hc j u hu).2⟩⟩
 ownMono h k _ := by
  obtain ⟨⟨b, off, vs, hv, hr, hc⟩, hF⟩ := h
  exact ⟨⟨b, off, vs, hv, hr.mono k, fun j u hu => ⟨(k _ _ (hc j u hu).1).1, (k _ _ (hc j u hu).1).2.trans (hc j u hu).2⟩⟩, hF⟩
 lt h := by rw [h.2]; simp
def PV.bor_ep (cs : List PV) : (PV.ep cs).Bor := fun h => ⟨h, rfl⟩
section
variable {P : Program} {n : Nat}
end
section
variable {P : Program} {n : Nat} {h0 : Nat → Prop} {w0 : World} {Fz0 : aj} {σ : St} {Q : Exit → St → Prop} {c : Code}
end
end
end Go.Proofs.YtmekkgdboplbjaaGreatDoor.M
namespace Go.Proofs.YtmekkgdboplbjaaGreatDoor.M
open Go Go.RowKit
section
section
variable {P : Program} {n : Nat}
def th {Fz : aj} {w : World} : ∀ {xs : List Value} {l : List Value} {F : List Nat}, ay (xs.map PV.val) Fz w l F → l = xs
 | [], l, F, h => h.1
 | x :: xs, l, F, h => by
  obtain ⟨v, vs', F1, F2, rfl, _, h1, h2⟩ := h
  rw [th h2, h1.1.1]
def ti {Fz : aj} {w : World} {xs : List Value} {v : Value} {F : List Nat} (h : aL true (xs.map PV.val) Fz w v F) : v = .agg xs.toArray := by
 obtain ⟨h1, h2⟩ := h
 have h3 := th h2
 cases v <;> simp [iJ] at h1
 rename_i c
 have : c.toList = xs := h3
 rw [← this]
def zN {op : BinOp} {T T2 : TypeId} {x y : Nat} {d : Nat} {ty : TypeId} {pos : String} {af : Array Edge} {g : Option (Nat × Bool)} (xs ys : List Value) {r : Bool} (hd : d < n)
  (h : ∀ w : World, Sem.run P (do eqGuard op T (.tmp x) (.tmp y) (.agg xs.toArray) (.agg ys.toArray); binOp op T (.agg xs.toArray) (.agg ys.toArray) : Sem Value) w = .ok (.bool r) w) :
  Loc P n ⟨some d, .binOp op T (.tmp x) (.tmp y) T2, ty, pos, af, g⟩ ⟨[(x, RV.sv true (xs.map PV.val)), (y, RV.sv true (ys.map PV.val))], [], [(d, some (RV.bool r))], [], none⟩ := by
 intro h0 w0 Fz0 σ a w K Q h1 h2 _ _ h5
 obtain ⟨φ, Fz, Fp, hc⟩ := h1
 have ex : a.eval (.tmp x) = .agg xs.toArray := ti (hc.slot x _ h2.1)
 have ey : a.eval (.tmp y) = .agg ys.toArray := ti (hc.slot y _ h2.2.1)
 refine bC (v := .bool r) (w' := w) ?_ (h5 _ _ (hc.put0 hd (aL.of_sc rfl)))
 unfold execOp
 simp only [ex, ey, Sem.run_bind, h, Result.andThen_ok, Sem.run_pure]
def zO {T : TypeId} {x y : Operand} {i j : Int} {w : World} (h : j ≠ 0) : Sem.run P (do eqGuard .rem T x y (vI i) (vI j); binOp .rem T (vI i) (vI j) : Sem Value) w = .ok (vI (i.tmod j)) w := by
 simp [eqGuard, binOp, Op.intDiv, h]
def tj {T T2 : TypeId} {x y : Operand} {d : Nat} {ty : TypeId} {pos : String} {af : Array Edge} {g : Option (Nat × Bool)} {i j : Int} (hd : d < n) (hx : aF x (RV.int i)) (hy : aF y (RV.int j)) (h : j ≠ 0) :
  Loc P n ⟨some d, .binOp .rem T x y T2, ty, pos, af, g⟩ ⟨az x (RV.int i) ++ az y (RV.int j), [], [(d, some (RV.int (i.tmod j)))], [], none⟩ := cS hd hx hy rfl fun _ => zO h
end
end
section
section
variable {P : Program} {n : Nat} {ops : Array Oper} {σ : St} {QS : St → Prop} {o : Oper} {l : List Oper}
def ai.s0f {g s d : Nat} {c : Bool} (hb : c = false) (h5 : ai P n ops QS l (σ.app ⟨[(s, RV.bool c)], [], [(d, some RV.und)], [], none⟩)) (hg : o.guard = some (g, true) := by exact rfl) (hs : (ops[g]?).bind (·.dst) = some s := by exact rfl) (hlt : s < n := by decide) (hd : o.dst = some d := by exact rfl)
  (h1 : σ.s s = some (RV.bool c) := by exact rfl) : ai P n ops QS (o :: l) σ :=
 ai.step (L := ⟨[(s, RV.bool c)], [], [(d, some RV.und)], [], none⟩) ⟨h1, True.intro⟩ True.intro (aN.no hg hs hlt hb hd) br h5
def ai.s0t {g s d : Nat} {c : Bool} (hb : c = true) (h5 : ai P n ops QS l (σ.app ⟨[(s, RV.bool c)], [], [(d, some RV.und)], [], none⟩)) (hg : o.guard = some (g, false) := by exact rfl) (hs : (ops[g]?).bind (·.dst) = some s := by exact rfl) (hlt : s < n := by decide) (hd : o.dst = some d := by exact rfl)
  (h1 : σ.s s = some (RV.bool c) := by exact rfl) : ai P n ops QS (o :: l) σ :=
 ai.step (L := ⟨[(s, RV.bool c)], [], [(d, some RV.und)], [], none⟩) ⟨h1, True.intro⟩ True.intro (aN.no hg hs hlt hb hd) br h5
def ai.su {g s d : Nat} {b : Bool} (h5 : ai P n ops QS l (σ.app ⟨[(s, RV.und)], [], [(d, some RV.und)], [], none⟩)) (hg : o.guard = some (g, b) := by exact rfl) (hs : (ops[g]?).bind (·.dst) = some s := by exact rfl) (hd : o.dst = some d := by exact rfl)
  (h1 : σ.s s = some RV.und := by exact rfl) : ai P n ops QS (o :: l) σ :=
 ai.step (L := ⟨[(s, RV.und)], [], [(d, some RV.und)], [], none⟩) ⟨h1, True.intro⟩ True.intro (aN.noU hg hs hd) br h5
end
def q1 {p : Prop} [Decidable p] : (decide p = true) = p := decide_eq_true_eq
def q2 {p : Prop} [Decidable p] : decide p = false ↔ ¬ p := decide_eq_false_iff_not
def q3 {α : Type} [BEq α] [LawfulBEq α] {a b : α} : (a != b) = true ↔ a ≠ b := bne_iff_ne
def q4 {α : Type} [BEq α] [LawfulBEq α] {a b : α} : (a == b) = true ↔ a = b := beq_iff_eq
def q5 {b : Bool} : ((!b) = true) = (b = false) := Bool.not_eq_true' b
def q6 {b : Bool} : ((!b) = false) = (b = true) := Bool.not_eq_false' b
def q7 {α : Type} {a b : α} : (a ≠ b) = ¬ a = b := ne_eq a b
def q8 {α : Type} [BEq α] [LawfulBEq α] {a b : α} : (a != b) = false ↔ a = b := bne_eq_false_iff_eq
def q9 {α : Type} [BEq α] [LawfulBEq α] {a b : α} : (a == b) = false ↔ a ≠ b := beq_eq_false_iff_ne
end
end Go.Proofs.YtmekkgdboplbjaaGreatDoor.M
namespace Go.Proofs.YtmekkgdboplbjaaGreatDoor.M
open Go Go.RowKit
section
section
variable {P : Program} {n : Nat} {h0 : Nat → Prop} {w0 : World} {Fz0 : aj}
def RV.gat (u : Value) (D m cp : Nat) : RV where
 holds φ _ _ _ F := (u = .slice (some ⟨φ D, 0, none⟩) m cp ∧ m ≤ cp ∧ cp ≤ maxLen) ∧ F = []
 men x := Nat.beq x D
 mono h _ _ hφ := ⟨⟨by rw [hφ D (by simp)]; exact h.1.1, h.1.2⟩, h.2⟩
 lt h := by rw [h.2]; simp
def RV.lcl_gat {L : Nat → Prop} {u : Value} {D m cp : Nat} : (RV.gat u D m cp).Lcl L := fun h _ => h
def PV.any : PV where
 rel _ _ v := v.oneCell' = true
 own _ _ v F := v.oneCell' = true ∧ F = []
 one h := h
 toRel h := h.1
 relMono h _ := h
 ownMono h _ _ := h
 lt h := by rw [h.2]; simp
def PV.bor_any : PV.any.Bor := fun h => ⟨h, rfl⟩
def PV.lcl_any {L : Nat → Prop} : PV.any.Lcl L := fun h _ => h
section
variable {σ : St} {a : Act} {w : World} {φ : Nat → Nat} {Fz : aj} {Fp : Nat → List Nat}
end
variable {Q : Exit → St → Prop} {c : Code}
def mB (L : Nat → Prop) : List (Nat × (Nat × List PV)) → Prop
 | [] => True
 | p :: l => aB L p.2.2 ∧ mB L l
def mB.mem {L : Nat → Prop} : ∀ {l : List (Nat × (Nat × List PV))}, mB L l → ∀ p, p ∈ l → aB L p.2.2
 | [], _, p, hp => by simp at hp
 | q :: l, h, p, hp => by
  rcases List.mem_cons.1 hp with rfl | hp
  ·exact h.1
  ·exact mB.mem h.2 p hp
def mC (L : Nat → Prop) : List (Nat × RV) → Prop
 | [] => True
 | p :: l => p.2.Lcl L ∧ mC L l
def mC.mem {L : Nat → Prop} : ∀ {l : List (Nat × RV)}, mC L l → ∀ p, p ∈ l → p.2.Lcl L
 | [], _, p, hp => by simp at hp
 | q :: l, h, p, hp => by
  rcases List.mem_cons.1 hp with rfl | hp
  ·exact h.1
  ·exact mC.mem h.2 p hp
section
variable {ops : Array Oper}
end
end
end
section
section
variable {P : Program} {n : Nat} {h0 : Nat → Prop} {w0 : World} {Fz0 : aj}
structure FS (F : List Nat) (g : Option Nat) (Fz : aj) (w : World) (Fz' : aj) (w' : World) : Prop where
 os : w'.os = w.os
 tape : w'.tape = w.tape
 output : w'.output = w.output
 size : w.heap.size ≤ w'.heap.size
 same : ∀ b, b < w.heap.size → some b ≠ g → b ∉ F → w'.heap[b]? = w.heap[b]? ∧ ∀ o, Fz' b o ↔ Fz b o
 fzl : ∀ b o, Fz' b o → b < w'.heap.size
def bL.parts {Fz : aj} {w : World} : ∀ {l : List (Bool × List PV)} {vs : List Value} {F : List Nat}, bL l Fz w vs F → ∃ ps : List (List Nat), ps.length = l.length ∧ F = ps.flatten ∧ ∀ (j : Nat) (q : Bool × List PV), l[j]? = some q → ∃ v, vs[j]? = some v ∧ aL q.1 q.2 Fz w v (ps.getD j [])
 | [], vs, F, h => ⟨[], rfl, h.2, fun j q hq => by simp at hq⟩
 | p :: l, vs, F, h => by
  obtain ⟨v, vs', F1, F2, rfl, rfl, h1, h2⟩ := h
  obtain ⟨ps, e1, e2, e3⟩ := bL.parts h2
  refine ⟨F1 :: ps, by simp [e1], by rw [e2]; rfl, fun j q hq => ?_⟩
  cases j with
  | zero => simp at hq; subst hq; exact ⟨v, rfl, h1⟩
  | succ j => simpa using e3 j q (by simpa using hq)
def RV.phi (D g : Nat) : RV where
 holds φ _ _ _ F := φ D = g ∧ F = []
 men x := Nat.beq x D
 mono h _ _ hφ := ⟨by rw [hφ D (by simp)]; exact h.1, h.2⟩
 lt h := by rw [h.2]; simp
def RV.lcl_phi {L : Nat → Prop} {D g : Nat} : (RV.phi D g).Lcl L := fun h _ => h
end
end
section
section
variable {P : Program} {n : Nat} {h0 : Nat → Prop} {w0 : World} {Fz0 : aj} {ops : Array Oper} {Q : Exit → St → Prop}
def zP {f d : Nat} {args : Array Operand} {tys : Array TypeId} {ty : TypeId} {pos : String} {af : Array Edge} {g : Option (Nat × Bool)} {a : Act} {w : World} (hf : aw P f = true) :
  (execOp a.eval ⟨some d, .call { callee := .value (.func f), args := args, argTypes := tys }, ty, pos, af, g⟩).run P w = .ok (.enter f (args.toList.map a.eval).toArray) w := by
 unfold execOp
 have e : (#[] ++ args.map a.eval ++ #[] : Array Value) = (args.toList.map a.eval).toArray := by apply Array.ext'; simp
 simp only [resolve, Act.eval, Deferred.ofValue, Sem.run_bind, Sem.run_pure, Result.andThen_ok, invoke]
 rw [oR hf, e]
def PV.OTo (p q : PV) : Prop := ∀ {Fz : aj} {w : World} {v : Value} {F : List Nat}, p.own Fz w v F → q.own Fz w v F
def OTo.refl {p : PV} : p.OTo p := fun h => h
def OTo.lo {L : Nat → Prop} {es : List (List PV)} : (PV.sl (.lo L) es).OTo (PV.sl .v es) := fun h => ⟨h.1.1, h.2⟩
def OTo.nv {u : Value} {p : PV} : (PV.nv u p).OTo p := fun h => h.2
def ax.cons {p q : PV} {ps qs : List PV} (h : p.OTo q) (k : ax ps qs) : ax (p :: ps) (q :: qs) := fun hh => by
 obtain ⟨v, vs', F1, F2, rfl, rfl, h1, h2⟩ := hh
 exact ⟨v, vs', F1, F2, rfl, rfl, h h1, k h2⟩
def mD : List (Bool × List PV) → List (Bool × List PV) → Prop
 | [], [] => True
 | p :: ps, q :: qs => (p.1 = q.1 ∧ ax p.2 q.2) ∧ mD ps qs
 | _, _ => False
def mD.own {Fz : aj} {w : World} : ∀ {ps qs : List (Bool × List PV)} {vs : List Value} {F : List Nat}, mD ps qs → bL ps Fz w vs F → bL qs Fz w vs F
 | [], [], _, _, _, h => h
 | p :: ps, q :: qs, _, _, k, h => by
  obtain ⟨v, vs', F1, F2, rfl, rfl, h1, h2⟩ := h
  exact ⟨v, vs', F1, F2, rfl, rfl, ⟨k.1.1 ▸ h1.1, k.1.2 h1.2⟩, mD.own k.2 h2⟩
def mE (L : Nat → Prop) (ts : List Nat) : List (Nat × RV) → Prop
 | [] => True
 | p :: l => (p.1 ∈ ts ∨ p.2.Lcl L) ∧ mE L ts l
def mE.mem {L : Nat → Prop} {ts : List Nat} : ∀ {l : List (Nat × RV)}, mE L ts l → ∀ p, p ∈ l → p.1 ∈ ts ∨ p.2.Lcl L
 | [], _, p, hp => by simp at hp
 | q :: l, h, p, hp => by
  rcases List.mem_cons.1 hp with rfl | hp
  ·exact h.1
  ·exact mE.mem h.2 p hp
end
end
section
section
variable {P : Program} {n : Nat} {h0 : Nat → Prop} {w0 : World} {Fz0 : aj} {ops : Array Oper} {Q : Exit → St → Prop}
def fk {α : Type} (f : α → List PV) (xs : List α) (jk : List Value) : List PV := (xs.map f).flatten ++ jk.map PV.val
end
end
section
section
variable {P : Program} {n : Nat} {h0 : Nat → Prop} {w0 : World} {Fz0 : aj} {ops : Array Oper} {σ σ0 : St} {QS : St → Prop} {Q : Exit → St → Prop} {o : Oper} {l : List Oper} {acc : List (Nat × av)} {c : Code}
def rA {L : av} (y : ai P n ops QS l (σ.app L)) (h1 : au L.rs σ.s := by repeat (first | exact True.intro | refine And.intro rfl ?_)) (h2 : au L.rb σ.b := by repeat (first | exact True.intro | refine And.intro rfl ?_)) (x : Loc P n o L) (hg : o.guard = none := by exact rfl) (ha : L.al = none := by exact rfl) : ai P n ops QS (o :: l) σ :=
 ai.step h1 h2 (aN.of hg x) (fun d hd => by rw [ha] at hd; cases hd) y
def rB {L : av} {g s : Nat} {b c : Bool} (hb : c = b) (y : ai P n ops QS l (σ.app ⟨(s, RV.bool c) :: L.rs, L.rb, L.ws, L.wb, L.al⟩)) (hg : o.guard = some (g, b) := by exact rfl) (hs : (ops[g]?).bind (·.dst) = some s := by exact rfl) (h1 : au ((s, RV.bool c) :: L.rs) σ.s := by repeat (first | exact True.intro | refine And.intro rfl ?_)) (h2 : au L.rb σ.b := by repeat (first | exact True.intro | refine And.intro rfl ?_)) (x : Loc P n o L) (hlt : s < n := by decide) (ha : L.al = none := by exact rfl) : ai P n ops QS (o :: l) σ :=
 ai.step (L := ⟨(s, RV.bool c) :: L.rs, L.rb, L.ws, L.wb, L.al⟩) h1 h2 (aN.yes hg hs hlt hb x) (fun d hd => by have hd : L.al = some d := hd; rw [ha] at hd; cases hd) y
def dA {L : av} (m : Nat) (y : bz P n ops σ0 (fun _ _ => True) QS l (acc ++ [(m, L)]) (σ.app L)) (h1 : au L.rs σ.s := by repeat (first | exact True.intro | refine And.intro rfl ?_)) (h2 : au L.rb σ.b := by repeat (first | exact True.intro | refine And.intro rfl ?_)) (x : Loc P n o L) (hg : o.guard = none := by exact rfl) (ha : L.al = none := by exact rfl) (h4 : hO m o L acc = true := by kernel_rfl) : bz P n ops σ0 (fun _ _ => True) QS (o :: l) acc σ :=
 bz.step m h1 h2 (aN.of hg x) (fun d hd => by rw [ha] at hd; cases hd) h4 y
def dB {L : av} {g s : Nat} {b c : Bool} (m : Nat) (hb : c = b) (y : bz P n ops σ0 (fun _ _ => True) QS l (acc ++ [(m, ⟨(s, RV.bool c) :: L.rs, L.rb, L.ws, L.wb, L.al⟩)]) (σ.app ⟨(s, RV.bool c) :: L.rs, L.rb, L.ws, L.wb, L.al⟩)) (hg : o.guard = some (g, b) := by exact rfl) (hs : (ops[g]?).bind (·.dst) = some s := by exact rfl) (h1 : au ((s, RV.bool c) :: L.rs) σ.s := by repeat (first | exact True.intro | refine And.intro rfl ?_)) (h2 : au L.rb σ.b := by repeat (first | exact True.intro | refine And.intro rfl ?_)) (x : Loc P n o L) (hlt : s < n := by decide) (ha : L.al = none := by exact rfl)
  (h4 : hO m o ⟨(s, RV.bool c) :: L.rs, L.rb, L.ws, L.wb, L.al⟩ acc = true := by kernel_rfl) : bz P n ops σ0 (fun _ _ => True) QS (o :: l) acc σ :=
 bz.step (L := ⟨(s, RV.bool c) :: L.rs, L.rb, L.ws, L.wb, L.al⟩) m h1 h2 (aN.yes hg hs hlt hb x) (fun d hd => by have hd : L.al = some d := hd; rw [ha] at hd; cases hd) h4 y
def dF {g s d : Nat} {c : Bool} (m : Nat) (hb : c = false) (y : bz P n ops σ0 (fun _ _ => True) QS l (acc ++ [(m, ⟨[(s, RV.bool c)], [], [(d, some RV.und)], [], none⟩)]) (σ.app ⟨[(s, RV.bool c)], [], [(d, some RV.und)], [], none⟩)) (hg : o.guard = some (g, true) := by exact rfl) (hs : (ops[g]?).bind (·.dst) = some s := by exact rfl) (hlt : s < n := by decide) (hd : o.dst = some d := by exact rfl)
  (h1 : σ.s s = some (RV.bool c) := by exact rfl) (h4 : hO m o ⟨[(s, RV.bool c)], [], [(d, some RV.und)], [], none⟩ acc = true := by kernel_rfl) : bz P n ops σ0 (fun _ _ => True) QS (o :: l) acc σ :=
 bz.step (L := ⟨[(s, RV.bool c)], [], [(d, some RV.und)], [], none⟩) m ⟨h1, True.intro⟩ True.intro (aN.no hg hs hlt hb hd) br h4 y
def dT {g s d : Nat} {c : Bool} (m : Nat) (hb : c = true) (y : bz P n ops σ0 (fun _ _ => True) QS l (acc ++ [(m, ⟨[(s, RV.bool c)], [], [(d, some RV.und)], [], none⟩)]) (σ.app ⟨[(s, RV.bool c)], [], [(d, some RV.und)], [], none⟩)) (hg : o.guard = some (g, false) := by exact rfl) (hs : (ops[g]?).bind (·.dst) = some s := by exact rfl) (hlt : s < n := by decide) (hd : o.dst = some d := by exact rfl)
  (h1 : σ.s s = some (RV.bool c) := by exact rfl) (h4 : hO m o ⟨[(s, RV.bool c)], [], [(d, some RV.und)], [], none⟩ acc = true := by kernel_rfl) : bz P n ops σ0 (fun _ _ => True) QS (o :: l) acc σ :=
 bz.step (L := ⟨[(s, RV.bool c)], [], [(d, some RV.und)], [], none⟩) m ⟨h1, True.intro⟩ True.intro (aN.no hg hs hlt hb hd) br h4 y
def dU {g s d : Nat} {b : Bool} (m : Nat) (y : bz P n ops σ0 (fun _ _ => True) QS l (acc ++ [(m, ⟨[(s, RV.und)], [], [(d, some RV.und)], [], none⟩)]) (σ.app ⟨[(s, RV.und)], [], [(d, some RV.und)], [], none⟩)) (hg : o.guard = some (g, b) := by exact rfl) (hs : (ops[g]?).bind (·.dst) = some s := by exact rfl) (hd : o.dst = some d := by exact rfl)
  (h1 : σ.s s = some RV.und := by exact rfl) (h4 : hO m o ⟨[(s, RV.und)], [], [(d, some RV.und)], [], none⟩ acc = true := by kernel_rfl) : bz P n ops σ0 (fun _ _ => True) QS (o :: l) acc σ :=
 bz.step (L := ⟨[(s, RV.und)], [], [(d, some RV.und)], [], none⟩) m ⟨h1, True.intro⟩ True.intro (aN.noU hg hs hd) br h4 y
def sO (l : List (Nat × RV)) (b : List (Nat × (Nat × List PV))) (h : SW P n h0 w0 Fz0 c (St.of l b) Q) (hl : au l σ.s := by repeat (first | exact True.intro | refine And.intro rfl ?_)) (hb : au b σ.b := by repeat (first | exact True.intro | refine And.intro rfl ?_)) : SW P n h0 w0 Fz0 c σ Q := zy hl hb h
end
section
variable {P : Program} {n : Nat} {d x : Nat} {ty : TypeId} {pos : String} {af : Array Edge} {g : Option (Nat × Bool)}
def cM {r r' : RV} (hc : Cp r r') (hd : d < n := by decide) : Loc P n ⟨some d, .move (.tmp x), ty, pos, af, g⟩ ⟨[(x, r)], [], [(d, some r')], [], none⟩ := cu (.inl rfl) hd hc
def cA {r r' : RV} (hc : Cp r r') (hd : d < n := by decide) : Loc P n ⟨some d, .assign (.tmp x), ty, pos, af, g⟩ ⟨[(x, r)], [], [(d, some r')], [], none⟩ := cu (.inr rfl) hd hc
def sM {v : Value} (hd : d < n := by decide) : Loc P n ⟨some d, .move (.tmp x), ty, pos, af, g⟩ ⟨[(x, RV.sc v)], [], [(d, some (RV.sc v))], [], none⟩ := cM Cp.sc hd
def sA {v : Value} (hd : d < n := by decide) : Loc P n ⟨some d, .assign (.tmp x), ty, pos, af, g⟩ ⟨[(x, RV.sc v)], [], [(d, some (RV.sc v))], [], none⟩ := cA Cp.sc hd
def vM {cs : List PV} (ag : Bool) (qs : List PV) (ht : ao cs qs := by repeat' (first | exact True.intro | exact PV.To.refl _ | exact PV.to_none | apply And.intro)) (hb : ak qs := by repeat (first | exact ak.nil | refine ak.cons (PV.bor_val _) ?_ | refine ak.cons (PV.bor_sl _) ?_ | refine ak.cons (PV.bor_lo _ _) ?_)) (hd : d < n := by decide) :
  Loc P n ⟨some d, .move (.tmp x), ty, pos, af, g⟩ ⟨[(x, RV.sv ag cs)], [], [(d, some (RV.sv ag qs))], [], none⟩ := cM (Cp.sv ht hb) hd
def vA {cs : List PV} (ag : Bool) (qs : List PV) (ht : ao cs qs := by repeat' (first | exact True.intro | exact PV.To.refl _ | exact PV.to_none | apply And.intro)) (hb : ak qs := by repeat (first | exact ak.nil | refine ak.cons (PV.bor_val _) ?_ | refine ak.cons (PV.bor_sl _) ?_ | refine ak.cons (PV.bor_lo _ _) ?_)) (hd : d < n := by decide) :
  Loc P n ⟨some d, .assign (.tmp x), ty, pos, af, g⟩ ⟨[(x, RV.sv ag cs)], [], [(d, some (RV.sv ag qs))], [], none⟩ := cA (Cp.sv ht hb) hd
def tM {r : RV} (hd : d < n := by decide) : Loc P n ⟨some d, .move (.tmp x), ty, pos, af, g⟩ ⟨[(x, r)], [], [(x, none), (d, some r)], [], none⟩ := si (.inl rfl) hd
def tA {r : RV} (hd : d < n := by decide) : Loc P n ⟨some d, .assign (.tmp x), ty, pos, af, g⟩ ⟨[(x, r)], [], [(x, none), (d, some r)], [], none⟩ := si (.inr rfl) hd
def kM {v : Value} (h : v.oneCell' = true := by exact rfl) (hd : d < n := by decide) : Loc P n ⟨some d, .move (.const v), ty, pos, af, g⟩ ⟨[], [], [(d, some (RV.sc v))], [], none⟩ := kO (.inl rfl) hd (aC h)
def kA {v : Value} (h : v.oneCell' = true := by exact rfl) (hd : d < n := by decide) : Loc P n ⟨some d, .assign (.const v), ty, pos, af, g⟩ ⟨[], [], [(d, some (RV.sc v))], [], none⟩ := kO (.inr rfl) hd (aC h)
def lD {T p b off t : Nat} {ag : Bool} {k : Nat} {cs : List PV} (qs : List PV) (hT : cB P T = some (ag, k)) (h1 : ag = false → k = 1 := by first | exact fun _ => rfl | exact fun h => nomatch h) (hk : off + k ≤ cs.length := by exact Nat.le_of_ble_eq_true rfl) (ht : ao ((cs.drop off).take k) qs := by repeat' (first | exact True.intro | exact PV.To.refl _ | exact PV.to_none | apply And.intro))
  (hb : ak qs := by repeat (first | exact ak.nil | refine ak.cons (PV.bor_val _) ?_ | refine ak.cons (PV.bor_sl _) ?_ | refine ak.cons (PV.bor_lo _ _) ?_)) (hd : d < n := by decide) :
  Loc P n ⟨some d, .load T (.tmp p), ty, pos, af, g⟩ ⟨[(p, RV.ptr b off)], [(b, (t, cs))], [(d, some (RV.sv ag qs))], [], none⟩ := gE hd hT h1 hk ht hb
def lE {T p : Nat} {ag : Bool} {k : Nat} {cs : List PV} (qs : List PV) (hT : cB P T = some (ag, k)) (h1 : ag = false → k = 1 := by first | exact fun _ => rfl | exact fun h => nomatch h) (hk : k ≤ cs.length := by exact Nat.le_of_ble_eq_true rfl) (ht : ao (cs.take k) qs := by repeat' (first | exact True.intro | exact PV.To.refl _ | exact PV.to_none | apply And.intro))
  (hb : ak qs := by repeat (first | exact ak.nil | refine ak.cons (PV.bor_val _) ?_ | refine ak.cons (PV.bor_sl _) ?_ | refine ak.cons (PV.bor_lo _ _) ?_)) (hd : d < n := by decide) :
  Loc P n ⟨some d, .load T (.tmp p), ty, pos, af, g⟩ ⟨[(p, RV.eptr cs)], [], [(d, some (RV.sv ag qs))], [], none⟩ := zo hd hT h1 hk ht hb
def lF {T p b off f fo : Nat} (hT : cq P T f = some fo) (hd : d < n := by decide) : Loc P n ⟨some d, .fieldAddr T (.tmp p) f, ty, pos, af, g⟩ ⟨[(p, RV.ptr b off)], [], [(d, some (RV.ptr b (off + fo)))], [], none⟩ := iL hd hT
def lN {T E e bs s m : Nat} {o : Fl} {es : List (List PV)} (hT : dY P T = some (E, e, bs)) (hm : es.length = m := by first | exact bc _ | exact rfl) (hd : d < n := by decide) :
  Loc P n ⟨some d, .call { callee := .builtin .len, args := #[.tmp s], argTypes := #[T] }, ty, pos, af, g⟩ ⟨[(s, RV.slc o es)], [], [(d, some (RV.int (m : Int)))], [], none⟩ := zp hd hT hm
def nT {T : TypeId} {b : Bool} (hd : d < n := by decide) : Loc P n ⟨some d, .unOp .not T (.tmp x), ty, pos, af, g⟩ ⟨[(x, RV.bool b)], [], [(d, some (RV.bool !b))], [], none⟩ := zn hd
def aG {c x y : Operand} {b : Bool} {r : RV} (hg : b = true) (hc : aF c (RV.bool b) := by exact True.intro) (hz : aF x r := by first | exact True.intro | exact aC rfl) (hcp : Cp r r := by exact Cp.sc) (hd : d < n := by decide) : Loc P n ⟨some d, .pick c x y, ty, pos, af, g⟩ ⟨az c (RV.bool b) ++ az x r, [], [(d, some r)], [], none⟩ := sm (z := x) hd (by rw [hg]; rfl) hc hz hcp
def an {c x y : Operand} {b : Bool} {r : RV} (hg : b = false) (hc : aF c (RV.bool b) := by exact True.intro) (hz : aF y r := by first | exact True.intro | exact aC rfl) (hcp : Cp r r := by exact Cp.sc) (hd : d < n := by decide) : Loc P n ⟨some d, .pick c x y, ty, pos, af, g⟩ ⟨az c (RV.bool b) ++ az y r, [], [(d, some r)], [], none⟩ := sm (z := y) hd (by rw [hg]; rfl) hc hz hcp
def cL {f : Nat} {args : Array Operand} {tys : Array TypeId} {r : RV} (qs as_ : List (Bool × List PV)) (hf : aw P f = true) (hok : fN args.toList qs := by repeat' (first | exact True.intro | exact aC rfl | exact sk | apply And.intro))
  (hto : eP qs as_ := by repeat' (first | exact True.intro | exact rfl | exact PV.To.refl _ | exact PV.to_none | apply And.intro)) (hs : aD P f as_ r) (hd : d < n := by decide) : Loc P n ⟨some d, .call { callee := .value (.func f), args := args, argTypes := tys }, ty, pos, af, g⟩ ⟨eO args.toList qs, [], [(d, some r)], [], none⟩ := sC hd hf hok hto hs
section
variable {T T2 : TypeId} {x y : Operand} {i j : Int}
def cF (hx : aF x (RV.int i) := by first | exact True.intro | exact aC rfl) (hy : aF y (RV.int j) := by first | exact True.intro | exact aC rfl) (hd : d < n := by decide) : Loc P n ⟨some d, .binOp .lss T x y T2, ty, pos, af, g⟩ ⟨az x (RV.int i) ++ az y (RV.int j), [], [(d, some (RV.bool (decide (i < j))))], [], none⟩ := zd hd hx hy
def jW (hx : aF x (RV.int i) := by first | exact True.intro | exact aC rfl) (hy : aF y (RV.int j) := by first | exact True.intro | exact aC rfl) (hd : d < n := by decide) : Loc P n ⟨some d, .binOp .leq T x y T2, ty, pos, af, g⟩ ⟨az x (RV.int i) ++ az y (RV.int j), [], [(d, some (RV.bool (decide (i ≤ j))))], [], none⟩ := ze hd hx hy
def fl (hx : aF x (RV.int i) := by first | exact True.intro | exact aC rfl) (hy : aF y (RV.int j) := by first | exact True.intro | exact aC rfl) (hd : d < n := by decide) : Loc P n ⟨some d, .binOp .gtr T x y T2, ty, pos, af, g⟩ ⟨az x (RV.int i) ++ az y (RV.int j), [], [(d, some (RV.bool (decide (i > j))))], [], none⟩ := zg hd hx hy
def oZ (hx : aF x (RV.int i) := by first | exact True.intro | exact aC rfl) (hy : aF y (RV.int j) := by first | exact True.intro | exact aC rfl) (hd : d < n := by decide) : Loc P n ⟨some d, .binOp .geq T x y T2, ty, pos, af, g⟩ ⟨az x (RV.int i) ++ az y (RV.int j), [], [(d, some (RV.bool (decide (i ≥ j))))], [], none⟩ := zh hd hx hy
def dC (hx : aF x (RV.int i) := by first | exact True.intro | exact aC rfl) (hy : aF y (RV.int j) := by first | exact True.intro | exact aC rfl) (hd : d < n := by decide) : Loc P n ⟨some d, .binOp .eql T x y T2, ty, pos, af, g⟩ ⟨az x (RV.int i) ++ az y (RV.int j), [], [(d, some (RV.bool (i == j)))], [], none⟩ := zi hd hx hy
def eQ (hx : aF x (RV.int i) := by first | exact True.intro | exact aC rfl) (hy : aF y (RV.int j) := by first | exact True.intro | exact aC rfl) (hd : d < n := by decide) : Loc P n ⟨some d, .binOp .neq T x y T2, ty, pos, af, g⟩ ⟨az x (RV.int i) ++ az y (RV.int j), [], [(d, some (RV.bool (i != j)))], [], none⟩ := zj hd hx hy
def jX (hx : aF x (RV.int i) := by first | exact True.intro | exact aC rfl) (hy : aF y (RV.int j) := by first | exact True.intro | exact aC rfl) (h : aq (i + j) := by unfold aq; omega) (hd : d < n := by decide) : Loc P n ⟨some d, .binOp .add T x y T2, ty, pos, af, g⟩ ⟨az x (RV.int i) ++ az y (RV.int j), [], [(d, some (RV.int (i + j)))], [], none⟩ := zk hd hx hy h
def kS (hx : aF x (RV.int i) := by first | exact True.intro | exact aC rfl) (hy : aF y (RV.int j) := by first | exact True.intro | exact aC rfl) (h : aq (i - j) := by unfold aq; omega) (hd : d < n := by decide) : Loc P n ⟨some d, .binOp .sub T x y T2, ty, pos, af, g⟩ ⟨az x (RV.int i) ++ az y (RV.int j), [], [(d, some (RV.int (i - j)))], [], none⟩ := zl hd hx hy h
end
end
end
section
section
variable {P : Program} {n : Nat}
section
variable {T : TypeId} {x y : Operand} {i j : Int} {k : IntKind} {w : World}
def zQ : Sem.run P (do eqGuard .leq T x y (.int k i) (.int k j); binOp .leq T (.int k i) (.int k j) : Sem Value) w = .ok (.bool (decide (i ≤ j))) w := by simp [eqGuard, binOp, Op.intCmp]
def zR : Sem.run P (do eqGuard .geq T x y (.int k i) (.int k j); binOp .geq T (.int k i) (.int k j) : Sem Value) w = .ok (.bool (decide (i ≥ j))) w := by simp [eqGuard, binOp, Op.intCmp]
def zS : Sem.run P (do eqGuard .eql T x y (.int k i) (.int k j); binOp .eql T (.int k i) (.int k j) : Sem Value) w = .ok (.bool (i == j)) w := by simp [eqGuard, binOp, Op.intCmp]
def zT : Sem.run P (do eqGuard .neq T x y (.int k i) (.int k j); binOp .neq T (.int k i) (.int k j) : Sem Value) w = .ok (.bool (i != j)) w := by simp [eqGuard, binOp, Op.intCmp]
end
section
variable {T T2 : TypeId} {x y : Operand} {d : Nat} {ty : TypeId} {pos : String} {af : Array Edge} {g : Option (Nat × Bool)} {i j : Int} {k : IntKind}
def zU (hx : aF x (RV.sc (.int k i)) := by first | exact True.intro | exact aC rfl) (hy : aF y (RV.sc (.int k j)) := by first | exact True.intro | exact aC rfl) (hd : d < n := by decide) : Loc P n ⟨some d, .binOp .leq T x y T2, ty, pos, af, g⟩ ⟨az x (RV.sc (.int k i)) ++ az y (RV.sc (.int k j)), [], [(d, some (RV.bool (decide (i ≤ j))))], [], none⟩ := cS hd hx hy rfl fun _ => zQ
def zV (hx : aF x (RV.sc (.int k i)) := by first | exact True.intro | exact aC rfl) (hy : aF y (RV.sc (.int k j)) := by first | exact True.intro | exact aC rfl) (hd : d < n := by decide) : Loc P n ⟨some d, .binOp .geq T x y T2, ty, pos, af, g⟩ ⟨az x (RV.sc (.int k i)) ++ az y (RV.sc (.int k j)), [], [(d, some (RV.bool (decide (i ≥ j))))], [], none⟩ := cS hd hx hy rfl fun _ => zR
def pb (hx : aF x (RV.sc (.int k i)) := by first | exact True.intro | exact aC rfl) (hy : aF y (RV.sc (.int k j)) := by first | exact True.intro | exact aC rfl) (hd : d < n := by decide) : Loc P n ⟨some d, .binOp .eql T x y T2, ty, pos, af, g⟩ ⟨az x (RV.sc (.int k i)) ++ az y (RV.sc (.int k j)), [], [(d, some (RV.bool (i == j)))], [], none⟩ := cS hd hx hy rfl fun _ => zS
def zW (hx : aF x (RV.sc (.int k i)) := by first | exact True.intro | exact aC rfl) (hy : aF y (RV.sc (.int k j)) := by first | exact True.intro | exact aC rfl) (hd : d < n := by decide) : Loc P n ⟨some d, .binOp .neq T x y T2, ty, pos, af, g⟩ ⟨az x (RV.sc (.int k i)) ++ az y (RV.sc (.int k j)), [], [(d, some (RV.bool (i != j)))], [], none⟩ := cS hd hx hy rfl fun _ => zT
def tk {src dst : TypeId} {k2 : IntKind} (hS : P.underlying src = some (.int k)) (hD : P.underlying dst = some (.int k2)) (hj : k2.wrap i = j) (hx : aF x (RV.sc (.int k i)) := by first | exact True.intro | exact aC rfl) (hd : d < n := by decide) :
  Loc P n ⟨some d, .convert src dst x, ty, pos, af, g⟩ ⟨az x (RV.sc (.int k i)), [], [(d, some (RV.sc (.int k2 j)))], [], none⟩ := by
 intro h0 w0 Fz0 σ a w K Q h1 h2 _ _ h5
 obtain ⟨φ, Fz, Fp, hc⟩ := h1
 have ex := hc.sc h2 hx
 refine bC (v := .int k2 j) (w' := w) ?_ (h5 _ _ (hc.put0 hd (aL.of_sc rfl)))
 unfold execOp
 simp [ex, convert, run_underlying hS, run_underlying hD, Conv.intToInt, hj]
def tl {s : ByteArray} (hS : P.underlying T = some .string) (hx : aF x (RV.sc (.string s)) := by first | exact True.intro | exact aC rfl) (hy : aF y (RV.sc (.int k i)) := by first | exact True.intro | exact aC rfl) (hi : 0 ≤ i) (hb : ∃ b, s[i.toNat]? = some b ∧ ((b.toNat : Nat) : Int) = j) (hd : d < n := by decide) :
  Loc P n ⟨some d, .index T x y, ty, pos, af, g⟩ ⟨az x (RV.sc (.string s)) ++ az y (RV.sc (.int k i)), [], [(d, some (RV.sc (.int .u8 j)))], [], none⟩ := by
 intro h0 w0 Fz0 σ a w K Q h1 h2 _ _ h5
 obtain ⟨φ, Fz, Fp, hc⟩ := h1
 have ex := hc.sc h2.left hx
 have ey := hc.sc h2.right hy
 obtain ⟨b, hb, rfl⟩ := hb
 refine bC (v := .int .u8 (b.toNat : Nat)) (w' := w) ?_ (h5 _ _ (hc.put0 hd (aL.of_sc rfl)))
 unfold execOp
 simp [ex, ey, Instr.index, asIntOf, run_underlying hS, hi, hb]
end
section
variable {h0 : Nat → Prop} {w0 : World} {Fz0 : aj} {σ : St} {Q : Exit → St → Prop} {c1 c2 : Code}
end
end
end
section
section
variable {P : Program} {n : Nat} {h0 : Nat → Prop} {w0 : World} {Fz0 : aj} {σ : St} {Q : Exit → St → Prop} {c : Code} {ops : Array Oper}
def tm {i : Int} : i.fdiv (2 ^ 1) = i / 2 := by rw [Int.fdiv_eq_ediv_of_nonneg _ (by decide)]; rfl
end
end
section
def gJ (L : Nat → Prop) (r r' : RV) : Prop := ∀ {φ : Nat → Nat} {Fz : aj} {w : World} {v : Value} {F : List Nat}, (∀ b o, Fz b o → L b) → r.holds φ Fz w v F → r'.holds φ Fz w v []
def gJ.sv {L : Nat → Prop} {ag : Bool} {cs qs : List PV} (ht : bR L cs qs) (hb : ak qs) : gJ L (RV.sv ag cs) (RV.sv ag qs) := fun hz h => ⟨h.1, hb.own (ht.rel hz h.2.rel)⟩
def gJ.ptr {L : Nat → Prop} {d off : Nat} : gJ L (RV.ptr d off) (RV.ptr d off) := fun _ h => ⟨h.1, rfl⟩
def iT (L : Nat → Prop) : List (Nat × RV) → List (Nat × RV) → Prop
 | [], [] => True
 | p :: l, q :: l' => (p.1 = q.1 ∧ gJ L p.2 q.2) ∧ iT L l l'
 | _, _ => False
def iT.cons {L : Nat → Prop} {i : Nat} {r r' : RV} {l l' : List (Nat × RV)} (h : gJ L r r') (k : iT L l l') : iT L ((i, r) :: l) ((i, r') :: l') := ⟨⟨rfl, h⟩, k⟩
def iT.at_ {L : Nat → Prop} {i : Nat} {r' : RV} : ∀ {l l' : List (Nat × RV)}, iT L l l' → lk l' i = some r' → ∃ r, lk l i = some r ∧ gJ L r r'
 | [], [], _, h => by cases h
 | (j, r) :: l, (j', q) :: l', k, h => by
  obtain ⟨⟨e, k1⟩, k2⟩ := k
  dsimp only at e
  subst e
  rw [lk, beq_eq] at h ⊢
  by_cases hx : i = j
  ·rw [decide_eq_true hx] at h ⊢
   simp only [cond_true, Option.some.injEq] at h ⊢
   subst h
   exact ⟨r, rfl, k1⟩
  ·rw [decide_eq_false hx] at h ⊢
   simp only [cond_false] at h ⊢
   exact iT.at_ k2 h
section
variable {P : Program} {n : Nat} {h0 : Nat → Prop} {w0 : World} {Fz0 : aj} {Q : Exit → St → Prop} {c : Code}
end
end
section
section
variable {P : Program} {n : Nat} {h0 : Nat → Prop} {w0 : World} {Fz0 : aj}
section
variable {σ : St} {a : Act} {w : World} {φ : Nat → Nat} {Fz : aj} {Fp : Nat → List Nat}
def aE.ghost (h : aE h0 w0 Fz0 n σ a w φ Fz Fp) {i : Nat} {rv : RV} {F X : List Nat} (hv : rv.holds φ Fz w (a.tmps.getD i undef) F) (hX : ∀ b, b ∈ F ++ X → b ∈ Fp 0) (hn : (F ++ X).Nodup) :
  aE h0 w0 Fz0 n (σ.set i (some rv)) a w φ Fz (cn Fp (2 * i + 1) F X) where
 bel := h.bel
 dfr := h.dfr
 siz := h.siz
 hlt := h.hlt
 fz0 := h.fz0
 fzl := h.fzl
 slot j rv' hj := by
  rw [St.set_s] at hj
  split at hj
  ·rename_i hji
   subst hji
   injection hj with hj
   subst hj
   unfold cn
   rw [if_pos rfl]; exact hv
  ·rename_i hne
   unfold cn
   rw [if_neg (by omega), if_neg (by omega)]
   exact h.slot j rv' hj
 box d cs hd := by
  obtain ⟨cur, h1, h2⟩ := h.box d cs hd
  refine ⟨cur, h1, ?_⟩
  unfold cn
  rw [if_neg (by omega), if_neg (by omega)]; exact h2
 bxb d cs hd := by
  obtain ⟨h1, h2, h3⟩ := h.bxb d cs hd
  refine ⟨h1, h2, fun r hr => ?_⟩
  rcases gC hr with ⟨_, hr⟩ | ⟨_, _, hr⟩ | ⟨_, _, hr⟩
  ·exact h3 0 (hX _ (by simp [hr]))
  ·exact h3 0 (hX _ (by simp [hr]))
  ·exact h3 _ hr
 inj d d' cs cs' := h.inj d d' cs cs'
 dis := oG (by omega) hX hn h.dis
 nod := oH hn h.nod
 low r b hb := by
  rcases gC hb with ⟨_, hr⟩ | ⟨_, _, hr⟩ | ⟨_, _, hr⟩
  ·exact h.low 0 b (hX _ (by simp [hr]))
  ·exact h.low 0 b (hX _ (by simp [hr]))
  ·exact h.low _ b hr
end
section
variable {ops : Array Oper} {Q : Exit → St → Prop}
end
def iU (r r' : RV) : Prop := ∀ {φ : Nat → Nat} {Fz : aj} {w : World} {v : Value} {F : List Nat}, r.holds φ Fz w v F → r'.holds φ Fz w v F
def iU.refl {r : RV} : iU r r := fun h => h
def iU.sv {ag : Bool} {cs qs : List PV} (h : ax cs qs) : iU (RV.sv ag cs) (RV.sv ag qs) := fun hh => ⟨hh.1, h hh.2⟩
def iV (f : Nat → Option RV) (G : Nat) : List (Nat × RV) → Prop
 | [] => True
 | p :: l' => (Nat.beq p.1 G = false ∧ ∃ r, f p.1 = some r ∧ iU r p.2) ∧ iV f G l'
def iV.cons {f : Nat → Option RV} {G i : Nat} {r r' : RV} {l' : List (Nat × RV)} (h1 : Nat.beq i G = false) (h2 : f i = some r) (h3 : iU r r') (k : iV f G l') : iV f G ((i, r') :: l') := ⟨⟨h1, r, h2, h3⟩, k⟩
def iV.at_ {f : Nat → Option RV} {G i : Nat} {r' : RV} : ∀ {l' : List (Nat × RV)}, iV f G l' → (i, r') ∈ l' → i ≠ G ∧ ∃ r, f i = some r ∧ iU r r'
 | [], _, h => by simp at h
 | p :: l', k, h => by
  rcases List.mem_cons.1 h with rfl | h
  ·exact ⟨fun e => by have := k.1.1; dsimp only at this; rw [e] at this; simp at this, k.1.2⟩
  ·exact iV.at_ k.2 h
variable {Q : Exit → St → Prop} {c : Code}
def iW (L : Nat → Prop) : List (Nat × (Nat × List PV)) → List (Nat × (Nat × List PV)) → Prop
 | [], [] => True
 | p :: b, q :: b' => (p.1 = q.1 ∧ p.2.1 = q.2.1 ∧ bR L p.2.2 q.2.2 ∧ ak q.2.2) ∧ iW L b b'
 | _, _ => False
def iW.cons {L : Nat → Prop} {d t : Nat} {cs qs : List PV} {b b' : List (Nat × (Nat × List PV))} (h1 : bR L cs qs) (h2 : ak qs) (k : iW L b b') : iW L ((d, (t, cs)) :: b) ((d, (t, qs)) :: b') := ⟨⟨rfl, rfl, h1, h2⟩, k⟩
def iW.at_ {L : Nat → Prop} {d t : Nat} {qs : List PV} : ∀ {b b' : List (Nat × (Nat × List PV))}, iW L b b' → lk b' d = some (t, qs) → ∃ cs, lk b d = some (t, cs) ∧ bR L cs qs ∧ ak qs
 | [], [], _, h => by cases h
 | (j, (s, r)) :: l, (j', (s', q)) :: l', k, h => by
  obtain ⟨⟨e, e2, k1⟩, k2⟩ := k
  dsimp only at e e2 k1
  subst e e2
  rw [lk, beq_eq] at h ⊢
  by_cases hx : d = j
  ·rw [decide_eq_true hx] at h ⊢
   simp only [cond_true, Option.some.injEq, Prod.mk.injEq] at h ⊢
   obtain ⟨rfl, rfl⟩ := h
   exact ⟨r, ⟨rfl, rfl⟩, k1⟩
  ·rw [decide_eq_false hx] at h ⊢
   simp only [cond_false] at h ⊢
   exact iW.at_ k2 h
end
end
section
section
variable {P : Program} {n : Nat} {h0 : Nat → Prop} {w0 : World} {Fz0 : aj}
end
def gJ.phi {L : Nat → Prop} {D g : Nat} : gJ L (RV.phi D g) (RV.phi D g) := fun _ h => ⟨h.1, rfl⟩
section
variable {P : Program} {n : Nat} {h0 : Nat → Prop} {w0 : World} {Fz0 : aj} {σ : St} {Q : Exit → St → Prop} {c : Code}
end
section
variable {P : Program} {n : Nat} {T T2 : TypeId} {x y : Operand} {d : Nat} {ty : TypeId} {pos : String} {af : Array Edge} {g : Option (Nat × Bool)} {i j : Int}
end
end
section
abbrev ab := List UInt8
abbrev B (l : ab) : ByteArray := ⟨l.toArray⟩
abbrev RV.str (l : ab) : RV := RV.sc (.string (B l))
section
variable {P : Program} {n : Nat} {T T2 : TypeId} {x y : Operand} {d : Nat} {ty : TypeId} {pos : String} {af : Array Edge} {g : Option (Nat × Bool)} {s t : ab}
def zX {w : World} (h : s.length + t.length ≤ 9223372036854775807) : Sem.run P (do eqGuard .add T x y (.string (B s)) (.string (B t)); binOp .add T (.string (B s)) (.string (B t)) : Sem Value) w = .ok (.string (B (s ++ t))) w := by
 have e := run_string_add_sum (P := P) w (B s) (B t) h
 rw [ByteArray.mk_append_mk] at e
 simp [eqGuard, binOp, e]
def bX (hx : aF x (RV.str s) := by first | exact True.intro | exact aC rfl) (hy : aF y (RV.str t) := by first | exact True.intro | exact aC rfl) (h : s.length + t.length ≤ 9223372036854775807 := by (try simp only [aX, List.length_cons, List.length_nil]); omega) (hd : d < n := by decide) : Loc P n ⟨some d, .binOp .add T x y T2, ty, pos, af, g⟩ ⟨az x (RV.str s) ++ az y (RV.str t), [], [(d, some (RV.str (s ++ t)))], [], none⟩ :=
 cS hd hx hy rfl fun w => zX h
def ig (hx : aF x (RV.str s) := by first | exact True.intro | exact aC rfl) (hy : aF y (RV.str t) := by first | exact True.intro | exact aC rfl) (hd : d < n := by decide) : Loc P n ⟨some d, .binOp .eql T x y T2, ty, pos, af, g⟩ ⟨az x (RV.str s) ++ az y (RV.str t), [], [(d, some (RV.bool (s == t)))], [], none⟩ :=
 cS hd hx hy rfl fun w => by simp [eqGuard, binOp, Op.stringOp, ByteArray.toList_mk]
def iX (hx : aF x (RV.str s) := by first | exact True.intro | exact aC rfl) (hy : aF y (RV.str t) := by first | exact True.intro | exact aC rfl) (hd : d < n := by decide) : Loc P n ⟨some d, .binOp .neq T x y T2, ty, pos, af, g⟩ ⟨az x (RV.str s) ++ az y (RV.str t), [], [(d, some (RV.bool (!(s == t))))], [], none⟩ :=
 cS hd hx hy rfl fun w => by simp [eqGuard, binOp, Op.stringOp, ByteArray.toList_mk]
def fQ (hT : P.underlying T = some .string) {k : Nat} (hd : d < n := by decide) : Loc P n ⟨some d, .call { callee := .builtin .len, args := #[.tmp k], argTypes := #[T] }, ty, pos, af, g⟩ ⟨[(k, RV.str s)], [], [(d, some (RV.int (s.length : Int)))], [], none⟩ :=
 zq (b := B s) hd hT
def mF {s : ByteArray} {lo hi : Option Value} (w : World) (hT : P.underlying T = some .string) : Sem.run P (Instr.sliceAt T (.string s) lo hi none) w = Sem.run P (Instr.slice T (.string s) lo hi none) w := by
 simp only [Instr.sliceAt, Sem.run_bind, run_underlying hT, Result.andThen_ok]
def mG {lo hi : Option Operand} {k : Nat} {i j : Nat} {q r : Int} (hT : P.underlying T = some .string) (hlo : tg lo (i = 0) (RV.int q)) (hhi : tg hi (j = s.length) (RV.int r)) (hq : q = (i : Int)) (hr : r = (j : Int)) (hij : i ≤ j) (hj : j ≤ s.length) {u : ab} (hu : (s.take j).drop i = u) (hd : d < n := by decide) :
  Loc P n ⟨some d, .slice T (.tmp k) lo hi none, ty, pos, af, g⟩ ⟨(k, RV.str s) :: (tf lo (RV.int q) ++ tf hi (RV.int r)), [], [(d, some (RV.str u))], [], none⟩ := by
 subst hq hr hu
 have e : ∀ a b : Nat, (B s).extract a b = B ((s.drop a).take (b - a)) := ByteArray.extract_mk s
 have hsz : (B s).size = s.length := rfl
 intro h0 w0 Fz0 σ a w K Q hc hr _ _ h5
 obtain ⟨φ, Fz, Fp, hc⟩ := hc
 have ev : a.eval (.tmp k) = .string (B s) := (hc.one_ hr.1).1
 have hres : (s.take j).drop i = (s.drop i).take (j - i) := by rw [List.take_drop, Nat.add_sub_cancel' hij]
 refine bC (v := .string (B ((s.take j).drop i))) (w' := w) ?_ (h5 _ _ (hc.put0 hd (aL.of_sc rfl)))
 rw [hres]
 unfold execOp
 cases lo with
 | none =>
  have hi0 : i = 0 := hlo
  subst hi0
  cases hi with
  | none =>
   have hj0 : j = s.length := hhi
   subst hj0
   simp only [Option.map_none, ev, mF _ hT, run_slice_string_all _ _ _ hT, e, hsz, Sem.run_bind, Result.andThen_ok, Sem.run_pure]
  | some y =>
   have ey := hc.sc hr.2 hhi
   have hc2 : (0 : Int) ≤ (j : Int) ∧ (j : Int) ≤ ((B s).size : Int) := by rw [hsz]; omega
   simp only [Option.map_none, Option.map_some, mF _ hT, ev, ey, run_slice_string_to_if _ _ _ _ _ hT, if_pos hc2, e, Sem.run_bind, Result.andThen_ok, Sem.run_pure, Int.toNat_natCast]
 | some x =>
  have ex := hc.sc hr.2.left hlo
  cases hi with
  | none =>
   have hj0 : j = s.length := hhi
   subst hj0
   have hc2 : (0 : Int) ≤ (i : Int) ∧ (i : Int) ≤ ((B s).size : Int) := by rw [hsz]; omega
   simp only [Option.map_none, Option.map_some, mF _ hT, ev, ex, run_slice_string_from_if _ _ _ _ _ hT, if_pos hc2, e, Sem.run_bind, Result.andThen_ok, Sem.run_pure, Int.toNat_natCast]
   rfl
  | some y =>
   have ey := hc.sc hr.2.right hhi
   simp only [Option.map_none, Option.map_some, mF _ hT, ev, ex, ey, run_slice_string _ _ _ _ _ _ _ hT (by omega : (0 : Int) ≤ (i : Int)) (by omega : (i : Int) ≤ (j : Int)) (by rw [hsz]; omega : (j : Int) ≤ ((B s).size : Int)), e, Sem.run_bind, Result.andThen_ok, Sem.run_pure, Int.toNat_natCast]
def ej (xs : List Int) : ab := xs.map fun n => UInt8.ofNat n.toNat
def tn : ∀ (ns : List Int) (s : ab), ns.foldl (fun r n => r.push (UInt8.ofNat n.toNat)) (B s) = B (s ++ ej ns)
 | [], s => by simp [ej]
 | n :: ns, s => by
  rw [List.foldl_cons, show (B s).push (UInt8.ofNat n.toNat) = B (s ++ [UInt8.ofNat n.toNat]) from by apply ByteArray.ext; simp [ByteArray.push], tn ns]
  simp [ej]
def zY {T D e k : Nat} {xs : List Int} {o : Fl} {f : Int → List PV} (hS : P.underlying T = some (.slice e)) (he : P.underlying e = some (.int .u8)) (hD : P.underlying D = some .string) (hf : ∀ x, f x = [PV.val (.int .u8 x)]) (hd : d < n := by decide) :
  Loc P n ⟨some d, .convert T D (.tmp k), ty, pos, af, g⟩ ⟨[(k, RV.slc o (xs.map f))], [], [(d, some (RV.str (ej xs)))], [], none⟩ := by
 intro h0 w0 Fz0 σ a w K Q hc hr _ _ h5
 obtain ⟨φ, Fz, Fp, hc⟩ := hc
 obtain ⟨ad, c, e', u, ev, h1, h2, h3, h4, h6⟩ := hc.slrel hr.1
 have es' : a.eval (.tmp k) = .slice ad xs.length c := by rw [← bc (f := f)]; exact ev
 refine bC (v := .string (B (ej xs))) (w' := w) ?_ (h5 _ _ (hc.put0 hd (aL.of_sc rfl)))
 unfold execOp
 simp only [es', Sem.run_bind, run_convert_bytes_string _ _ _ _ _ _ _ hS he hD]
 rcases h4 with h4 | ⟨b, off, rfl, h4⟩
 ·have hx : xs = [] := by simpa using h4
  subst hx
  cases ad with
  | none => simp [Conv.bytesToString, ej]; rfl
  | some ad =>
   rw [run_bytesToString w ad _ c [] (by simp [loadCells, loadCellsFrom])]
   simp [ej]; rfl
 ·have hcells : ∀ (j : Nat) v, (xs.map (Value.int .u8))[j]? = some v → w.cell? ((⟨b, off, none⟩ : Addr).add j) = some v := by
   intro j v hv
   rw [List.getElem?_map, Option.map_eq_some_iff] at hv
   obtain ⟨x, hx, rfl⟩ := hv
   have hj : j < xs.length := (List.getElem?_eq_some_iff.1 hx).1
   have hm : (xs.map f)[j]? = some [PV.val (.int .u8 x)] := by rw [List.getElem?_map, hx, ← hf]; rfl
   have he1 : e' = 1 := (h3 _ (List.mem_of_getElem? hm)).symm
   subst he1
   have hu := (h6 j _ 0 _ hm rfl).1
   have := (h4 j 0 (by simpa using hj) (by decide)).2
   rw [hu] at this
   rw [jN]
   simpa using this
  have hl := run_loadCells_list (P := P) (w := w) ⟨b, off, none⟩ (xs.map (Value.int .u8)) hcells
  rw [bc] at hl
  rw [run_bytesToString w _ _ c xs hl]
  have := tn xs []
  rw [show (B [] : ByteArray) = ByteArray.empty from rfl, List.nil_append] at this
  simp [this]
def zZ {T D e k : Nat} {z : Int} {o : Fl} (hS : P.underlying T = some (.slice e)) (he : P.underlying e = some (.int .u8)) (hD : P.underlying D = some .string) (hd : d < n := by decide) :
  Loc P n ⟨some d, .convert T D (.tmp k), ty, pos, af, g⟩ ⟨[(k, RV.slc o [[PV.val (.int .u8 z)]])], [], [(d, some (RV.str (ej [z])))], [], none⟩ :=
 zY (xs := [z]) (f := fun x => [PV.val (.int .u8 x)]) hS he hD (fun _ => rfl) hd
def Aa {i j : Int} (hx : aF x (RV.int i) := by first | exact True.intro | exact aC rfl) (hy : aF y (RV.int j) := by first | exact True.intro | exact aC rfl) (hj : j ≠ 0 := by omega) (h : aq (i.tdiv j) := by unfold aq; omega) (hd : d < n := by decide) : Loc P n ⟨some d, .binOp .quo T x y T2, ty, pos, af, g⟩ ⟨az x (RV.int i) ++ az y (RV.int j), [], [(d, some (RV.int (i.tdiv j)))], [], none⟩ :=
 cS hd hx hy rfl fun w => by
  have e : IntKind.i64.wrap (i.tdiv j) = i.tdiv j := IntWalk.i64_in _ h
  simp [eqGuard, binOp, Op.intDiv, hj, e]
def pc {i : Int} {k : Nat} (h : aq (-i) := by unfold aq; omega) (hd : d < n := by decide) : Loc P n ⟨some d, .unOp .neg T (.tmp k), ty, pos, af, g⟩ ⟨[(k, RV.int i)], [], [(d, some (RV.int (-i)))], [], none⟩ := by
 intro h0 w0 Fz0 σ a w K Q hc hr _ _ h5
 obtain ⟨φ, Fz, Fp, hc⟩ := hc
 have es' : a.eval (.tmp k) = .int .i64 i := (hc.one_ hr.1).1
 have e : IntKind.i64.wrap (-i) = -i := IntWalk.i64_in _ h
 refine bC (v := .int .i64 (-i)) (w' := w) ?_ (h5 _ _ (hc.put0 hd (aL.of_sc rfl)))
 unfold execOp
 simp [es', Op.unary, Op.intArith, e]
end
structure eR where
 rel : aj → World → Prop
 mono : ∀ {Fz Fz' : aj} {w w' : World}, rel Fz w → cm Fz w Fz' w' → rel Fz' w'
def RV.glob (G : eR) : RV where
 holds _ Fz w _ F := G.rel Fz w ∧ F = []
 men _ := false
 mono h k _ _ := ⟨G.mono h.1 k, h.2⟩
 lt h := by rw [h.2]; simp
def bI (P : Program) (G : eR) (f : FuncId) (args : List (Bool × List PV)) (r : RV) : Prop :=
 ∀ (w : World) (vs : List Value) (Fz : aj), (∀ b o, Fz b o → b < w.heap.size) → G.rel Fz w → cr args Fz w vs → Calls P f vs.toArray w fun e w' => ∃ v Fz' F, e = .returned v ∧ Below w.heap.size w w' ∧
  (∀ b o, b < w.heap.size → (Fz' b o ↔ Fz b o)) ∧ (∀ b o, Fz' b o → b < w'.heap.size) ∧ (∀ φ, r.holds φ Fz' w' v F) ∧ F.Nodup ∧ ∀ b, b ∈ F → w.heap.size ≤ b ∧ b < w'.heap.size
def aD.g {P : Program} {G : eR} {f : FuncId} {args : List (Bool × List PV)} {r : RV} (h : aD P f args r) : bI P G f args r := fun w vs Fz hz _ hr => h w vs Fz hz hr
section
variable {P : Program} {n : Nat} {G : eR}
def Ab {f d : Nat} {args : Array Operand} {tys : Array TypeId} {ty : TypeId} {pos : String} {af : Array Edge} {g : Option (Nat × Bool)} {qs as_ : List (Bool × List PV)} {r : RV} (hd : d < n) (hf : aw P f = true) (hok : fN args.toList qs) (hto : eP qs as_) (hs : bI P G f as_ r) :
  Loc P n ⟨some d, .call { callee := .value (.func f), args := args, argTypes := tys }, ty, pos, af, g⟩ ⟨(7000, RV.glob G) :: eO args.toList qs, [], [(d, some r)], [], none⟩ := by
 intro h0 w0 Fz0 σ a w K Q hc hr _ _ h5
 obtain ⟨φ, Fz, Fp, hc⟩ := hc
 have hG : G.rel Fz w := (hc.slot 7000 _ hr.1).1
 have hrel := hto.rel (hc.relT hr.2 hok)
 unfold Oper.wp
 rw [zP hf, Oper.upon_enter]
 refine (hs w _ Fz hc.fzl hG hrel).mono ?_
 rintro e w' ⟨v, Fz', F, rfl, hb, hz1, hz2, hv, hn, hF⟩
 refine h5 _ _ ?_
 have k := hc.world (w' := w') (Fz' := Fz') (X := F) hb.os hb.tape hb.output hb.size (fun b hb' _ => ⟨hb.block b hb', fun o ho => (hz1 b o hb').1 ho⟩)
  (fun b o ho => ⟨(hz1 b o (hc.fzl b o ho)).2 ho, World.cell?_of_block (hb.block b (hc.fzl b o ho))⟩) hz2 (fun b hb' => .inr (hF b hb')) hn
 exact ⟨φ, Fz', _, k.push (i := d) (rv := r) (v := v) (F := F) (X := []) hd (hv φ) (fun b hb => by simpa using hb) (by simpa using hn)⟩
def ek {f : FuncId} {fn : Func} {c : Code} {args rs : List (Bool × List PV)} (hf : P.funcs[f]? = some fn) (hb : fn.body = some c) (hn : args.length ≤ fn.ntmps) (hbor : ∀ q, q ∈ args → ak q.2)
  (h : ∀ (h0 : Nat → Prop) (w0 : World) (Fz0 : aj), SW P fn.ntmps h0 w0 Fz0 c (St.of ((7000, RV.glob G) :: dM 0 args) []) (kP P fn.results.toList rs)) : bI P G f args (ar rs) := by
 intro w vs Fz hz hG hrel
 refine oU hf hb hn hbor w Fz ?_ vs hz hrel
 intro a w' hc
 obtain ⟨φ, Fz', Fp, hc⟩ := hc
 have hG' : G.rel Fz' w' := G.mono hG fun b o hb => ⟨(hc.fz0 b o (hz b o hb)).2 hb, World.cell?_of_block (hc.bel.block b (hz b o hb))⟩
 have k := hc.pull 7000
 refine h _ w Fz a w' ⟨φ, Fz', _, { k with slot := fun i rv hi => ?_ }⟩
 by_cases h7 : i = 7000
 ·subst h7
  have e : (St.of ((7000, RV.glob G) :: dM 0 args) []).s 7000 = some (RV.glob G) := rfl
  rw [e] at hi
  injection hi with hi
  subst hi
  exact ⟨hG', by simp [mv]⟩
 ·have e : (St.of ((7000, RV.glob G) :: dM 0 args) []).s i = (St.of (dM 0 args) []).s i := by
   simp [St.of, lk, beq_eq, h7]
  rw [e] at hi
  exact k.slot i rv (by rw [St.set_s, if_neg h7]; exact hi)
end
section
variable {P : Program} {G : eR} {f : FuncId}
def Ac {w w' : World} (h : ∃ k os, w' = Sort.grow (w.drewN k) os) : Below w.heap.size w w' := by
 obtain ⟨k, os, rfl⟩ := h
 exact ⟨rfl, rfl, rfl, by simp [Sort.grow, World.drewN], fun b hb => by simp [Sort.grow, World.drewN, Array.getElem?_append_left hb]⟩
def mH {w w' : World} {Fz : aj} {s : ab} (hz : ∀ b o, Fz b o → b < w.heap.size) (hb : Below w.heap.size w w') : ∃ v Fz' F, Ending.returned (.string (B s)) = .returned v ∧ Below w.heap.size w w' ∧
  (∀ b o, b < w.heap.size → (Fz' b o ↔ Fz b o)) ∧ (∀ b o, Fz' b o → b < w'.heap.size) ∧ (∀ φ, (RV.str s).holds φ Fz' w' v F) ∧ F.Nodup ∧ ∀ b, b ∈ F → w.heap.size ≤ b ∧ b < w'.heap.size :=
 ⟨_, Fz, [], rfl, hb, fun _ _ _ => Iff.rfl, fun b o h => Nat.lt_of_lt_of_le (hz b o h) hb.size, fun _ => aL.of_sc rfl, List.nodup_nil, fun b hb => by simp at hb⟩
def dL.sc {v x : Value} {Fz : aj} {w : World} (h : dL false [PV.val x] Fz w v) : v = x := (aL.sc ⟨h.1, (ak.cons (PV.bor_val _) ak.nil).own h.2⟩).1
def dL.sl {v : Value} {es : List (List PV)} {Fz : aj} {w : World} (h : dL false [PV.sl .v es] Fz w v) : gA es Fz w v :=
 (aL.atom (p := PV.sl .v es) ⟨h.1, (ak.cons (PV.bor_sl _) ak.nil).own h.2⟩).1
def Ad (tab : ∀ {Fz w}, G.rel Fz w → Lib.TabIs P w "internal/strconv.uint64pow10" .u64 Lib.pow10Tab)
  (c : ∀ (n : Int), -9223372036854775808 ≤ n → n ≤ 9223372036854775807 → ∀ (w : World), Lib.TabIs P w "internal/strconv.uint64pow10" .u64 Lib.pow10Tab → Calls P f #[.int .i64 n] w fun e w' => e = .returned (.string ⟨(Lib.itoa n).toArray⟩) ∧ ∃ k os, w' = Sort.grow (w.drewN k) os)
  {n : Int} (hn : aq n) : bI P G f [(false, [PV.val (vI n)])] (ar [(false, [PV.val (.string (B (Lib.itoa n)))])]) := by
 intro w vs Fz hz hG hr
 obtain ⟨v, vs', rfl, h1, rfl⟩ := hr
 have e : v = vI n := dL.sc h1
 subst e
 refine (c n hn.1 hn.2 w (tab hG)).mono ?_
 rintro e w' ⟨rfl, hw⟩
 exact mH hz (Ac hw)
def cO (xs : List ab) (sep : ab) : ab := Lib.join xs sep
def Ae {e : ab → List PV} (he : ∀ x, e x = [PV.val (.string (B x))])
  (c0 : ∀ (a : Option Addr) (c : Nat) (sep : ByteArray) (w : World), Calls P f #[.slice a 0 c, .string sep] w fun e w' => e = .returned (.string ⟨#[]⟩) ∧ w' = w)
  (c : ∀ (bk o c : Nat) (xs : List ByteArray) (sep : ByteArray) (w : World), (∀ (j : Nat) x, xs[j]? = some x → w.cell? ⟨bk, o + j, none⟩ = some (.string x)) → bk < w.heap.size → xs.length ≤ 140737488355328 → xs.length ≤ c → (Lib.join (xs.map (·.data.toList)) sep.data.toList).length ≤ 140737488355328 →
   Calls P f #[.slice (some ⟨bk, o, none⟩) xs.length c, .string sep] w fun e w' => e = .returned (.string ⟨(Lib.join (xs.map (·.data.toList)) sep.data.toList).toArray⟩) ∧ Below w.heap.size w w')
  {xs : List ab} {sep : ab} (hx : xs.length ≤ 140737488355328) (hl : (cO xs sep).length ≤ 140737488355328) : aD P f [(false, [PV.sl .v (xs.map e)]), (false, [PV.val (.string (B sep))])] (ar [(false, [PV.val (.string (B (cO xs sep)))])]) := by
 intro w vs Fz hz hr
 obtain ⟨v, vs', rfl, h1, v2, vs2, rfl, h2, rfl⟩ := hr
 have e2 : v2 = .string (B sep) := dL.sc h2
 subst e2
 obtain ⟨ad, cp, e', u, rfl, k1, k2, k3, k4, k5⟩ := dL.sl h1
 have em : (xs.map B).map (·.data.toList) = xs := by rw [List.map_map]; exact List.map_id _
 rw [bc] at k1 k4 ⊢
 rcases k4 with k4 | ⟨b, off, rfl, k4⟩
 ·have hx : xs = [] := by simpa using k4
  subst hx
  refine (c0 ad cp (B sep) w).mono ?_
  rintro e w' ⟨rfl, rfl⟩
  exact mH (s := []) hz (Below.refl _ _)
 ·have hc : ∀ (j : Nat) x, (xs.map B)[j]? = some x → w.cell? ⟨b, off + j, none⟩ = some (.string x) ∧ Fz b (off + j) := by
   intro j x hj
   rw [List.getElem?_map, Option.map_eq_some_iff] at hj
   obtain ⟨y, hy, rfl⟩ := hj
   have hlt : j < xs.length := (List.getElem?_eq_some_iff.1 hy).1
   have hm : (xs.map e)[j]? = some [PV.val (.string (B y))] := by rw [List.getElem?_map, hy, ← he]; rfl
   have he1 : e' = 1 := (k3 _ (List.mem_of_getElem? hm)).symm
   subst he1
   have hu := (k5 j _ 0 _ hm rfl).1
   have := k4 j 0 hlt (by decide)
   rw [hu] at this
   simpa using this.symm
  by_cases h0 : xs = []
  ·subst h0
   refine (c0 (some ⟨b, off, none⟩) cp (B sep) w).mono ?_
   rintro e w' ⟨rfl, rfl⟩
   exact mH (s := []) hz (Below.refl _ _)
  ·have hlt : 0 < xs.length := List.length_pos_iff.2 h0
   have hb : b < w.heap.size := hz b _ (hc 0 (B (xs[0])) (by simp [hlt])).2
   have := c b off cp (xs.map B) (B sep) w (fun j x hj => (hc j x hj).1) hb (by simpa using hx) (by simpa using k1) (by rw [em]; exact hl)
   rw [em, bc] at this
   refine this.mono ?_
   rintro e w' ⟨rfl, hw⟩
   exact mH hz hw
def Af {Fz Fz' : aj} {w w' : World} {g : Nat} {nm : String} {k : IntKind} {zs : List Int} (hg : P.globalNamed nm = some g) (hz : 0 < zs.length) (h : (∀ o, Fz g o) ∧ Lib.TabIs P w nm k zs) (hk : cm Fz w Fz' w') : (∀ o, Fz' g o) ∧ Lib.TabIs P w' nm k zs := by
 refine ⟨fun o => (hk g o (h.1 o)).1, ?_⟩
 have hc : ∀ o, w'.cell? ⟨g, o, none⟩ = w.cell? ⟨g, o, none⟩ := fun o => (hk g o (h.1 o)).2
 have h2 := h.2
 unfold Lib.TabIs World.var? at h2 ⊢
 rw [hg] at h2 ⊢
 simp only [Option.bind_some] at h2 ⊢
 cases hw : w.heap[g]? with
 | none => rw [hw] at h2; cases h2
 | some o =>
  cases o with
  | cells cs t fr =>
   rw [hw] at h2
   injection h2 with h2
   have hc1 : ∀ o, w.cell? ⟨g, o, none⟩ = cs[o]? := fun o => by simp [World.cell?, hw]
   have h0 : (w'.cell? ⟨g, 0, none⟩).isSome = true := by rw [hc, hc1, h2]; simp [hz]
   cases hw' : w'.heap[g]? with
   | none => simp [World.cell?, hw'] at h0
   | some o' =>
    cases o' with
    | cells cs' t' fr' =>
     have hc2 : ∀ o, w'.cell? ⟨g, o, none⟩ = cs'[o]? := fun o => by simp [World.cell?, hw']
     rw [← h2]
     show some cs' = some cs
     congr 1
     apply Array.ext_getElem?
     intro i
     rw [← hc2, hc, hc1]
    | _ => simp [World.cell?, hw'] at h0
  | _ => rw [hw] at h2; cases h2
def to (P : Program) (g : Nat) (hg : P.globalNamed "internal/strconv.uint64pow10" = some g) : eR where
 rel Fz w := (∀ o, Fz g o) ∧ Lib.TabIs P w "internal/strconv.uint64pow10" .u64 Lib.pow10Tab
 mono h k := Af hg (by decide) h k
end
end
end Go.Proofs.YtmekkgdboplbjaaGreatDoor.M
namespace Go.Proofs.YtmekkgdboplbjaaGreatDoor.M
open Go Go.RowKit Go.ChangeShapes Go.WideShapes
section
section
variable {H : Type} {enc : TypeId × Value → H} {P : Program} {W W' : World}
def tp {sp : Nat → Bool} (hl : laidOutB P = true) (hsame : ∀ p : MemPlace, p.block < W.heap.size → W.sameAt W' p) : ∀ {ts : List TypeId} {vs : List Value} {ds : List (DataW H)} {ps : List MemPlace}, (ts.all fun t => P.readableRec t && Nat.blt t P.types.size) = true →
  DataW.TrodAll enc P W 0 (fun _ => true) true ts vs ds ps → (∀ p ∈ ps, p.block < W.heap.size) → (∀ p ∈ ps, sp p.block = true) → DataW.TrodAll enc P W' 0 sp true ts vs ds ps
 | [], vs, ds, ps, _, h, _, _ => by
  obtain ⟨rfl, rfl, rfl⟩ := trodAll_nil h
  exact trodAll_mk0
 | t :: ts, vs, ds, ps, ht, h, hlt, hs => by
  obtain ⟨v, vs', d, ds', p, q, rfl, rfl, rfl, h1, h2⟩ := trodAll_cons h
  rw [List.all_cons, bK, bK, Nat.blt_eq] at ht
  exact trodAll_cons_mk (WideElems.Trod_stays hl ht.1.1 ht.1.2 h1 (fun x hx => hsame x (hlt x (by simp [hx]))) (fun x hx => hs x (by simp [hx])))
   (tp hl hsame ht.2 h2 (fun x hx => hlt x (by simp [hx])) (fun x hx => hs x (by simp [hx])))
def Ag {f : Func} {s : ChangeSpec} {args : Array Value} {ds gs : List (DataW H)} {before : List MemPlace} {k : FuncId} {bt : TypeId} (hl : laidOutB P = true) (hr : (f.params.toList.all fun t => P.readableRec t && Nat.blt t P.types.size) = true)
  (hW : DataW.Whole enc P f.params.toList s.vars false W args.toList ds gs before) (hv : s.vars = []) (hrt : f.resultTypes = #[bt]) (hbt : P.underlying bt = some .bool) (hfn : s.fn H (ds ++ gs) = { results := [.lit (.bool true)], args := ds })
  (hcall : Calls P k args W fun e w' => e = .returned (.bool true) ∧ Below W.heap.size W w') :
  Calls P k args W fun e W' => ∃ v, e = .returned v ∧ s.post enc P f false true false false W args v W' := by
 refine hcall.mono fun e W' ⟨he, hb⟩ => ⟨_, he, ?_⟩
 have hlt : ∀ p ∈ before, p.block < W.heap.size := fun p hp => hW.lt p hp
 have hW' := hW
 obtain ⟨pa, q, hA, hV, rfl, hz, hn⟩ := hW
 rw [hv] at hV
 obtain ⟨rfl, rfl⟩ := trodVars_none hV
 have hres : ∀ (b : Nat) (sp : Nat → Bool) (hd : Bool), DataW.TrodAll enc P W' b sp hd f.resultTypes.toList ((Value.bool true).resultList f.resultTypes.size) (s.fn H (ds ++ [])).results [] := by
  intro b sp hd
  rw [hfn, hrt]
  exact trodAll_cons_mk (p' := []) (shut_bool hbt _) trodAll_mk0
 have hargs : ∀ sp : Nat → Bool, (∀ p ∈ pa ++ [], sp p.block = true) → DataW.TrodAll enc P W' 0 sp true f.params.toList args.toList (s.fn H (ds ++ [])).args pa := by
  intro sp hs
  rw [hfn]
  exact tp hl (fun p hp => hb.same hp) hr hA (fun p hp => hlt p (by simp [hp])) (fun p hp => hs p (by simp [hp]))
 have hvars : ∀ sp : Nat → Bool, DataW.TrodVars enc P W' sp s.vars (s.fn H (ds ++ [])).vars [] := by
  intro sp
  rw [hfn, hv]
  exact rfl
 have hold : ∀ p ∈ pa ++ [], (fun b => decide (b < W.heap.size)) p.block = true := fun p hp => by simpa using hlt p hp
 have hok : ∀ (j : Nat) (t : TypeId) (r : Value), f.resultTypes[j]? = some t → ((Value.bool true).resultList f.resultTypes.size)[j]? = some r → Value.okWide P W' .any 0 t r := ok_one hrt rfl (okWide_bool_mk hbt _)
 refine ⟨ds, [], pa ++ [], [], pa, [], hW', hres _ _ _, hargs _ hold, hvars _, World.keptBut_mono (fun p hp => ⟨hp, ?_⟩) (hb.frame (· ∈ pa ++ [])), fun h => by cases h⟩
 simpa using hp
def jY (w : World) : aj := fun b _ => b < w.heap.size
def mI (P : Program) (T : TypeId) {α : Type} (f : α → List PV) (g : α → Prop) : Prop :=
 ∀ {H : Type} (enc : TypeId × Value → H) (w : World) (sp : Nat → Bool) (held : Bool) (n : Nat) (cs : List Value) (x : DataW H × List MemPlace), DataW.trod enc P w 0 sp held n T cs = some x → ∃ a, aY (f a) (jY w) w cs ∧ g a
def Ah {T : TypeId} (h : P.underlying T = some .string) : mI P T (fun n : ByteArray => [PV.val (.string n)]) fun _ => True := by
 intro H enc w sp held n cs x hx
 obtain ⟨m, rfl, _⟩ := DataW.trod_string h hx
 exact ⟨m, ⟨_, [], rfl, ⟨rfl, rfl⟩, rfl⟩, True.intro⟩
def Ai {T : TypeId} {ag : Bool} {k : Nat} {α : Type} {f : α → List PV} {g : α → Prop} (hT : cB P T = some (ag, k)) (hs : mI P T f g) {w : World} {r : Reach} {b0 : Nat} {v : Value} {d : DataW H} {ps : List MemPlace} (hval : Value.okWide P w r b0 T v) (h : DataW.Trod enc P w 0 (fun _ => true) true T v d ps) :
  ∃ a, dL ag (f a) (jY w) w v ∧ g a := by
 obtain ⟨n, hn⟩ := h
 obtain ⟨a, ha, hg⟩ := hs enc w _ _ n _ _ hn
 refine ⟨a, ⟨?_, ha⟩, hg⟩
 unfold cB at hT
 cases hu : P.underlying T with
 | none => rw [hu] at hT; cases hT
 | some dd =>
  cases hi : P.info? T with
  | none => rw [hu, hi] at hT; cases hT
  | some i =>
   rw [hu, hi] at hT
   simp only [Option.some.injEq, Prod.mk.injEq] at hT
   obtain ⟨hT, _⟩ := hT
   unfold Value.okWide at hval
   rw [hu] at hval
   cases dd <;> simp only at hT hval <;> subst hT <;> first
    | (obtain ⟨cs, rfl, _⟩ := hval; rfl)
    | (cases v <;> first | rfl | (simp [Cell.okWide, Cell.ok, hu] at hval))
end
end
end Go.Proofs.YtmekkgdboplbjaaGreatDoor.M
namespace Go.Proofs.YtmekkgdboplbjaaGreatDoor.M
open Go Go.RowKit
section
section
variable {P : Program} {n d : Nat} {ty : TypeId} {pos : String} {af : Array Edge} {g : Option (Nat × Bool)} {G : eR}
def gL {f : Nat} {args : Array Operand} {tys : Array TypeId} {r : RV} (qs as_ : List (Bool × List PV)) (hf : aw P f = true) (hok : fN args.toList qs := by repeat' (first | exact True.intro | exact aC rfl | exact sk | apply And.intro))
  (hto : eP qs as_ := by repeat' (first | exact True.intro | exact rfl | exact PV.To.refl _ | exact PV.to_none | apply And.intro)) (hs : bI P G f as_ r) (hd : d < n := by decide) : Loc P n ⟨some d, .call { callee := .value (.func f), args := args, argTypes := tys }, ty, pos, af, g⟩ ⟨(7000, RV.glob G) :: eO args.toList qs, [], [(d, some r)], [], none⟩ := Ab hd hf hok hto hs
end
def Aj {P : Program} {T : TypeId} (h : P.underlying T = some .string) : mI P T (fun s : ab => [PV.val (.string (B s))]) fun _ => True := by
 intro H enc w sp held n cs x hx
 obtain ⟨s, h1, h2⟩ := Ah h enc w sp held n cs x hx
 exact ⟨s.data.toList, h1, h2⟩
def Ak {P : Program} {G : eR} {W : World} {f : FuncId} {vs : List Value} {qs : List (Bool × List PV)} (hs : bI P G f qs (ar [(false, [PV.val (.bool true)])])) (hG : G.rel (jY W) W) (hr : cr qs (jY W) W vs) : Calls P f vs.toArray W fun e w' => e = .returned (.bool true) ∧ Below W.heap.size W w' :=
 (hs W vs (jY W) (fun _ _ h => h) hG hr).mono fun e w' ⟨v, Fz', F, he, hb, _, _, hv, _⟩ => ⟨by rw [he, (aL.sc (hv fun _ => 0)).1], hb⟩
end
section
section
variable {h0 : Nat → Prop} {n : Nat} {w0 w : World} {Fz0 Fz : aj} {σ : St} {a : Act} {φ : Nat → Nat} {Fp : Nat → List Nat} {P : Program} {c : Code} {Q : Exit → St → Prop}
end
end
end Go.Proofs.YtmekkgdboplbjaaGreatDoor.M
namespace Go.Proofs.YtmekkgdboplbjaaGreatDoor.M
open Go
section
inductive cw (s : Nat → Option RV) : List Nat → List (Nat × RV) → Prop
 | nil : cw s [] []
 | cons {k : Nat} {v : RV} {ks : List Nat} {l : List (Nat × RV)} (h : s k = some v) (t : cw s ks l) : cw s (k :: ks) ((k, v) :: l)
def cw.rd {s : Nat → Option RV} {ks : List Nat} {l : List (Nat × RV)} (h : cw s ks l) : au l s := by
 induction h with
 | nil => exact True.intro
 | cons h _ ih => exact And.intro h ih
inductive dD (b : Nat → Option (Nat × List PV)) : List Nat → List (Nat × (Nat × List PV)) → Prop
 | nil : dD b [] []
 | cons {k : Nat} {v : Nat × List PV} {ks : List Nat} {l : List (Nat × (Nat × List PV))} (h : b k = some v) (t : dD b ks l) : dD b (k :: ks) ((k, v) :: l)
def dD.rd {b : Nat → Option (Nat × List PV)} {ks : List Nat} {l : List (Nat × (Nat × List PV))} (h : dD b ks l) : au l b := by
 induction h with
 | nil => exact True.intro
 | cons h _ ih => exact And.intro h ih
def qq : (∀ {p : Prop} [Decidable p], (decide p = true) = p) ∧ (∀ {p : Prop} [Decidable p], decide p = false ↔ ¬ p) ∧ (∀ {α : Type} [BEq α] [LawfulBEq α] {a b : α}, (a != b) = true ↔ a ≠ b) ∧ (∀ {α : Type} [BEq α] [LawfulBEq α] {a b : α}, (a == b) = true ↔ a = b) ∧ (∀ {b : Bool}, ((!b) = true) = (b = false)) ∧ (∀ {b : Bool}, ((!b) = false) = (b = true)) ∧ (∀ {α : Type} {a b : α}, (a ≠ b) = ¬ a = b) ∧ (∀ {α : Type} [BEq α] [LawfulBEq α] {a b : α}, (a != b) = false ↔ a = b) ∧ (∀ {α : Type} [BEq α] [LawfulBEq α] {a b : α}, (a == b) = false ↔ a ≠ b) :=
 ⟨q1, q2, q3, q4, q5, q6, q7, q8, q9⟩
def tq {L : Nat → Prop} {a b : List PV} (h : aB L a) (k : aB L b) : aB L (List.append a b) := aB.app h k
def lc {G : Prop} (h : G := by repeat' (first | with_reducible (first | exact fj.nil | exact aB.nil | exact aB.vals | exact PV.lcl_val | exact PV.lcl_any | exact RV.lcl_hdr | exact RV.lcl_ptr | exact RV.lcl_gat | exact RV.lcl_phi | apply fj.cons | apply aB.cons | apply RV.lcl_nm | apply RV.lcl_sv | apply RV.lcl_gh | apply PV.lcl_nv | apply PV.lcl_own | apply aB.flat | apply aB.app | apply tq | refine aB.map fun _ => ?_) | apply aB.cons | apply fj.cons | exact aB.nil | refine aB.map fun _ => ?_)) : G := h
def aI {a b : Prop} (x : a) (y : b) : a ∧ b := ⟨x, y⟩
def tI : True := True.intro
def nl {a b : Nat} (h : Nat.ble a b = true) : a ≤ b := Nat.le_of_ble_eq_true h
section
variable {P : Program} {n : Nat} {h0 : Nat → Prop} {w0 : World} {Fz0 : aj} {c x y : Code} {σ : St} {Q : Exit → St → Prop}
def sP (ks bs : List Nat) {l : List (Nat × RV)} {b : List (Nat × (Nat × List PV))} (h : SW P n h0 w0 Fz0 c (St.of l b) Q) (hl : cw σ.s ks l := by repeat (first | exact cw.nil | apply cw.cons rfl)) (hb : dD σ.b bs b := by repeat (first | exact dD.nil | apply dD.cons rfl)) : SW P n h0 w0 Fz0 c σ Q := sO l b h hl.rd hb.rd
def sS {id : Nat} {ops : Array Oper} (ks bs : List Nat) {l : List (Nat × RV)} {b : List (Nat × (Nat × List PV))} (h : ai P n ops (fun τ => jQ (fun τ => SW P n h0 w0 Fz0 y τ Q) Q .normal τ) ops.toList (St.of l b)) (hl : cw σ.s ks l := by repeat (first | exact cw.nil | apply cw.cons rfl)) (hb : dD σ.b bs b := by repeat (first | exact dD.nil | apply dD.cons rfl)) : SW P n h0 w0 Fz0 (.seq (.region id ops false) y) σ Q := aT (sO l b (cd h) hl.rd hb.rd)
def sG {id : Nat} {ops : Array Oper} (ks bs : List Nat) {l : List (Nat × RV)} {b : List (Nat × (Nat × List PV))} (h : ai P n ops (fun τ => Q .normal τ) ops.toList (St.of l b)) (hl : cw σ.s ks l := by repeat (first | exact cw.nil | apply cw.cons rfl)) (hb : dD σ.b bs b := by repeat (first | exact dD.nil | apply dD.cons rfl)) : SW P n h0 w0 Fz0 (.region id ops false) σ Q := sO l b (cd h) hl.rd hb.rd
def sL {ι : Type} (ks bs : List Nat) (I : ι → Prop) {l0 : List (Nat × RV)} {b0 : List (Nat × (Nat × List PV))} (l : ι → List (Nat × RV)) (b : ι → List (Nat × (Nat × List PV))) (m : ι → Nat) (i0 : ι) (h0' : I i0) (hl : au (l i0) σ.s) (hb : au (b i0) σ.b)
  (round : ∀ i, I i → SW P n h0 w0 Fz0 c (St.of (l0 ++ l i) (b0 ++ b i)) (jQ (fun τ => ∃ j, I j ∧ m j < m i ∧ (au l0 τ.s ∧ au b0 τ.b) ∧ au (l j) τ.s ∧ au (b j) τ.b) Q)) (hl0 : cw σ.s ks l0 := by repeat (first | exact cw.nil | apply cw.cons rfl)) (hb0 : dD σ.b bs b0 := by repeat (first | exact dD.nil | apply dD.cons rfl)) : SW P n h0 w0 Fz0 (.loop c) σ Q := zz I l b m i0 h0' hl0.rd hb0.rd hl hb round
def sR {id : Nat} {ops : Array Oper} (h : ai P n ops (fun τ => jQ (fun τ => SW P n h0 w0 Fz0 y τ Q) Q .normal τ) ops.toList σ) : SW P n h0 w0 Fz0 (.seq (.region id ops false) y) σ Q := aT (cd h)
end
section
variable {P : Program} {n : Nat} {ops : Array Oper} {σ : St} {QS : St → Prop} {l : List Oper} {d x : Nat} {ty : TypeId} {pos : String} {af : Array Edge}
def rM {v : Value} (y : ai P n ops QS l (σ.app ⟨[(x, RV.sc v)], [], [(d, some (RV.sc v))], [], none⟩)) (h1 : au [(x, RV.sc v)] σ.s := by repeat (first | exact True.intro | refine And.intro rfl ?_)) (hd : d < n := by decide) : ai P n ops QS (⟨some d, .move (.tmp x), ty, pos, af, none⟩ :: l) σ := rA y h1 True.intro (sM hd) rfl rfl
def rS {v : Value} (y : ai P n ops QS l (σ.app ⟨[(x, RV.sc v)], [], [(d, some (RV.sc v))], [], none⟩)) (h1 : au [(x, RV.sc v)] σ.s := by repeat (first | exact True.intro | refine And.intro rfl ?_)) (hd : d < n := by decide) : ai P n ops QS (⟨some d, .assign (.tmp x), ty, pos, af, none⟩ :: l) σ := rA y h1 True.intro (sA hd) rfl rfl
def rK {v : Value} (y : ai P n ops QS l (σ.app ⟨[], [], [(d, some (RV.sc v))], [], none⟩)) (h : v.oneCell' = true := by exact rfl) (hd : d < n := by decide) : ai P n ops QS (⟨some d, .assign (.const v), ty, pos, af, none⟩ :: l) σ := rA y True.intro True.intro (kA h hd) rfl rfl
end
end
end Go.Proofs.YtmekkgdboplbjaaGreatDoor.M
namespace Go.Proofs.YtmekkgdboplbjaaGreatDoor.M
open Go Go.RowKit
section
inductive el : List PV → List PV → Prop
 | nil : el [] []
 | val {v : Value} {l m : List PV} (h : el l m) : el (PV.val v :: l) (PV.val v :: m)
 | sl {o : Fl} {es : List (List PV)} {l m : List PV} (h : el l m) : el (PV.sl o es :: l) (PV.sl o es :: m)
def el.eq {l m : List PV} (h : el l m) : l = m := by
 induction h with
 | nil => rfl
 | val _ ih => rw [ih]
 | sl _ ih => rw [ih]
inductive ea (b : Nat → Option (Nat × List PV)) : List Nat → List (Nat × (Nat × List PV)) → Prop
 | nil : ea b [] []
 | cons {k T : Nat} {cs ds : List PV} {ks : List Nat} {l : List (Nat × (Nat × List PV))} (h : b k = some (T, cs)) (e : el cs ds) (t : ea b ks l) : ea b (k :: ks) ((k, (T, ds)) :: l)
 | any {k T : Nat} {cs : List PV} {ks : List Nat} {l : List (Nat × (Nat × List PV))} (h : b k = some (T, cs)) (t : ea b ks l) : ea b (k :: ks) ((k, (T, cs)) :: l)
def ea.rd {b : Nat → Option (Nat × List PV)} {ks : List Nat} {l : List (Nat × (Nat × List PV))} (h : ea b ks l) : au l b := by
 induction h with
 | nil => exact True.intro
 | cons h e _ ih => exact And.intro (e.eq ▸ h) ih
 | any h _ ih => exact And.intro h ih
section
variable {P : Program} {n : Nat} {h0 : Nat → Prop} {w0 : World} {Fz0 : aj} {c x y : Code} {σ : St} {Q : Exit → St → Prop}
def sQ (ks bs : List Nat) {l : List (Nat × RV)} {b : List (Nat × (Nat × List PV))} (h : SW P n h0 w0 Fz0 c (St.of l b) Q) (hl : cw σ.s ks l := by repeat (first | exact cw.nil | apply cw.cons rfl)) (hb : ea σ.b bs b := by repeat (first | exact ea.nil | refine ea.cons rfl (by repeat (first | exact el.nil | apply el.val | apply el.sl)) ?_ | apply ea.any rfl)) : SW P n h0 w0 Fz0 c σ Q := sO l b h hl.rd hb.rd
def sT {id : Nat} {ops : Array Oper} (ks bs : List Nat) {l : List (Nat × RV)} {b : List (Nat × (Nat × List PV))} (h : ai P n ops (fun τ => jQ (fun τ => SW P n h0 w0 Fz0 y τ Q) Q .normal τ) ops.toList (St.of l b)) (hl : cw σ.s ks l := by repeat (first | exact cw.nil | apply cw.cons rfl)) (hb : ea σ.b bs b := by repeat (first | exact ea.nil | refine ea.cons rfl (by repeat (first | exact el.nil | apply el.val | apply el.sl)) ?_ | apply ea.any rfl)) : SW P n h0 w0 Fz0 (.seq (.region id ops false) y) σ Q := aT (sO l b (cd h) hl.rd hb.rd)
def nx {ι : Type} {I : ι → Prop} {m : ι → Nat} {M : Nat} {C D : Prop} {E F : ι → Prop} (j : ι) (a : I j) (b : m j < M := by first | omega | (dsimp only; omega)) (c : C := by repeat (first | exact True.intro | refine And.intro rfl ?_)) (d : D := by repeat (first | exact True.intro | refine And.intro rfl ?_)) (e : E j := by repeat (first | exact True.intro | refine And.intro rfl ?_)) (f : F j := by repeat (first | exact True.intro | refine And.intro rfl ?_)) : ∃ j, I j ∧ m j < M ∧ (C ∧ D) ∧ E j ∧ F j := ⟨j, a, b, ⟨c, d⟩, e, f⟩
def sF {f : FuncId} {fn : Func} {c : Code} {args rs : List (Bool × List PV)} (hf : P.funcs[f]? = some fn) (h : ∀ (h0 : Nat → Prop) (w0 : World) (Fz0 : aj), SW P fn.ntmps h0 w0 Fz0 c (St.of (dM 0 args) []) (kP P fn.results.toList rs)) (hb : fn.body = some c := by exact rfl) (hn : args.length ≤ fn.ntmps := by exact Nat.le_of_ble_eq_true rfl)
  (hbor : mu args := by repeat (first | with_reducible exact cN | with_reducible refine cD (by repeat (first | with_reducible exact ak.nil | with_reducible refine ak.cons (PV.bor_val _) ?_ | with_reducible refine ak.cons (PV.bor_sl _) ?_ | with_reducible refine ak.cons (PV.bor_lo _ _) ?_)) ?_)) : aD P f args (ar rs) := zB hf hb hn hbor h
def sn (s j : Nat) {ag : Bool} {cs : List PV} {o : Fl} {es : List (List PV)} {m : Nat} (h : m ≤ 9223372036854775807 → SW P n h0 w0 Fz0 c σ Q) (hs : σ.s s = some (RV.sv ag cs) := by exact rfl) (hj : cs[j]? = some (PV.sl o es) := by exact rfl) (hm : es.length = m := by first | exact bc _ | exact rfl) : SW P n h0 w0 Fz0 c σ Q := zE hs hj fun k => h (hm ▸ k)
def sj (s : Nat) {o : Fl} {es : List (List PV)} {m : Nat} (h : m ≤ 9223372036854775807 → SW P n h0 w0 Fz0 c σ Q) (hs : σ.s s = some (RV.slc o es) := by exact rfl) (hm : es.length = m := by first | exact bc _ | exact rfl) : SW P n h0 w0 Fz0 c σ Q := zA hs fun k => h (hm ▸ k)
def sc {t : Nat} {b : Bool} {A B : Prop} (h1 : A → SW P n h0 w0 Fz0 x σ Q) (h2 : B → SW P n h0 w0 Fz0 y σ Q) (ht : σ.s t = some (RV.bool b) := by exact rfl) (u1 : b = true → A := by first | (intro h; simp only [qq] at h; exact h) | exact id) (u2 : b = false → B := by first | (intro h; simp only [qq] at h; exact h) | exact id) : SW P n h0 w0 Fz0 (.cond (.tmp t) x y) σ Q := oS ht (fun k => h1 (u1 k)) (fun k => h2 (u2 k))
def bY {t : Nat} (h1 : SW P n h0 w0 Fz0 x σ Q) (ht : σ.s t = some (RV.bool true) := by exact rfl) : SW P n h0 w0 Fz0 (.cond (.tmp t) x y) σ Q := oS ht (fun _ => h1) (fun k => nomatch k)
def iY {t : Nat} (h1 : SW P n h0 w0 Fz0 y σ Q) (ht : σ.s t = some (RV.bool false) := by exact rfl) : SW P n h0 w0 Fz0 (.cond (.tmp t) x y) σ Q := oS ht (fun k => nomatch k) (fun _ => h1)
end
section
variable {P : Program} {n : Nat} {ops : Array Oper} {σ σ0 : St} {QS : St → Prop} {l : List Oper} {o : Oper} {acc : List (Nat × av)} {C : Nat → av → Prop}
def cx (s : Nat) {b : Bool} {A B : Prop} (h1 : b = true → A → ai P n ops QS l σ) (h2 : b = false → B → ai P n ops QS l σ) (ht : σ.s s = some (RV.bool b) := by exact rfl) (u1 : b = true → A := by first | (intro h; simp only [qq] at h; exact h) | exact id) (u2 : b = false → B := by first | (intro h; simp only [qq] at h; exact h) | exact id) : ai P n ops QS l σ := ai.cases ht (fun k => h1 k (u1 k)) (fun k => h2 k (u2 k))
def dx (s : Nat) {b : Bool} {A B : Prop} (h1 : b = true → A → bz P n ops σ0 C QS l acc σ) (h2 : b = false → B → bz P n ops σ0 C QS l acc σ) (ht : σ.s s = some (RV.bool b) := by exact rfl) (u1 : b = true → A := by first | (intro h; simp only [qq] at h; exact h) | exact id) (u2 : b = false → B := by first | (intro h; simp only [qq] at h; exact h) | exact id) : bz P n ops σ0 C QS l acc σ := bz.cases ht (fun k => h1 k (u1 k)) (fun k => h2 k (u2 k))
inductive Hd (H : Prop) : Prop
 | mk (h : H) : Hd H
def Hd.g {H : Prop} : Hd H → H := fun x => by cases x with | mk h => exact h
abbrev ae (G H : Prop) := Hd H → G
def ah {G H : Prop} (w : ae G H) (h : H) : G := w ⟨h⟩
def zt {c : Bool} {G H : Prop} (g : c = true) (h : H) (w : c = true → Hd H → G := by intro g_ h_; (repeat (first | refine ai.s0t g_ ?_ | refine ai.su ?_)); exact h_.g) : G := w g ⟨h⟩
def zf {c : Bool} {G H : Prop} (g : c = false) (h : H) (w : c = false → Hd H → G := by intro g_ h_; (repeat (first | refine ai.s0f g_ ?_ | refine ai.su ?_)); exact h_.g) : G := w g ⟨h⟩
def rX {L : av} (y : ai P n ops QS l (σ.app L)) (h1 : au L.rs σ.s := by repeat (first | exact True.intro | refine And.intro rfl ?_)) (h2 : au L.rb σ.b := by repeat (first | exact True.intro | refine And.intro rfl ?_)) (x : Loc P n o L) (hg : o.guard = none := by exact rfl) (ha : ∀ d, L.al = some d → cJ d σ := by refine sH ?_; repeat (first | exact cJ.of_ rfl | refine cJ.app ?_ rfl)) : ai P n ops QS (o :: l) σ := ai.step h1 h2 (aN.of hg x) ha y
end
def rb {b c : Bool} (h : b = c) : some (RV.bool b) = some (RV.bool c) ∧ True := ⟨dN h, True.intro⟩
def Al {L : Nat → Prop} : ∀ cs, cs ∈ ([] : List (List PV)) → aB L cs := fun _ h => nomatch h
def Am {L : Nat → Prop} : ∀ cs, cs ∈ ([] : List (List PV)) → dO L cs := fun _ h => nomatch h
def lq {G : Prop} (h : G := by repeat' (first | with_reducible (first | exact aB.nil | exact aB.vals | exact dO.nil | exact PV.lcl_val | exact PV.lclr_val | exact PV.lcl_any | exact RV.lcl_hdr | exact RV.lcl_ptr | exact RV.lcl_gat | exact RV.lcl_phi | exact ak.nil | exact PV.bor_val _ | exact PV.bor_sl _ | exact PV.bor_lo _ _ | exact PV.bor_any | exact PV.bor_clo _ _ | exact PV.bor_ep _ | apply PV.bor_nv | exact cN | exact bR.nil | exact PV.tob_refl | exact ax.nil | exact OTo.refl | exact OTo.lo | apply aB.cons | apply dO.cons | apply ak.cons | apply cD | apply bR.cons | apply ax.cons | apply RV.lcl_nm | apply RV.lcl_sv | apply RV.lcl_gh | apply PV.lcl_nv | apply PV.lcl_own | apply PV.lcl_lo | apply PV.lclr_lo | apply aB.flat | apply aB.app | apply tq | refine aB.map fun _ => ?_ | refine dO.map fun _ => ?_ | refine PV.tob_map (fun _ => Nat.le_of_ble_eq_true rfl) (fun _ => ?_) | exact True.intro | exact fj.nil | apply fj.cons) | apply aB.cons | apply dO.cons | apply bR.cons | apply ak.cons | apply cD | exact aB.nil | exact dO.nil | exact bR.nil | exact ak.nil | exact cN | exact Al | exact Am | apply ax.cons | apply RV.lcl_sv | exact RV.lcl_ptr | exact True.intro | exact Or.inl rfl | (refine Or.inl ?_; simp [fO]; done) | refine Or.inr ?_ | refine And.intro rfl ?_ | refine And.intro ?_ ?_ | exact rfl | refine aB.map fun _ => ?_)) : G := h
end
section
section
variable {P : Program} {n : Nat} {h0 : Nat → Prop} {w0 : World} {Fz0 : aj} {σ : St} {Q : Exit → St → Prop} {c : Code}
end
end
section
section
variable {P : Program} {n : Nat} {h0 : Nat → Prop} {w0 : World} {Fz0 : aj} {σ : St} {Q : Exit → St → Prop} {c : Code}
end
end
section
section
variable {P : Program} {n : Nat} {h0 : Nat → Prop} {w0 : World} {Fz0 : aj} {σ : St} {Q : Exit → St → Prop} {c : Code}
def fm (gs : List PV) (us : List Value) (qs : List PV) (us' : List Value) : Prop := ∀ {Fz : aj} {w : World} {F : List Nat}, ay gs Fz w us F → ∃ F' R, ay qs Fz w us' F' ∧ F.Perm (F' ++ R)
def fm.nil {gs : List PV} {us : List Value} : fm gs us [] [] := fun {_ _ F} _ => ⟨[], F, ⟨rfl, rfl⟩, List.Perm.refl _⟩
def fm.keep {p : PV} {u : Value} {gs qs : List PV} {us us' : List Value} (h : fm gs us qs us') : fm (p :: gs) (u :: us) (p :: qs) (u :: us') := fun {Fz w F} k => by
 obtain ⟨v, vs, F1, F2, e1, rfl, h1, h2⟩ := k
 injection e1 with e1 e2
 subst e1 e2
 obtain ⟨F', R, h3, h4⟩ := h h2
 exact ⟨F1 ++ F', R, ⟨u, us', F1, F', rfl, rfl, h1, h3⟩, by rw [de]; exact rT _ h4⟩
def fm.drop {p : PV} {u : Value} {gs qs : List PV} {us us' : List Value} (h : fm gs us qs us') : fm (p :: gs) (u :: us) qs us' := fun {Fz w F} k => by
 obtain ⟨v, vs, F1, F2, e1, rfl, h1, h2⟩ := k
 injection e1 with e1 e2
 subst e1 e2
 obtain ⟨F', R, h3, h4⟩ := h h2
 refine ⟨F', F1 ++ R, h3, ?_⟩
 refine (rT F1 h4).trans ?_
 rw [← de, ← de]
 exact List.Perm.append_right _ oF
def fm.lit {x : Value} {gs qs : List PV} {us us' : List Value} (hx : x.oneCell' = true) (h : fm gs us qs us') : fm gs us (PV.val x :: qs) (x :: us') := fun {Fz w F} k => by
 obtain ⟨F', R, h3, h4⟩ := h k
 exact ⟨F', R, ⟨x, us', [], F', rfl, rfl, ⟨⟨rfl, hx⟩, rfl⟩, h3⟩, h4⟩
end
end
section
section
variable {P : Program} {n : Nat} {h0 : Nat → Prop} {w0 : World} {Fz0 : aj} {σ : St} {Q : Exit → St → Prop} {c : Code}
end
section
variable {P : Program} {n : Nat} {h0 : Nat → Prop} {w0 : World} {Fz0 : aj} {σ : St} {Q : Exit → St → Prop} {c : Code}
end
section
variable {P : Program} {n : Nat}
end
end
section
section
variable {P : Program} {n : Nat} {h0 : Nat → Prop} {w0 : World} {Fz0 : aj} {σ : St} {Q : Exit → St → Prop} {c : Code}
end
end
end Go.Proofs.YtmekkgdboplbjaaGreatDoor.M
namespace Go.Proofs.YtmekkgdboplbjaaGreatDoor.M
open Go Go.RowKit
section
section
variable {P : Program} {n : Nat} {h0 : Nat → Prop} {w0 : World} {Fz0 : aj} {σ : St} {Q : Exit → St → Prop} {c : Code}
end
section
variable {P : Program} {n : Nat} {t d s x E e bs b bt : Nat} {ty : TypeId} {pos : String} {af : Array Edge} {g : Option (Nat × Bool)} {z u : Value} {es ys : List (List PV)} {A B cs : List PV} {r : PV}
end
end
def kT := @PV.to_none
def bT := @PV.nv_val
def FT := @PV.lcl_val
def cG {o : Fl} {es : List (List PV)} {ps qs : List PV} (k : ao ps qs) : ao (PV.sl o es :: ps) (PV.sl .v es :: qs) := ao.cons PV.to_none k
end Go.Proofs.YtmekkgdboplbjaaGreatDoor.M
