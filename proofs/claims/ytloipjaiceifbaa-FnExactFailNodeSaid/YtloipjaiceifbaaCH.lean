/- Rules for calls, and for the code's shapes. No condition. -/
import Derived.Test.YtloipjaiceifbaaCG
import Derived.Deep.LoopGhost
namespace Go.Proofs.Ytloipjaiceifbaa.M
open Go Go.RowKit

section
variable {P : Program} {n : Nat} {ops : Array Oper} {h0 : Nat → Prop} {w0 : World} {Fz0 : FzT} {σ τ : St} {a : Act} {w : World} {φ : Nat → Nat} {Fz : FzT} {Fp : Nat → List Nat}

/-! ### one of several results -/
theorem OwnT.take : ∀ {l : List (Bool × List PV)} {vs : List Value} {F : List Nat} {i : Nat} {ag : Bool} {cs qs : List PV}, OwnT l Fz w vs F → l[i]? = some (ag, cs) → ToL cs qs → BorL qs → F.Nodup →
    ∃ v F1 F2, vs[i]? = some v ∧ SvOwn ag cs Fz w v F1 ∧ OwnT (l.set i (ag, qs)) Fz w vs F2 ∧ (∀ b, b ∈ F1 ++ F2 → b ∈ F) ∧ (F1 ++ F2).Nodup
  | [], _, _, i, _, _, _, _, hi, _, _, _ => by simp at hi
  | p :: l, vs, F, 0, ag, cs, qs, h, hi, ht, hb, hn => by
    obtain ⟨v, vs', F1, F2, rfl, rfl, h1, h2⟩ := h
    simp at hi
    subst hi
    exact ⟨v, F1, F2, rfl, h1, ⟨v, vs', [], F2, rfl, rfl, ⟨h1.1, hb.own (ht.rel h1.2.rel)⟩, h2⟩, fun b hb => hb, hn⟩
  | p :: l, vs, F, i + 1, ag, cs, qs, h, hi, ht, hb, hn => by
    obtain ⟨v, vs', F1, F2, rfl, rfl, h1, h2⟩ := h
    rw [List.nodup_append] at hn
    obtain ⟨u, G1, G2, e1, e2, e3, e4, e5⟩ := OwnT.take h2 (by simpa using hi) ht hb hn.2.1
    rw [List.nodup_append] at e5
    refine ⟨u, G1, F1 ++ G2, by simpa using e1, e2, ⟨v, vs', F1, G2, rfl, rfl, h1, e3⟩, fun b hb => ?_, ?_⟩
    · simp only [List.mem_append] at hb ⊢
      rcases hb with hb | hb | hb
      · exact .inr (e4 b (by simp [hb]))
      · exact .inl hb
      · exact .inr (e4 b (by simp [hb]))
    · rw [List.nodup_append, List.nodup_append]
      refine ⟨e5.1, ⟨hn.1, e5.2.1, fun x hx y hy => hn.2.2 x hx y (e4 y (by simp [hy]))⟩, fun x hx y hy e => ?_⟩
      rcases List.mem_append.1 hy with hy | hy
      · exact hn.2.2 y hy x (e4 x (by simp [hx])) e.symm
      · exact e5.2.2 x hx y hy e
theorem loc_extract {t d i : Nat} {ty : TypeId} {pos : String} {af : Array Edge} {g : Option (Nat × Bool)} {l : List (Bool × List PV)} {ag : Bool} {cs qs : List PV} (hd : d < n) (hi : l[i]? = some (ag, cs)) (ht : ToL cs qs) (hb : BorL qs) :
    Loc P n ⟨some d, .extract (.tmp t) i, ty, pos, af, g⟩ ⟨[(t, RV.tup l)], [], [(t, some (RV.tup (l.set i (ag, qs)))), (d, some (RV.sv ag cs))], [], none⟩ := by
  intro h0 w0 Fz0 σ a w K Q hc hr _ _ h5
  obtain ⟨φ, Fz, Fp, hc⟩ := hc
  obtain ⟨vs, hv, hT⟩ := hc.slot t _ hr.1
  have ht' : t < n := by
    rcases Nat.lt_or_ge t n with h | h
    · exact h
    · rw [Array.getD_eq_getD_getElem?, Array.getElem?_eq_none (by rw [hc.siz]; exact h)] at hv
      cases hv
      have := hT.len
      cases l with
      | nil => simp at hi
      | cons p l => simp at this
  have c1 := hc.pull t
  have e0 : mv Fp (2 * t + 1) 0 = Fp (2 * t + 1) ++ Fp 0 := by simp [mv]
  have hnd := c1.nod 0
  rw [e0, List.nodup_append] at hnd
  obtain ⟨v, F1, F2, e1, e2, e3, e4, e5⟩ := hT.take hi ht hb hnd.1
  have c2 := c1.push (i := t) (rv := RV.tup (l.set i (ag, qs))) (v := .tuple vs) (F := F2) (X := F1) ht' ⟨vs, rfl, e3⟩
    (fun b hb => by
      rw [e0]
      refine List.mem_append_left _ (e4 b ?_)
      simp only [List.mem_append] at hb ⊢; exact hb.symm)
    ((List.perm_append_comm).nodup_iff.2 e5)
  have c3 := c2.push (i := d) (rv := RV.sv ag cs) (v := v) (F := F1) (X := []) hd e2
    (fun b hb => by simp [give] at hb ⊢; exact hb) (by rw [List.append_nil]; exact (List.nodup_append.1 e5).1)
  have hput : (a.put (some t) (.tuple vs)) = a := by
    have : a.tmps.setIfInBounds t (.tuple vs) = a.tmps := by
      apply Array.ext (by simp)
      intro j hj1 hj2
      rw [Array.getElem_setIfInBounds (by simpa using hj1)]
      split
      · rename_i hjt
        subst hjt
        rw [← hv, Array.getD_eq_getD_getElem?, Array.getElem?_eq_getElem hj2]; rfl
      · rfl
    show ({ tmps := a.tmps.setIfInBounds t (.tuple vs), defers := a.defers } : Act) = a
    rw [this]
  rw [hput] at c3
  refine wp_val (v := v) (w' := w) ?_ (h5 _ _ (Conc.eqv ⟨_, _, _, c3⟩ (fun j => ?_) (fun e => rfl)))
  · unfold execOp
    have hv' : a.eval (.tmp t) = .tuple vs := hv
    have e1' : vs[i]? = some v := by simpa using e1
    simp [hv', Instr.extract, e1']
  · show setL [(t, _), (d, _)] σ.s j = _
    simp only [setL, St.set]
    cases hjd : Nat.beq j d <;> cases hjt : Nat.beq j t <;> rfl

/-! ### a part of a slice; the lesser, the greater -/
theorem loc_slice {T E e bs d s : Nat} {lo hi : Option Operand} {ty : TypeId} {pos : String} {af : Array Edge} {g : Option (Nat × Bool)} {o : Fl} {es : List (List PV)} {i j : Nat} (hd : d < n) (hT : sliceI P T = some (E, e, bs))
    (hlo : match lo with | none => i = 0 | some x => OpOk x (RV.int (i : Int))) (hhi : match hi with | none => j = es.length | some x => OpOk x (RV.int (j : Int))) (hij : i ≤ j) (hj : j ≤ es.length) (he : ∀ cs, cs ∈ es → cs.length = e) :
    Loc P n ⟨some d, .slice T (.tmp s) lo hi none, ty, pos, af, g⟩ ⟨(s, RV.slc o es) :: ((match lo with | none => [] | some x => opR x (RV.int (i : Int))) ++ (match hi with | none => [] | some x => opR x (RV.int (j : Int)))), [], [(d, some (RV.slc .v ((es.take j).drop i)))], [], none⟩ := by
  intro h0 w0 Fz0 σ a w K Q hc hr _ _ h5
  obtain ⟨φ, Fz, Fp, hc⟩ := hc
  obtain ⟨ad, c, e', u, ev, h1, h2, h3, h4, h6⟩ := hc.slrel hr.1
  obtain ⟨hu, inf, hinf, hsz, _⟩ := sliceI_spec hT
  have es' : a.eval (.tmp s) = .slice ad es.length c := ev
  have hlo' : lo.map a.eval = (lo.map fun _ => (.int .i64 (i : Int) : Value)) := by
    cases lo with
    | none => rfl
    | some x => exact congrArg some (hc.sc hr.2.left hlo)
  have hhi' : hi.map a.eval = (hi.map fun _ => (.int .i64 (j : Int) : Value)) := by
    cases hi with
    | none => rfl
    | some x => exact congrArg some (hc.sc hr.2.right hhi)
  have hlen : ((es.take j).drop i).length = j - i := by rw [List.length_drop, List.length_take]; omega
  refine wp_val (v := .slice (if c = i then ad else ad.map (·.add (i * e))) (j - i) (c - i)) (w' := w) ?_ (h5 _ _ (hc.put0 hd (SvOwn.of_atom (p := PV.sl .v ((es.take j).drop i)) ⟨⟨_, c - i, e', fun p q => u (i + p) q, by rw [hlen], by rw [hlen]; omega, by omega, ?_, ?_, ?_⟩, rfl⟩)))
  · unfold execOp
    have hb : (Instr.sliceBounds true es.length c (lo.map a.eval) (hi.map a.eval) none).run P w = .ok (i, j, c) w := by
      rw [hlo', hhi']
      have b1 : (0 : Int) ≤ (j : Int) ∧ (j : Int) ≤ (c : Int) := by omega
      have b2 : (0 : Int) ≤ (i : Int) ∧ (i : Int) ≤ (j : Int) := by omega
      cases lo <;> cases hi <;> simp only at hlo hhi <;> simp [Instr.sliceBounds, Instr.sliceBound, asIntOf, b1, b2, *] <;> omega
    simp only [Instr.sliceAt, Instr.slice, es', Sem.run_bind, run_underlying hu, Result.andThen_ok, Option.map_none, hb, sizeOf, typeInfo, run_program, hinf, hsz, Sem.run_pure]
  · intro cs hcs
    exact h3 cs (List.mem_of_mem_take (List.mem_of_mem_drop hcs))
  · rcases h4 with h4 | ⟨b, off, rfl, h4⟩
    · left; subst h4; simp
    · by_cases hci : c = i
      · left
        exact List.eq_nil_of_length_eq_zero (by rw [hlen]; omega)
      · by_cases hlt : i < j
        · right
          have hee : e' = e := by
            have hi0 : es[i]? = some es[i] := List.getElem?_eq_getElem (by omega)
            rw [← h3 _ (List.mem_of_getElem? hi0)]; exact he _ (List.mem_of_getElem? hi0)
          subst hee
          refine ⟨b, off + i * e', by rw [if_neg hci]; simp [add_lit], fun p q hp hq => ?_⟩
          rw [hlen] at hp
          have := h4 (i + p) q (by omega) hq
          rw [Nat.add_mul] at this
          rw [show off + i * e' + (p * e' + q) = off + (i * e' + p * e' + q) by omega]
          exact this
        · left
          exact List.eq_nil_of_length_eq_zero (by rw [hlen]; omega)
  · intro p cs q x hp hq
    refine h6 (i + p) cs q x ?_ hq
    rw [List.getElem?_drop] at hp
    have hpj : i + p < j := by have := (List.getElem?_eq_some_iff.1 hp).1; rw [List.length_take] at this; omega
    rw [List.getElem?_take_of_lt hpj] at hp
    exact hp
theorem loc_min {T T' d : Nat} {x y : Operand} {ty : TypeId} {pos : String} {af : Array Edge} {g : Option (Nat × Bool)} {i j : Int} (hd : d < n) (hx : OpOk x (RV.int i)) (hy : OpOk y (RV.int j)) :
    Loc P n ⟨some d, .call { callee := .builtin .min, args := #[x, y], argTypes := #[T, T'] }, ty, pos, af, g⟩ ⟨opR x (RV.int i) ++ opR y (RV.int j), [], [(d, some (RV.int (min i j)))], [], none⟩ := by
  intro h0 w0 Fz0 σ a w K Q hc hr _ _ h5
  obtain ⟨φ, Fz, Fp, hc⟩ := hc
  have ex := hc.sc hr.left hx
  have ey := hc.sc hr.right hy
  refine wp_val (v := .int .i64 (min i j)) (w' := w) ?_ (h5 _ _ (hc.put0 hd (SvOwn.of_sc rfl)))
  unfold execOp
  have e : (if j < i then j else i) = min i j := by split <;> omega
  simp [resolve, invoke, builtin, ex, ey, Builtin.min_, Builtin.min2, e]
theorem loc_max {T T' d : Nat} {x y : Operand} {ty : TypeId} {pos : String} {af : Array Edge} {g : Option (Nat × Bool)} {i j : Int} (hd : d < n) (hx : OpOk x (RV.int i)) (hy : OpOk y (RV.int j)) :
    Loc P n ⟨some d, .call { callee := .builtin .max, args := #[x, y], argTypes := #[T, T'] }, ty, pos, af, g⟩ ⟨opR x (RV.int i) ++ opR y (RV.int j), [], [(d, some (RV.int (max i j)))], [], none⟩ := by
  intro h0 w0 Fz0 σ a w K Q hc hr _ _ h5
  obtain ⟨φ, Fz, Fp, hc⟩ := hc
  have ex := hc.sc hr.left hx
  have ey := hc.sc hr.right hy
  refine wp_val (v := .int .i64 (max i j)) (w' := w) ?_ (h5 _ _ (hc.put0 hd (SvOwn.of_sc rfl)))
  unfold execOp
  have e : (if i < j then j else i) = max i j := by split <;> omega
  simp [resolve, invoke, builtin, ex, ey, Builtin.max_, Builtin.max2, e]

/-! ### calls -/
def RelT : List (Bool × List PV) → FzT → World → List Value → Prop
  | [], _, _, vs => vs = []
  | p :: ps, Fz, w, vs => ∃ v vs', vs = v :: vs' ∧ SvRel p.1 p.2 Fz w v ∧ RelT ps Fz w vs'
/-- For arguments that are read as args the function ends with a result of its own, or what it lends of them; nothing that was there has turned. -/
def SCall (P : Program) (f : FuncId) (args : List (Bool × List PV)) (r : RV) : Prop :=
  ∀ (w : World) (vs : List Value) (Fz : FzT), (∀ b o, Fz b o → b < w.heap.size) → RelT args Fz w vs → Calls P f vs.toArray w fun e w' => ∃ v Fz' F, e = .returned v ∧ Below w.heap.size w w' ∧
    (∀ b o, b < w.heap.size → (Fz' b o ↔ Fz b o)) ∧ (∀ b o, Fz' b o → b < w'.heap.size) ∧ (∀ φ, r.holds φ Fz' w' v F) ∧ F.Nodup ∧ ∀ b, b ∈ F → w.heap.size ≤ b ∧ b < w'.heap.size
def callI (P : Program) (f : FuncId) : Bool := match P.funcs[f]? with
  | some fn => !(fn.name == "runtime.NumGoroutine") && fn.body.isSome
  | none => false
theorem run_call {f : FuncId} (h : callI P f = true) (args : Array Value) (w : World) : (callFunc f args).run P w = .ok (.enter f args) w := by
  unfold callI at h
  split at h
  · rename_i fn hf
    rw [Bool.and_eq_true, Bool.not_eq_true'] at h
    simp only [callFunc, Sem.run_bind, run_program, Result.andThen_ok, hf]
    rw [if_neg (by rw [h.1]; simp), if_neg (by cases hb : fn.body <;> simp_all)]
    rfl
  · cases h
theorem ConcW.relT (h : ConcW h0 w0 Fz0 n σ a w φ Fz Fp) : ∀ {xs : List Operand} {qs : List (Bool × List PV)}, RdL (opsR xs qs) σ.s → OpsOk xs qs → RelT qs Fz w (xs.map a.eval)
  | [], [], _, _ => rfl
  | [], _ :: _, _, hk => hk.elim
  | _ :: _, [], _, hk => hk.elim
  | x :: xs, q :: qs, hr, hk => by
    obtain ⟨F, hF⟩ := h.op hr.left hk.1
    exact ⟨_, _, rfl, ⟨hF.1, hF.2.rel⟩, h.relT hr.right hk.2⟩
def ToT : List (Bool × List PV) → List (Bool × List PV) → Prop
  | [], [] => True
  | p :: ps, q :: qs => (p.1 = q.1 ∧ ToL p.2 q.2) ∧ ToT ps qs
  | _, _ => False
theorem ToT.rel : ∀ {ps qs : List (Bool × List PV)} {vs : List Value}, ToT ps qs → RelT ps Fz w vs → RelT qs Fz w vs
  | [], [], _, _, h => h
  | p :: ps, q :: qs, _, k, h => by obtain ⟨v, vs', rfl, h1, h2⟩ := h; exact ⟨v, vs', rfl, ⟨by rw [← k.1.1]; exact h1.1, k.1.2.rel h1.2⟩, ToT.rel k.2 h2⟩
theorem ToT.refl : ∀ ps : List (Bool × List PV), ToT ps ps
  | [] => True.intro
  | p :: ps => ⟨⟨rfl, ToL.refl _⟩, ToT.refl ps⟩
theorem loc_call {f d : Nat} {args : Array Operand} {tys : Array TypeId} {ty : TypeId} {pos : String} {af : Array Edge} {g : Option (Nat × Bool)} {qs as_ : List (Bool × List PV)} {r : RV} (hd : d < n) (hf : callI P f = true) (hok : OpsOk args.toList qs) (hto : ToT qs as_) (hs : SCall P f as_ r) :
    Loc P n ⟨some d, .call { callee := .value (.func f), args := args, argTypes := tys }, ty, pos, af, g⟩ ⟨opsR args.toList qs, [], [(d, some r)], [], none⟩ := by
  intro h0 w0 Fz0 σ a w K Q hc hr _ _ h5
  obtain ⟨φ, Fz, Fp, hc⟩ := hc
  have hrel := hto.rel (hc.relT hr hok)
  have hrun : (execOp a.eval ⟨some d, .call { callee := .value (.func f), args := args, argTypes := tys }, ty, pos, af, g⟩).run P w = .ok (.enter f (args.toList.map a.eval).toArray) w := by
    unfold execOp
    have e : (#[] ++ args.map a.eval ++ #[] : Array Value) = (args.toList.map a.eval).toArray := by apply Array.ext'; simp
    simp only [resolve, Act.eval, Deferred.ofValue, Sem.run_bind, Sem.run_pure, Result.andThen_ok, invoke]
    rw [run_call hf, e]
  unfold Oper.wp
  rw [hrun, Oper.upon_enter]
  refine (hs w _ Fz hc.fzl hrel).mono ?_
  rintro e w' ⟨v, Fz', F, rfl, hb, hz1, hz2, hv, hn, hF⟩
  refine h5 _ _ ?_
  have k := hc.world (w' := w') (Fz' := Fz') (X := F) hb.os hb.tape hb.output hb.size (fun b hb' _ => ⟨hb.block b hb', fun o ho => (hz1 b o hb').1 ho⟩)
    (fun b o ho => ⟨(hz1 b o (hc.fzl b o ho)).2 ho, World.cell?_of_block (hb.block b (hc.fzl b o ho))⟩) hz2 (fun b hb' => .inr (hF b hb')) hn
  exact ⟨φ, Fz', _, k.push (i := d) (rv := r) (v := v) (F := F) (X := []) hd (hv φ) (fun b hb => by simpa using hb) (by simpa using hn)⟩

/-! ### code -/
def SW (P : Program) (n : Nat) (h0 : Nat → Prop) (w0 : World) (Fz0 : FzT) (c : Code) (σ : St) (Q : Exit → St → Prop) : Prop :=
  ∀ a w, Conc h0 w0 Fz0 n σ a w → c.wp P (fun e a' w' => ∃ τ, Q e τ ∧ Conc h0 w0 Fz0 n τ a' w') a w
def thenS (N : St → Prop) (Q : Exit → St → Prop) : Exit → St → Prop
  | .normal, τ => N τ
  | e, τ => Q e τ
def blockS (id : Nat) (Q : Exit → St → Prop) : Exit → St → Prop
  | .exit id', τ => if id' = id then Q .normal τ else Q (.exit id') τ
  | e, τ => Q e τ
variable {Q : Exit → St → Prop} {x y c : Code}
theorem sw_reg {id : Nat} {ops : Array Oper} (h : RunS P n ops (fun τ => Q .normal τ) ops.toList σ) : SW P n h0 w0 Fz0 (.region id ops false) σ Q :=
  fun _ _ hc => region_seq hc h fun τ _ _ hq hc' => ⟨τ, hq, hc'⟩
theorem sw_draw {id : Nat} {ops : Array Oper} (hm : P.follows .mixedOrders = true) (h : Run P n ops σ (fun _ _ => True) (fun τ => Q .normal τ) ops.toList [] σ) : SW P n h0 w0 Fz0 (.region id ops true) σ Q :=
  fun _ _ hc => region_run hm hc h fun τ _ _ hq hc' => ⟨τ, hq, hc'⟩
theorem sw_seq (h : SW P n h0 w0 Fz0 x σ (thenS (fun τ => SW P n h0 w0 Fz0 y τ Q) Q)) : SW P n h0 w0 Fz0 (.seq x y) σ Q := fun a w hc =>
  wp_seq (wp_mono (h a w hc) fun e a' w' ⟨τ, hq, hc'⟩ => by
    cases e with
    | normal => exact hq a' w' hc'
    | _ => exact ⟨τ, hq, hc'⟩)
theorem sw_cond {t : Nat} {b : Bool} (ht : σ.s t = some (RV.bool b)) (h1 : b = true → SW P n h0 w0 Fz0 x σ Q) (h2 : b = false → SW P n h0 w0 Fz0 y σ Q) : SW P n h0 w0 Fz0 (.cond (.tmp t) x y) σ Q := fun a w hc => by
  obtain ⟨φ, Fz, Fp, h⟩ := hc
  refine wp_cond (t := b) (h.one_ ht).1 ?_
  cases b
  · exact h2 rfl a w ⟨φ, Fz, Fp, h⟩
  · exact h1 rfl a w ⟨φ, Fz, Fp, h⟩
theorem sw_block {id : Nat} (h : SW P n h0 w0 Fz0 c σ (blockS id Q)) : SW P n h0 w0 Fz0 (.block id c) σ Q := fun a w hc =>
  wp_block (wp_mono (h a w hc) fun e a' w' ⟨τ, hq, hc'⟩ => by
    cases e with
    | exit i =>
      simp only [Exit.inBlock, blockS] at hq ⊢
      split
      · rename_i hi; rw [if_pos hi] at hq; exact ⟨τ, hq, hc'⟩
      · rename_i hi; rw [if_neg hi] at hq; exact ⟨τ, hq, hc'⟩
    | _ => exact ⟨τ, hq, hc'⟩)
theorem sw_skip (h : Q .normal σ) : SW P n h0 w0 Fz0 .skip σ Q := fun _ _ hc => wp_skip ⟨σ, h, hc⟩
theorem sw_exit {id : Nat} (h : Q (.exit id) σ) : SW P n h0 w0 Fz0 (.exit id) σ Q := fun _ _ hc => wp_exit ⟨σ, h, hc⟩
theorem sw_ret (h : Q .ret σ) : SW P n h0 w0 Fz0 .ret σ Q := fun _ _ hc => wp_ret ⟨σ, h, hc⟩
theorem Conc.of {l : List (Nat × RV)} {b : List (Nat × (Nat × List PV))} (h : Conc h0 w0 Fz0 n σ a w) (hl : RdL l σ.s) (hb : RdL b σ.b) : Conc h0 w0 Fz0 n (St.of l b) a w :=
  h.less (fun i rv hi => hl.mem (i, rv) (lk_mem hi)) (fun d cs hd => hb.mem (d, cs) (lk_mem hd))
/-- Only this much is kept. -/
theorem sw_of {l : List (Nat × RV)} {b : List (Nat × (Nat × List PV))} (hl : RdL l σ.s) (hb : RdL b σ.b) (h : SW P n h0 w0 Fz0 c (St.of l b) Q) : SW P n h0 w0 Fz0 c σ Q := fun a w hc => h a w (hc.of hl hb)
theorem RdL.app {β : Type} {l m : List (Nat × β)} {f : Nat → Option β} (h : RdL l f) (k : RdL m f) : RdL (l ++ m) f := RdL.of_mem fun p hp => by
  rcases List.mem_append.1 hp with hp | hp
  · exact h.mem p hp
  · exact k.mem p hp
theorem sw_loop {ι : Type} (I : ι → Prop) {l0 : List (Nat × RV)} {b0 : List (Nat × (Nat × List PV))} (l : ι → List (Nat × RV)) (b : ι → List (Nat × (Nat × List PV))) (m : ι → Nat) (i0 : ι) (h0' : I i0) (hl0 : RdL l0 σ.s) (hb0 : RdL b0 σ.b) (hl : RdL (l i0) σ.s) (hb : RdL (b i0) σ.b)
    (round : ∀ i, I i → SW P n h0 w0 Fz0 c (St.of (l0 ++ l i) (b0 ++ b i)) (thenS (fun τ => ∃ j, I j ∧ m j < m i ∧ (RdL l0 τ.s ∧ RdL b0 τ.b) ∧ RdL (l j) τ.s ∧ RdL (b j) τ.b) Q)) : SW P n h0 w0 Fz0 (.loop c) σ Q := fun a w hc => by
  refine wp_loop_ghost (fun k a w => ∃ i, I i ∧ m i = k ∧ Conc h0 w0 Fz0 n (St.of (l0 ++ l i) (b0 ++ b i)) a w) (m i0) ⟨i0, h0', rfl, hc.of (hl0.app hl) (hb0.app hb)⟩ ?_
  rintro k a w ⟨i, hi, rfl, hc⟩
  refine wp_mono (round i hi a w hc) fun e a' w' ⟨τ, hq, hc'⟩ => ?_
  cases e with
  | normal =>
    obtain ⟨j, h1, h2, h3, h4, h5⟩ := hq
    exact ⟨m j, h2, j, h1, rfl, hc'.of (h3.1.app h4) (h3.2.app h5)⟩
  | _ => exact ⟨τ, hq, hc'⟩
theorem sw_len {s : Nat} {o : Fl} {es : List (List PV)} (hs : σ.s s = some (RV.slc o es)) (h : es.length ≤ 9223372036854775807 → SW P n h0 w0 Fz0 c σ Q) : SW P n h0 w0 Fz0 c σ Q := fun a w hc => h (hc.lenle hs) a w hc

/-! ### a function -/
def RetOk (P : Program) : List ResultVar → List (Bool × List PV) → St → Prop
  | [], [], _ => True
  | .tmp t :: rs, q :: qs, τ => τ.s t = some (RV.sv q.1 q.2) ∧ RetOk P rs qs (τ.set t none)
  | .cell t T :: rs, q :: qs, τ => (∃ d ty, τ.s t = some (RV.ptr d 0) ∧ τ.b d = some (ty, q.2) ∧ tyI P T = some (q.1, q.2.length) ∧ (q.1 = false → q.2.length = 1) ∧ RetOk P rs qs (τ.setB d none))
  | _, _, _ => False
def resF (t : Array Value) : ResultVar → Sem Value
  | .tmp x => pure (t.getD x undef)
  | .cell x T => do loadVar T (← asAddr (t.getD x undef))
theorem results_eq (fn : Func) (t : Array Value) : results fn t = (do let vs ← fn.results.mapM (resF t); pure (if h : vs.size = 1 then vs[0] else .tuple vs)) := by
  unfold results
  congr 1
theorem ret_run : ∀ (rs : List ResultVar) (qs : List (Bool × List PV)) {σ : St} {Fp : Nat → List Nat}, ConcW h0 w0 Fz0 n σ a w φ Fz Fp → RetOk P rs qs σ →
    ∃ vs F, Sem.run P (rs.mapM (resF a.tmps)) w = .ok vs w ∧ OwnT qs Fz w vs F ∧ F.Nodup ∧
      (∀ b, b ∈ F → ∃ r, r ≠ 0 ∧ b ∈ Fp r)
  | [], [], σ, Fp, _, _ => ⟨[], [], by simp, ⟨rfl, rfl⟩, List.nodup_nil, by simp⟩
  | .tmp t :: rs, q :: qs, σ, Fp, h, hr => by
    obtain ⟨h1, h2⟩ := hr
    have hv := h.slot t _ h1
    obtain ⟨vs, F, e1, e2, e3, e4⟩ := ret_run rs qs (h.pull t) h2
    refine ⟨a.tmps.getD t undef :: vs, Fp (2 * t + 1) ++ F, ?_, ⟨_, _, _, _, rfl, rfl, hv, e2⟩, ?_, fun b hb => ?_⟩
    · rw [List.mapM_cons]
      simp only [resF, Sem.run_bind, Sem.run_pure, Result.andThen_ok, e1]
    · rw [List.nodup_append]
      refine ⟨h.nod _, e3, fun u hu y hy e => ?_⟩
      subst e
      obtain ⟨r, hr0, hr⟩ := e4 u hy
      rcases mv_mem hr with ⟨e, _⟩ | ⟨hne, hr⟩
      · exact hr0 e
      · exact h.dis _ _ (fun e => hne e.symm) u hu hr
    · rcases List.mem_append.1 hb with hb | hb
      · exact ⟨_, by omega, hb⟩
      · obtain ⟨r, hr0, hr⟩ := e4 b hb
        rcases mv_mem hr with ⟨e, _⟩ | ⟨_, hr⟩
        · exact absurd e hr0
        · exact ⟨r, hr0, hr⟩
  | .cell t T :: rs, q :: qs, σ, Fp, h, hr => by
    obtain ⟨d, ty, h1, h2, h3, h4, h5⟩ := hr
    obtain ⟨ep, _⟩ := h.slot t _ h1
    obtain ⟨cur, hg, ho⟩ := h.box d _ h2
    have hlen := ho.len
    obtain ⟨v, k1, k2, k3⟩ := run_loadVar h3 w (φ d) 0 cur.toList hlen h4 (fun j u hu => by
      rw [cell_of_row w (φ d) _ cur ty (0, 0) hg, Nat.zero_add]; simpa using hu) ho.one
    obtain ⟨vs, F, e1, e2, e3, e4⟩ := ret_run rs qs (h.pullB h2) h5
    have e4' : ∀ b, b ∈ F → ∃ r, r ≠ 0 ∧ r ≠ 2 * d + 2 ∧ b ∈ Fp r := by
      intro b hb
      obtain ⟨r, hr0, hr⟩ := e4 b hb
      rw [if_neg hr0] at hr
      rcases mv_mem hr with ⟨e, _⟩ | ⟨hne, hr⟩
      · exact absurd e hr0
      · exact ⟨r, hr0, hne, hr⟩
    refine ⟨v :: vs, Fp (2 * d + 2) ++ F, ?_, ⟨_, _, _, _, rfl, rfl, ⟨k2, by rw [k3]; exact ho⟩, e2⟩, ?_, fun b hb => ?_⟩
    · rw [List.mapM_cons]
      simp only [resF, Sem.run_bind, ep, asAddr, Sem.run_pure, Result.andThen_ok, k1, e1]
    · rw [List.nodup_append]
      refine ⟨h.nod _, e3, fun u hu y hy e => ?_⟩
      subst e
      obtain ⟨r, hr0, hne, hr⟩ := e4' u hy
      exact h.dis _ _ (fun e => hne e.symm) u hu hr
    · rcases List.mem_append.1 hb with hb | hb
      · exact ⟨_, by omega, hb⟩
      · obtain ⟨r, hr0, _, hr⟩ := e4' b hb
        exact ⟨r, hr0, hr⟩
  | [], _ :: _, _, _, _, hr => hr.elim
  | .tmp _ :: _, [], _, _, _, hr => hr.elim
  | .cell _ _ :: _, [], _, _, _, hr => hr.elim
def argsL : Nat → List (Bool × List PV) → List (Nat × RV)
  | _, [] => []
  | k, q :: qs => (k, RV.sv q.1 q.2) :: argsL (k + 1) qs
def resRV : List (Bool × List PV) → RV
  | [q] => RV.sv q.1 q.2
  | qs => RV.tup qs
def endS (P : Program) (rs : List ResultVar) (qs : List (Bool × List PV)) : Exit → St → Prop
  | .normal, τ => RetOk P rs qs τ
  | .ret, τ => RetOk P rs qs τ
  | _, _ => False
theorem BorT.own : ∀ {qs : List (Bool × List PV)} {k : Nat} {vs : List Value} {i : Nat} {rv : RV}, (∀ q, q ∈ qs → BorL q.2) → RelT qs Fz w vs → lk (argsL k qs) i = some rv → ∃ j v, i = k + j ∧ j < vs.length ∧ vs[j]? = some v ∧ rv.holds φ Fz w v []
  | [], _, _, _, _, _, _, h => by cases h
  | q :: qs, k, vs, i, rv, hb, hr, h => by
    obtain ⟨v, vs', rfl, h1, h2⟩ := hr
    rw [argsL, lk, beq_eq] at h
    by_cases hi : i = k
    · rw [decide_eq_true hi] at h
      simp only [cond_true, Option.some.injEq] at h
      subst h
      exact ⟨0, v, by omega, by simp, rfl, ⟨h1.1, (hb q (by simp)).own h1.2⟩⟩
    · rw [decide_eq_false hi] at h
      obtain ⟨j, u, e1, e2, e3, e4⟩ := BorT.own (k := k + 1) (fun x hx => hb x (by simp [hx])) h2 h
      exact ⟨j + 1, u, by omega, by simp; omega, by simpa using e3, e4⟩
theorem RelT.len : ∀ {qs : List (Bool × List PV)} {vs : List Value}, RelT qs Fz w vs → vs.length = qs.length
  | [], vs, h => by rw [show vs = [] from h]; rfl
  | q :: qs, vs, h => by obtain ⟨v, vs', rfl, _, h2⟩ := h; simp [RelT.len h2]
theorem scall_at {f : FuncId} {fn : Func} {c : Code} {args rs : List (Bool × List PV)} (hf : P.funcs[f]? = some fn) (hb : fn.body = some c) (hn : args.length ≤ fn.ntmps) (hbor : ∀ q, q ∈ args → BorL q.2) (w : World) (Fz : FzT)
    (h : SW P fn.ntmps (fun b => b < w.heap.size) w Fz c (St.of (argsL 0 args) []) (endS P fn.results.toList rs)) (vs : List Value) (hz : ∀ b o, Fz b o → b < w.heap.size) (hrel : RelT args Fz w vs) : Calls P f vs.toArray w fun e w' => ∃ v Fz' F, e = .returned v ∧ Below w.heap.size w w' ∧
    (∀ b o, b < w.heap.size → (Fz' b o ↔ Fz b o)) ∧ (∀ b o, Fz' b o → b < w'.heap.size) ∧ (∀ φ, (resRV rs).holds φ Fz' w' v F) ∧ F.Nodup ∧ ∀ b, b ∈ F → w.heap.size ≤ b ∧ b < w'.heap.size := by
  have hvl := hrel.len
  refine calls_of_wp hf hb ?_
  have hc : Conc (fun b => b < w.heap.size) w Fz fn.ntmps (St.of (argsL 0 args) []) { tmps := vs.toArray ++ Array.replicate (fn.ntmps - vs.toArray.size) undef, defers := [] } w := by
    refine ⟨fun _ => 0, Fz, fun _ => [], ⟨BelowO.refl _ _, rfl, by simp; omega, fun _ hb => hb, fun _ _ _ => Iff.rfl, hz, fun i rv hi => ?_, fun d cs hd => (by cases hd), fun d cs hd => (by cases hd), fun d d' cs cs' hd => (by cases hd), fun _ _ _ b hb => (by simp at hb), fun _ => List.nodup_nil, fun _ b hb => (by simp at hb)⟩⟩
    obtain ⟨j, v, e1, e2, e3, e4⟩ := BorT.own (φ := fun _ => 0) hbor hrel hi
    rw [Nat.zero_add] at e1
    subst e1
    have : (vs.toArray ++ Array.replicate (fn.ntmps - vs.toArray.size) undef).getD i undef = v := by
      rw [Array.getD_eq_getD_getElem?, Array.getElem?_append_left (by simpa using e2)]
      simp [e3]
    rw [this]; exact e4
  refine wp_mono (h _ w hc) fun e a' w' ⟨τ, hq, hc'⟩ => ?_
  obtain ⟨φ, Fz', Fp, hc'⟩ := hc'
  have hres : RetOk P fn.results.toList rs τ → a'.defers = [] ∧ ∃ v, (results fn a'.tmps).run P w' = .ok v w' ∧ ∃ v' Fz' F, Ending.returned v = .returned v' ∧ Below w.heap.size w w' ∧
      (∀ b o, b < w.heap.size → (Fz' b o ↔ Fz b o)) ∧ (∀ b o, Fz' b o → b < w'.heap.size) ∧ (∀ φ, (resRV rs).holds φ Fz' w' v' F) ∧ F.Nodup ∧ ∀ b, b ∈ F → w.heap.size ≤ b ∧ b < w'.heap.size := by
    intro hr
    obtain ⟨vs', F, e1, e2, e3, e4⟩ := ret_run _ rs hc' hr
    have hF : ∀ b, b ∈ F → w.heap.size ≤ b ∧ b < w'.heap.size := fun b hb => by
      obtain ⟨r, _, hr⟩ := e4 b hb
      exact ⟨Nat.le_of_not_lt (hc'.low r b hr).1, (hc'.low r b hr).2⟩
    have hl := e2.len
    have erun : Sem.run P (fn.results.mapM (resF a'.tmps)) w' = .ok vs'.toArray w' := by
      rw [Array.mapM_eq_mapM_toList]
      simp only [map_eq_pure_bind, Sem.run_bind, e1, Result.andThen_ok, Sem.run_pure]
    refine ⟨hc'.dfr, ?_⟩
    rw [results_eq]
    simp only [Sem.run_bind, erun, Result.andThen_ok, Sem.run_pure]
    refine ⟨_, rfl, _, Fz', F, rfl, ⟨hc'.bel.os, hc'.bel.tape, hc'.bel.output, hc'.bel.size, hc'.bel.block⟩, hc'.fz0, hc'.fzl, fun φ => ?_, e3, hF⟩
    by_cases h1 : vs'.toArray.size = 1
    · rw [dif_pos h1]
      have hl1 : rs.length = 1 := by rw [← hl]; simpa using h1
      obtain ⟨q, rfl⟩ := List.length_eq_one_iff.1 hl1
      obtain ⟨v, vs2, F1, F2, rfl, rfl, k1, k2, rfl⟩ := e2
      rw [List.append_nil]
      exact k1
    · rw [dif_neg h1]
      have hne : rs.length ≠ 1 := fun e => h1 (by simp [hl, e])
      have : resRV rs = RV.tup rs := by
        cases rs with
        | nil => rfl
        | cons q rs => cases rs with
          | nil => simp at hne
          | cons _ _ => rfl
      rw [this]
      exact ⟨vs'.toArray, rfl, by simpa using e2⟩
  cases e with
  | normal => exact hres hq
  | ret => exact hres hq
  | _ => exact hq.elim
theorem scall_of {f : FuncId} {fn : Func} {c : Code} {args rs : List (Bool × List PV)} (hf : P.funcs[f]? = some fn) (hb : fn.body = some c) (hn : args.length ≤ fn.ntmps) (hbor : ∀ q, q ∈ args → BorL q.2)
    (h : ∀ (h0 : Nat → Prop) (w0 : World) (Fz0 : FzT), SW P fn.ntmps h0 w0 Fz0 c (St.of (argsL 0 args) []) (endS P fn.results.toList rs)) : SCall P f args (resRV rs) :=
  fun w vs Fz hz hrel => scall_at hf hb hn hbor w Fz (h _ w Fz) vs hz hrel
/-! ### small words for the printed proofs -/
theorem bool_eq {b c : Bool} (h : b = c) : some (RV.bool b) = some (RV.bool c) := by rw [h]
theorem int_eq {b c : Int} (h : b = c) : some (RV.int b) = some (RV.int c) := by rw [h]
theorem slc_eq {o : Fl} {es ds : List (List PV)} (h : es = ds) : some (RV.slc o es) = some (RV.slc o ds) := by rw [h]
theorem sv_eq {ag : Bool} {cs ds : List PV} (h : cs = ds) : some (RV.sv ag cs) = some (RV.sv ag ds) := by rw [h]
theorem PV.to_none {o : Fl} {es : List (List PV)} : (PV.sl o es).To (PV.sl .v es) := fun h => ⟨h.1, True.intro⟩
theorem getm {α : Type} {xs : List α} {f : α → List PV} {k : Nat} (h : k < xs.length) : (xs.map f)[k]? = some (f xs[k]) := by simp [h]
theorem getm2 {α : Type} {xs : List α} {f : α → List PV} {k : Nat} {cs : List PV} (h : k < xs.length) (hc : f xs[k] = cs) : (xs.map f)[k]? = some cs := by rw [← hc]; exact getm h
theorem nofree {p : Nat → Prop} : ∀ d, (none : Option Nat) = some d → p d := fun _ h => nomatch h
theorem free1 {p : Nat → Prop} {e : Nat} (h : p e) : ∀ d, some e = some d → p d := fun d hd => by injection hd with hd; exact hd ▸ h
def BorA (args : List (Bool × List PV)) : Prop := ∀ q, q ∈ args → BorL q.2
theorem borA_nil : BorA [] := fun q hq => by simp at hq
theorem borA_cons {p : Bool × List PV} {l : List (Bool × List PV)} (h : BorL p.2) (k : BorA l) : BorA (p :: l) := fun q hq => by
  rcases List.mem_cons.1 hq with rfl | hq
  · exact h
  · exact k q hq
theorem zo_nil {Fz : FzT} {w : World} : OwnL [] Fz w [] [] := ⟨rfl, rfl⟩
theorem zo_val {Fz : FzT} {w : World} {v : Value} {ps : List PV} {vs : List Value} (h : v.oneCell' = true) (k : OwnL ps Fz w vs []) : OwnL (PV.val v :: ps) Fz w (v :: vs) [] := ⟨v, vs, [], [], rfl, rfl, ⟨⟨rfl, h⟩, rfl⟩, k⟩
theorem zo_sl {Fz : FzT} {w : World} {t e : Nat} {ps : List PV} {vs : List Value} (k : OwnL ps Fz w vs []) : OwnL (PV.sl (.own t e) [] :: ps) Fz w (.slice none 0 0 :: vs) [] :=
  ⟨_, vs, [], [], rfl, rfl, ⟨[], [], World.ownsRow_nil w 0 t e, ⟨rfl, rfl⟩, fun g hg => by simp [Value.ownBlock] at hg, by simp [Value.ownBlock], fun g hg => by simp [Value.ownBlock] at hg⟩, k⟩
end
end Go.Proofs.Ytloipjaiceifbaa.M
