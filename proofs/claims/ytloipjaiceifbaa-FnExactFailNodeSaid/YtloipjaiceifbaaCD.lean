/- Rules for copies, integers and bools, and guards. No condition. -/
import Derived.Test.YtloipjaiceifbaaCC
import Derived.IntWalk
namespace Go.Proofs.Ytloipjaiceifbaa.M
open Go Go.RowKit

/-- A scalar. -/
abbrev RV.sc (v : Value) : RV := RV.sv false [PV.val v]
abbrev vI (n : Int) : Value := .int .i64 n
abbrev RV.int (n : Int) : RV := RV.sc (.int .i64 n)
abbrev RV.bool (b : Bool) : RV := RV.sc (.bool b)
/-- One value that is a slice. -/
abbrev RV.slc (o : Fl) (es : List (List PV)) : RV := RV.sv false [PV.sl o es]

section
variable {P : Program} {n : Nat} {ops : Array Oper} {h0 : Nat → Prop} {w0 : World} {Fz0 : FzT}
theorem SvOwn.sc {v x : Value} {Fz : FzT} {w : World} {F : List Nat} (h : SvOwn false [PV.val x] Fz w v F) : v = x ∧ F = [] := by
  obtain ⟨h1, v', vs', F1, F2, h2, rfl, ⟨⟨rfl, h3⟩, rfl⟩, h4, rfl⟩ := h
  subst h4
  refine ⟨?_, rfl⟩
  cases v <;> first
    | (simp [isAg] at h1; done)
    | (simp [Value.cells] at h2; exact h2)
theorem SvOwn.atom {v : Value} {p : PV} {Fz : FzT} {w : World} {F : List Nat} (h : SvOwn false [p] Fz w v F) : p.own Fz w v F := by
  obtain ⟨h1, v', vs', F1, F2, h2, rfl, h3, h4, rfl⟩ := h
  subst h4
  have e : v.cells.toList = [v] := by cases v <;> first | (simp [isAg] at h1; done) | rfl
  rw [e] at h2
  injection h2 with h2 _
  subst h2
  rw [List.append_nil]; exact h3
theorem cells_of_one {v : Value} (h : v.oneCell' = true) : v.cells.toList = [v] ∧ isAg v = false := by
  cases v <;> first | (simp [Value.oneCell'] at h; done) | exact ⟨rfl, rfl⟩
theorem SvOwn.of_atom {v : Value} {p : PV} {Fz : FzT} {w : World} {F : List Nat} (h : p.own Fz w v F) : SvOwn false [p] Fz w v F := by
  obtain ⟨e1, e2⟩ := cells_of_one (p.one (p.toRel h))
  exact ⟨e2, by rw [e1]; exact ⟨v, [], F, [], rfl, by simp, h, rfl, rfl⟩⟩
theorem SvOwn.of_sc {x : Value} {Fz : FzT} {w : World} (h : x.oneCell' = true) : SvOwn false [PV.val x] Fz w x [] := SvOwn.of_atom ⟨⟨rfl, h⟩, rfl⟩

/-! ### an operation's operands -/
def opR (x : Operand) (r : RV) : List (Nat × RV) := match x with | .tmp t => [(t, r)] | _ => []
def OpOk (x : Operand) (r : RV) : Prop := match x with
  | .tmp _ => True
  | .const v => ∀ (φ : Nat → Nat) (Fz : FzT) (w : World), r.holds φ Fz w v []
  | .func f => ∀ (φ : Nat → Nat) (Fz : FzT) (w : World), r.holds φ Fz w (.func (.func f) #[] #[]) []
  | _ => False
theorem RdL.left {β : Type} {l m : List (Nat × β)} {f : Nat → Option β} (h : RdL (l ++ m) f) : RdL l f := RdL.of_mem fun p hp => h.mem p (by simp [hp])
theorem RdL.right {β : Type} {l m : List (Nat × β)} {f : Nat → Option β} (h : RdL (l ++ m) f) : RdL m f := RdL.of_mem fun p hp => h.mem p (by simp [hp])
variable {σ : St} {a : Act} {w : World} {φ : Nat → Nat} {Fz : FzT} {Fp : Nat → List Nat}
theorem ConcW.op (h : ConcW h0 w0 Fz0 n σ a w φ Fz Fp) {x : Operand} {r : RV} (hr : RdL (opR x r) σ.s) (hk : OpOk x r) : ∃ F, r.holds φ Fz w (a.eval x) F := by
  cases x with
  | tmp t => exact ⟨_, h.slot t r hr.1⟩
  | const v => exact ⟨[], hk _ _ _⟩
  | global g => exact hk.elim
  | func f => exact ⟨[], hk _ _ _⟩
theorem ConcW.sc (h : ConcW h0 w0 Fz0 n σ a w φ Fz Fp) {x : Operand} {v : Value} (hr : RdL (opR x (RV.sc v)) σ.s) (hk : OpOk x (RV.sc v)) : a.eval x = v := by
  obtain ⟨F, hF⟩ := h.op hr hk
  exact (SvOwn.sc hF).1
theorem ConcW.one_ (h : ConcW h0 w0 Fz0 n σ a w φ Fz Fp) {t : Nat} {v : Value} (hr : σ.s t = some (RV.sc v)) : a.tmps.getD t undef = v ∧ v.oneCell' = true := by
  have k := h.slot t _ hr
  obtain ⟨e, _⟩ := SvOwn.sc k
  exact ⟨e, by
    have := k.2.one v
    obtain ⟨h1, v', vs', F1, F2, h2, _, ⟨⟨rfl, h3⟩, _⟩, _⟩ := k
    exact h3⟩
/-- The result goes to its slot; it owns nothing. -/
theorem ConcW.put0 (h : ConcW h0 w0 Fz0 n σ a w φ Fz Fp) {d : Nat} {r : RV} {v : Value} (hd : d < n) (hv : r.holds φ Fz w v []) : Conc h0 w0 Fz0 n (σ.set d (some r)) (a.put (some d) v) w :=
  ⟨φ, Fz, _, h.push hd hv (F := []) (X := Fp 0) (by simp) (by simpa using h.nod 0)⟩
theorem wp_val {o : Oper} {K : Act → World → Prop} {Q : Exit → Act → World → Prop} {v : Value} {w' : World} (h : (execOp a.eval o).run P w = .ok (.value v) w') (hk : K (a.put o.dst v) w') : o.wp P a w K Q := by
  unfold Oper.wp; rw [h]; exact hk
theorem wp_skip' {o : Oper} {K : Act → World → Prop} {Q : Exit → Act → World → Prop} {w' : World} (h : (execOp a.eval o).run P w = .ok .skip w') (hk : K (a.put o.dst undef) w') : o.wp P a w K Q := by
  unfold Oper.wp; rw [h]; exact hk

/-- Nothing was laid there. -/
def RV.und : RV where
  holds _ _ _ v F := v = undef ∧ F = []
  men _ := false
  mono h _ _ _ := h
  lt h := by rw [h.2]; simp
theorem ConcW.putU (h : ConcW h0 w0 Fz0 n σ a w φ Fz Fp) (d : Nat) : Conc h0 w0 Fz0 n (σ.set d (some RV.und)) (a.put (some d) undef) w := by
  have c := h.wipe d undef
  refine ⟨φ, Fz, mv Fp (2 * d + 1), { c with slot := fun i rv hi => ?_, box := fun e bx he => c.box e bx he, bxb := fun e bx he => c.bxb e bx he, inj := fun e e' c1 c2 h1 h2 => c.inj e e' c1 c2 h1 h2 }⟩
  rw [St.set_s] at hi
  split at hi
  · rename_i e
    subst e
    injection hi with hi
    subst hi
    refine ⟨?_, by simp [mv]⟩
    show (a.tmps.setIfInBounds i undef).getD i undef = undef
    rw [Array.getD_eq_getD_getElem?]
    by_cases hlt : i < a.tmps.size
    · rw [Array.getElem?_setIfInBounds_self_of_lt hlt]; rfl
    · rw [Array.getElem?_eq_none (by simp; omega)]; rfl
  · rename_i hne
    exact c.slot i rv (by rw [St.set_s, if_neg hne]; exact hi)
/-- The operation does what the step says, its guard aside. -/
def Loc (P : Program) (n : Nat) (o : Oper) (L : Step) : Prop :=
  ∀ {h0 : Nat → Prop} {w0 : World} {Fz0 : FzT} {σ : St} {a : Act} {w : World} {K : Act → World → Prop} {Q : Exit → Act → World → Prop}, Conc h0 w0 Fz0 n σ a w → RdL L.rs σ.s → RdL L.rb σ.b →
    (∀ d, L.al = some d → Free d σ) → (∀ a' w', Conc h0 w0 Fz0 n (σ.app L) a' w' → K a' w') → o.wp P a w K Q
theorem LocG.of {o : Oper} {L : Step} (hg : o.guard = none) (h : Loc P n o L) : LocG P n ops o L := by
  intro h0 w0 Fz0 σ a w K Q h1 h2 h3 h4 h5
  rw [if_pos (by simp [Region.wanted, hg])]
  exact h h1 h2 h3 h4 h5
theorem yielded_of {g s : Nat} {b : Bool} (hs : (ops[g]?).bind (·.dst) = some s) (hn : a.tmps.size = n) (hlt : s < n) (h : a.tmps.getD s undef = .bool b) : yielded ops a.tmps g = some b := by
  unfold yielded
  rw [hs]
  rw [Array.getD_eq_getD_getElem?, Array.getElem?_eq_getElem (by omega)] at h
  simp only [Option.getD_some] at h
  simp [Array.getElem?_eq_getElem (show s < a.tmps.size by omega), h]
theorem LocG.yes {o : Oper} {L : Step} {g s : Nat} {b c : Bool} (hg : o.guard = some (g, b)) (hs : (ops[g]?).bind (·.dst) = some s) (hlt : s < n) (hb : c = b) (h : Loc P n o L) :
    LocG P n ops o ⟨(s, RV.bool c) :: L.rs, L.rb, L.ws, L.wb, L.al⟩ := by
  intro h0 w0 Fz0 σ a w K Q h1 h2 h3 h4 h5
  obtain ⟨φ, Fz, Fp, hc⟩ := h1
  have hy := yielded_of (ops := ops) hs hc.siz hlt (hc.one_ h2.1).1
  rw [if_pos (by simp [Region.wanted, hg, hy, hb])]
  exact h ⟨φ, Fz, Fp, hc⟩ h2.2 h3 h4 h5
theorem LocG.no {o : Oper} {g s d : Nat} {b c : Bool} (hg : o.guard = some (g, b)) (hs : (ops[g]?).bind (·.dst) = some s) (hlt : s < n) (hb : c = !b) (hd : o.dst = some d) :
    LocG P n ops o ⟨[(s, RV.bool c)], [], [(d, some RV.und)], [], none⟩ := by
  intro h0 w0 Fz0 σ a w K Q h1 h2 h3 h4 h5
  obtain ⟨φ, Fz, Fp, hc⟩ := h1
  have hy := yielded_of (ops := ops) hs hc.siz hlt (hc.one_ h2.1).1
  rw [if_neg (by simp [Region.wanted, hg, hy, hb]), hd]
  exact h5 _ _ (hc.putU d)
theorem yielded_und {g s : Nat} (hs : (ops[g]?).bind (·.dst) = some s) (h : a.tmps.getD s undef = undef) : yielded ops a.tmps g = none := by
  have h' : a.tmps[s]?.getD undef = undef := by simpa using h
  unfold yielded
  rw [hs]
  cases hv : a.tmps[s]? with
  | none => simp [hv]
  | some v =>
    rw [hv] at h'
    simp only [Option.getD_some] at h'
    subst h'
    simp [hv, undef]
/-- The guard itself was not run. -/
theorem LocG.noU {o : Oper} {g s d : Nat} {b : Bool} (hg : o.guard = some (g, b)) (hs : (ops[g]?).bind (·.dst) = some s) (hd : o.dst = some d) :
    LocG P n ops o ⟨[(s, RV.und)], [], [(d, some RV.und)], [], none⟩ := by
  intro h0 w0 Fz0 σ a w K Q h1 h2 h3 h4 h5
  obtain ⟨φ, Fz, Fp, hc⟩ := h1
  have hy := yielded_und (ops := ops) (a := a) hs (hc.slot s _ h2.1).1
  rw [if_neg (by simp [Region.wanted, hg, hy]), hd]
  exact h5 _ _ (hc.putU d)

theorem RunS.step {QS : St → Prop} {o : Oper} {l : List Oper} {L : Step} (h1 : RdL L.rs σ.s) (h2 : RdL L.rb σ.b) (hl : LocG P n ops o L)
    (h3 : ∀ d, L.al = some d → Free d σ) (h5 : RunS P n ops QS l (σ.app L)) : RunS P n ops QS (o :: l) σ :=
  ⟨L, hl, h1, h2, h3, h5⟩
theorem RunS.cases {QS : St → Prop} {l : List Oper} {s : Nat} {b : Bool} (_hs : σ.s s = some (RV.bool b)) (ht : b = true → RunS P n ops QS l σ) (hf : b = false → RunS P n ops QS l σ) : RunS P n ops QS l σ := by
  cases hb : b
  · exact hf hb
  · exact ht hb
theorem Run.step {σ0 : St} {QS : St → Prop} {o : Oper} {l : List Oper} {acc : List (Nat × Step)} {L : Step} (m : Nat) (h1 : RdL L.rs σ.s) (h2 : RdL L.rb σ.b) (hl : LocG P n ops o L)
    (h3 : ∀ d, L.al = some d → Free d σ0) (h4 : chkE m o L acc = true) (h5 : Run P n ops σ0 (fun _ _ => True) QS l (acc ++ [(m, L)]) (σ.app L)) : Run P n ops σ0 (fun _ _ => True) QS (o :: l) acc σ :=
  ⟨m, L, hl, h1, h2, h3, h4, True.intro, h5⟩
theorem Run.stepC {σ0 : St} {C : Nat → Step → Prop} {QS : St → Prop} {o : Oper} {l : List Oper} {acc : List (Nat × Step)} {L : Step} (m : Nat) (h1 : RdL L.rs σ.s) (h2 : RdL L.rb σ.b) (hl : LocG P n ops o L)
    (h3 : ∀ d, L.al = some d → Free d σ0) (h4 : chkE m o L acc = true) (hC : C acc.length L) (h5 : Run P n ops σ0 C QS l (acc ++ [(m, L)]) (σ.app L)) : Run P n ops σ0 C QS (o :: l) acc σ :=
  ⟨m, L, hl, h1, h2, h3, h4, hC, h5⟩
theorem Run.cases {σ0 : St} {C : Nat → Step → Prop} {QS : St → Prop} {l : List Oper} {acc : List (Nat × Step)} {s : Nat} {b : Bool} (_hs : σ.s s = some (RV.bool b)) (ht : b = true → Run P n ops σ0 C QS l acc σ) (hf : b = false → Run P n ops σ0 C QS l acc σ) :
    Run P n ops σ0 C QS l acc σ := by
  cases hb : b
  · exact hf hb
  · exact ht hb

theorem ToL.nil : ToL [] [] := True.intro
theorem ToL.cons {p q : PV} {ps qs : List PV} (h : p.To q) (k : ToL ps qs) : ToL (p :: ps) (q :: qs) := ⟨h, k⟩
/-! ### move and assign -/
/-- A copy that owns nothing. -/
def Cp (r r' : RV) : Prop := ∀ {φ : Nat → Nat} {Fz : FzT} {w : World} {v : Value} {F : List Nat}, r.holds φ Fz w v F → r'.holds φ Fz w v []
theorem Cp.sc {v : Value} : Cp (RV.sc v) (RV.sc v) := fun h => by
  obtain ⟨rfl, rfl⟩ := SvOwn.sc h
  exact h
theorem Cp.sv {ag : Bool} {cs qs : List PV} (h : ToL cs qs) (hb : BorL qs) : Cp (RV.sv ag cs) (RV.sv ag qs) := fun hh => ⟨hh.1, hb.own (h.rel hh.2.rel)⟩
theorem Cp.bor {ag : Bool} {cs : List PV} (hb : BorL cs) : Cp (RV.sv ag cs) (RV.sv ag cs) := Cp.sv (ToL.refl cs) hb
theorem Cp.ptr {d off : Nat} : Cp (RV.ptr d off) (RV.ptr d off) := fun h => ⟨h.1, rfl⟩
theorem Cp.eptr {cs : List PV} : Cp (RV.eptr cs) (RV.eptr cs) := fun h => ⟨h.1, rfl⟩

theorem run_move {o : Oper} {x : Operand} (hop : o.op = .move x ∨ o.op = .assign x) : (execOp a.eval o).run P w = .ok (.value (a.eval x)) w := by
  unfold execOp
  rcases hop with h | h <;> rw [h] <;> rfl
theorem loc_copy {op : Op} {d x : Nat} {ty : TypeId} {pos : String} {af : Array Edge} {g : Option (Nat × Bool)} {r r' : RV} (hop : op = .move (.tmp x) ∨ op = .assign (.tmp x)) (hd : d < n) (hc : Cp r r') :
    Loc P n ⟨some d, op, ty, pos, af, g⟩ ⟨[(x, r)], [], [(d, some r')], [], none⟩ := by
  intro h0 w0 Fz0 σ a w K Q h1 h2 _ _ h5
  obtain ⟨φ, Fz, Fp, h⟩ := h1
  exact wp_val (run_move hop) (h5 _ _ (h.put0 hd (hc (h.slot x r h2.1))))
theorem loc_take {op : Op} {d x : Nat} {ty : TypeId} {pos : String} {af : Array Edge} {g : Option (Nat × Bool)} {r : RV} (hop : op = .move (.tmp x) ∨ op = .assign (.tmp x)) (hd : d < n) :
    Loc P n ⟨some d, op, ty, pos, af, g⟩ ⟨[(x, r)], [], [(x, none), (d, some r)], [], none⟩ := by
  intro h0 w0 Fz0 σ a w K Q h1 h2 _ _ h5
  obtain ⟨φ, Fz, Fp, h⟩ := h1
  have hx := h.slot x r h2.1
  have k := h.pull x
  have hX : ∀ b, b ∈ Fp (2 * x + 1) ++ Fp 0 → b ∈ mv Fp (2 * x + 1) 0 := fun b hb => by unfold mv; rw [if_pos rfl]; exact hb
  have hn : (Fp (2 * x + 1) ++ Fp 0).Nodup := by have := k.nod 0; unfold mv at this; rw [if_pos rfl] at this; exact this
  exact wp_val (run_move hop) (h5 _ _ ⟨φ, Fz, _, k.push hd hx hX hn⟩)
theorem loc_const {op : Op} {d : Nat} {v : Value} {ty : TypeId} {pos : String} {af : Array Edge} {g : Option (Nat × Bool)} {r : RV} (hop : op = .move (.const v) ∨ op = .assign (.const v)) (hd : d < n) (hc : OpOk (.const v) r) :
    Loc P n ⟨some d, op, ty, pos, af, g⟩ ⟨[], [], [(d, some r)], [], none⟩ := by
  intro h0 w0 Fz0 σ a w K Q h1 _ _ _ h5
  obtain ⟨φ, Fz, Fp, h⟩ := h1
  exact wp_val (run_move hop) (h5 _ _ (h.put0 hd (hc _ _ _)))
theorem ok_sc {v : Value} (h : v.oneCell' = true) : OpOk (.const v) (RV.sc v) := fun _ _ _ => SvOwn.of_sc h
theorem ok_nil {t e : Nat} : OpOk (.const (.slice none 0 0)) (RV.slc (.own t e) []) := fun _ _ w =>
  SvOwn.of_atom (p := PV.sl (.own t e) []) ⟨[], [], World.ownsRow_nil w 0 t e, ⟨rfl, rfl⟩, fun g hg => by simp [Value.ownBlock] at hg, by simp [Value.ownBlock], fun g hg => by simp [Value.ownBlock] at hg⟩
theorem ok_nilr : OpOk (.const (.slice none 0 0)) (RV.slc .v []) := fun _ _ _ =>
  SvOwn.of_atom (p := PV.sl .v []) ⟨⟨none, 0, 0, fun _ _ => undef, rfl, Nat.le_refl _, Nat.zero_le _, by simp, .inl rfl, by simp⟩, rfl⟩

/-! ### integers and bools -/
theorem loc_bin {op : BinOp} {T T2 : TypeId} {x y : Operand} {d : Nat} {ty : TypeId} {pos : String} {af : Array Edge} {g : Option (Nat × Bool)} {vx vy v : Value} (hd : d < n) (hx : OpOk x (RV.sc vx)) (hy : OpOk y (RV.sc vy)) (hv : v.oneCell' = true)
    (h : ∀ w : World, Sem.run P (do eqGuard op T x y vx vy; binOp op T vx vy : Sem Value) w = .ok v w) :
    Loc P n ⟨some d, .binOp op T x y T2, ty, pos, af, g⟩ ⟨opR x (RV.sc vx) ++ opR y (RV.sc vy), [], [(d, some (RV.sc v))], [], none⟩ := by
  intro h0 w0 Fz0 σ a w K Q h1 h2 _ _ h5
  obtain ⟨φ, Fz, Fp, hc⟩ := h1
  have ex := hc.sc h2.left hx
  have ey := hc.sc h2.right hy
  refine wp_val (v := v) (w' := w) ?_ (h5 _ _ (hc.put0 hd (SvOwn.of_sc hv)))
  unfold execOp
  simp only [ex, ey, Sem.run_bind, h, Result.andThen_ok, Sem.run_pure]
section
variable {T : TypeId} {x y : Operand} {i j : Int} {w : World}
theorem bin_lss : Sem.run P (do eqGuard .lss T x y (vI i) (vI j); binOp .lss T (vI i) (vI j) : Sem Value) w = .ok (.bool (decide (i < j))) w := by simp [eqGuard, binOp, Op.intCmp]
theorem bin_leq : Sem.run P (do eqGuard .leq T x y (vI i) (vI j); binOp .leq T (vI i) (vI j) : Sem Value) w = .ok (.bool (decide (i ≤ j))) w := by simp [eqGuard, binOp, Op.intCmp]
theorem bin_gtr : Sem.run P (do eqGuard .gtr T x y (vI i) (vI j); binOp .gtr T (vI i) (vI j) : Sem Value) w = .ok (.bool (decide (i > j))) w := by simp [eqGuard, binOp, Op.intCmp]
theorem bin_geq : Sem.run P (do eqGuard .geq T x y (vI i) (vI j); binOp .geq T (vI i) (vI j) : Sem Value) w = .ok (.bool (decide (i ≥ j))) w := by simp [eqGuard, binOp, Op.intCmp]
theorem bin_eql : Sem.run P (do eqGuard .eql T x y (vI i) (vI j); binOp .eql T (vI i) (vI j) : Sem Value) w = .ok (.bool (i == j)) w := by simp [eqGuard, binOp, Op.intCmp]
theorem bin_neq : Sem.run P (do eqGuard .neq T x y (vI i) (vI j); binOp .neq T (vI i) (vI j) : Sem Value) w = .ok (.bool (i != j)) w := by simp [eqGuard, binOp, Op.intCmp]
theorem bin_addw : Sem.run P (do eqGuard .add T x y (vI i) (vI j); binOp .add T (vI i) (vI j) : Sem Value) w = .ok (vI (IntKind.i64.wrap (i + j))) w := by simp [eqGuard, binOp, Op.intArith]
theorem bin_subw : Sem.run P (do eqGuard .sub T x y (vI i) (vI j); binOp .sub T (vI i) (vI j) : Sem Value) w = .ok (vI (IntKind.i64.wrap (i - j))) w := by simp [eqGuard, binOp, Op.intArith]
theorem bin_mulw : Sem.run P (do eqGuard .mul T x y (vI i) (vI j); binOp .mul T (vI i) (vI j) : Sem Value) w = .ok (vI (IntKind.i64.wrap (i * j))) w := by simp [eqGuard, binOp, Op.intArith]
end
def I64 (n : Int) : Prop := -9223372036854775808 ≤ n ∧ n ≤ 9223372036854775807
section
variable {T T2 : TypeId} {x y : Operand} {d : Nat} {ty : TypeId} {pos : String} {af : Array Edge} {g : Option (Nat × Bool)} {i j : Int} (hd : d < n) (hx : OpOk x (RV.int i)) (hy : OpOk y (RV.int j))
include hd hx hy
theorem loc_lss : Loc P n ⟨some d, .binOp .lss T x y T2, ty, pos, af, g⟩ ⟨opR x (RV.int i) ++ opR y (RV.int j), [], [(d, some (RV.bool (decide (i < j))))], [], none⟩ := loc_bin hd hx hy rfl fun _ => bin_lss
theorem loc_leq : Loc P n ⟨some d, .binOp .leq T x y T2, ty, pos, af, g⟩ ⟨opR x (RV.int i) ++ opR y (RV.int j), [], [(d, some (RV.bool (decide (i ≤ j))))], [], none⟩ := loc_bin hd hx hy rfl fun _ => bin_leq
theorem loc_gtr : Loc P n ⟨some d, .binOp .gtr T x y T2, ty, pos, af, g⟩ ⟨opR x (RV.int i) ++ opR y (RV.int j), [], [(d, some (RV.bool (decide (i > j))))], [], none⟩ := loc_bin hd hx hy rfl fun _ => bin_gtr
theorem loc_geq : Loc P n ⟨some d, .binOp .geq T x y T2, ty, pos, af, g⟩ ⟨opR x (RV.int i) ++ opR y (RV.int j), [], [(d, some (RV.bool (decide (i ≥ j))))], [], none⟩ := loc_bin hd hx hy rfl fun _ => bin_geq
theorem loc_eql : Loc P n ⟨some d, .binOp .eql T x y T2, ty, pos, af, g⟩ ⟨opR x (RV.int i) ++ opR y (RV.int j), [], [(d, some (RV.bool (i == j)))], [], none⟩ := loc_bin hd hx hy rfl fun _ => bin_eql
theorem loc_neq : Loc P n ⟨some d, .binOp .neq T x y T2, ty, pos, af, g⟩ ⟨opR x (RV.int i) ++ opR y (RV.int j), [], [(d, some (RV.bool (i != j)))], [], none⟩ := loc_bin hd hx hy rfl fun _ => bin_neq
theorem loc_add (h : I64 (i + j)) : Loc P n ⟨some d, .binOp .add T x y T2, ty, pos, af, g⟩ ⟨opR x (RV.int i) ++ opR y (RV.int j), [], [(d, some (RV.int (i + j)))], [], none⟩ :=
  loc_bin hd hx hy rfl fun _ => by rw [bin_addw, IntWalk.i64_in _ h]
theorem loc_sub (h : I64 (i - j)) : Loc P n ⟨some d, .binOp .sub T x y T2, ty, pos, af, g⟩ ⟨opR x (RV.int i) ++ opR y (RV.int j), [], [(d, some (RV.int (i - j)))], [], none⟩ :=
  loc_bin hd hx hy rfl fun _ => by rw [bin_subw, IntWalk.i64_in _ h]
theorem loc_mul (h : I64 (i * j)) : Loc P n ⟨some d, .binOp .mul T x y T2, ty, pos, af, g⟩ ⟨opR x (RV.int i) ++ opR y (RV.int j), [], [(d, some (RV.int (i * j)))], [], none⟩ :=
  loc_bin hd hx hy rfl fun _ => by rw [bin_mulw, IntWalk.i64_in _ h]
theorem loc_addw : Loc P n ⟨some d, .binOp .add T x y T2, ty, pos, af, g⟩ ⟨opR x (RV.int i) ++ opR y (RV.int j), [], [(d, some (RV.int (IntKind.i64.wrap (i + j))))], [], none⟩ := loc_bin hd hx hy rfl fun _ => bin_addw
theorem loc_subw : Loc P n ⟨some d, .binOp .sub T x y T2, ty, pos, af, g⟩ ⟨opR x (RV.int i) ++ opR y (RV.int j), [], [(d, some (RV.int (IntKind.i64.wrap (i - j))))], [], none⟩ := loc_bin hd hx hy rfl fun _ => bin_subw
end
theorem loc_not {T : TypeId} {x d : Nat} {ty : TypeId} {pos : String} {af : Array Edge} {g : Option (Nat × Bool)} {b : Bool} (hd : d < n) :
    Loc P n ⟨some d, .unOp .not T (.tmp x), ty, pos, af, g⟩ ⟨[(x, RV.bool b)], [], [(d, some (RV.bool !b))], [], none⟩ := by
  intro h0 w0 Fz0 σ a w K Q h1 h2 _ _ h5
  obtain ⟨φ, Fz, Fp, hc⟩ := h1
  have ex := (hc.one_ h2.1).1
  refine wp_val (v := .bool !b) (w' := w) ?_ (h5 _ _ (hc.put0 hd (SvOwn.of_sc rfl)))
  unfold execOp
  simp [Act.eval, Op.unary, -Array.getD_eq_getD_getElem?, ex]
/-- 'a && b', 'a || b': the first operand decides. -/
theorem loc_pick {c x y z : Operand} {d : Nat} {ty : TypeId} {pos : String} {af : Array Edge} {g : Option (Nat × Bool)} {b : Bool} {r : RV} (hd : d < n) (hb : (bif b then x else y) = z) (hc : OpOk c (RV.bool b)) (hz : OpOk z r) (hcp : Cp r r) :
    Loc P n ⟨some d, .pick c x y, ty, pos, af, g⟩ ⟨opR c (RV.bool b) ++ opR z r, [], [(d, some r)], [], none⟩ := by
  intro h0 w0 Fz0 σ a w K Q h1 h2 _ _ h5
  obtain ⟨φ, Fz, Fp, h⟩ := h1
  have ec := h.sc h2.left hc
  obtain ⟨F, hF⟩ := h.op h2.right hz
  refine wp_val (v := a.eval z) (w' := w) ?_ (h5 _ _ (h.put0 hd (hcp hF)))
  unfold execOp
  subst hb
  cases b <;> simp [ec, asBool]
end
end Go.Proofs.Ytloipjaiceifbaa.M
