/- Rules for variables: made, read, written. No condition. -/
import Derived.Test.YtloipjaiceifbaaCD
namespace Go.Proofs.Ytloipjaiceifbaa.M
open Go Go.RowKit

/-! ### what a type's rows say -/
def tyI (P : Program) (T : TypeId) : Option (Bool × Nat) := match P.underlying T, P.info? T with
  | some d, some i => some (match d with | .struct _ => true | .array _ _ => true | _ => false, i.size)
  | _, _ => none
def zeroI (P : Program) (T : TypeId) : Option Value := (P.info? T).bind (·.zero)
def sliceI (P : Program) (T : TypeId) : Option (Nat × Nat × Nat) := match P.underlying T with
  | some (.slice E) => (P.info? E).map fun i => (E, i.size, i.bytes)
  | _ => none
def fieldI (P : Program) (T : TypeId) (f : Nat) : Option Nat := match P.underlying T with
  | some (.struct fs) => match fs[f]? with
    | some fd => match P.info? fd.type with
      | some i => if i.size = 0 then none else some fd.offset
      | none => none
    | none => none
  | _ => none
section
variable {P : Program}
theorem tyI_spec {T : TypeId} {ag : Bool} {k : Nat} (h : tyI P T = some (ag, k)) (w : World) : (isAgg T).run P w = .ok ag w ∧ (sizeOf T).run P w = .ok k w := by
  unfold tyI at h
  cases hu : P.underlying T with
  | none => rw [hu] at h; cases h
  | some d =>
    cases hi : P.info? T with
    | none => rw [hu, hi] at h; cases h
    | some i =>
      rw [hu, hi] at h
      simp only [Option.some.injEq, Prod.mk.injEq] at h
      obtain ⟨h1, h2⟩ := h
      refine ⟨?_, by simp [sizeOf, typeInfo, hi, h2]⟩
      unfold isAgg
      simp only [Sem.run_bind, run_underlying hu, Result.andThen_ok]
      rw [← h1]
      cases d <;> rfl
theorem sliceI_spec {T E k bs : Nat} (h : sliceI P T = some (E, k, bs)) : P.underlying T = some (.slice E) ∧ ∃ i, P.info? E = some i ∧ i.size = k ∧ i.bytes = bs := by
  unfold sliceI at h
  split at h
  · rename_i E' hu
    cases hi : P.info? E' with
    | none => rw [hi] at h; cases h
    | some i =>
      rw [hi] at h
      simp only [Option.map_some, Option.some.injEq, Prod.mk.injEq] at h
      obtain ⟨rfl, h1, h2⟩ := h
      exact ⟨hu, i, hi, h1, h2⟩
  · cases h
theorem zeroI_spec {T : TypeId} {z : Value} (h : zeroI P T = some z) (w : World) : (zeroValue T).run P w = .ok z w := by
  unfold zeroI at h
  cases hi : P.info? T with
  | none => rw [hi] at h; cases h
  | some i =>
    rw [hi, Option.bind_some] at h
    simp [zeroValue, typeInfo, hi, h]
theorem fieldI_spec {T : TypeId} {f fo : Nat} (h : fieldI P T f = some fo) (w : World) (a : Addr) : (Instr.fieldAt T (.pointer (some a)) f).run P w = .ok (.pointer (some (a.add fo))) w := by
  unfold fieldI at h
  split at h
  · rename_i fs hu
    split at h
    · rename_i fd hf
      split at h
      · rename_i i hi
        split at h
        · cases h
        · rename_i hs
          injection h with h
          subst h
          simp [Instr.fieldAt, run_underlying hu, hf, Instr.sureAddr, fieldPlace, sizeOf, typeInfo, hi, hs]
      · cases h
    · cases h
  · cases h
theorem add_lit (b o k : Nat) : (⟨b, o, none⟩ : Addr).add k = ⟨b, o + k, none⟩ := by
  unfold Addr.add
  by_cases h : k = 0 <;> simp [h]
theorem run_loadVar {T : TypeId} {ag : Bool} {k : Nat} (h : tyI P T = some (ag, k)) (w : World) (b off : Nat) (vs : List Value) (hl : vs.length = k) (h1 : ag = false → k = 1)
    (hc : ∀ (j : Nat) u, vs[j]? = some u → w.cell? ⟨b, off + j, none⟩ = some u) (hone : ∀ v, v ∈ vs → v.oneCell' = true) : ∃ v, (loadVar T ⟨b, off, none⟩).run P w = .ok v w ∧ isAg v = ag ∧ v.cells.toList = vs := by
  obtain ⟨e1, e2⟩ := tyI_spec h w
  cases ag with
  | true =>
    refine ⟨.agg vs.toArray, ?_, rfl, rfl⟩
    have e3 := run_loadCells_list (P := P) w ⟨b, off, none⟩ vs (fun j v hv => by rw [add_lit]; exact hc j v hv)
    subst hl
    simp [loadVar, e1, e2, e3]
  | false =>
    have hk := h1 rfl
    subst hk
    obtain ⟨v, rfl⟩ := List.length_eq_one_iff.1 hl
    obtain ⟨c1, c2⟩ := cells_of_one (hone v (by simp))
    refine ⟨v, ?_, c2, c1⟩
    have := hc 0 v rfl
    rw [Nat.add_zero] at this
    simp [loadVar, e1, this]
end

section
variable {P : Program} {n : Nat} {ops : Array Oper} {h0 : Nat → Prop} {w0 : World} {Fz0 : FzT} {σ τ : St} {a : Act} {w : World} {φ : Nat → Nat} {Fz : FzT} {Fp : Nat → List Nat}
theorem Conc.eqv (h : Conc h0 w0 Fz0 n σ a w) (hs : ∀ i, τ.s i = σ.s i) (hb : ∀ d, τ.b d = σ.b d) : Conc h0 w0 Fz0 n τ a w :=
  h.less (fun i rv hi => by rw [← hs]; exact hi) (fun d cs hd => by rw [← hb]; exact hd)
/-- A new block; its first k cells stay. -/
theorem ConcW.new (h : ConcW h0 w0 Fz0 n σ a w φ Fz Fp) (arr : Array Value) (T : TypeId) (k : Nat) :
    ConcW h0 w0 Fz0 n σ a (w.alloc (.cells arr T)) φ (fun b o => Fz b o ∨ (b = w.heap.size ∧ o < k)) (fun x => if x = 0 then w.heap.size :: Fp 0 else Fp x) := by
  have hs : (w.alloc (.cells arr T)).heap.size = w.heap.size + 1 := by simp
  refine h.world (w' := w.alloc (.cells arr T)) (Fz' := fun b o => Fz b o ∨ (b = w.heap.size ∧ o < k)) rfl rfl rfl (by omega) (fun b hb _ => ⟨Below.heap_alloc w _ b hb, fun o ho => ?_⟩) (fun b o hbo => ⟨Or.inl hbo, ?_⟩) (fun b o hbo => ?_) (fun b hb => ?_) ?_
  · rcases ho with ho | ⟨ho, _⟩
    · exact ho
    · omega
  · exact World.cell?_of_block (Below.heap_alloc w _ b (h.fzl b o hbo))
  · rcases hbo with hbo | ⟨rfl, _⟩
    · have := h.fzl b o hbo; omega
    · omega
  · rcases List.mem_cons.1 hb with rfl | hb
    · exact .inr ⟨Nat.le_refl _, by omega⟩
    · exact .inl hb
  · exact List.nodup_cons.2 ⟨fun hm => by have := (h.low 0 _ hm).2; omega, h.nod 0⟩
theorem keeps_new (w : World) (Fz : FzT) (arr : Array Value) (T : TypeId) (k : Nat) (hl : ∀ b o, Fz b o → b < w.heap.size) : Keeps Fz w (fun b o => Fz b o ∨ (b = w.heap.size ∧ o < k)) (w.alloc (.cells arr T)) :=
  fun b o hbo => ⟨.inl hbo, World.cell?_of_block (Below.heap_alloc w _ b (hl b o hbo))⟩
theorem holds_new (w : World) (Fz : FzT) (arr : Array Value) (T : TypeId) (k : Nat) {F : List Nat} (hF : ∀ b, b ∈ F → b < w.heap.size) : Holds F Fz w (fun b o => Fz b o ∨ (b = w.heap.size ∧ o < k)) (w.alloc (.cells arr T)) :=
  fun b hb => ⟨Below.heap_alloc w _ b (hF b hb), fun o ho => by
    rcases ho with ho | ⟨ho, _⟩
    · exact ho
    · have := hF b hb; omega⟩
/-- Variable d is forgotten. -/
theorem ConcW.drop (h : ConcW h0 w0 Fz0 n σ a w φ Fz Fp) (d : Nat) : ConcW h0 w0 Fz0 n (σ.setB d none) a w φ Fz Fp :=
  h.less (fun _ _ hi => hi) (fun e cs he => by
    rw [St.setB_b] at he
    split at he
    · cases he
    · exact he)
/-- What an operand holds floats. -/
def killO (x : Operand) : List (Nat × Option RV) := match x with | .tmp t => [(t, none)] | _ => []
def St.kill (σ : St) (x : Operand) : St := ⟨setL (killO x) σ.s, σ.b⟩
theorem ConcW.pullO (h : ConcW h0 w0 Fz0 n σ a w φ Fz Fp) {x : Operand} {r : RV} (hr : RdL (opR x r) σ.s) (hk : OpOk x r) :
    ∃ F Fp', r.holds φ Fz w (a.eval x) F ∧ ConcW h0 w0 Fz0 n (σ.kill x) a w φ Fz Fp' ∧ Fp' 0 = F ++ Fp 0 := by
  cases x with
  | tmp t => exact ⟨_, _, h.slot t r hr.1, h.pull t, by unfold mv; rw [if_pos rfl]⟩
  | const v => exact ⟨[], Fp, hk _ _ _, h, rfl⟩
  | global g => exact hk.elim
  | func f => exact ⟨[], Fp, hk _ _ _, h, rfl⟩

/-! ### variables in memory -/
theorem loc_alloc {T d : Nat} {ty : TypeId} {pos : String} {af : Array Edge} {g : Option (Nat × Bool)} {z : Value} {zs : List PV} (hd : d < n) (hz : zeroI P T = some z) (hzs : ∀ {Fz : FzT} {w : World}, OwnL zs Fz w z.cells.toList []) :
    Loc P n ⟨some d, .alloc T, ty, pos, af, g⟩ ⟨[], [], [(d, some (RV.ptr d 0))], [(d, some (T, zs))], some d⟩ := by
  intro h0 w0 Fz0 σ a w K Q h1 _ _ h4 h5
  obtain ⟨φ, Fz, Fp, hc⟩ := h1
  have k := (hc.drop d).new z.cells T 0
  have hF0 : (fun x => if x = 0 then w.heap.size :: Fp 0 else Fp x) 0 = w.heap.size :: Fp 0 := rfl
  have k2 := k.pushB (d := d) (g := w.heap.size) (cs := zs) (F := []) (X := Fp 0) (by rw [St.setB_b, if_pos rfl]) (heap_alloc_new w _) hzs
    (fun o ho => by
      rcases ho with ho | ⟨_, ho⟩
      · have := hc.fzl _ _ ho; omega
      · omega)
    (fun b hb => hb) (by simpa using k.nod 0) (.inr (h4 d rfl))
  have k3 := k2.push (i := d) (rv := RV.ptr d 0) (v := .pointer (some ⟨w.heap.size, 0, none⟩)) (F := []) (X := Fp 0) hd ⟨by simp, rfl⟩
    (by intro b hb; simp [give] at hb ⊢; exact hb) (by simpa using hc.nod 0)
  refine wp_val (v := .pointer (some ⟨w.heap.size, 0, none⟩)) (w' := w.alloc (.cells z.cells T)) ?_ (h5 _ _ (Conc.eqv ⟨_, _, _, k3⟩ (fun i => rfl) (fun e => ?_)))
  · unfold execOp
    simp [Instr.alloc, zeroI_spec hz, newVar, newRow]
  · show setL [(d, some (T, zs))] σ.b e = _
    rw [St.set_b, St.setB_b, St.setB_b]
    simp only [setL, beq_eq]
    by_cases he : e = d <;> simp [he]
theorem loc_box {T d : Nat} {x : Operand} {ty : TypeId} {pos : String} {af : Array Edge} {g : Option (Nat × Bool)} {ag : Bool} {cs : List PV} (hd : d < n) (hx : OpOk x (RV.sv ag cs)) :
    Loc P n ⟨some d, .box T x, ty, pos, af, g⟩ ⟨opR x (RV.sv ag cs), [], killO x ++ [(d, some (RV.ptr d 0))], [(d, some (T, cs))], some d⟩ := by
  intro h0 w0 Fz0 σ a w K Q h1 h2 _ h4 h5
  obtain ⟨φ, Fz, Fp, hc⟩ := h1
  obtain ⟨F, Fp', hv, hc', hF⟩ := hc.pullO h2 hx
  have hlt := hv.2.lt
  have hfree : Free d (σ.kill x) := by
    cases x with
    | tmp t => exact Free.app (L := ⟨[], [], [(t, none)], [], none⟩) (h4 d rfl) rfl
    | _ => exact h4 d rfl
  have k := (hc'.drop d).new (a.eval x).cells T 0
  have hnd := k.nod 0
  simp only [if_true, hF] at hnd
  have hnd' : (F ++ w.heap.size :: Fp 0).Nodup := by
    rw [List.nodup_cons, List.nodup_append, List.mem_append] at hnd
    rw [List.nodup_append, List.nodup_cons]
    refine ⟨hnd.2.1, ⟨fun hm => hnd.1 (.inr hm), hnd.2.2.1⟩, fun u hu v hv e => ?_⟩
    rcases List.mem_cons.1 hv with rfl | hv
    · exact hnd.1 (.inl (e ▸ hu))
    · exact hnd.2.2.2 u hu v hv e
  have k2 := k.pushB (d := d) (g := w.heap.size) (cs := cs) (F := F) (X := Fp 0) (by rw [St.setB_b, if_pos rfl]) (heap_alloc_new w _)
    (hv.2.mono (keeps_new w Fz _ T 0 hc.fzl) (holds_new w Fz _ T 0 hlt))
    (fun o ho => by
      rcases ho with ho | ⟨_, ho⟩
      · have := hc.fzl _ _ ho; omega
      · omega)
    (fun b hb => by
      simp only [if_true, hF]
      rcases List.mem_append.1 hb with hb | hb
      · simp [hb]
      · rcases List.mem_cons.1 hb with hb | hb <;> simp [hb]) hnd' (.inr hfree)
  have k3 := k2.push (i := d) (rv := RV.ptr d 0) (v := .pointer (some ⟨w.heap.size, 0, none⟩)) (F := []) (X := Fp 0) hd ⟨by simp, rfl⟩
    (by intro b hb; simp [give] at hb ⊢; exact hb) (by simpa using hc.nod 0)
  refine wp_val (v := .pointer (some ⟨w.heap.size, 0, none⟩)) (w' := w.alloc (.cells (a.eval x).cells T)) ?_ (h5 _ _ (Conc.eqv ⟨_, _, _, k3⟩ (fun i => ?_) (fun e => ?_)))
  · unfold execOp
    simp [Instr.box, newVar, newRow]
  · cases x <;> rfl
  · show setL [(d, some (T, cs))] σ.b e = _
    rw [St.set_b, St.setB_b, St.setB_b]
    simp only [setL, beq_eq]
    by_cases he : e = d
    · simp [he]
    · simp [he]; cases x <;> rfl
theorem OwnL.seg {Fz : FzT} {w : World} {cs : List PV} {vs : List Value} {F : List Nat} (h : OwnL cs Fz w vs F) (off k : Nat) (hk : off + k ≤ cs.length) :
    ∃ F1 F2 F3, F = F1 ++ (F2 ++ F3) ∧ OwnL (cs.take off) Fz w (vs.take off) F1 ∧ OwnL ((cs.drop off).take k) Fz w ((vs.drop off).take k) F2 ∧ OwnL (cs.drop (off + k)) Fz w (vs.drop (off + k)) F3 := by
  have hl := h.len
  have e1 : cs = cs.take off ++ ((cs.drop off).take k ++ cs.drop (off + k)) := by
    rw [← List.drop_drop, List.take_append_drop, List.take_append_drop]
  rw [e1] at h
  obtain ⟨v1, v2, F1, G, rfl, rfl, h1, h2⟩ := h.split
  obtain ⟨v3, v4, F2, F3, rfl, rfl, h3, h4⟩ := h2.split
  have l1 := h1.len
  have l3 := h3.len
  rw [List.length_take] at l1
  rw [List.length_take, List.length_drop] at l3
  have m1 : v1.length = off := by omega
  have m3 : v3.length = k := by omega
  have x1 : (v1 ++ (v3 ++ v4)).take off = v1 := by rw [← m1, List.take_left]
  have x2 : ((v1 ++ (v3 ++ v4)).drop off).take k = v3 := by rw [← m1, List.drop_left, ← m3, List.take_left]
  have x3 : (v1 ++ (v3 ++ v4)).drop (off + k) = v4 := by rw [← List.drop_drop, ← m1, List.drop_left, ← m3, List.drop_left]
  rw [x1, x2, x3]
  exact ⟨F1, F2, F3, rfl, h1, h3, h4⟩
/-- A copy out of a variable. -/
theorem loc_load {T d p b off t : Nat} {ty : TypeId} {pos : String} {af : Array Edge} {g : Option (Nat × Bool)} {ag : Bool} {k : Nat} {cs qs : List PV} (hd : d < n) (hT : tyI P T = some (ag, k)) (h1 : ag = false → k = 1) (hk : off + k ≤ cs.length)
    (ht : ToL ((cs.drop off).take k) qs) (hb : BorL qs) :
    Loc P n ⟨some d, .load T (.tmp p), ty, pos, af, g⟩ ⟨[(p, RV.ptr b off)], [(b, (t, cs))], [(d, some (RV.sv ag qs))], [], none⟩ := by
  intro h0 w0 Fz0 σ a w K Q hc hr hrb _ h5
  obtain ⟨φ, Fz, Fp, hc⟩ := hc
  obtain ⟨ep, _⟩ := hc.slot p _ hr.1
  obtain ⟨cur, hg, ho⟩ := hc.box b _ hrb.1
  obtain ⟨F1, F2, F3, _, _, h2, _⟩ := ho.seg off k hk
  have hl : cur.toList.length = cs.length := ho.len
  have hll : ((cur.toList.drop off).take k).length = k := by rw [List.length_take, List.length_drop]; omega
  obtain ⟨v, e1, e2, e3⟩ := run_loadVar hT w (φ b) off ((cur.toList.drop off).take k) hll h1 (fun j u hu => by
    rw [cell_of_row w (φ b) _ cur t (0, 0) hg]
    have hj : j < k := by rw [← hll]; exact (List.getElem?_eq_some_iff.1 hu).1
    rw [List.getElem?_take_of_lt hj, List.getElem?_drop] at hu
    simpa using hu) h2.one
  refine wp_val (v := v) (w' := w) ?_ (h5 _ _ (hc.put0 hd (r := RV.sv ag qs) ⟨e2, by rw [e3]; exact hb.own (ht.rel h2.rel)⟩))
  unfold execOp
  simp only [Act.eval, ep, Instr.loadAt, Instr.sureAddr, Sem.run_bind, Sem.run_pure, Result.andThen_ok, e1]
/-- The value moves out of a variable, and what stays there owns nothing. -/
theorem loc_ltake {T d p b off t : Nat} {ty : TypeId} {pos : String} {af : Array Edge} {g : Option (Nat × Bool)} {ag : Bool} {k : Nat} {cs ms qs : List PV} (hd : d < n) (hT : tyI P T = some (ag, k)) (h1 : ag = false → k = 1) (hk : off + k ≤ cs.length)
    (hm : (cs.drop off).take k = ms) (ht : ToL ms qs) (hb : BorL qs) :
    Loc P n ⟨some d, .load T (.tmp p), ty, pos, af, g⟩ ⟨[(p, RV.ptr b off)], [(b, (t, cs))], [(d, some (RV.sv ag ms))], [(b, some (t, cs.take off ++ (qs ++ cs.drop (off + k))))], none⟩ := by
  intro h0 w0 Fz0 σ a w K Q hc hr hrb _ h5
  obtain ⟨φ, Fz, Fp, hc⟩ := hc
  subst hm
  obtain ⟨ep, _⟩ := hc.slot p _ hr.1
  obtain ⟨cur, hg, ho⟩ := hc.box b _ hrb.1
  obtain ⟨F1, F2, F3, eF, o1, o2, o3⟩ := ho.seg off k hk
  have hl : cur.toList.length = cs.length := ho.len
  have hll : ((cur.toList.drop off).take k).length = k := by rw [List.length_take, List.length_drop]; omega
  obtain ⟨v, e1, e2, e3⟩ := run_loadVar hT w (φ b) off ((cur.toList.drop off).take k) hll h1 (fun j u hu => by
    rw [cell_of_row w (φ b) _ cur t (0, 0) hg]
    have hj : j < k := by rw [← hll]; exact (List.getElem?_eq_some_iff.1 hu).1
    rw [List.getElem?_take_of_lt hj, List.getElem?_drop] at hu
    simpa using hu) o2.one
  obtain ⟨k1, k2, k3⟩ := hc.bxb b _ hrb.1
  have c1 := hc.pullB hrb.1
  have hX0 : (fun x => if x = 0 then φ b :: mv Fp (2 * b + 2) 0 else mv Fp (2 * b + 2) x) 0 = φ b :: (Fp (2 * b + 2) ++ Fp 0) := by simp [mv]
  have hn0 : (φ b :: (Fp (2 * b + 2) ++ Fp 0)).Nodup := by rw [← hX0]; exact c1.nod 0
  rw [eF] at hn0 hX0
  simp only [List.nodup_cons, List.nodup_append, List.mem_append, not_or] at hn0
  obtain ⟨⟨⟨g1, g2, g3⟩, g4⟩, ⟨n1, ⟨n2, n3, n23⟩, n123⟩, n4, nx⟩ := hn0
  have hX : ∀ x, x ∈ φ b :: (F1 ++ (F2 ++ F3) ++ Fp 0) → x ∈ (fun x => if x = 0 then φ b :: mv Fp (2 * b + 2) 0 else mv Fp (2 * b + 2) x) 0 := fun x hx => by rw [hX0]; exact hx
  have c2 := c1.pushB (d := b) (g := φ b) (cs := cs.take off ++ (qs ++ cs.drop (off + k))) (F := F1 ++ ([] ++ F3)) (X := F2) (by rw [St.setB_b, if_pos rfl]) hg
    (by
      have := o1.append ((hb.own (ht.rel o2.rel)).append o3)
      rwa [show cur.toList.take off ++ ((cur.toList.drop off).take k ++ cur.toList.drop (off + k)) = cur.toList by rw [← List.drop_drop, List.take_append_drop, List.take_append_drop]] at this) k2
    (by
      intro x hx
      refine hX x ?_
      simp only [List.mem_append, List.mem_cons, List.nil_append] at hx ⊢
      rcases hx with (hx | hx) | hx | hx <;> simp [hx])
    (by
      simp only [List.nil_append, List.nodup_append, List.nodup_cons, List.mem_append, List.mem_cons]
      refine ⟨⟨n1, n3, fun u hu v hv => n123 u hu v (.inr hv)⟩, ⟨g2, n2⟩, fun u hu v hv e => ?_⟩
      subst e
      rcases hu with hu | hu <;> rcases hv with hv | hv
      · subst hv; exact g1 hu
      · exact n123 u hu u (.inl hv) rfl
      · subst hv; exact g3 hu
      · exact n23 u hv u hu rfl) (.inl rfl)
  have hφ : (fun x => if x = b then φ b else φ x) = φ := by
    funext x
    by_cases hx : x = b <;> simp [hx]
  rw [hφ] at c2
  have c3 := c2.push (i := d) (rv := RV.sv ag ((cs.drop off).take k)) (v := v) (F := F2) (X := []) hd ⟨e2, by rw [e3]; exact o2⟩
    (by intro x hx; simp [give] at hx ⊢; exact hx) (by simpa using n2)
  refine wp_val (v := v) (w' := w) ?_ (h5 _ _ (Conc.eqv ⟨_, _, _, c3⟩ (fun i => rfl) (fun e => ?_)))
  · unfold execOp
    simp only [Act.eval, ep, Instr.loadAt, Instr.sureAddr, Sem.run_bind, Sem.run_pure, Result.andThen_ok, e1]
  · show setL [(b, some _)] σ.b e = _
    rw [St.set_b, St.setB_b, St.setB_b]
    simp only [setL, beq_eq]
    by_cases he : e = b <;> simp [he]
/-- A copy out of memory that is read only. -/
theorem loc_eload {T d p : Nat} {ty : TypeId} {pos : String} {af : Array Edge} {g : Option (Nat × Bool)} {ag : Bool} {k : Nat} {cs qs : List PV} (hd : d < n) (hT : tyI P T = some (ag, k)) (h1 : ag = false → k = 1) (hk : k ≤ cs.length)
    (ht : ToL (cs.take k) qs) (hb : BorL qs) :
    Loc P n ⟨some d, .load T (.tmp p), ty, pos, af, g⟩ ⟨[(p, RV.eptr cs)], [], [(d, some (RV.sv ag qs))], [], none⟩ := by
  intro h0 w0 Fz0 σ a w K Q hc hr hrb _ h5
  obtain ⟨φ, Fz, Fp, hc⟩ := hc
  obtain ⟨⟨b, off, vs, ep, hrel, hcell⟩, _⟩ := hc.slot p _ hr.1
  have hl := hrel.len
  have hrel' : RelL (cs.take k) Fz w (vs.take k) := by
    have e : cs = cs.take k ++ cs.drop k := (List.take_append_drop _ _).symm
    rw [e] at hrel
    obtain ⟨v1, v2, rfl, r1, _⟩ := hrel.split
    have := r1.len
    rw [List.length_take] at this
    rw [show v1 = (v1 ++ v2).take k by rw [show k = v1.length by omega, List.take_left]] at r1
    exact r1
  obtain ⟨v, e1, e2, e3⟩ := run_loadVar hT w b off (vs.take k) (by rw [List.length_take]; omega) h1 (fun j u hu => by
    have hj : j < k := by have := (List.getElem?_eq_some_iff.1 hu).1; rw [List.length_take] at this; omega
    rw [List.getElem?_take_of_lt hj] at hu
    exact (hcell j u hu).2) hrel'.one
  refine wp_val (v := v) (w' := w) ?_ (h5 _ _ (hc.put0 hd (r := RV.sv ag qs) ⟨e2, by rw [e3]; exact hb.own (ht.rel hrel')⟩))
  unfold execOp
  simp only [Act.eval, ep, Instr.loadAt, Instr.sureAddr, Sem.run_bind, Sem.run_pure, Result.andThen_ok, e1]
theorem loc_field {T d p b off f fo : Nat} {ty : TypeId} {pos : String} {af : Array Edge} {g : Option (Nat × Bool)} (hd : d < n) (hT : fieldI P T f = some fo) :
    Loc P n ⟨some d, .fieldAddr T (.tmp p) f, ty, pos, af, g⟩ ⟨[(p, RV.ptr b off)], [], [(d, some (RV.ptr b (off + fo)))], [], none⟩ := by
  intro h0 w0 Fz0 σ a w K Q hc hr hrb _ h5
  obtain ⟨φ, Fz, Fp, hc⟩ := hc
  obtain ⟨ep, _⟩ := hc.slot p _ hr.1
  refine wp_val (v := .pointer (some ⟨φ b, off + fo, none⟩)) (w' := w) ?_ (h5 _ _ (hc.put0 hd ⟨rfl, rfl⟩))
  unfold execOp
  simp only [Act.eval, ep, Sem.run_bind, fieldI_spec hT, Result.andThen_ok, Sem.run_pure, add_lit]
theorem loc_efield {T d p f fo : Nat} {ty : TypeId} {pos : String} {af : Array Edge} {g : Option (Nat × Bool)} {cs : List PV} (hd : d < n) (hT : fieldI P T f = some fo) (hf : fo ≤ cs.length) :
    Loc P n ⟨some d, .fieldAddr T (.tmp p) f, ty, pos, af, g⟩ ⟨[(p, RV.eptr cs)], [], [(d, some (RV.eptr (cs.drop fo)))], [], none⟩ := by
  intro h0 w0 Fz0 σ a w K Q hc hr hrb _ h5
  obtain ⟨φ, Fz, Fp, hc⟩ := hc
  obtain ⟨⟨b, off, vs, ep, hrel, hcell⟩, _⟩ := hc.slot p _ hr.1
  have hl := hrel.len
  refine wp_val (v := .pointer (some ⟨b, off + fo, none⟩)) (w' := w) ?_ (h5 _ _ (hc.put0 hd ⟨⟨b, off + fo, vs.drop fo, rfl, ?_, fun j u hu => ?_⟩, rfl⟩))
  · unfold execOp
    simp only [Act.eval, ep, Sem.run_bind, fieldI_spec hT, Result.andThen_ok, Sem.run_pure, add_lit]
  · have e : cs = cs.take fo ++ cs.drop fo := (List.take_append_drop _ _).symm
    rw [e] at hrel
    obtain ⟨v1, v2, rfl, r1, r2⟩ := hrel.split
    have := r1.len
    rw [List.length_take] at this
    rw [show fo = v1.length by omega, List.drop_left]
    rw [show v1.length = fo by omega]; exact r2
  · rw [List.getElem?_drop] at hu
    rw [show off + fo + j = off + (fo + j) by omega]
    exact hcell _ u hu
theorem loc_store {T p b off t : Nat} {x : Operand} {ty : TypeId} {pos : String} {af : Array Edge} {g : Option (Nat × Bool)} {ag : Bool} {k : Nat} {cs vs : List PV} (hT : tyI P T = some (ag, k)) (hx : OpOk x (RV.sv ag vs)) (hv : vs.length = k) (hk : off + k ≤ cs.length) :
    Loc P n ⟨none, .store T (.tmp p) x, ty, pos, af, g⟩ ⟨(p, RV.ptr b off) :: opR x (RV.sv ag vs), [(b, (t, cs))], killO x, [(b, some (t, cs.take off ++ (vs ++ cs.drop (off + k))))], none⟩ := by
  intro h0 w0 Fz0 σ a w K Q hc hr hrb _ h5
  obtain ⟨φ, Fz, Fp, hc⟩ := hc
  obtain ⟨ep, _⟩ := hc.slot p _ hr.1
  obtain ⟨Fx, Fp', hxv, hc', hF⟩ := hc.pullO hr.2 hx
  have hbs : (σ.kill x).b b = some (t, cs) := hrb.1
  obtain ⟨cur, hg, ho⟩ := hc'.box b _ hbs
  obtain ⟨k1, k2, k3⟩ := hc'.bxb b _ hbs
  obtain ⟨F1, F2, F3, eF, o1, o2, o3⟩ := ho.seg off k hk
  have hl : cur.toList.length = cs.length := ho.len
  have hxl := hxv.2.len
  have c1 := hc'.pullB hbs
  have hX0 : (fun x => if x = 0 then φ b :: mv Fp' (2 * b + 2) 0 else mv Fp' (2 * b + 2) x) 0 = φ b :: (Fp' (2 * b + 2) ++ (Fx ++ Fp 0)) := by simp [mv, hF]
  have hn0 : (φ b :: (Fp' (2 * b + 2) ++ (Fx ++ Fp 0))).Nodup := by rw [← hX0]; exact c1.nod 0
  rw [eF] at hn0 hX0
  simp only [List.nodup_cons, List.nodup_append, List.mem_append, not_or] at hn0
  obtain ⟨⟨⟨g1, g2, g3⟩, g4, g5⟩, ⟨n1, ⟨n2, n3, n23⟩, n123⟩, ⟨n4, n5, n45⟩, nx⟩ := hn0
  have hX : ∀ i, i ∈ φ b :: (F1 ++ (F2 ++ F3) ++ (Fx ++ Fp 0)) → i ∈ (fun x => if x = 0 then φ b :: mv Fp' (2 * b + 2) 0 else mv Fp' (2 * b + 2) x) 0 := fun x hx => by rw [hX0]; exact hx
  generalize hcur : (cur.toList.take off ++ (a.eval x).cells.toList ++ cur.toList.drop (off + k)).toArray = cur'
  have hw : (w.setRow (φ b) cur').heap.size = w.heap.size := size_setRow _ _ _
  have hset : (w.setRow (φ b) cur').heap[φ b]? = some (.cells cur' t (0, 0)) := setRow_heap w (φ b) cur _ t _ hg
  have hoth : ∀ i, i ≠ φ b → (w.setRow (φ b) cur').heap[i]? = w.heap[i]? := fun i hi => setRow_other w (φ b) i _ hi
  have hkeep : Keeps Fz w Fz (w.setRow (φ b) cur') := fun i o hio => ⟨hio, World.cell?_of_block (hoth i fun e => k2 o (e ▸ hio))⟩
  have c2 := c1.world (w' := w.setRow (φ b) cur') (Fz' := Fz) (X := φ b :: (F1 ++ (F2 ++ F3) ++ (Fx ++ Fp 0))) rfl rfl rfl (by omega)
    (fun i hi hi0 => ⟨hoth i fun e => hi0 (hX i (by rw [e]; simp)), fun o ho => ho⟩) hkeep (fun i o hio => by rw [hw]; exact hc'.fzl i o hio)
    (fun i hi => .inl (hX i hi)) (by rw [← hX0]; exact c1.nod 0)
  have hm : ∀ (G : List Nat), (∀ i, i ∈ G → i ≠ φ b) → Holds G Fz w Fz (w.setRow (φ b) cur') := fun G hG i hi => ⟨hoth i (hG i hi), fun _ h => h⟩
  have c3 := c2.pushB (d := b) (g := φ b) (cs := cs.take off ++ (vs ++ cs.drop (off + k))) (F := F1 ++ (Fx ++ F3)) (X := []) (by rw [St.setB_b, if_pos rfl]) hset
    (by
      have e9 : cur'.toList = cur.toList.take off ++ ((a.eval x).cells.toList ++ cur.toList.drop (off + k)) := by rw [← hcur, List.append_assoc]
      rw [e9]
      exact (o1.mono hkeep (hm _ fun i hi e => g1 (e ▸ hi))).append ((hxv.2.mono hkeep (hm _ fun i hi e => g4 (e ▸ hi))).append (o3.mono hkeep (hm _ fun i hi e => g3 (e ▸ hi))))) k2
    (by
      intro i hi
      simp only [if_true]
      simp only [List.mem_append, List.mem_cons] at hi ⊢
      rcases hi with (hi | hi | hi) | hi | hi
      · exact .inr (.inl (.inl hi))
      · exact .inr (.inr (.inl hi))
      · exact .inr (.inl (.inr (.inr hi)))
      · exact .inl hi
      · cases hi)
    (by
      simp only [List.nodup_append, List.nodup_cons, List.mem_append, List.mem_cons]
      refine ⟨⟨n1, ⟨n4, n3, fun u hu v hv e => nx v (.inr (.inr hv)) u (.inl hu) e.symm⟩, fun u hu v hv e => ?_⟩, ⟨by simp, List.nodup_nil⟩, fun u hu v hv e => ?_⟩
      · rcases hv with hv | hv
        · exact nx u (.inl hu) v (.inl hv) e
        · exact n123 u hu v (.inr hv) e
      · rcases hv with hv | hv
        · subst e; subst hv
          rcases hu with hu | hu | hu
          · exact g1 hu
          · exact g4 hu
          · exact g3 hu
        · cases hv) (.inl rfl)
  refine wp_skip' (w' := w.setRow (φ b) cur') ?_ (h5 _ _ (Conc.eqv ⟨_, _, _, c3⟩ (fun i => rfl) (fun e => ?_)))
  · unfold execOp
    have e2 := (tyI_spec hT w).2
    have e3 := run_storeCells_at P (φ b) off t (a.eval x).cells.toList 0 cur w hg (by rw [hxl, hv]; have : cur.toList.length = cur.size := by simp
                                                                                      omega) (fun v hv => hxv.2.one v hv)
    have e4 : (a.eval x).cells.size = k := by rw [← Array.length_toList, hxl, hv]
    have e5 : (a.eval x).cells.toList.length = k := by rw [hxl, hv]
    rw [Nat.add_zero, e5, hcur] at e3
    have ep' : a.eval (.tmp p) = .pointer (some ⟨φ b, off, none⟩) := ep
    simp only [ep', Instr.storeAt, Instr.sureAddr, storeVar, Sem.run_bind, Sem.run_pure, Result.andThen_ok, e2, e4, ne_eq, not_true_eq_false, if_false, e3]
  · show setL [(b, some _)] σ.b e = _
    rw [St.setB_b, St.setB_b]
    simp only [setL, beq_eq]
    by_cases he : e = b <;> simp [he]; cases x <;> rfl
end
end Go.Proofs.Ytloipjaiceifbaa.M
