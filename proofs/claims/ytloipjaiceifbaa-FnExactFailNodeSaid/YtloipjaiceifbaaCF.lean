/- Rules for indices, lengths and built structs. No condition. -/
import Derived.Test.YtloipjaiceifbaaCE
namespace Go.Proofs.Ytloipjaiceifbaa.M
open Go Go.RowKit

section
variable {P : Program} {n : Nat} {ops : Array Oper} {h0 : Nat → Prop} {w0 : World} {Fz0 : FzT} {σ τ : St} {a : Act} {w : World} {φ : Nat → Nat} {Fz : FzT} {Fp : Nat → List Nat}

/-! ### slices: an element's address, the length -/
theorem ConcW.slrel (h : ConcW h0 w0 Fz0 n σ a w φ Fz Fp) {s : Nat} {o : Fl} {es : List (List PV)} (hs : σ.s s = some (RV.slc o es)) : SlRel es Fz w (a.tmps.getD s undef) :=
  ((PV.sl o es).toRel (SvOwn.atom (h.slot s _ hs))).1
theorem loc_index {T E e bs d s k : Nat} {i : Operand} {ty : TypeId} {pos : String} {af : Array Edge} {g : Option (Nat × Bool)} {o : Fl} {es : List (List PV)} {cs : List PV} {q : Int} (hd : d < n) (hT : sliceI P T = some (E, e, bs))
    (hi : OpOk i (RV.int q)) (hq : q = (k : Int)) (hk : es[k]? = some cs) (he : cs.length = e) :
    Loc P n ⟨some d, .indexAddr T (.tmp s) i, ty, pos, af, g⟩ ⟨(s, RV.slc o es) :: opR i (RV.int q), [], [(d, some (RV.eptr cs))], [], none⟩ := by
  intro h0 w0 Fz0 σ a w K Q hc hr _ _ h5
  obtain ⟨φ, Fz, Fp, hc⟩ := hc
  subst hq
  have ei := hc.sc hr.2 hi
  obtain ⟨ad, c, e', u, ev, h1, h2, h3, h4, h6⟩ := hc.slrel hr.1
  have hlt : k < es.length := (List.getElem?_eq_some_iff.1 hk).1
  have hee : e' = e := by rw [← he]; exact (h3 cs (List.mem_of_getElem? hk)).symm
  subst hee
  rcases h4 with h4 | ⟨b, off, rfl, h4⟩
  · rw [h4] at hlt; simp at hlt
  obtain ⟨hu, inf, hinf, hsz, _⟩ := sliceI_spec hT
  refine wp_val (v := .pointer (some ⟨b, off + k * e', none⟩)) (w' := w) ?_ (h5 _ _ (hc.put0 hd ⟨⟨b, off + k * e', (List.range e').map (u k), rfl, ?_, fun j x hx => ?_⟩, rfl⟩))
  · unfold execOp
    have es' : a.eval (.tmp s) = .slice (some ⟨b, off, none⟩) es.length c := ev
    have hlt' : (0 : Int) ≤ (k : Int) ∧ (k : Int) < (es.length : Int) := by omega
    simp only [es', ei, Instr.indexAt, asIntOf, Sem.run_bind, Sem.run_pure, Result.andThen_ok, run_underlying hu]
    simp [hlt', sizeOf, typeInfo, hinf, hsz, add_lit]
  · refine RelL.of_at (by simp [he]) fun j p v hp hv => ?_
    have hj : j < e' := by rw [← he]; exact (List.getElem?_eq_some_iff.1 hp).1
    simp [hj] at hv
    subst hv
    exact h6 k cs j p hk hp
  · have hj : j < e' := by have := (List.getElem?_eq_some_iff.1 hx).1; simpa using this
    simp [hj] at hx
    subst hx
    rw [Nat.add_assoc]
    exact h4 k j hlt hj
theorem loc_len {T E e bs d s m : Nat} {ty : TypeId} {pos : String} {af : Array Edge} {g : Option (Nat × Bool)} {o : Fl} {es : List (List PV)} (hd : d < n) (hT : sliceI P T = some (E, e, bs)) (hm : es.length = m) :
    Loc P n ⟨some d, .call { callee := .builtin .len, args := #[.tmp s], argTypes := #[T] }, ty, pos, af, g⟩ ⟨[(s, RV.slc o es)], [], [(d, some (RV.int (m : Int)))], [], none⟩ := by
  intro h0 w0 Fz0 σ a w K Q hc hr _ _ h5
  obtain ⟨φ, Fz, Fp, hc⟩ := hc
  obtain ⟨ad, c, e', u, ev, _⟩ := hc.slrel hr.1
  obtain ⟨hu, _⟩ := sliceI_spec hT
  subst hm
  refine wp_val (v := .int .i64 (es.length : Int)) (w' := w) ?_ (h5 _ _ (hc.put0 hd (SvOwn.of_sc rfl)))
  have es' : a.eval (.tmp s) = .slice ad es.length c := ev
  unfold execOp
  simp [resolve, invoke, builtin, es', Builtin.len_, run_underlying hu, goInt]
theorem loc_lens {T d s : Nat} {ty : TypeId} {pos : String} {af : Array Edge} {g : Option (Nat × Bool)} {b : ByteArray} (hd : d < n) (hT : P.underlying T = some .string) :
    Loc P n ⟨some d, .call { callee := .builtin .len, args := #[.tmp s], argTypes := #[T] }, ty, pos, af, g⟩ ⟨[(s, RV.sc (.string b))], [], [(d, some (RV.int (b.size : Int)))], [], none⟩ := by
  intro h0 w0 Fz0 σ a w K Q hc hr _ _ h5
  obtain ⟨φ, Fz, Fp, hc⟩ := hc
  have es' : a.eval (.tmp s) = .string b := (hc.one_ hr.1).1
  refine wp_val (v := .int .i64 (b.size : Int)) (w' := w) ?_ (h5 _ _ (hc.put0 hd (SvOwn.of_sc rfl)))
  unfold execOp
  simp [resolve, invoke, builtin, es', Builtin.len_, run_underlying hT, goInt]
/-- How long a slice can be. -/
theorem Conc.lenle {s : Nat} {o : Fl} {es : List (List PV)} (h : Conc h0 w0 Fz0 n σ a w) (hs : σ.s s = some (RV.slc o es)) : es.length ≤ 9223372036854775807 := by
  obtain ⟨φ, Fz, Fp, h⟩ := h
  obtain ⟨ad, c, e', u, ev, h1, h2, _⟩ := h.slrel hs
  unfold maxLen at h2; omega

/-! ### several operands float -/
def opsR : List Operand → List (Bool × List PV) → List (Nat × RV)
  | x :: xs, q :: qs => opR x (RV.sv q.1 q.2) ++ opsR xs qs
  | _, _ => []
def OpsOk : List Operand → List (Bool × List PV) → Prop
  | [], [] => True
  | x :: xs, q :: qs => OpOk x (RV.sv q.1 q.2) ∧ OpsOk xs qs
  | _, _ => False
def killsO : List Operand → List (Nat × Option RV)
  | [] => []
  | x :: xs => killO x ++ killsO xs
def tmpsO : List Operand → List Nat
  | [] => []
  | .tmp t :: xs => t :: tmpsO xs
  | _ :: xs => tmpsO xs
def apartO (xs : List Operand) : Bool := decide ((tmpsO xs).Nodup)
theorem setL_app {β : Type} : ∀ (l m : List (Nat × β)) (f : Nat → β), setL (l ++ m) f = setL m (setL l f)
  | [], _, _ => rfl
  | (k, v) :: l, m, f => by rw [List.cons_append, setL, setL, setL_app]
theorem opsR_kill {x : Operand} : ∀ {xs : List Operand} {qs : List (Bool × List PV)}, (∀ t, x = .tmp t → t ∉ tmpsO xs) → RdL (opsR xs qs) σ.s → RdL (opsR xs qs) (σ.kill x).s
  | [], [], _, _ => True.intro
  | [], _ :: _, _, _ => True.intro
  | _ :: _, [], _, _ => True.intro
  | y :: xs, q :: qs, hx, h => by
    have ih := opsR_kill (x := x) (xs := xs) (qs := qs) (fun t ht hm => hx t ht (by cases y <;> simp [tmpsO, hm])) h.right
    refine RdL.of_mem fun p hp => ?_
    rcases List.mem_append.1 hp with hp | hp
    · have h1 := h.left.mem p hp
      cases y with
      | tmp u =>
        simp [opR] at hp
        subst hp
        cases x with
        | tmp t =>
          have hne : u ≠ t := fun e => hx t rfl (by simp [tmpsO, e])
          show (bif Nat.beq u t then none else σ.s u) = _
          rw [beq_eq, decide_eq_false hne]; exact h1
        | _ => exact h1
      | _ => simp [opR] at hp
    · exact ih.mem p hp
theorem ConcW.pulls : ∀ (xs : List Operand) (qs : List (Bool × List PV)) {σ : St} {Fp : Nat → List Nat}, ConcW h0 w0 Fz0 n σ a w φ Fz Fp → RdL (opsR xs qs) σ.s → OpsOk xs qs → (tmpsO xs).Nodup →
    ∃ F Fp', OwnT qs Fz w (xs.map a.eval) F ∧ ConcW h0 w0 Fz0 n ⟨setL (killsO xs) σ.s, σ.b⟩ a w φ Fz Fp' ∧ (∀ b, b ∈ Fp' 0 ↔ b ∈ F ++ Fp 0) ∧ (F ++ Fp 0).Nodup
  | [], [], σ, Fp, h, _, _, _ => ⟨[], Fp, ⟨rfl, rfl⟩, h, by simp, by simpa using h.nod 0⟩
  | [], _ :: _, _, _, _, _, hk, _ => hk.elim
  | _ :: _, [], _, _, _, _, hk, _ => hk.elim
  | x :: xs, q :: qs, σ, Fp, h, hr, hk, hn => by
    obtain ⟨Fx, Fp1, hv, h1, e1⟩ := h.pullO hr.left hk.1
    have hn' : (tmpsO xs).Nodup ∧ ∀ t, x = .tmp t → t ∉ tmpsO xs := by
      cases x with
      | tmp t => exact ⟨(List.nodup_cons.1 hn).2, fun u hu => by injection hu with hu; rw [← hu]; exact (List.nodup_cons.1 hn).1⟩
      | _ => exact ⟨hn, fun u hu => by cases hu⟩
    obtain ⟨F, Fp', hT, h2, hm, hnd⟩ := ConcW.pulls xs qs h1 (opsR_kill hn'.2 hr.right) hk.2 hn'.1
    refine ⟨Fx ++ F, Fp', ⟨_, _, Fx, F, rfl, rfl, hv, hT⟩, ?_, fun b => ?_, ?_⟩
    · have : setL (killsO (x :: xs)) σ.s = setL (killsO xs) (σ.kill x).s := setL_app _ _ _
      rw [this]; exact h2
    · rw [hm, e1]
      simp only [List.mem_append]
      constructor
      · rintro (h | h | h) <;> simp [h]
      · rintro ((h | h) | h) <;> simp [h]
    · rw [e1] at hnd
      have hp : (Fx ++ F ++ Fp 0).Perm (F ++ (Fx ++ Fp 0)) := by
        rw [← List.append_assoc]
        exact (List.perm_append_comm).append_right _
      exact hp.nodup_iff.2 hnd

/-! ### a struct and a slice out of their parts -/
def fillP (place : Nat → Option (Nat × Nat)) : List PV → List (Nat × List PV) → Option (List PV)
  | cs, [] => some cs
  | cs, (i, q) :: rest => match place i with
    | none => none
    | some (off, size) => if q.length ≠ size ∨ off + q.length > cs.length then none else fillP place (cs.take off ++ (q ++ cs.drop (off + q.length))) rest
theorem foldl_set (off : Nat) : ∀ (vs : List Value) (k : Nat) (cells : Array Value), off + k + vs.length ≤ cells.size →
    ((vs.zipIdx k).foldl (fun cs p => cs.setIfInBounds (off + p.2) p.1) cells).toList = cells.toList.take (off + k) ++ (vs ++ cells.toList.drop (off + k + vs.length)) := by
  intro vs
  induction vs with
  | nil => intro k cells _; simp
  | cons v vs ih =>
    intro k cells h
    simp only [List.length_cons] at h
    rw [List.zipIdx_cons, List.foldl_cons, ih _ _ (by simp; omega)]
    simp only [Array.toList_setIfInBounds, List.length_cons]
    rw [show off + (k + 1) = off + k + 1 by omega, List.take_set, List.take_succ_eq_append_getElem (by simp; omega), List.drop_set_of_lt (by omega), List.set_append_right _ _ (by simp; omega)]
    have : off + k - (List.take (off + k) cells.toList).length = 0 := by simp; omega
    rw [this]
    simp only [List.set_cons_zero, List.append_assoc, List.cons_append, List.nil_append]
    rw [show off + k + 1 + vs.length = off + k + (vs.length + 1) by omega]
theorem fill_own (place : Nat → Option (Nat × Nat)) : ∀ (is : List Nat) (qs : List (Bool × List PV)) (vs : List Value) (cs cs' : List PV) (cells : Array Value) (F G : List Nat), is.length = qs.length →
    OwnL cs Fz w cells.toList F → OwnT qs Fz w vs G → (F ++ G).Nodup → fillP place cs (is.zip (qs.map (·.2))) = some cs' →
    ∃ cells' F', Instr.fill place cells (is.zip vs) = some cells' ∧ OwnL cs' Fz w cells'.toList F' ∧ F'.Nodup ∧ ∀ b, b ∈ F' → b ∈ F ++ G
  | [], [], vs, cs, cs', cells, F, G, _, ho, _, hn, hf => by
    injection hf with hf
    subst hf
    exact ⟨cells, F, by simp [Instr.fill], ho, (List.nodup_append.1 hn).1, fun b hb => by simp [hb]⟩
  | [], _ :: _, _, _, _, _, _, _, hl, _, _, _, _ => by simp at hl
  | _ :: _, [], _, _, _, _, _, _, hl, _, _, _, _ => by simp at hl
  | i :: is, q :: qs, vs, cs, cs', cells, F, G, hl, ho, hT, hn, hf => by
    obtain ⟨v, vs', G1, G2, rfl, rfl, hv, hT'⟩ := hT
    have hvl := hv.2.len
    have hol := ho.len
    simp only [List.map_cons, List.zip_cons_cons, fillP] at hf
    cases hp : place i with
    | none => rw [hp] at hf; cases hf
    | some os =>
      obtain ⟨off, size⟩ := os
      rw [hp] at hf
      simp only at hf
      split at hf
      · cases hf
      · rename_i hc
        have hc1 : q.2.length = size := by omega
        have hc2 : off + q.2.length ≤ cs.length := by omega
        obtain ⟨F1, F2, F3, rfl, o1, o2, o3⟩ := ho.seg off q.2.length hc2
        have hvs : v.cells.size = q.2.length := by rw [← hvl]; simp
        have hcl : cells.size = cs.length := by rw [← hol]; simp
        have e := foldl_set off v.cells.toList 0 cells (by rw [hvl, hcl]; omega)
        rw [Nat.add_zero, hvl] at e
        simp only [List.nodup_append, List.mem_append] at hn
        obtain ⟨⟨n1, ⟨n2, n3, n23⟩, n123⟩, ⟨m1, m2, m12⟩, nm⟩ := hn
        obtain ⟨cells', F', k1, k2, k3, k4⟩ := fill_own place is qs vs' _ cs' (v.cells.zipIdx.foldl (fun cs p => cs.setIfInBounds (off + p.2) p.1) cells) (F1 ++ (G1 ++ F3)) G2 (by simpa using hl)
          (by
            have e' : (v.cells.zipIdx.foldl (fun cs p => cs.setIfInBounds (off + p.2) p.1) cells).toList = cells.toList.take off ++ (v.cells.toList ++ cells.toList.drop (off + q.2.length)) := by
              rw [← e, ← Array.foldl_toList]; congr 2; simp
            rw [e']
            exact o1.append (hv.2.append o3)) hT'
          (by
            simp only [List.nodup_append, List.mem_append]
            refine ⟨⟨n1, ⟨m1, n3, fun u hu x hx e => nm x (.inr (.inr hx)) u (.inl hu) e.symm⟩, fun u hu x hx e => ?_⟩, m2, fun u hu x hx e => ?_⟩
            · rcases hx with hx | hx
              · exact nm u (.inl hu) x (.inl hx) e
              · exact n123 u hu x (.inr hx) e
            · rcases hu with hu | hu | hu
              · exact nm u (.inl hu) x (.inr hx) e
              · exact m12 u hu x hx e
              · exact nm u (.inr (.inr hu)) x (.inr hx) e) hf
        refine ⟨cells', F', ?_, k2, k3, fun b hb => ?_⟩
        · rw [List.zip_cons_cons, Instr.fill, hp]
          simp only
          rw [if_neg (by rw [hvs, hcl]; simp; omega)]
          exact k1
        · have := k4 b hb
          simp only [List.mem_append] at this ⊢
          rcases this with (h | h | h) | h <;> simp [h]

def placesI (P : Program) (T : TypeId) : Option (List (Nat × Nat)) := match P.underlying T with
  | some (.struct fs) => fs.toList.mapM fun f => (P.info? f.type).map fun i => (f.offset, i.size)
  | _ => none
theorem mapM_run {β γ : Type} (f : β → Sem γ) (g : β → Option γ) (hfg : ∀ x y, g x = some y → ∀ w, (f x).run P w = .ok y w) : ∀ (l : List β) (ys : List γ), l.mapM g = some ys → ∀ w, (l.mapM f).run P w = .ok ys w
  | [], ys, h, w => by simp at h; subst h; simp
  | x :: l, ys, h, w => by
    rw [List.mapM_cons] at h
    cases hx : g x with
    | none => rw [hx] at h; simp at h
    | some y =>
      rw [hx] at h
      cases hl : l.mapM g with
      | none => rw [hl] at h; simp at h
      | some zs =>
        rw [hl] at h
        simp at h
        subst h
        rw [List.mapM_cons]
        simp [hfg x y hx, mapM_run f g hfg l zs hl]
theorem run_places {T : TypeId} {pl : List (Nat × Nat)} (h : placesI P T = some pl) (w : World) : ∃ fs : Array Field, P.underlying T = some (.struct fs) ∧
    Sem.run P (fs.mapM fun f => do pure (f.offset, ← sizeOf f.type) : Sem (Array (Nat × Nat))) w = .ok pl.toArray w := by
  unfold placesI at h
  split at h
  · rename_i fs hu
    refine ⟨fs, hu, ?_⟩
    have := mapM_run (P := P) (fun f : Field => (do pure (f.offset, ← sizeOf f.type) : Sem (Nat × Nat))) (fun f => (P.info? f.type).map fun i => (f.offset, i.size)) (fun x y hxy w => by
      cases hi : P.info? x.type with
      | none => rw [hi] at hxy; cases hxy
      | some i =>
        rw [hi] at hxy
        simp at hxy
        subst hxy
        simp [sizeOf, typeInfo, hi]) fs.toList pl h w
    rw [Array.mapM_eq_mapM_toList]
    simp only [map_eq_pure_bind, Sem.run_bind, this, Result.andThen_ok, Sem.run_pure]
  · cases h
theorem loc_build {T d : Nat} {ty : TypeId} {pos : String} {af : Array Edge} {g : Option (Nat × Bool)} {parts : Array (Nat × Operand)} {qs : List (Bool × List PV)} {z : Value} {zs cs : List PV} {pl : List (Nat × Nat)} (hd : d < n) (hz : zeroI P T = some z)
    (hzs : ∀ {Fz : FzT} {w : World}, OwnL zs Fz w z.cells.toList []) (hpl : placesI P T = some pl) (hl : (parts.toList.map (·.1)).length = qs.length) (hok : OpsOk (parts.toList.map (·.2)) qs) (hap : apartO (parts.toList.map (·.2)) = true)
    (hf : fillP (fun i : Nat => pl[i]?) zs ((parts.toList.map (·.1)).zip (qs.map (·.2))) = some cs) :
    Loc P n ⟨some d, .build T parts, ty, pos, af, g⟩ ⟨opsR (parts.toList.map (·.2)) qs, [], killsO (parts.toList.map (·.2)) ++ [(d, some (RV.sv true cs))], [], none⟩ := by
  intro h0 w0 Fz0 σ a w K Q hc hr _ _ h5
  obtain ⟨φ, Fz, Fp, hc⟩ := hc
  obtain ⟨F, Fp', hT, hc', hm, hnd⟩ := hc.pulls _ _ hr hok (of_decide_eq_true hap)
  obtain ⟨fs, hu, hpr⟩ := run_places hpl w
  obtain ⟨cells, F', e1, e2, e3, e4⟩ := fill_own (fun i : Nat => pl[i]?) _ qs _ zs cs z.cells [] F hl hzs hT (by rw [List.nil_append]; exact (List.nodup_append.1 hnd).1) hf
  have k := hc'.push (i := d) (rv := RV.sv true cs) (v := .agg cells) (F := F') (X := []) hd ⟨rfl, e2⟩ (fun b hb => by
    rw [hm]
    have := e4 b (by simpa using hb)
    simp at this ⊢; exact .inl this) (by simpa using e3)
  refine wp_val (v := .agg cells) (w' := w) ?_ (h5 _ _ (Conc.eqv ⟨_, _, _, k⟩ (fun i => ?_) (fun e => rfl)))
  · unfold execOp
    have ep : (parts.map fun p => (p.1, a.eval p.2)).toList = (parts.toList.map (·.1)).zip ((parts.toList.map (·.2)).map a.eval) := by
      rw [Array.toList_map]; induction parts.toList with
      | nil => rfl
      | cons p l ih => simp [ih]
    simp only [Instr.build, Sem.run_bind, zeroI_spec hz, Result.andThen_ok, Sem.run_pure, run_underlying hu, hpr]
    rw [ep]
    have ef : (fun i : Nat => pl.toArray[i]?) = fun i : Nat => pl[i]? := by funext i; simp
    rw [ef, e1]
    rfl
  · show setL (killsO _ ++ [(d, some (RV.sv true cs))]) σ.s i = _
    rw [setL_app]; rfl
end
end Go.Proofs.Ytloipjaiceifbaa.M
