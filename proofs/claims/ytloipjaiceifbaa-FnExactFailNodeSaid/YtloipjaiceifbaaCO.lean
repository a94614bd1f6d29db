/- Regions with calls that turn their first argument, and functions whose arguments lie low. No condition. -/
import Derived.Test.YtloipjaiceifbaaCN
set_option linter.unusedVariables false
namespace Go.Proofs.Ytloipjaiceifbaa.M
open Go Go.RowKit
section
variable {P : Program} {n : Nat} {h0 : Nat → Prop} {w0 : World} {Fz0 : FzT} {ops : Array Oper} {σ : St} {Q : Exit → St → Prop}
def SWL (P : Program) (n : Nat) (h0 : Nat → Prop) (w0 : World) (Fz0 : FzT) (ops : Array Oper) (l : List Oper) (σ : St) (Q : Exit → St → Prop) : Prop :=
  ∀ a w, Conc h0 w0 Fz0 n σ a w → wpList P ops (fun e a' w' => ∃ τ, Q e τ ∧ Conc h0 w0 Fz0 n τ a' w') l a w
theorem swl_nil (h : Q .normal σ) : SWL P n h0 w0 Fz0 ops [] σ Q := fun a w hc => ⟨σ, h, hc⟩
theorem swl_step {o : Oper} {l : List Oper} {L : Step} (h1 : RdL L.rs σ.s) (h2 : RdL L.rb σ.b) (hl : LocG P n ops o L) (h3 : ∀ d, L.al = some d → Free d σ) (h5 : SWL P n h0 w0 Fz0 ops l (σ.app L) Q) : SWL P n h0 w0 Fz0 ops (o :: l) σ Q := fun a w hc => by
  have k := hl (K := wpList P ops (fun e a' w' => ∃ τ, Q e τ ∧ Conc h0 w0 Fz0 n τ a' w') l) (Q := fun e a' w' => ∃ τ, Q e τ ∧ Conc h0 w0 Fz0 n τ a' w') hc h1 h2 h3 (fun a' w' hc' => h5 a' w' hc')
  unfold wpList
  split
  · rename_i hw; rw [if_pos hw] at k; exact .inl k
  · rename_i hw; rw [if_neg hw] at k; exact k
theorem sw_regL {id : Nat} (h : SWL P n h0 w0 Fz0 ops ops.toList σ Q) : SW P n h0 w0 Fz0 (.region id ops false) σ Q := fun a w hc => wp_region_list (h a w hc)
theorem swl_of {l : List (Nat × RV)} {b : List (Nat × (Nat × List PV))} {ol : List Oper} (hl : RdL l σ.s) (hb : RdL b σ.b) (h : SWL P n h0 w0 Fz0 ops ol (St.of l b) Q) : SWL P n h0 w0 Fz0 ops ol σ Q := fun a w hc => h a w (hc.of hl hb)
theorem put_self {a : Act} {s : Nat} : a.put (some s) (a.tmps.getD s undef) = a := by
  have : a.tmps.setIfInBounds s (a.tmps.getD s undef) = a.tmps := by
    apply Array.ext_getElem?
    intro i
    by_cases hi : s = i
    · subst hi
      by_cases hlt : s < a.tmps.size
      · rw [Array.getElem?_setIfInBounds_self_of_lt hlt, Array.getD_eq_getD_getElem?, Array.getElem?_eq_getElem hlt]; rfl
      · rw [Array.setIfInBounds_eq_of_size_le (by omega)]
    · rw [Array.getElem?_setIfInBounds_ne hi]
  show Act.mk (a.tmps.setIfInBounds s (a.tmps.getD s undef)) a.defers = a
  rw [this]
def OwnFrom (us : List Value) (qs ms : List PV) : Prop := ∀ {Fz : FzT} {w : World} {F : List Nat}, OwnL qs Fz w us F → OwnL ms Fz w us F
theorem OwnFrom.nil : OwnFrom [] [] [] := fun h => h
theorem OwnFrom.nv {u : Value} {us : List Value} {p : PV} {qs ms : List PV} (h : OwnFrom us qs ms) : OwnFrom (u :: us) (p :: qs) (PV.nv u p :: ms) := fun hh => by
  obtain ⟨v, vs', F1, F2, e, rfl, h1, h2⟩ := hh
  injection e with e1 e2
  subst e1 e2
  exact ⟨_, _, F1, F2, rfl, rfl, ⟨rfl, h1⟩, h h2⟩
def LclBA (L : Nat) : List (Nat × (Nat × List PV)) → Prop
  | [] => True
  | p :: l => LclC L p.2.2 ∧ LclBA L l
theorem LclBA.mem {L : Nat} : ∀ {l : List (Nat × (Nat × List PV))}, LclBA L l → ∀ p, p ∈ l → LclC L p.2.2
  | [], _, p, hp => by simp at hp
  | q :: l, h, p, hp => by
    rcases List.mem_cons.1 hp with rfl | hp
    · exact h.1
    · exact LclBA.mem h.2 p hp
def LclA (L : Nat) (l : List (Nat × RV)) : Prop := ∀ p, p ∈ l → p.2.Lcl L
theorem LclA.nil {L : Nat} : LclA L [] := fun p hp => by simp at hp
theorem LclA.cons {L : Nat} {p : Nat × RV} {l : List (Nat × RV)} (h : p.2.Lcl L) (k : LclA L l) : LclA L (p :: l) := fun q hq => by
  rcases List.mem_cons.1 hq with rfl | hq
  · exact h
  · exact k q hq
theorem run_ucall {f d t : Nat} {xs : List Operand} {args : Array Operand} {tys : Array TypeId} {ty : TypeId} {pos : String} {af : Array Edge} {a : Act} {w : World} (hf : callI P f = true) (he : args.toList = .tmp t :: xs) :
    (execOp a.eval ⟨some d, .call { callee := .value (.func f), args := args, argTypes := tys }, ty, pos, af, none⟩).run P w = .ok (.enter f (a.tmps.getD t undef :: xs.map a.eval).toArray) w := by
  unfold execOp
  have e : (#[] ++ args.map a.eval ++ #[] : Array Value) = (a.tmps.getD t undef :: xs.map a.eval).toArray := by
    apply Array.ext'
    simp only [Array.toList_append, Array.toList_map, he, List.map_cons, List.append_nil, List.nil_append]
    rfl
  simp only [resolve, Act.eval, Deferred.ofValue, Sem.run_bind, Sem.run_pure, Result.andThen_ok, invoke]
  rw [run_call hf, e]
theorem swl_ucallS {f d t s L : Nat} {xs : List Operand} {args : Array Operand} {tys : Array TypeId} {ty : TypeId} {pos : String} {af : Array Edge} {ol : List Oper} {ag : Bool} {l : List (Nat × RV)} {b : List (Nat × (Nat × List PV))} {us : List Value} {qs qs' ps ms ms' : List PV} {qr as_ : List (Bool × List PV)} {r : Value}
    (hd : d < n) (hf : callI P f = true) (he : args.toList = .tmp t :: xs) (ht : lk l t = some (RV.sv ag ps)) (hps : Nm ps us) (hrd : RdL (opsR xs qr) (lk l)) (hok : OpsOk xs qr) (hto : ToT qr as_)
    (hs : lk l s = some (RV.sv ag ms)) (hms : Nm ms us) (h1 : OwnTo ms qs) (hu : UCall P f ag qs qs' as_ r) (h2 : OwnFrom us qs' ms') (hL : ∀ x, x < L → h0 x) (hls : LclS L s l) (hlb : LclBA L b) (hr1 : r.oneCell' = true) (hsd : s < n)
    (h : SWL P n h0 w0 Fz0 ops ol (((St.of l b).set s (some (RV.sv ag ms'))).set d (some (RV.sc r))) Q) :
    SWL P n h0 w0 Fz0 ops (⟨some d, .call { callee := .value (.func f), args := args, argTypes := tys }, ty, pos, af, none⟩ :: ol) (St.of l b) Q := fun a w hc => by
  obtain ⟨φ, Fz, Fp, hc⟩ := hc
  have hvt := (hc.slot t _ ht)
  have hvs := (hc.slot s _ hs)
  have e1 : (a.tmps.getD t undef).cells.toList = us := hps hvt.2.rel
  have e2 : (a.tmps.getD s undef).cells.toList = us := hms hvs.2.rel
  have hown : SvOwn ag qs Fz w (a.tmps.getD t undef) (Fp (2 * s + 1)) := ⟨hvt.1, by rw [e1, ← e2]; exact h1 hvs.2⟩
  have hrel := hto.rel (hc.relT (xs := xs) hrd hok)
  refine wpList_plain rfl fun K hK => ?_
  unfold Oper.wp
  rw [run_ucall hf he, Oper.upon_enter]
  refine (hu w _ _ Fz _ hc.fzl hown (hc.nod _) hrel).mono ?_
  rintro e w' ⟨Fz', F', rfl, k1, k2, k3, k4, k5, k6, k7, k8, k9⟩
  have c1 := hc.pull s
  have e0 : mv Fp (2 * s + 1) 0 = Fp (2 * s + 1) ++ Fp 0 := by simp [mv]
  have hnd := c1.nod 0
  rw [e0] at hnd
  have hlow0 : ∀ x, x ∈ Fp 0 → x < w.heap.size := fun x hx => (hc.low 0 x hx).2
  have hndX : (F' ++ Fp 0).Nodup := by
    rw [List.nodup_append] at hnd ⊢
    refine ⟨k8, hnd.2.1, fun x hx y hy e => ?_⟩
    rcases k9 x hx with hx | hx
    · exact hnd.2.2 x hx y hy e
    · have := hlow0 y hy; omega
  have c2 := c1.uworld (w' := w') (Fz' := Fz') (L := L) k1 k2 k3 k4 (fun x hx hx0 => k5 x hx fun hh => hx0 (by rw [e0]; simp [hh])) hL
    (fun i rv hi => by
      rw [St.set_s] at hi
      split at hi
      · cases hi
      · rename_i hne'
        rcases hls.mem _ (lk_mem hi) with e | k
        · exact absurd e hne'
        · exact k)
    (fun d bx hd => hlb.mem _ (lk_mem hd)) k6 (X := F' ++ Fp 0) (fun x hx => by
      rw [e0]
      rcases List.mem_append.1 hx with hx | hx
      · rcases k9 x hx with hx | hx
        · exact .inl (by simp [hx])
        · exact .inr hx
      · exact .inl (by simp [hx])) hndX
  have c3 := c2.push (i := s) (rv := RV.sv ag ms') (v := a.tmps.getD s undef) (F := F') (X := Fp 0) hsd ⟨hvs.1, by rw [e2]; exact h2 (by rw [← e1]; exact k7.2)⟩ (fun x hx => by simpa using hx) hndX
  rw [put_self] at c3
  have c4 := c3.put0 (d := d) (r := RV.sc r) (v := r) hd (SvOwn.of_sc hr1)
  exact hK _ _ (h _ _ (Conc.eqv c4 (fun i => by
    simp only [St.set_s]
    split
    · rfl
    · split <;> rfl) (fun d => rfl)))
theorem swl_ucallB {f d t bx T L : Nat} {xs : List Operand} {args : Array Operand} {tys : Array TypeId} {ty : TypeId} {pos : String} {af : Array Edge} {ol : List Oper} {ag : Bool} {l : List (Nat × RV)} {b : List (Nat × (Nat × List PV))} {us : List Value} {qs qs' ps ms ms' A B : List PV} {qr as_ : List (Bool × List PV)} {r : Value}
    (hd : d < n) (hf : callI P f = true) (he : args.toList = .tmp t :: xs) (ht : lk l t = some (RV.sv ag ps)) (hps : Nm ps us) (hrd : RdL (opsR xs qr) (lk l)) (hok : OpsOk xs qr) (hto : ToT qr as_)
    (hs : lk b bx = some (T, A ++ (ms ++ B))) (hms : Nm ms us) (h1 : OwnTo ms qs) (hu : UCall P f ag qs qs' as_ r) (h2 : OwnFrom us qs' ms') (hL : ∀ x, x < L → h0 x) (hls : LclA L l) (hlb : LclB L bx b) (hlA : LclC L A) (hlB : LclC L B) (hr1 : r.oneCell' = true)
    (h : SWL P n h0 w0 Fz0 ops ol (((St.of l b).setB bx (some (T, A ++ (ms' ++ B)))).set d (some (RV.sc r))) Q) :
    SWL P n h0 w0 Fz0 ops (⟨some d, .call { callee := .value (.func f), args := args, argTypes := tys }, ty, pos, af, none⟩ :: ol) (St.of l b) Q := fun a w hc => by
  obtain ⟨φ, Fz, Fp, hc⟩ := hc
  have hvt := (hc.slot t _ ht)
  obtain ⟨cur, hg, hob⟩ := hc.box bx _ hs
  obtain ⟨g1, g2, g3⟩ := hc.bxb bx _ hs
  have hlt : φ bx < w.heap.size := (Array.getElem?_eq_some_iff.1 hg).1
  obtain ⟨vA, vM, vB, FA, FM, FB, ev, eF, kA, kM, kB⟩ := own_mid hob
  have e1 : (a.tmps.getD t undef).cells.toList = us := hps hvt.2.rel
  have e2 : vM = us := hms kM.rel
  have hown : SvOwn ag qs Fz w (a.tmps.getD t undef) FM := ⟨hvt.1, by rw [e1, ← e2]; exact h1 kM⟩
  have hrel := hto.rel (hc.relT (xs := xs) hrd hok)
  have hnod := hc.nod (2 * bx + 2)
  rw [eF] at hnod
  have hnFM : FM.Nodup := (List.nodup_append.1 (List.nodup_append.1 hnod).2.1).1
  refine wpList_plain rfl fun K hK => ?_
  unfold Oper.wp
  rw [run_ucall hf he, Oper.upon_enter]
  refine (hu w _ _ Fz _ hc.fzl hown hnFM hrel).mono ?_
  rintro e w' ⟨Fz', F', rfl, k1, k2, k3, k4, k5, k6, k7, k8, k9⟩
  have c1 := hc.pullB hs
  have e0 : mv Fp (2 * bx + 2) 0 = FA ++ (FM ++ FB) ++ Fp 0 := by simp [mv, eF]
  have hnd := c1.nod 0
  simp only [if_true] at hnd
  rw [e0] at hnd
  have hlow : ∀ x, x ∈ φ bx :: (FA ++ (FM ++ FB) ++ Fp 0) → x < w.heap.size := fun x hx => by
    have := (c1.low 0 x (by simp only [if_true]; rw [e0]; exact hx)).2
    exact this
  have hX : ∀ x, x ∈ φ bx :: (FA ++ (F' ++ FB) ++ Fp 0) → x ∈ φ bx :: (FA ++ (FM ++ FB) ++ Fp 0) ∨ (w.heap.size ≤ x ∧ x < w'.heap.size) := by
    intro x hx
    simp only [List.mem_cons, List.mem_append] at hx ⊢
    rcases hx with hx | ((hx | hx | hx) | hx)
    · exact .inl (.inl hx)
    · exact .inl (.inr (.inl (.inl hx)))
    · rcases k9 x hx with hx | hx
      · exact .inl (.inr (.inl (.inr (.inl hx))))
      · exact .inr hx
    · exact .inl (.inr (.inl (.inr (.inr hx))))
    · exact .inl (.inr (.inr hx))
  have hnew : ∀ x, x ∈ F' → x ∉ FM → w.heap.size ≤ x := fun x hx hn => by
    rcases k9 x hx with h | h
    · exact absurd h hn
    · exact h.1
  have hndX : (φ bx :: (FA ++ (F' ++ FB) ++ Fp 0)).Nodup := by
    have hd' := hnd
    simp only [List.nodup_cons, List.nodup_append, List.mem_append] at hd' ⊢
    obtain ⟨m0, ⟨m1, ⟨m2, m3, m23⟩, m123⟩, m4, m1234⟩ := hd'
    have hF' : ∀ x, x ∈ F' → x ∈ FM ∨ w.heap.size ≤ x := fun x hx => by
      rcases k9 x hx with h | h
      · exact .inl h
      · exact .inr h.1
    have lA : ∀ x, x ∈ FA → x < w.heap.size := fun x hx => hlow x (by simp [hx])
    have lB : ∀ x, x ∈ FB → x < w.heap.size := fun x hx => hlow x (by simp [hx])
    have l0 : ∀ x, x ∈ Fp 0 → x < w.heap.size := fun x hx => hlow x (by simp [hx])
    refine ⟨?_, ⟨m1, ⟨k8, m3, ?_⟩, ?_⟩, m4, ?_⟩
    · rintro ((hx | hx | hx) | hx)
      · exact m0 (.inl (.inl hx))
      · rcases hF' _ hx with hx | hx
        · exact m0 (.inl (.inr (.inl hx)))
        · omega
      · exact m0 (.inl (.inr (.inr hx)))
      · exact m0 (.inr hx)
    · intro x hx y hy e
      rcases hF' _ hx with hx | hx
      · exact m23 x hx y hy e
      · have := lB y hy; omega
    · intro x hx y hy e
      rcases hy with hy | hy
      · rcases hF' _ hy with hy | hy
        · exact m123 x hx y (.inl hy) e
        · have := lA x hx; omega
      · exact m123 x hx y (.inr hy) e
    · intro x hx y hy e
      rcases hx with hx | hx | hx
      · exact m1234 x (.inl hx) y hy e
      · rcases hF' _ hx with hx | hx
        · exact m1234 x (.inr (.inl hx)) y hy e
        · have := l0 y hy; omega
      · exact m1234 x (.inr (.inr hx)) y hy e
  have hnotFM : ∀ x, x ∈ φ bx :: (FA ++ FB) → x ∉ FM := by
    intro x hx hm
    simp only [List.nodup_cons, List.nodup_append, List.mem_append] at hnd
    obtain ⟨m0, ⟨m1, ⟨m2, m3, m23⟩, m123⟩, m4, m1234⟩ := hnd
    rcases List.mem_cons.1 hx with rfl | hx
    · exact m0 (.inl (.inr (.inl hm)))
    · rcases List.mem_append.1 hx with hx | hx
      · exact m123 x hx x (.inl hm) rfl
      · exact m23 x hm x hx rfl
  have c2 := c1.uworld (w' := w') (Fz' := Fz') (L := L) k1 k2 k3 k4 (fun x hx hx0 => k5 x hx fun hh => hx0 (by simp only [if_true]; rw [e0]; simp [hh])) hL
    (fun i rv hi => hls _ (lk_mem hi))
    (fun e bxx hd => by
      rw [St.setB_b] at hd
      split at hd
      · cases hd
      · rename_i hne'
        rcases hlb.mem _ (lk_mem hd) with e | k
        · exact absurd e hne'
        · exact k) k6 (X := φ bx :: (FA ++ (F' ++ FB) ++ Fp 0)) (fun x hx => by
      simp only [if_true]; rw [e0]
      exact hX x hx) hndX
  have hsame : ∀ x, x ∈ φ bx :: (FA ++ FB) → w'.heap[x]? = w.heap[x]? ∧ ∀ o, Fz' x o ↔ Fz x o := fun x hx => k5 x (hlow x (by
      rcases List.mem_cons.1 hx with rfl | hx
      · simp
      · rcases List.mem_append.1 hx with hx | hx <;> simp [hx])) (hnotFM x hx)
  have hlk : ∀ x, x < L → w'.heap[x]? = w.heap[x]? ∧ ∀ o, Fz' x o ↔ Fz x o := fun x hx => k5 x (hc.hlt x (hL x hx)) fun hh => (hc.low (2 * bx + 2) x (by rw [eF]; simp [hh])).1 (hL x hx)
  have hg' : w'.heap[φ bx]? = some (.cells cur T (0, 0)) := (hsame _ (by simp)).1.trans hg
  have ho' : OwnL (A ++ (ms' ++ B)) Fz' w' cur.toList (FA ++ (F' ++ FB)) := by
    rw [ev]
    refine (hlA.own kA fun x hx => ?_).append (OwnL.append (by rw [e2]; exact h2 (by rw [← e1]; exact k7.2)) (hlB.own kB fun x hx => ?_))
    · rcases hx with hx | hx
      · exact hlk x hx
      · exact hsame x (by simp [hx])
    · rcases hx with hx | hx
      · exact hlk x hx
      · exact hsame x (by simp [hx])
  have c3 := c2.pushB (d := bx) (g := φ bx) (t := T) (cs := A ++ (ms' ++ B)) (F := FA ++ (F' ++ FB)) (X := Fp 0) (by rw [St.setB_b, if_pos rfl]) hg' ho' (fun o ho => g2 o (((hsame _ (by simp)).2 o).1 ho))
    (fun x hx => by
      simp only [if_true]
      rcases List.mem_append.1 hx with hx | hx
      · simp only [List.mem_cons, List.mem_append] at hx ⊢; exact .inr (.inl hx)
      · rcases List.mem_cons.1 hx with rfl | hx
        · simp
        · simp [hx])
    (by
      simp only [List.nodup_cons, List.mem_append] at hndX
      rw [List.nodup_append] at hndX ⊢
      obtain ⟨m0, m1, m2, m3⟩ := hndX
      refine ⟨m1, List.nodup_cons.2 ⟨fun hh => m0 (.inr hh), m2⟩, fun x hx y hy e => ?_⟩
      rcases List.mem_cons.1 hy with rfl | hy
      · refine m0 (.inl ?_)
        rw [e] at hx
        simpa using hx
      · exact m3 x hx y hy e)
    (.inl rfl)
  have c4 := c3.put0 (d := d) (r := RV.sc r) (v := r) hd (SvOwn.of_sc hr1)
  exact hK _ _ (h _ _ (Conc.eqv c4 (fun i => rfl) (fun e => by
    simp only [St.set_b, St.setB_b]
    split <;> rfl)))
theorem swl_ucallM {f d t bx T L : Nat} {xs : List Operand} {args : Array Operand} {tys : Array TypeId} {ty : TypeId} {pos : String} {af : Array Edge} {ol : List Oper} {ag : Bool} {l : List (Nat × RV)} {b : List (Nat × (Nat × List PV))} {us : List Value} {qs qs' ps pre ms post ms' A B : List PV} {qr as_ : List (Bool × List PV)} {r : Value}
    (hd : d < n) (hf : callI P f = true) (he : args.toList = .tmp t :: xs) (ht : lk l t = some (RV.sv ag ps)) (hps : Nm ps us) (hrd : RdL (opsR xs qr) (lk l)) (hok : OpsOk xs qr) (hto : ToT qr as_)
    (hs : lk b bx = some (T, A ++ ((pre ++ (ms ++ post)) ++ B))) (hms : Nm ms us) (h1 : OwnTo ms qs) (hu : UCall P f ag qs qs' as_ r) (h2 : OwnFrom us qs' ms') (hL : ∀ x, x < L → h0 x) (hls : LclA L l) (hlb : LclB L bx b) (hlA : LclC L A) (hlp : LclC L pre) (hlq : LclC L post) (hlB : LclC L B) (hr1 : r.oneCell' = true)
    (h : SWL P n h0 w0 Fz0 ops ol (((St.of l b).setB bx (some (T, A ++ ((pre ++ (ms' ++ post)) ++ B)))).set d (some (RV.sc r))) Q) :
    SWL P n h0 w0 Fz0 ops (⟨some d, .call { callee := .value (.func f), args := args, argTypes := tys }, ty, pos, af, none⟩ :: ol) (St.of l b) Q := by
  have e : ∀ x : List PV, A ++ ((pre ++ (x ++ post)) ++ B) = (A ++ pre) ++ (x ++ (post ++ B)) := fun x => by simp only [List.append_assoc]
  rw [e] at hs h
  exact swl_ucallB hd hf he ht hps hrd hok hto hs hms h1 hu h2 hL hls hlb (hlA.app hlp) (hlq.app hlB) hr1 h
/-- A function whose arguments lie below the world's end: they are read low. -/
theorem scall_lo {f : FuncId} {fn : Func} {c : Code} {args : List (Bool × List PV)} {largs : Nat → List (Bool × List PV)} {rs : List (Bool × List PV)} (hf : P.funcs[f]? = some fn) (hb : fn.body = some c) (hn : args.length ≤ fn.ntmps) (hto : ∀ L, ToBT L args (largs L)) (hbor : ∀ L q, q ∈ largs L → BorL q.2)
    (h : ∀ (w0 : World) (Fz0 : FzT), SW P fn.ntmps (fun b => b < w0.heap.size) w0 Fz0 c (St.of (argsL 0 (largs w0.heap.size)) []) (endS P fn.results.toList rs)) : SCall P f args (resRV rs) := by
  intro w vs Fz hz hrel
  exact scall_at hf hb (by rw [← (hto w.heap.size).len]; exact hn) (hbor _) w Fz (h w Fz) vs hz ((hto w.heap.size).rel hz hrel)
end
end Go.Proofs.Ytloipjaiceifbaa.M
