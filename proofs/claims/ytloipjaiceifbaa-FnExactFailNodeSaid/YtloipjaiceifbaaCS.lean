/- Function values: functions as arguments, functions that hold on to variables. No condition. -/
import Derived.Test.YtloipjaiceifbaaCR
set_option linter.unusedVariables false
namespace Go.Proofs.Ytloipjaiceifbaa.M
open Go Go.RowKit
theorem RelT.mono {Fz Fz' : FzT} {w w' : World} (k : Keeps Fz w Fz' w') : ∀ {l : List (Bool × List PV)} {vs : List Value}, RelT l Fz w vs → RelT l Fz' w' vs
  | [], _, h => h
  | p :: l, vs, h => by
    obtain ⟨v, vs', rfl, h1, h2⟩ := h
    exact ⟨v, vs', rfl, ⟨h1.1, h1.2.mono k⟩, h2.mono k⟩
theorem RelT.app {Fz : FzT} {w : World} : ∀ {l m : List (Bool × List PV)} {vs us : List Value}, RelT l Fz w vs → RelT m Fz w us → RelT (l ++ m) Fz w (vs ++ us)
  | [], m, vs, us, h, k => by rw [show vs = [] from h]; exact k
  | p :: l, m, vs, us, h, k => by
    obtain ⟨v, vs', rfl, h1, h2⟩ := h
    exact ⟨v, vs' ++ us, rfl, h1, h2.app k⟩
/-- A function value: called with as_ x it returns r x. -/
def PV.clo (P : Program) {γ : Type} (as_ : γ → List (Bool × List PV)) (r : γ → RV) : PV where
  rel Fz w v := ∃ (f : FuncId) (cap : Array Value) (caps : List (Bool × List PV)), v = .func (.func f) #[] cap ∧ callI P f = true ∧ RelT caps Fz w cap.toList ∧ ∀ x, SCall P f (as_ x ++ caps) (r x)
  own Fz w v F := (∃ (f : FuncId) (cap : Array Value) (caps : List (Bool × List PV)), v = .func (.func f) #[] cap ∧ callI P f = true ∧ RelT caps Fz w cap.toList ∧ ∀ x, SCall P f (as_ x ++ caps) (r x)) ∧ F = []
  one h := by obtain ⟨f, cap, caps, rfl, _⟩ := h; rfl
  toRel h := h.1
  relMono h k := by obtain ⟨f, cap, caps, h1, h2, h3, h4⟩ := h; exact ⟨f, cap, caps, h1, h2, h3.mono k, h4⟩
  ownMono h k _ := by obtain ⟨⟨f, cap, caps, h1, h2, h3, h4⟩, h5⟩ := h; exact ⟨⟨f, cap, caps, h1, h2, h3.mono k, h4⟩, h5⟩
  lt h := by rw [h.2]; simp
theorem PV.bor_clo {P : Program} {γ : Type} (as_ : γ → List (Bool × List PV)) (r : γ → RV) : (PV.clo P as_ r).Bor := fun h => ⟨h, rfl⟩
/-- A pointer at cells that stay. -/
def PV.ep (cs : List PV) : PV where
  rel Fz w v := ∃ b off vs, v = .pointer (some ⟨b, off, none⟩) ∧ RelL cs Fz w vs ∧ ∀ (j : Nat) u, vs[j]? = some u → Fz b (off + j) ∧ w.cell? ⟨b, off + j, none⟩ = some u
  own Fz w v F := (∃ b off vs, v = .pointer (some ⟨b, off, none⟩) ∧ RelL cs Fz w vs ∧ ∀ (j : Nat) u, vs[j]? = some u → Fz b (off + j) ∧ w.cell? ⟨b, off + j, none⟩ = some u) ∧ F = []
  one h := by obtain ⟨b, off, vs, rfl, _⟩ := h; rfl
  toRel h := h.1
  relMono h k := by
    obtain ⟨b, off, vs, hv, hr, hc⟩ := h
    exact ⟨b, off, vs, hv, hr.mono k, fun j u hu => ⟨(k _ _ (hc j u hu).1).1, (k _ _ (hc j u hu).1).2.trans (hc j u hu).2⟩⟩
  ownMono h k _ := by
    obtain ⟨⟨b, off, vs, hv, hr, hc⟩, hF⟩ := h
    exact ⟨⟨b, off, vs, hv, hr.mono k, fun j u hu => ⟨(k _ _ (hc j u hu).1).1, (k _ _ (hc j u hu).1).2.trans (hc j u hu).2⟩⟩, hF⟩
  lt h := by rw [h.2]; simp
theorem PV.bor_ep (cs : List PV) : (PV.ep cs).Bor := fun h => ⟨h, rfl⟩
section
variable {P : Program} {n : Nat}
theorem ok_clo {f : Nat} {γ : Type} {as_ : γ → List (Bool × List PV)} {r : γ → RV} (hf : callI P f = true) (hs : ∀ x, SCall P f (as_ x) (r x)) : OpOk (.func f) (RV.sv false [PV.clo P as_ r]) := fun _ _ _ =>
  SvOwn.of_atom (p := PV.clo P as_ r) ⟨⟨f, #[], [], rfl, hf, rfl, fun x => by rw [List.append_nil]; exact hs x⟩, rfl⟩
theorem loc_callp {d t : Nat} {γ : Type} {asf : γ → List (Bool × List PV)} {rf : γ → RV} (x : γ) {args : Array Operand} {tys : Array TypeId} {ty : TypeId} {pos : String} {af : Array Edge} {g : Option (Nat × Bool)} {qs : List (Bool × List PV)} {r : RV} (hd : d < n) (hok : OpsOk args.toList qs) (hto : ToT qs (asf x)) (hr : rf x = r) :
    Loc P n ⟨some d, .call { callee := .value (.tmp t), args := args, argTypes := tys }, ty, pos, af, g⟩ ⟨(t, RV.sv false [PV.clo P asf rf]) :: opsR args.toList qs, [], [(d, some r)], [], none⟩ := by
  subst hr
  intro h0 w0 Fz0 σ a w K Q hc hr _ _ h5
  obtain ⟨φ, Fz, Fp, hc⟩ := hc
  obtain ⟨⟨f, cap, caps, ht, hf, hcap, hs⟩, _⟩ := SvOwn.atom (hc.slot t _ hr.1)
  have hrel := (hto.rel (hc.relT hr.2 hok)).app hcap
  have hrun : (execOp a.eval ⟨some d, .call { callee := .value (.tmp t), args := args, argTypes := tys }, ty, pos, af, g⟩).run P w = .ok (.enter f (args.toList.map a.eval ++ cap.toList).toArray) w := by
    unfold execOp
    have e : (#[] ++ args.map a.eval ++ cap : Array Value) = (args.toList.map a.eval ++ cap.toList).toArray := by apply Array.ext'; simp
    have ht' : a.eval (.tmp t) = .func (.func f) #[] cap := ht
    simp only [resolve, ht', Deferred.ofValue, Sem.run_bind, Sem.run_pure, Result.andThen_ok, invoke]
    rw [run_call hf, e]
  unfold Oper.wp
  rw [hrun, Oper.upon_enter]
  refine (hs x w _ Fz hc.fzl hrel).mono ?_
  rintro e w' ⟨v, Fz', F, rfl, hb, hz1, hz2, hv, hn, hF⟩
  refine h5 _ _ ?_
  have k := hc.world (w' := w') (Fz' := Fz') (X := F) hb.os hb.tape hb.output hb.size (fun b hb' _ => ⟨hb.block b hb', fun o ho => (hz1 b o hb').1 ho⟩)
    (fun b o ho => ⟨(hz1 b o (hc.fzl b o ho)).2 ho, World.cell?_of_block (hb.block b (hc.fzl b o ho))⟩) hz2 (fun b hb' => .inr (hF b hb')) hn
  exact ⟨φ, Fz', _, k.push (i := d) (rv := rf x) (v := v) (F := F) (X := []) hd (hv φ) (fun b hb => by simpa using hb) (by simpa using hn)⟩
theorem loc_mkfn {f d : Nat} {γ : Type} {asf : γ → List (Bool × List PV)} {rf : γ → RV} {cap : Array Operand} {ty : TypeId} {pos : String} {af : Array Edge} {g : Option (Nat × Bool)} {qs caps : List (Bool × List PV)} (hd : d < n) (hf : callI P f = true) (hok : OpsOk cap.toList qs) (hto : ToT qs caps) (hs : ∀ x, SCall P f (asf x ++ caps) (rf x)) :
    Loc P n ⟨some d, .makeFunc (.func f) #[] cap, ty, pos, af, g⟩ ⟨opsR cap.toList qs, [], [(d, some (RV.sv false [PV.clo P asf rf]))], [], none⟩ := by
  intro h0 w0 Fz0 σ a w K Q hc hr _ _ h5
  obtain ⟨φ, Fz, Fp, hc⟩ := hc
  have hrel := hto.rel (hc.relT hr hok)
  refine wp_val (v := .func (.func f) #[] (cap.map a.eval)) (w' := w) ?_ (h5 _ _ (hc.put0 hd (SvOwn.of_atom (p := PV.clo P asf rf) ⟨⟨f, _, caps, rfl, hf, by simpa using hrel, hs⟩, rfl⟩)))
  unfold execOp
  simp [Instr.makeFunc]
theorem loc_epload {T d p : Nat} {ty : TypeId} {pos : String} {af : Array Edge} {g : Option (Nat × Bool)} {ag : Bool} {k : Nat} {cs qs : List PV} (hd : d < n) (hT : tyI P T = some (ag, k)) (h1 : ag = false → k = 1) (hk : k ≤ cs.length)
    (ht : ToL (cs.take k) qs) (hb : BorL qs) :
    Loc P n ⟨some d, .load T (.tmp p), ty, pos, af, g⟩ ⟨[(p, RV.sv false [PV.ep cs])], [], [(d, some (RV.sv ag qs))], [], none⟩ := by
  intro h0 w0 Fz0 σ a w K Q hc hr hrb h3 h5
  obtain ⟨φ, Fz, Fp, hc⟩ := hc
  obtain ⟨hep, hF⟩ := SvOwn.atom (hc.slot p _ hr.1)
  have c1 := hc.reslot (s := p) (rv := RV.eptr cs) ⟨hep, hF⟩
  refine loc_eload hd hT h1 hk ht hb (h0 := h0) (w0 := w0) (Fz0 := Fz0) (σ := σ.set p (some (RV.eptr cs))) (K := K) (Q := Q) ⟨φ, Fz, Fp, c1⟩ ⟨by rw [St.set_s, if_pos rfl], True.intro⟩ True.intro (fun _ h => nomatch h) ?_
  intro a' w' hc'
  by_cases hpd : p = d
  · subst hpd
    refine h5 _ _ (Conc.eqv hc' (fun i => ?_) (fun _ => rfl))
    show setL [(p, _)] σ.s i = setL [(p, _)] (σ.set p _).s i
    simp only [setL, St.set, beq_eq]
    by_cases hi : i = p <;> simp [hi]
  · obtain ⟨φ', Fz', Fp', c2⟩ := hc'
    have hs2 : ((σ.set p (some (RV.eptr cs))).app ⟨[(p, RV.eptr cs)], [], [(d, some (RV.sv ag qs))], [], none⟩).s p = some (RV.eptr cs) := by
      show setL [(d, _)] (σ.set p _).s p = _
      simp only [setL, St.set, beq_eq]
      simp [hpd]
    obtain ⟨hep', hF'⟩ := c2.slot p _ hs2
    have c3 := c2.reslot (s := p) (rv := RV.sv false [PV.ep cs]) (by rw [hF']; exact SvOwn.of_atom (p := PV.ep cs) ⟨hep', rfl⟩)
    refine h5 _ _ (Conc.eqv ⟨_, _, _, c3⟩ (fun i => ?_) (fun _ => rfl))
    show setL [(d, _)] σ.s i = ((σ.set p _).app _ |>.set p _).s i
    rw [St.set_s]
    show _ = if i = p then _ else setL [(d, _)] (σ.set p _).s i
    simp only [setL, St.set, beq_eq]
    by_cases hi : i = p
    · subst hi; simp [hpd, hr.1]
    · simp [hi]
end
section
variable {P : Program} {n : Nat} {h0 : Nat → Prop} {w0 : World} {Fz0 : FzT} {σ : St} {Q : Exit → St → Prop} {c : Code}
/-- A variable turns no more: its pointer is a pointer at cells that stay. -/
theorem sw_frzB {s b t : Nat} {cs : List PV} (hs : σ.s s = some (RV.ptr b 0)) (hb : σ.b b = some (t, cs)) (h : SW P n h0 w0 Fz0 c ((σ.setB b none).set s (some (RV.sv false [PV.ep cs]))) Q) : SW P n h0 w0 Fz0 c σ Q := fun a w hc => by
  obtain ⟨φ, Fz, Fp, hc⟩ := hc
  obtain ⟨hv, hF⟩ := hc.slot s _ hs
  obtain ⟨cur, h1, h2⟩ := hc.box b _ hb
  obtain ⟨g1, g2, g3⟩ := hc.bxb b _ hb
  have hlt : φ b < w.heap.size := (Array.getElem?_eq_some_iff.1 h1).1
  have c1 := hc.pullB hb
  have e1 : (if (0 : Nat) = 0 then φ b :: mv Fp (2 * b + 2) 0 else mv Fp (2 * b + 2) 0) = φ b :: mv Fp (2 * b + 2) 0 := by simp
  have hnd := c1.nod 0
  rw [e1] at hnd
  have hk : Keeps Fz w (fun x o => Fz x o ∨ x = φ b) w := fun x o hx => ⟨.inl hx, rfl⟩
  have c2 := c1.world (w' := w) (Fz' := fun x o => Fz x o ∨ x = φ b) (X := mv Fp (2 * b + 2) 0) rfl rfl rfl (Nat.le_refl _)
    (fun x hx hx0 => ⟨rfl, fun o ho => by
      rcases ho with ho | ho
      · exact ho
      · rw [e1] at hx0; exact absurd (by rw [ho]; simp) hx0⟩) hk (fun x o hx => by
      rcases hx with hx | hx
      · exact hc.fzl x o hx
      · rw [hx]; exact hlt) (fun x hx => .inl (by rw [e1]; simp [hx])) (List.nodup_cons.1 hnd).2
  have c3 := c2.reslot (s := s) (rv := RV.sv false [PV.ep cs]) (by
    have hf : mv Fp (2 * b + 2) (2 * s + 1) = [] := by
      simp only [mv]; rw [if_neg (by omega), if_neg (by omega)]; exact hF
    show SvOwn false [PV.ep cs] _ w _ (if 2 * s + 1 = 0 then _ else if 2 * s + 1 = 0 then _ else mv Fp (2 * b + 2) (2 * s + 1))
    rw [if_neg (by omega), if_neg (by omega), hf]
    refine SvOwn.of_atom (p := PV.ep cs) ⟨⟨φ b, 0, cur.toList, hv, h2.rel.mono hk, fun j u hu => ⟨.inr rfl, ?_⟩⟩, rfl⟩
    rw [Nat.zero_add, cell_of_row w (φ b) j cur t (0, 0) h1]
    simpa using hu)
  exact h a w (Conc.eqv ⟨_, _, _, c3⟩ (fun i => rfl) (fun d => rfl))
end
end Go.Proofs.Ytloipjaiceifbaa.M
