/- The logic. No condition. -/
import Derived.Test.YtmekkgdboplbjaaGreatCC0
set_option linter.all false
namespace Go.Proofs.YtmekkgdboplbjaaGreat.M
open Go Go.RowKit
section
def Pw {α : Type} {f : α → List PV} {e : Nat} (hf : ∀ x, (f x).length = e) {Fz : av} {w : World} {ys rs zs : List (α × (Nat → Value))} (hp : (ys ++ rs).Perm zs) {F : List Nat} (h : aJ (bK f zs) Fz w (bl e zs) F) : ∃ F' R, F.Perm (F' ++ R) ∧ aJ (bK f ys) Fz w (bl e ys) F' := by
  obtain ⟨F1, k1, k2⟩ := RP hf hp.symm h
  obtain ⟨F', R, k3, k4⟩ := FH hf (List.sublist_append_left ys rs) k2
  exact ⟨F', R, k1.trans k3, k4⟩
def aak {α : Type} {f g : α → List PV} {fN : α × (Nat → Value) → List PV} {t e : Nat} (hN : ∀ x h, fN (x, h) = dY h 0 (g x)) (hg : ∀ x, (g x).length = e) (hf : ∀ x, (f x).length = e) {ys rs zs : List (α × (Nat → Value))} (hp : (ys ++ rs).Perm zs) {xs : List α} (hx : ys.map Prod.fst = xs) {Fz : av} {w : World} {v : Value} {F1 F2 : List Nat} (h : (PV.sl (.own t e) (ys.map fN)).own Fz w v F1) (k : aJ (bK f zs) Fz w (bl e zs) F2) :
    ∃ F R, (PV.sl (.own t e) (xs.map f)).own Fz w v F ∧ (F1 ++ F2).Perm (F ++ R) := by
  subst hx
  obtain ⟨F', R, k1, k2⟩ := Pw hf hp k
  have h : db t e (ys.map fN) Fz w v F1 := h
  have h2 := FI hN hg hf h k2
  obtain ⟨F3, rfl⟩ := FJ h
  refine ⟨_, F3 ++ R, h2, ?_⟩
  simp only [bw]
  refine gl _ ?_
  refine (gl F3 k1).trans ?_
  rw [← bw, ← bw]
  exact iy _ jj
section
variable {P : Program} {n : Nat} {h0 : Nat → Prop} {w0 : World} {Fz0 : av} {σ : St} {Q : Exit → St → Prop} {c : Code}
def Px {d t e G : Nat} {α : Type} {f g : α → List PV} {fN : α × (Nat → Value) → List PV} (x : α) (hd : σ.b d = some (t, f x)) (hG : σ.s G = none) (hN : ∀ x h, fN (x, h) = dY h 0 (g x)) (hg : ∀ x, (g x).length = e) (hq : am (f x) (g x)) (hb : an (g x))
    (h : ∀ k : Nat → Value, SW P n h0 w0 Fz0 c ((σ.setB d (some (t, fN (x, k)))).set G (some (RV.gh (bl e [(x, k)]) (bK f [(x, k)])))) Q) : SW P n h0 w0 Fz0 c σ Q :=
  FN (ι := Nat → Value) (q := fun k => fN (x, k)) (us := fun k => bl e [(x, k)]) (gs := fun k => bK f [(x, k)]) hd hG (fun {Fz w vs F} ho => by
    have hl : vs.length = e := by rw [ho.len, hq.len, hg]
    obtain ⟨k, hk⟩ := zD hl
    refine ⟨k, [], F, ?_, ?_, List.Perm.refl _⟩
    · rw [hN, vQ, hg, ← List.range_eq_range', ← hk]
      exact vP hb (hq.rel ho.rel)
    · have : bl e [(x, k)] = vs := by simp [bl, hk]
      rw [this]
      have : bK f [(x, k)] = f x := by simp [bK]
      rw [this]; exact ho) h
def Dm {d T t e G : Nat} {A B : List PV} {α : Type} {f g : α → List PV} {fN : α × (Nat → Value) → List PV} {ys zs : List (α × (Nat → Value))} (rs : List (α × (Nat → Value))) (xs : List α) (hd : σ.b d = some (T, A ++ (PV.sl (.own t e) (ys.map fN) :: B))) (hG : σ.s G = some (RV.gh (bl e zs) (bK f zs))) (hN : ∀ x h, fN (x, h) = dY h 0 (g x)) (hg : ∀ x, (g x).length = e) (hf : ∀ x, (f x).length = e) (hp : (ys ++ rs).Perm zs) (hx : ys.map Prod.fst = xs)
    (h : SW P n h0 w0 Fz0 c ((σ.set G none).setB d (some (T, A ++ (PV.sl (.own t e) (xs.map f) :: B)))) Q) : SW P n h0 w0 Fz0 c σ Q :=
  zH hd hG (fun h1 k => aak hN hg hf hp hx h1 k) h
def aal {d t e G : Nat} {α : Type} {f g : α → List PV} {fN : α × (Nat → Value) → List PV} {zs ys : List (α × (Nat → Value))} {jk : List Value} (rs : List (α × (Nat → Value))) (xs : List α) (hd : σ.b d = some (t, bE fN ys jk)) (hG : σ.s G = some (RV.gh (bl e zs) (bK f zs))) (hN : ∀ x h, fN (x, h) = dY h 0 (g x)) (hg : ∀ x, (g x).length = e) (hf : ∀ x, (f x).length = e) (hp : (ys ++ rs).Perm zs) (hx : ys.map Prod.fst = xs)
    (h : SW P n h0 w0 Fz0 c ((σ.set G none).setB d (some (t, bE f xs jk))) Q) : SW P n h0 w0 Fz0 c σ Q :=
  FO hd hG (fun {Fz w vs F1 F2} h1 k => by
    subst hx
    obtain ⟨F', R, k1, k2⟩ := Pw hf hp k
    obtain ⟨us, hu, hvs⟩ := zE hN hg (zs := ys) (js := jk.map PV.val) h1.rel
    have hju : aJ (jk.map PV.val) Fz w us [] := an.own (fun p hp => by obtain ⟨v, _, rfl⟩ := List.mem_map.1 hp; exact PV.bor_val _) hvs
    have hall : aJ (bE f (ys.map Prod.fst) jk) Fz w vs F' := by
      have := k2.append hju
      rw [eg, ← hu] at this
      have e2 : bE f (ys.map Prod.fst) jk = bK f ys ++ jk.map PV.val := by unfold bE bK; rw [List.map_map]; rfl
      rw [e2]; exact this
    refine ⟨F', F1 ++ R, hall, ?_⟩
    refine (gl F1 k1).trans ?_
    rw [← bw, ← bw]
    exact iy _ jj) h
end
section
variable {P : Program} {n : Nat} {h0 : Nat → Prop} {w0 : World} {Fz0 : av} {σ : St} {Q : Exit → St → Prop} {c : Code}
def Py {s : Nat} {r r' : RV} (hs : σ.s s = some r) (he : r = r') (h : SW P n h0 w0 Fz0 c (σ.set s (some r')) Q) : SW P n h0 w0 Fz0 c σ Q := fun a w hc => by
  subst he
  obtain ⟨φ, Fz, Fp, hc⟩ := hc
  exact h a w ⟨φ, Fz, Fp, hc.reslot (hc.slot s _ hs)⟩
def aam {d T : Nat} {A B : List PV} {p : PV} (hd : σ.b d = some (T, A ++ (p :: B))) (h : ∀ v : Value, SW P n h0 w0 Fz0 c (σ.setB d (some (T, A ++ (PV.nv v p :: B)))) Q) : SW P n h0 w0 Fz0 c σ Q :=
  vV (ι := Value) (q := fun v => PV.nv v p) hd (fun {Fz w v F} ho => ⟨v, rfl, ho⟩) h
def aan {d T : Nat} {A B : List PV} {v : Value} {p : PV} (hd : σ.b d = some (T, A ++ (PV.nv v p :: B))) (h : SW P n h0 w0 Fz0 c (σ.setB d (some (T, A ++ (p :: B)))) Q) : SW P n h0 w0 Fz0 c σ Q :=
  vV (ι := Unit) (q := fun _ => p) hd (fun ho => ⟨(), ho.2⟩) fun _ => h
def aao {d T G : Nat} {A B : List PV} {v : Value} {p q : PV} (hd : σ.b d = some (T, A ++ (PV.nv v p :: B))) (hG : σ.s G = none) (hq : p.To q) (hb : q.Bor)
    (h : SW P n h0 w0 Fz0 c ((σ.setB d (some (T, A ++ (q :: B)))).set G (some (RV.gh [v] [p]))) Q) : SW P n h0 w0 Fz0 c σ Q :=
  Sa (G := G) (ι := Unit) (q := fun _ => q) (us := fun _ => [v]) (gs := fun _ => [p]) hd hG (fun {Fz w v' F} ho => by
    obtain ⟨rfl, ho⟩ := ho
    exact ⟨(), [], F, hb (hq (p.toRel ho)), ⟨v', [], F, [], rfl, by simp, ho, rfl, rfl⟩, by simp⟩) fun _ => h
end
def Dn (P : Program) (T : TypeId) (f : Nat) : Option (Nat × TypeId) := match P.underlying T with
  | some (.struct fs) => (fs[f]?).map fun fd => (fd.offset, fd.type)
  | _ => none
def aap {P : Program} {n : Nat} {T ft s d f off : Nat} {ty : TypeId} {pos : String} {af : Array Edge} {g : Option (Nat × Bool)} {ag : Bool} {k : Nat} {cs qs : List PV} (hd : d < n) (hF : Dn P T f = some (off, ft)) (hT : bR P ft = some (ag, k)) (h1 : ag = false → k = 1) (hk : off + k ≤ cs.length) (hq : (cs.drop off).take k = qs) :
    Loc P n ⟨some d, .field T (.tmp s) f, ty, pos, af, g⟩ ⟨[(s, RV.sv true cs)], [], [(s, none), (d, some (RV.sv ag qs))], [], none⟩ := by
  intro h0 w0 Fz0 σ a w K Q hc hr _ _ h5
  obtain ⟨φ, Fz, Fp, hc⟩ := hc
  subst hq
  have hv : bQ true cs Fz w (a.tmps.getD s undef) (Fp (2 * s + 1)) := hc.slot s _ hr.1
  obtain ⟨hag, ho⟩ := hv
  generalize hx : a.tmps.getD s undef = x at hag ho
  obtain ⟨vals, rfl⟩ : ∃ vals, x = .agg vals := by cases x <;> simp [mC] at hag; exact ⟨_, rfl⟩
  have hcells : (Value.agg vals).cells.toList = vals.toList := rfl
  rw [hcells] at ho
  obtain ⟨F1, F2, F3, eF, o1, o2, o3⟩ := ho.seg off k hk
  have hl : vals.toList.length = cs.length := ho.len
  obtain ⟨v, e1, e2⟩ : ∃ v, (part ft vals off).run P w = .ok v w ∧ bQ ag ((cs.drop off).take k) Fz w v F2 := by
    obtain ⟨t1, t2⟩ := yZ hT w
    cases ag with
    | true =>
      refine ⟨.agg (vals.extract off (off + k)), ?_, rfl, ?_⟩
      · simp only [part, Sem.run_bind, t1, t2, Result.andThen_ok, if_true, Sem.run_pure]
      · show aJ _ Fz w (vals.extract off (off + k)).toList F2
        have : (vals.extract off (off + k)).toList = (vals.toList.drop off).take k := by
          rw [Array.toList_extract, List.extract_eq_take_drop]; congr 1; omega
        rw [this]; exact o2
    | false =>
      have hk1 := h1 rfl
      subst hk1
      have hlt : off < vals.size := by have : vals.toList.length = vals.size := by simp
                                       omega
      have hget : vals[off]? = some vals[off] := by simp [hlt]
      have hdt : (vals.toList.drop off).take 1 = [vals[off]] := by
        rw [List.drop_eq_getElem_cons (by simpa using hlt)]; simp
      rw [hdt] at o2
      have hone := o2.one vals[off] (by simp)
      refine ⟨vals[off], ?_, ?_⟩
      · simp only [part, Sem.run_bind, t1, Result.andThen_ok, hget]
        simp [Sem.run_pure]
      · have hc1 : vals[off].cells.toList = [vals[off]] ∧ mC vals[off] = false := by
          cases hv : vals[off] <;> rw [hv] at hone <;> simp_all [Value.oneCell', Value.cells, mC]
        exact ⟨hc1.2, by rw [hc1.1]; exact o2⟩
  have c1 := hc.pull s
  have hm0 : mv Fp (2 * s + 1) 0 = Fp (2 * s + 1) ++ Fp 0 := by simp [mv]
  have hnd := c1.nod 0
  rw [hm0, eF] at hnd
  have c2 := c1.push (i := d) (rv := RV.sv ag ((cs.drop off).take k)) (v := v) (F := F2) (X := []) hd e2 (fun b hb => by
      rw [hm0, eF]
      simp only [eg] at hb
      simp [hb]) (by
      rw [eg]
      simp only [cm] at hnd
      exact hnd.1.2.1.1)
  refine dE (v := v) (w' := w) ?_ (h5 _ _ (bn.eqv ⟨_, _, _, c2⟩ (fun j => rfl) (fun e => rfl)))
  have hs' : a.eval (.tmp s) = .agg vals := hx
  unfold execOp
  unfold Dn at hF
  split at hF
  · rename_i fs hu
    obtain ⟨fd, hfd, hfe⟩ := Option.map_eq_some_iff.1 hF
    simp only [Prod.mk.injEq] at hfe
    obtain ⟨rfl, rfl⟩ := hfe
    simp only [Instr.field, hs', Sem.run_bind, run_underlying hu, Result.andThen_ok, hfd, asAgg, Sem.run_pure, e1]
  · cases hF
def iK (e : Nat) (u : Value) (lo len : Nat) : Value := match u with
  | .slice (some ⟨b, o, q⟩) _ c => .slice (if c = lo then some ⟨b, o, q⟩ else some ⟨b, o + lo * e, q⟩) len (c - lo)
  | v => v
def Do {e g m c lo len : Nat} : iK e (.slice (some ⟨g, 0, none⟩) m c) lo len = .slice (some ⟨g, if c = lo then 0 else lo * e, none⟩) len (c - lo) := by
  unfold iK
  dsimp only
  split <;> simp
def Pz (h : Nat → Value) : ∀ {ps : List PV} {i : Nat}, an ps → an (dY h i ps)
  | [], _, hb => hb
  | p :: ps, i, hb => an.cons (PV.bor_nv (hb p List.mem_cons_self)) (Pz h fun q hq => hb q (List.mem_cons_of_mem _ hq))
def nw {α : Type} (e : Nat) (zs : List (α × (Nat → Value))) (jk : List Value) : List Value := (bl e zs ++ jk).drop ((zs.length - 1) * e)
def fL {α : Type} (zs : List α) (i : Nat) : List α := zs.take i ++ zs.drop (i + 1)
def Dp {α : Type} {zs : List α} {i : Nat} (h : i < zs.length) : (fL zs i).length = zs.length - 1 := by
  unfold fL; rw [aV, br, gm]; omega
def kN {α : Type} {e : Nat} : ∀ {zs : List (α × (Nat → Value))}, (bl e zs).length = zs.length * e
  | [] => by simp [bl]
  | z :: zs => by
    have : bl e (z :: zs) = (List.range e).map z.2 ++ bl e zs := rfl
    rw [this, aV, kN, aq, List.length_range, List.length_cons, Nat.succ_mul]; omega
def aaq {α : Type} {e cp m : Nat} {zs : List (α × (Nat → Value))} {jk : List Value} (hz : zs.length = m) (hm : 0 < m) (hj : m * e + jk.length = cp * e) : (m - 1) * e + (nw e zs jk).length = cp * e := by
  unfold nw
  have h1 : (m - 1) * e ≤ m * e := Nat.mul_le_mul_right _ (by omega)
  rw [gm, aV, kN, hz]
  omega
section
variable {P : Program} {n : Nat}
def PA {T E e bs d s G D m cp i j : Nat} {lo hi : Option Operand} {ty : TypeId} {pos : String} {af : Array Edge} {g : Option (Nat × Bool)} {u : Value} {q r : Int} (hd : d < n) (hT : cZ P T = some (E, e, bs))
    (hlo : tz lo (i = 0) (RV.int q)) (hhi : tz hi (j = m) (RV.int r)) (hq : q = (i : Int)) (hr : r = (j : Int)) (hij : i ≤ j) (hj : j ≤ m) :
    Loc P n ⟨some d, .slice T (.tmp s) lo hi none, ty, pos, af, g⟩ ⟨(s, RV.sc u) :: (G, RV.gat u D m cp) :: (vF lo (RV.int q) ++ vF hi (RV.int r)), [], [(d, some (RV.sc (iK e u i (j - i))))], [], none⟩ := by
  subst hq hr
  intro h0 w0 Fz0 σ a w K Q hc hr _ _ h5
  obtain ⟨φ, Fz, Fp, hc⟩ := hc
  obtain ⟨⟨eu, hmc, hcx⟩, _⟩ := hc.slot G _ hr.2.1
  have ev := (hc.one_ hr.1).1
  obtain ⟨hu, inf, hinf, hsz, _⟩ := kR hT
  have es' : a.eval (.tmp s) = .slice (some ⟨φ D, 0, none⟩) m cp := by rw [← eu]; exact ev
  have hlo' : lo.map a.eval = (lo.map fun _ => (.int .i64 (i : Int) : Value)) := by
    cases lo with
    | none => rfl
    | some x => exact congrArg some (hc.sc hr.2.2.left hlo)
  have hhi' : hi.map a.eval = (hi.map fun _ => (.int .i64 (j : Int) : Value)) := by
    cases hi with
    | none => rfl
    | some x => exact congrArg some (hc.sc hr.2.2.right hhi)
  have e1 : iK e u i (j - i) = .slice (if cp = i then some ⟨φ D, 0, none⟩ else (some ⟨φ D, 0, none⟩ : Option Addr).map (·.add (i * e))) (j - i) (cp - i) := by
    rw [eu]
    unfold iK
    dsimp only
    split <;> simp [kS]
  refine dE (v := iK e u i (j - i)) (w' := w) ?_ (h5 _ _ (hc.put0 hd (bQ.of_sc (by rw [e1]; rfl))))
  rw [e1]
  unfold execOp
  have hb : (Instr.sliceBounds true m cp (lo.map a.eval) (hi.map a.eval) none).run P w = .ok (i, j, cp) w := by
    rw [hlo', hhi']
    have b1 : (0 : Int) ≤ (j : Int) ∧ (j : Int) ≤ (cp : Int) := by omega
    have b2 : (0 : Int) ≤ (i : Int) ∧ (i : Int) ≤ (j : Int) := by omega
    cases lo <;> cases hi <;> simp only [tz] at hlo hhi <;> simp [Instr.sliceBounds, Instr.sliceBound, asIntOf, b1, b2, *] <;> omega
  simp only [Instr.sliceAt, Instr.slice, es', Sem.run_bind, run_underlying hu, Result.andThen_ok, Option.map_none, hb, sizeOf, typeInfo, run_program, hinf, hsz, Sem.run_pure]
def aar {t d s x G D E e bs m cp i : Nat} {ty : TypeId} {pos : String} {af : Array Edge} {gd : Option (Nat × Bool)} {u : Value} {α : Type} {g : α → List PV} {fN : α × (Nat → Value) → List PV} {zs : List (α × (Nat → Value))} {jk : List Value} (hd : d < n) (hT : cZ P t = some (E, e, bs)) (he : 0 < e) (hN : ∀ x h, fN (x, h) = dY h 0 (g x)) (hg : ∀ x, (g x).length = e) (hb : ∀ x, an (g x)) (hz : zs.length = m) (hi : i < m) (hj : m * e + jk.length = cp * e) (hdG : Nat.beq d G = false) :
    Loc P n ⟨some d, .call { callee := .builtin .append, args := #[.tmp s, .tmp x], argTypes := #[t, t] }, ty, pos, af, gd⟩ ⟨[(s, RV.sc (iK e u 0 (i - 0))), (x, RV.sc (iK e u (i + 1) (m - (i + 1)))), (G, RV.gat u D m cp)], [(D, (E, bE fN zs jk))], [(d, some (RV.sc (iK e u 0 (m - 1)))), (G, some (RV.gat (iK e u 0 (m - 1)) D (m - 1) cp))], [(D, some (E, bE fN (fL zs i) (nw e zs jk)))], none⟩ := by
  intro h0 w0 Fz0 σ a w K Q hc hr hrb _ h5
  obtain ⟨φ, Fz, Fp, hc⟩ := hc
  obtain ⟨⟨eu, hmc, hcx⟩, _⟩ := hc.slot G _ hr.2.2.1
  have ev := (hc.one_ hr.1).1
  have ex := (hc.one_ hr.2.1).1
  obtain ⟨hu, inf, hinf, hsz, _⟩ := kR hT
  subst hz
  have hbs : σ.b D = some (E, bE fN zs jk) := hrb.1
  obtain ⟨cur, hgc, ho⟩ := hc.box D _ hbs
  obtain ⟨k1, k2, k3⟩ := hc.bxb D _ hbs
  have hone := ho.one
  obtain ⟨us, hus, hvs⟩ := zE hN hg (zs := zs) (js := jk.map PV.val) ho.rel
  have huj : us = jk := by
    have hk : ∀ (l : List Value) (us : List Value), bO (l.map PV.val) Fz w us → us = l := by
      intro l
      induction l with
      | nil => intro us h; exact h
      | cons v l ih =>
        intro us h
        obtain ⟨v', vs', rfl, h1, h2⟩ := h
        rw [ih _ h2, h1.1]
    exact hk _ _ hvs
  subst huj
  generalize hA : zs.take i = A
  generalize hB : zs.drop (i + 1) = B
  have hzs : zs = A ++ (zs[i] :: B) := by rw [← hA, ← hB, ← List.drop_eq_getElem_cons hi, fc]
  have hAl : A.length = i := by rw [← hA, br]; omega
  have hBl : B.length = zs.length - (i + 1) := by rw [← hB, gm]
  have hval : bl e zs = bl e A ++ ((List.range e).map zs[i].2 ++ bl e B) := by
    conv => lhs; rw [hzs]
    rw [rO]; rfl
  have hcl : cur.toList.length = cp * e := by rw [hus, aV, kN]; exact hj
  have hcs : cur.size = cp * e := by rw [← hcl]; simp
  have hnl : (bl e B).length = (zs.length - (i + 1)) * e := by rw [kN, hBl]
  have hoff : (i + 1) * e + (bl e B).length = zs.length * e := by rw [hnl, ← Nat.add_mul]; congr 1; omega
  have hcell : ∀ j v, (bl e B)[j]? = some v → w.cell? ((⟨φ D, if cp = i + 1 then 0 else (i + 1) * e, none⟩ : Addr).add j) = some v := by
    intro j v hv
    have hjl := (List.getElem?_eq_some_iff.1 hv).1
    have hne : ¬ cp = i + 1 := by
      intro e'
      have : zs.length ≤ i + 1 := by omega
      have : B.length = 0 := by omega
      rw [kN, this] at hjl; omega
    rw [if_neg hne, kS]
    have hq := cell_of_row w (φ D) ((i + 1) * e + j) cur E (0, 0) hgc
    have hq2 : w.cell? ⟨φ D, (i + 1) * e + j, none⟩ = cur.toList[(i + 1) * e + j]? := by rw [hq]; simp
    rw [hq2, hus, hval]
    rw [List.getElem?_append_left (by simp only [aV, aq, List.length_range, kN, hAl]; rw [kN] at hjl; have := Nat.add_mul i 1 e; omega)]
    rw [List.getElem?_append_right (by rw [kN, hAl]; have := Nat.add_mul i 1 e; omega), List.getElem?_append_right (by rw [kN, hAl]; simp only [aq, List.length_range]; have := Nat.add_mul i 1 e; omega)]
    rw [← hv]
    congr 1
    rw [kN, hAl]; simp only [aq, List.length_range]; have := Nat.add_mul i 1 e; omega
  have h1 : ∀ v ∈ bl e B, v.oneCell' = true := fun v hv => hone v (by rw [hus, hval]; simp [hv])
  have hroom : i + (zs.length - (i + 1)) ≤ cp := by omega
  have hfit : i * inf.size + (bl e B).length ≤ cur.size := by rw [hsz, hnl, hcs, ← Nat.add_mul]; exact Nat.mul_le_mul_right _ hroom
  have hrun := run_append_room (P := P) w t ty E inf hu hinf (φ D) i cp cur hgc ⟨φ D, if cp = i + 1 then 0 else (i + 1) * e, none⟩ (zs.length - (i + 1)) (cp - (i + 1)) (bl e B) (by rw [hnl, hsz]) hcell h1 hroom hfit
  rw [hsz] at hrun
  have hs1 : a.eval (.tmp s) = .slice (some ⟨φ D, 0, none⟩) i cp := by
    have : a.eval (.tmp s) = iK e u 0 (i - 0) := ev
    rw [this, eu, Do]
    simp
  have hs2 : a.eval (.tmp x) = .slice (some ⟨φ D, if cp = i + 1 then 0 else (i + 1) * e, none⟩) (zs.length - (i + 1)) (cp - (i + 1)) := by
    have : a.eval (.tmp x) = iK e u (i + 1) (zs.length - (i + 1)) := ex
    rw [this, eu, Do]
  have hres : iK e u 0 (zs.length - 1) = .slice (some ⟨φ D, 0, none⟩) (i + (zs.length - (i + 1))) cp := by
    rw [eu, Do, show i + (zs.length - (i + 1)) = zs.length - 1 by omega]
    simp
  have hidx : i + (zs.length - (i + 1)) = zs.length - 1 := by omega
  have c1 := hc.pullB hbs
  generalize hFp1 : (fun x => if x = 0 then φ D :: mv Fp (2 * D + 2) 0 else mv Fp (2 * D + 2) x) = Fp1 at c1
  have e0 : Fp1 0 = φ D :: (Fp (2 * D + 2) ++ Fp 0) := by rw [← hFp1]; simp [mv]
  generalize hcur : (cur.toList.take (i * e) ++ bl e B ++ cur.toList.drop (i * e + (bl e B).length)).toArray = cur' at hrun
  have hw : (w.setRow (φ D) cur').heap.size = w.heap.size := size_setRow _ _ _
  have hset : (w.setRow (φ D) cur').heap[φ D]? = some (.cells cur' E (0, 0)) := setRow_heap w (φ D) cur _ E _ hgc
  have hoth : ∀ i, i ≠ φ D → (w.setRow (φ D) cur').heap[i]? = w.heap[i]? := fun i hi => setRow_other w (φ D) i _ hi
  have hkeep : fP Fz w Fz (w.setRow (φ D) cur') := fun i o hio => ⟨hio, World.cell?_of_block (hoth i fun e => k2 o (e ▸ hio))⟩
  have c2 := c1.world (w' := w.setRow (φ D) cur') (Fz' := Fz) (X := Fp1 0) rfl rfl rfl (by omega)
    (fun i hi hi0 => ⟨hoth i fun e => hi0 (by rw [e, e0]; simp), fun o ho => ho⟩) hkeep (fun i o hio => by rw [hw]; exact hc.fzl i o hio)
    (fun i hi => .inl hi) (c1.nod 0)
  have hlist : cur'.toList = bl e (fL zs i) ++ nw e zs us := by
    rw [← hcur]
    show cur.toList.take (i * e) ++ bl e B ++ cur.toList.drop (i * e + (bl e B).length) = _
    unfold fL nw
    rw [hA, hB, rO, ← hus]
    have t1 : cur.toList.take (i * e) = bl e A := by
      rw [hus, hval, bw]
      exact List.take_left' (by rw [kN, hAl])
    rw [t1, hnl, ← Nat.add_mul, show i + (zs.length - (i + 1)) = zs.length - 1 by omega]
  have hrel := ho.rel.mono hkeep
  have hnew : aJ (bE fN (fL zs i) (nw e zs us)) Fz (w.setRow (φ D) cur') cur'.toList [] := by
    rw [hlist]
    unfold bE
    have hr1 : bO ((zs.map fN).flatten) Fz (w.setRow (φ D) cur') (bl e zs) := by
      obtain ⟨v1, v2, q1, q2, q3⟩ := bO.split (show bO ((zs.map fN).flatten ++ us.map PV.val) Fz (w.setRow (φ D) cur') cur.toList from hrel)
      rw [hus] at q1
      have := List.append_inj q1 (by
        have hl1 := q2.len
        rw [hl1, kN]
        have : ∀ l : List (α × (Nat → Value)), (l.map fN).flatten.length = l.length * e := by
          intro l
          induction l with
          | nil => simp
          | cons z l ih =>
            rw [List.map_cons, List.flatten_cons, aV, ih, List.length_cons, Nat.succ_mul, show fN z = dY z.2 0 (g z.1) from hN z.1 z.2]
            have : ∀ (ps : List PV) (i : Nat), (dY z.2 i ps).length = ps.length := by
              intro ps
              induction ps with
              | nil => intro i; rfl
              | cons p ps ih => intro i; simp [dY, ih]
            rw [this, hg]; omega
        rw [this])
      rw [this.1]; exact q2
    rw [hzs, bT, List.flatten_append, List.map_cons, List.flatten_cons, rO] at hr1
    obtain ⟨v1, v2, q1, q2, q3⟩ := bO.split hr1
    obtain ⟨v3, v4, q4, q5, q6⟩ := bO.split q3
    have hfl : ∀ l : List (α × (Nat → Value)), (l.map fN).flatten.length = l.length * e := by
      intro l
      induction l with
      | nil => simp
      | cons z l ih =>
        rw [List.map_cons, List.flatten_cons, aV, ih, List.length_cons, Nat.succ_mul, show fN z = dY z.2 0 (g z.1) from hN z.1 z.2]
        have : ∀ (ps : List PV) (i : Nat), (dY z.2 i ps).length = ps.length := by
          intro ps
          induction ps with
          | nil => intro i; rfl
          | cons p ps ih => intro i; simp [dY, ih]
        rw [this, hg]; omega
    have hfz : (fN zs[i]).length = e := by have := hfl [zs[i]]; simpa using this
    obtain ⟨rfl, hv2⟩ := List.append_inj q1 (by rw [q2.len, hfl, kN])
    have hv2 : (List.range e).map zs[i].2 ++ bl e B = v2 := hv2
    rw [q4] at hv2
    obtain ⟨_, rfl⟩ := List.append_inj hv2 (by rw [q5.len, hfz]; simp)
    have hrB : bO (((fL zs i).map fN).flatten) Fz (w.setRow (φ D) cur') (bl e (fL zs i)) := by
      unfold fL
      rw [hA, hB, bT, List.flatten_append, rO]
      exact q2.append q6
    have hbor : an ((fL zs i).map fN).flatten := by
      intro p hp
      obtain ⟨l, hl, hp⟩ := List.mem_flatten.1 hp
      obtain ⟨z, _, rfl⟩ := List.mem_map.1 hl
      rw [show fN z = dY z.2 0 (g z.1) from hN z.1 z.2] at hp
      exact Pz z.2 (hb z.1) p hp
    have hoj : aJ ((nw e zs us).map PV.val) Fz (w.setRow (φ D) cur') (nw e zs us) [] := rF fun v hv => hone v (by
      unfold nw at hv
      rw [← hus] at hv
      exact List.mem_of_mem_drop hv)
    have := (hbor.own hrB).append hoj
    rwa [eg] at this
  have c3 := c2.pushB (d := D) (g := φ D) (t := E) (cs := bE fN (fL zs i) (nw e zs us)) (F := []) (X := Fp 0) (by rw [St.setB_b, if_pos rfl]) hset hnew k2
    (fun x hx => by
      simp only [if_true]
      rw [e0]
      simp only [List.nil_append, jQ, dM] at hx ⊢
      rcases hx with hx | hx
      · exact .inl hx
      · exact .inr (.inr hx))
    (by
      have hnd := c1.nod 0
      rw [e0] at hnd
      simp only [List.nil_append]
      rw [gk] at hnd ⊢
      exact ⟨fun hh => hnd.1 (by simp [hh]), (List.nodup_append.1 hnd.2).2.1⟩) (.inl rfl)
  have c4 := (c3.pull G).reslot (s := G) (rv := RV.gat (iK e u 0 (zs.length - 1)) D (zs.length - 1) cp) ⟨⟨hres.trans (by rw [hidx]; simp), by omega, hcx⟩, by simp [mv]⟩
  have c5 := c4.put0 (d := d) (r := RV.sc (iK e u 0 (zs.length - 1))) (v := iK e u 0 (zs.length - 1)) hd (bQ.of_sc (by rw [hres]; rfl))
  refine dE (v := iK e u 0 (zs.length - 1)) (w' := w.setRow (φ D) cur') ?_ (h5 _ _ (bn.eqv c5 (fun k => ?_) (fun k => ?_)))
  · rw [hres]
    have es' : a.eval (.tmp s) = a.tmps.getD s undef := rfl
    have ex' : a.eval (.tmp x) = a.tmps.getD x undef := rfl
    unfold execOp
    simp only [resolve, invoke, builtin, Sem.run_bind, Sem.run_pure, Result.andThen_ok, List.map_toArray, List.map_cons, List.map_nil, hs1, hs2, hrun]
  · show bM [(d, _), (G, _)] σ.s k = _
    have hne : ¬ d = G := fun e => by rw [e] at hdG; simp at hdG
    simp only [bM, St.set, St.setB]
    cases hkd : Nat.beq k d <;> cases hkG : Nat.beq k G
    · rfl
    · rfl
    · rfl
    · exact absurd ((Nat.eq_of_beq_eq_true hkd).symm.trans (Nat.eq_of_beq_eq_true hkG)) hne
  · show bM [(D, _)] σ.b k = _
    simp only [bM, St.set, St.setB]
    cases hkd : Nat.beq k D <;> rfl
end
end
section
section
variable {P : Program} {n : Nat} {h0 : Nat → Prop} {w0 : World} {Fz0 : av} {σ : St} {Q : Exit → St → Prop} {c : Code}
end
end
end Go.Proofs.YtmekkgdboplbjaaGreat.M
