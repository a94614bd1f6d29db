/- Elements of own slices, wherever the slice lies, are turned in place. No condition. -/
import Derived.Test.YtloipjaiceifbaaGreatCF1
import Derived.KernelRfl
set_option linter.unusedVariables false
namespace Go.Proofs.YtloipjaiceifbaaGreat.M
open Go Go.RowKit
section
variable {P : Program} {n : Nat} {h0 : Nat → Prop} {w0 : World} {Fz0 : FzT}
/-- The value u is the slice of all m elements of variable D. -/
def RV.gat (u : Value) (D m cp : Nat) : RV where
  holds φ _ _ _ F := (u = .slice (some ⟨φ D, 0, none⟩) m cp ∧ m ≤ cp ∧ cp ≤ maxLen) ∧ F = []
  men x := Nat.beq x D
  mono h _ _ hφ := ⟨⟨by rw [hφ D (by simp)]; exact h.1.1, h.1.2⟩, h.2⟩
  lt h := by rw [h.2]; simp
theorem RV.lcl_gat {L : Nat} {u : Value} {D m cp : Nat} : (RV.gat u D m cp).Lcl L := fun h _ => h
/-- Some value of one cell. -/
def PV.any : PV where
  rel _ _ v := v.oneCell' = true
  own _ _ v F := v.oneCell' = true ∧ F = []
  one h := h
  toRel h := h.1
  relMono h _ := h
  ownMono h _ _ := h
  lt h := by rw [h.2]; simp
theorem PV.to_any {p : PV} : p.To PV.any := fun h => p.one h
theorem PV.bor_any : PV.any.Bor := fun h => ⟨h, rfl⟩
theorem PV.lcl_any {L : Nat} : PV.any.Lcl L := fun h _ => h
section
variable {σ : St} {a : Act} {w : World} {φ : Nat → Nat} {Fz : FzT} {Fp : Nat → List Nat}
/-- The array of a slice that floats becomes variable D. -/
theorem ConcW.thawF (hc : ConcW h0 w0 Fz0 n σ a w φ Fz Fp) {D G E e L : Nat} {u : Value} {es : List (List PV)} {F X : List Nat} (ho : SlOwn E e es Fz w u F) (hne : es ≠ []) (hX : ∀ b, b ∈ F ++ X → b ∈ Fp 0) (hn : (F ++ X).Nodup)
    (hD : σ.b D = none) (hG : σ.s G = none) (hm : ∀ i rv, σ.s i = some rv → rv.men D = false) (hL : ∀ x, x < L → h0 x) (hls : ∀ i rv, σ.s i = some rv → rv.Lcl L) (hlb : ∀ d bx, σ.b d = some bx → LclC L bx.2) (hes : ∀ cs, cs ∈ es → LclC L cs) :
    ∃ (cp : Nat) (jk : List Value), es.length ≤ 9223372036854775807 ∧ es.length ≤ cp ∧ es.length * e + jk.length = cp * e ∧ Conc h0 w0 Fz0 n ((σ.setB D (some (E, es.flatten ++ jk.map PV.val))).set G (some (RV.gat u D es.length cp))) a w := by
  obtain ⟨css, F', ho, hl, hf, hF, h1⟩ := ho
  rcases ho.2 with ⟨_, hn0⟩ | ⟨g, cap, cur, hval, _, hg, hnc, hcm, hcs, htake⟩
  · exact absurd (List.eq_nil_of_length_eq_zero hn0) hne
  have hob : u.ownBlock = some g := by rw [hval]; rfl
  rw [hob] at hF hf
  have hF : F = g :: F' := hF
  subst hF
  have hg0 : g ∈ Fp 0 := hX g (by simp)
  have hgl := hc.low 0 g hg0
  -- the block's cells are no longer said to stay
  have c2 := hc.uworld (w' := w) (Fz' := fun x o => Fz x o ∧ x ≠ g) (L := L) rfl rfl rfl (Nat.le_refl _)
    (fun x hx h0' => ⟨rfl, fun o => ⟨fun k => k.1, fun k => ⟨k, fun e => h0' (by rw [e]; exact hg0)⟩⟩⟩) hL hls hlb
    (fun x o k => hc.fzl x o k.1) (X := g :: F' ++ X) (fun x hx => .inl (hX x hx)) hn
  have hgF : g ∉ F' := by
    have := (List.nodup_append.1 hn).1
    exact (List.nodup_cons.1 this).1
  have hl2 : OwnLL e es (fun x o => Fz x o ∧ x ≠ g) w css F' := lcl_ll (L := L) hes hl (fun x hx => ⟨rfl, fun o => ⟨fun k => k.1, fun k => ⟨k, fun e => by
      rcases hx with hx | hx
      · exact hgl.1 (e ▸ hL x hx)
      · rw [e] at hx; exact hgF hx⟩⟩⟩)
  have hone := h1 g hob cur E (0, 0) hg
  have hjl : es.length * e + (cur.toList.drop (es.length * e)).length = cap * e := by
    have hle : es.length * e ≤ cap * e := Nat.mul_le_mul_right _ hnc
    rw [List.length_drop, show cur.toList.length = cap * e from by rw [← hcs]; simp]; omega
  have hcur : OwnL (es.flatten ++ (cur.toList.drop (es.length * e)).map PV.val) (fun x o => Fz x o ∧ x ≠ g) w cur.toList F' := by
    have k := (OwnLL.flat hl2).append (own_vals (Fz := fun x o => Fz x o ∧ x ≠ g) (w := w) (vs := cur.toList.drop (es.length * e)) fun v hv => hone v (List.mem_of_mem_drop hv))
    rw [← htake, List.take_append_drop, List.append_nil] at k
    exact k
  have c3 := c2.pushB (d := D) (g := g) (t := E) (cs := es.flatten ++ (cur.toList.drop (es.length * e)).map PV.val) (F := F') (X := X) hD hg hcur (fun o k => k.2 rfl)
    (fun x hx => by
      simp only [if_true]
      rcases List.mem_append.1 hx with hx | hx
      · simp [hx]
      · rcases List.mem_cons.1 hx with rfl | hx
        · simp
        · simp [hx])
    (by
      simp only [List.cons_append, List.nodup_cons, List.mem_append] at hn
      rw [List.nodup_append] at hn ⊢
      obtain ⟨k1, k2, k3, k4⟩ := hn
      refine ⟨k2, List.nodup_cons.2 ⟨fun hh => k1 (.inr hh), k3⟩, fun x hx y hy e => ?_⟩
      rcases List.mem_cons.1 hy with rfl | hy
      · exact k1 (.inl (e ▸ hx))
      · exact k4 x hx y hy e)
    (.inr hm)
  have c4 := (c3.pull G).reslot (s := G) (rv := RV.gat u D es.length cap) ⟨⟨by rw [hval]; simp, hnc, hcm⟩, by simp [mv]⟩
  refine ⟨cap, _, by unfold maxLen at hcm; omega, hnc, hjl, Conc.eqv ⟨_, _, _, c4⟩ (fun i => by
    simp only [St.set_s, St.setB_s]
    split <;> rfl) (fun d => rfl)⟩
end
variable {Q : Exit → St → Prop} {c : Code}
def LclBA2 (L : Nat) : List (Nat × (Nat × List PV)) → Prop
  | [] => True
  | p :: l => LclC L p.2.2 ∧ LclBA2 L l
theorem LclBA2.mem {L : Nat} : ∀ {l : List (Nat × (Nat × List PV))}, LclBA2 L l → ∀ p, p ∈ l → LclC L p.2.2
  | [], _, p, hp => by simp at hp
  | q :: l, h, p, hp => by
    rcases List.mem_cons.1 hp with rfl | hp
    · exact h.1
    · exact LclBA2.mem h.2 p hp
def LclS2 (L : Nat) : List (Nat × RV) → Prop
  | [] => True
  | p :: l => p.2.Lcl L ∧ LclS2 L l
theorem LclS2.mem {L : Nat} : ∀ {l : List (Nat × RV)}, LclS2 L l → ∀ p, p ∈ l → p.2.Lcl L
  | [], _, p, hp => by simp at hp
  | q :: l, h, p, hp => by
    rcases List.mem_cons.1 hp with rfl | hp
    · exact h.1
    · exact LclS2.mem h.2 p hp
/-- The array of an own slice inside a variable becomes a variable. -/
theorem sw_thawB {l : List (Nat × RV)} {b : List (Nat × (Nat × List PV))} (d t D G E e L : Nat) (A B : List PV) {es : List (List PV)} (hd : lk b d = some (t, A ++ ([PV.sl (.own E e) es] ++ B))) (hne : es ≠ []) (hD : lk b D = none) (hG : lk l G = none) (hdD : Nat.beq D d = false) (hfr : (l.all fun p => !p.2.men D) = true)
    (hL : ∀ x, x < L → h0 x) (hls : LclS2 L l) (hlb : LclB L d b) (hA : LclC L A) (hB : LclC L B) (hes : ∀ cs, cs ∈ es → LclC L cs)
    (h : ∀ (u : Value) (cp : Nat) (jk : List Value), es.length ≤ 9223372036854775807 → es.length ≤ cp → es.length * e + jk.length = cp * e → SW P n h0 w0 Fz0 c ((((St.of l b).setB d (some (t, A ++ ([PV.val u] ++ B)))).setB D (some (E, es.flatten ++ jk.map PV.val))).set G (some (RV.gat u D es.length cp))) Q) : SW P n h0 w0 Fz0 c (St.of l b) Q := fun a w hc => by
  obtain ⟨φ, Fz, Fp, hc⟩ := hc
  have hd' : (St.of l b).b d = some (t, A ++ ([PV.sl (.own E e) es] ++ B)) := hd
  obtain ⟨cur, hg, ho⟩ := hc.box d _ hd'
  obtain ⟨k1, k2, k3⟩ := hc.bxb d _ hd'
  obtain ⟨vA, vM, vB, FA, FM, FB, e1, e2, kA, kM, kB⟩ := own_mid ho
  obtain ⟨u, vs', F1, F2, rfl, rfl, hu, hu2, hu3⟩ := kM
  subst hu2 hu3
  have hu : SlOwn E e es Fz w u F1 := hu
  have c1 := hc.pullB hd'
  generalize hFp1 : (fun x => if x = 0 then φ d :: mv Fp (2 * d + 2) 0 else mv Fp (2 * d + 2) x) = Fp1 at c1
  have e0 : Fp1 0 = φ d :: ((FA ++ ((F1 ++ []) ++ FB)) ++ Fp 0) := by rw [← hFp1]; simp only [if_true]; congr 1; simp only [mv, if_true]; rw [e2]
  have hnd := c1.nod 0
  have hone : u.oneCell' = true := (PV.sl (.own E e) es).one (Fz := Fz) (w := w) ⟨hu.rel, True.intro⟩
  have c2 := c1.pushB (d := d) (g := φ d) (t := t) (cs := A ++ ([PV.val u] ++ B)) (cur := cur) (F := FA ++ ([] ++ FB)) (X := F1 ++ Fp 0) (by simp [St.setB_b]) hg
    (by rw [e1]; exact kA.append (OwnL.append (ps := [PV.val u]) ⟨u, [], [], [], rfl, rfl, ⟨⟨rfl, hone⟩, rfl⟩, rfl, rfl⟩ kB)) k2
    (fun x hx => by
      rw [e0]
      simp only [List.mem_append, List.mem_cons, List.append_nil, List.nil_append] at hx ⊢
      rcases hx with (hx | hx) | hx | hx | hx <;> simp [hx])
    (by
      rw [e0] at hnd
      refine (List.Perm.nodup_iff ?_).2 hnd
      simp only [List.append_nil, List.nil_append, List.append_assoc]
      rw [← List.append_assoc]
      refine List.perm_middle.trans (List.Perm.cons _ ?_)
      simp only [List.append_assoc]
      refine List.Perm.append_left FA ?_
      rw [← List.append_assoc, ← List.append_assoc]
      exact List.Perm.append_right _ List.perm_append_comm) (.inl rfl)
  have hst : ∀ i rv, (((St.of l b).setB d none).setB d (some (t, A ++ ([PV.val u] ++ B)))).s i = some rv → (i, rv) ∈ l := fun i rv hi => lk_mem hi
  obtain ⟨cp, jk, q1, q2, q3, c5⟩ := c2.thawF (D := D) (G := G) (L := L) (F := F1) (X := Fp 0) (es := es) (u := u) (E := E) (e := e) hu hne
    (fun x hx => by simp only [give, if_true]; rw [if_neg (by omega)]; exact hx)
    (by
      have := c2.nod 0
      simp only [give, if_true] at this
      rw [if_neg (by omega)] at this
      exact this)
    (by
      rw [St.setB_b, if_neg (fun e => by rw [e] at hdD; simp at hdD), St.setB_b, if_neg (fun e => by rw [e] at hdD; simp at hdD)]
      exact hD)
    hG (fun i rv hi => by
      have := List.all_eq_true.1 hfr _ (hst i rv hi)
      simpa using this) hL (fun i rv hi => hls.mem _ (hst i rv hi))
    (fun d' bx hb' => by
      rw [St.setB_b] at hb'
      split at hb'
      · injection hb' with hb'; subst hb'
        exact LclC.app hA (LclC.app (LclC.cons PV.lcl_val LclC.nil) hB)
      · rename_i hne'
        rw [St.setB_b, if_neg hne'] at hb'
        rcases hlb.mem _ (lk_mem hb') with e | k
        · exact absurd e hne'
        · exact k) hes
  refine h u cp jk q1 q2 q3 a w (Conc.eqv c5 (fun i => rfl) (fun x => by
    simp only [St.set_b, St.setB_b]
    split
    · rfl
    · split
      · rfl
      · rfl))
/-- The variable is the array of the slice again. -/
theorem sw_frzIn {σ : St} {d t D G E e m cp : Nat} {A B : List PV} {u : Value} {es : List (List PV)} {jk : List Value} (hd : σ.b d = some (t, A ++ ([PV.val u] ++ B))) (hG : σ.s G = some (RV.gat u D m cp)) (hb : σ.b D = some (E, es.flatten ++ jk.map PV.val)) (hdD : Nat.beq D d = false) (hl : es.length = m) (he : ∀ c, c ∈ es → c.length = e) (hj : m * e + jk.length = cp * e)
    (h : SW P n h0 w0 Fz0 c (((σ.setB D none).set G none).setB d (some (t, A ++ ([PV.sl (.own E e) es] ++ B)))) Q) : SW P n h0 w0 Fz0 c σ Q := fun a w hc => by
  obtain ⟨φ, Fz, Fp, hc⟩ := hc
  obtain ⟨⟨ev, hmc, hmx⟩, _⟩ := hc.slot G _ hG
  have hne' : ¬ d = D := fun e => by rw [e] at hdD; simp at hdD
  obtain ⟨Fz', Fp', c3, hsl, hX, hnd, hs0⟩ := hc.freeze (s := G) hb hmc hmx hl he hj
  have hd3 : ((σ.setB D none).set G none).b d = some (t, A ++ ([PV.val u] ++ B)) := by rw [St.set_b, St.setB_b, if_neg hne']; exact hd
  obtain ⟨cur, hg, ho⟩ := c3.box d _ hd3
  obtain ⟨k1, k2, k3⟩ := c3.bxb d _ hd3
  obtain ⟨vA, vM, vB, FA, FM, FB, e1, e2, kA, kM, kB⟩ := own_mid ho
  obtain ⟨u', vs', F1, F2, rfl, rfl, hu, hu2, hu3⟩ := kM
  subst hu2 hu3
  obtain ⟨⟨rfl, hone⟩, rfl⟩ := hu
  have c4 := c3.pullB hd3
  generalize hFp1 : (fun x => if x = 0 then φ d :: mv Fp' (2 * d + 2) 0 else mv Fp' (2 * d + 2) x) = Fp1 at c4
  have e0 : Fp1 0 = φ d :: ((FA ++ (([] ++ []) ++ FB)) ++ Fp' 0) := by rw [← hFp1]; simp only [if_true]; congr 1; simp only [mv, if_true]; rw [e2]
  have hnd0 := c4.nod 0
  rw [e0] at hnd0
  simp only [List.nil_append] at hnd0 e0
  have hdis : ∀ x, x ∈ φ D :: Fp (2 * D + 2) → x ≠ φ d ∧ x ∉ FA ++ FB := fun x hx => by
    have hx' := hX x hx
    rw [List.nodup_cons, List.nodup_append] at hnd0
    exact ⟨fun e => hnd0.1 (by rw [← e]; simp [hx']), fun hh => hnd0.2.2.2 x hh x hx' rfl⟩
  have c5 := c4.pushB (d := d) (g := φ d) (t := t) (cs := A ++ ([PV.sl (.own E e) es] ++ B)) (cur := cur) (F := FA ++ ((φ D :: Fp (2 * D + 2)) ++ FB)) (X := []) (by simp [St.setB_b]) hg
    (by rw [e1]; exact kA.append (OwnL.append (ps := [PV.sl (.own E e) es]) ⟨u', [], φ D :: Fp (2 * D + 2), [], rfl, by simp, by rw [ev]; exact hsl, rfl, rfl⟩ kB)) k2
    (fun x hx => by
      rw [e0]
      simp only [List.mem_append, List.mem_cons, List.not_mem_nil, or_false] at hx ⊢
      rcases hx with (hx | (hx | hx) | hx) | hx
      · simp [hx]
      · exact .inr (.inr (hX x (by simp [hx])))
      · exact .inr (.inr (hX x (by simp [hx])))
      · simp [hx]
      · simp [hx])
    (by
      have hn1 : (FA ++ FB).Nodup := by
        rw [List.nodup_cons, List.nodup_append] at hnd0
        exact hnd0.2.1
      have hn2 : φ d ∉ FA ++ FB := fun hh => by
        rw [List.nodup_cons] at hnd0
        exact hnd0.1 (List.mem_append.2 (.inl hh))
      have hp : (FA ++ ((φ D :: Fp (2 * D + 2)) ++ FB) ++ [φ d]).Perm ((φ D :: Fp (2 * D + 2)) ++ (φ d :: (FA ++ FB))) := by
        have p1 : (FA ++ ((φ D :: Fp (2 * D + 2)) ++ FB)).Perm ((φ D :: Fp (2 * D + 2)) ++ (FA ++ FB)) := by
          rw [← List.append_assoc, ← List.append_assoc]
          exact List.Perm.append_right _ List.perm_append_comm
        refine (List.perm_append_singleton _ _).trans ?_
        refine (List.Perm.cons _ p1).trans ?_
        exact List.perm_middle.symm
      refine (List.Perm.nodup_iff hp).2 ?_
      rw [List.nodup_append]
      refine ⟨hnd, List.nodup_cons.2 ⟨hn2, hn1⟩, fun x hx y hy e => ?_⟩
      subst e
      rcases List.mem_cons.1 hy with hy | hy
      · exact (hdis x hx).1 hy
      · exact (hdis x hx).2 hy) (.inl rfl)
  refine h a w (Conc.eqv ⟨_, _, _, c5⟩ (fun i => rfl) (fun x => by
    simp only [St.set_b, St.setB_b]
    split <;> rfl))
/-- An element set apart. -/
theorem at_split {α : Type} {xs : List α} {f : α → List PV} {J : List PV} {k : Nat} (hk : k < xs.length) : (xs.map f).flatten ++ J = ((xs.take k).map f).flatten ++ (f xs[k] ++ (((xs.drop (k + 1)).map f).flatten ++ J)) := by
  conv => lhs; rw [← List.take_append_drop k xs, List.drop_eq_getElem_cons hk]
  simp only [List.map_append, List.map_cons, List.flatten_append, List.flatten_cons, List.append_assoc]
theorem at_join {α : Type} {xs : List α} {f : α → List PV} {J cs : List PV} {k : Nat} (y : α) (hk : k < xs.length) (hy : cs = f y) : ((xs.take k).map f).flatten ++ (cs ++ (((xs.drop (k + 1)).map f).flatten ++ J)) = ((xs.set k y).map f).flatten ++ J := by
  subst hy
  rw [List.set_eq_take_append_cons_drop, if_pos hk]
  simp only [List.map_append, List.map_cons, List.flatten_append, List.flatten_cons, List.append_assoc]
theorem map_ne {α β : Type} {xs : List α} {f : α → β} {k : Nat} (hk : k < xs.length) : xs.map f ≠ [] := fun e => by
  have := congrArg List.length e
  rw [List.length_map, List.length_nil] at this; omega
theorem at_len {α : Type} {xs : List α} {f : α → List PV} {k e : Nat} (hf : ∀ x, (f x).length = e) (hk : k ≤ xs.length) : ((xs.take k).map f).flatten.length = k * e := by
  rw [flatten_len (e := e) (fun cs hcs => by obtain ⟨x, _, rfl⟩ := List.mem_map.1 hcs; exact hf x), List.length_map, List.length_take, Nat.min_eq_left hk]
section
variable {ops : Array Oper}
theorem loc_gidx {T E e bs d s G D m cp k : Nat} {i : Operand} {ty : TypeId} {pos : String} {af : Array Edge} {g : Option (Nat × Bool)} {u : Value} {q : Int} (hd : d < n) (hT : sliceI P T = some (E, e, bs)) (hi : OpOk i (RV.int q)) (hq : q = (k : Int)) (hk : k < m) :
    Loc P n ⟨some d, .indexAddr T (.tmp s) i, ty, pos, af, g⟩ ⟨(s, RV.sc u) :: (G, RV.gat u D m cp) :: opR i (RV.int q), [], [(d, some (RV.ptr D (k * e)))], [], none⟩ := by
  intro h0 w0 Fz0 σ a w K Q hc hr _ _ h5
  obtain ⟨φ, Fz, Fp, hc⟩ := hc
  subst hq
  have ei := hc.sc hr.2.2 hi
  obtain ⟨⟨eu, _⟩, _⟩ := hc.slot G _ hr.2.1
  have ev := (hc.one_ hr.1).1
  obtain ⟨hu, inf, hinf, hsz, _⟩ := sliceI_spec hT
  refine wp_val (v := .pointer (some ⟨φ D, k * e, none⟩)) (w' := w) ?_ (h5 _ _ (hc.put0 hd ⟨rfl, rfl⟩))
  unfold execOp
  have es' : a.eval (.tmp s) = .slice (some ⟨φ D, 0, none⟩) m cp := by rw [← eu]; exact ev
  have hlt' : (0 : Int) ≤ (k : Int) ∧ (k : Int) < (m : Int) := by omega
  simp only [es', ei, Instr.indexAt, asIntOf, Sem.run_bind, Sem.run_pure, Result.andThen_ok, run_underlying hu]
  simp [hlt', sizeOf, typeInfo, hinf, hsz, add_lit]
theorem loc_glen {T E e bs d s G D m cp : Nat} {ty : TypeId} {pos : String} {af : Array Edge} {g : Option (Nat × Bool)} {u : Value} (hd : d < n) (hT : sliceI P T = some (E, e, bs)) :
    Loc P n ⟨some d, .call { callee := .builtin .len, args := #[.tmp s], argTypes := #[T] }, ty, pos, af, g⟩ ⟨[(s, RV.sc u), (G, RV.gat u D m cp)], [], [(d, some (RV.int (m : Int)))], [], none⟩ := by
  intro h0 w0 Fz0 σ a w K Q hc hr _ _ h5
  obtain ⟨φ, Fz, Fp, hc⟩ := hc
  obtain ⟨⟨eu, _⟩, _⟩ := hc.slot G _ hr.2.1
  have ev := (hc.one_ hr.1).1
  obtain ⟨hu, _⟩ := sliceI_spec hT
  refine wp_val (v := .int .i64 (m : Int)) (w' := w) ?_ (h5 _ _ (hc.put0 hd (SvOwn.of_sc rfl)))
  have es' : a.eval (.tmp s) = .slice (some ⟨φ D, 0, none⟩) m cp := by rw [← eu]; exact ev
  unfold execOp
  simp [resolve, invoke, builtin, es', Builtin.len_, run_underlying hu, goInt]
theorem loc_ltakeM {T d p b off t o : Nat} {ty : TypeId} {pos : String} {af : Array Edge} {g : Option (Nat × Bool)} {ag : Bool} {k : Nat} {A m B ms qs : List PV} (hoff : off = A.length + o) (hd : d < n) (hT : tyI P T = some (ag, k)) (h1 : ag = false → k = 1) (hk : o + k ≤ m.length)
    (hm : (m.drop o).take k = ms) (ht : ToL ms qs) (hb : BorL qs) :
    Loc P n ⟨some d, .load T (.tmp p), ty, pos, af, g⟩ ⟨[(p, RV.ptr b off)], [(b, (t, A ++ (m ++ B)))], [(d, some (RV.sv ag ms))], [(b, some (t, A ++ ((m.take o ++ (qs ++ m.drop (o + k))) ++ B)))], none⟩ := by
  have h : Loc P n ⟨some d, .load T (.tmp p), ty, pos, af, g⟩ ⟨[(p, RV.ptr b off)], [(b, (t, A ++ (m ++ B)))], [(d, some (RV.sv ag ms))], [(b, some (t, (A ++ (m ++ B)).take off ++ (qs ++ (A ++ (m ++ B)).drop (off + k))))], none⟩ :=
    loc_ltake hd hT h1 (by rw [hoff]; simp only [List.length_append]; omega) (by
      rw [hoff, mid_drop (by omega), List.take_append_of_le_length (by rw [List.length_drop]; omega)]; exact hm) ht hb
  have e : (A ++ (m ++ B)).take off ++ (qs ++ (A ++ (m ++ B)).drop (off + k)) = A ++ ((m.take o ++ (qs ++ m.drop (o + k))) ++ B) := by
    rw [hoff, mid_take (by omega), show A.length + o + k = A.length + (o + k) by omega, mid_drop hk]
    simp only [List.append_assoc]
  rw [e] at h
  exact @h
end
end
end Go.Proofs.YtloipjaiceifbaaGreat.M

/- Calls that take what their arguments own, and calls that turn a variable of the caller. No condition. -/
set_option linter.unusedVariables false
namespace Go.Proofs.YtloipjaiceifbaaGreat.M
open Go Go.RowKit
section
variable {P : Program} {n : Nat} {h0 : Nat → Prop} {w0 : World} {Fz0 : FzT}
/-- What is common to the ends: nothing turned but in F (and g). -/
structure Turned (F : List Nat) (g : Option Nat) (Fz : FzT) (w : World) (Fz' : FzT) (w' : World) : Prop where
  os : w'.os = w.os
  tape : w'.tape = w.tape
  output : w'.output = w.output
  size : w.heap.size ≤ w'.heap.size
  same : ∀ b, b < w.heap.size → some b ≠ g → b ∉ F → w'.heap[b]? = w.heap[b]? ∧ ∀ o, Fz' b o ↔ Fz b o
  fzl : ∀ b o, Fz' b o → b < w'.heap.size
/-- The function takes its arguments with what they own, and returns r. -/
def OCall (P : Program) (f : FuncId) (args : List (Bool × List PV)) (r : RV) : Prop :=
  ∀ (w : World) (vs : List Value) (Fz : FzT) (F : List Nat), (∀ b o, Fz b o → b < w.heap.size) → OwnT args Fz w vs F → F.Nodup →
    Calls P f vs.toArray w fun e w' => ∃ (v : Value) (Fz' : FzT) (G : List Nat), e = .returned v ∧ Turned F none Fz w Fz' w' ∧ (∀ φ, r.holds φ Fz' w' v G) ∧ G.Nodup ∧ ∀ b, b ∈ G → b ∈ F ∨ (w.heap.size ≤ b ∧ b < w'.heap.size)
/-- The function turns the variable that its first argument points at: from cs to cs'. -/
def XCall (P : Program) (f : FuncId) (t : Nat) (cs cs' : List PV) (args : List (Bool × List PV)) (r : RV) : Prop :=
  ∀ (w : World) (g : Nat) (cur : Array Value) (vs : List Value) (Fz : FzT) (F1 F2 : List Nat), (∀ b o, Fz b o → b < w.heap.size) → w.heap[g]? = some (.cells cur t (0, 0)) → (∀ o, ¬ Fz g o) → OwnL cs Fz w cur.toList F1 → OwnT args Fz w vs F2 → (g :: (F1 ++ F2)).Nodup →
    Calls P f (.pointer (some ⟨g, 0, none⟩) :: vs).toArray w fun e w' => ∃ (v : Value) (Fz' : FzT) (cur' : Array Value) (F1' G : List Nat), e = .returned v ∧ Turned (F1 ++ F2) (some g) Fz w Fz' w' ∧ w'.heap[g]? = some (.cells cur' t (0, 0)) ∧ (∀ o, ¬ Fz' g o) ∧ OwnL cs' Fz' w' cur'.toList F1' ∧
      (∀ φ, r.holds φ Fz' w' v G) ∧ (g :: (F1' ++ G)).Nodup ∧ ∀ b, b ∈ F1' ++ G → b ∈ F1 ++ F2 ∨ (w.heap.size ≤ b ∧ b < w'.heap.size)
theorem OwnT.parts {Fz : FzT} {w : World} : ∀ {l : List (Bool × List PV)} {vs : List Value} {F : List Nat}, OwnT l Fz w vs F → ∃ ps : List (List Nat), ps.length = l.length ∧ F = ps.flatten ∧ ∀ (j : Nat) (q : Bool × List PV), l[j]? = some q → ∃ v, vs[j]? = some v ∧ SvOwn q.1 q.2 Fz w v (ps.getD j [])
  | [], vs, F, h => ⟨[], rfl, h.2, fun j q hq => by simp at hq⟩
  | p :: l, vs, F, h => by
    obtain ⟨v, vs', F1, F2, rfl, rfl, h1, h2⟩ := h
    obtain ⟨ps, e1, e2, e3⟩ := OwnT.parts h2
    refine ⟨F1 :: ps, by simp [e1], by rw [e2]; rfl, fun j q hq => ?_⟩
    cases j with
    | zero => simp at hq; subst hq; exact ⟨v, rfl, h1⟩
    | succ j => simpa using e3 j q (by simpa using hq)
/-- The own blocks of the arguments, from slot k on. -/
def argF (k : Nat) (ps : List (List Nat)) (x : Nat) : List Nat := if x % 2 = 1 ∧ k ≤ (x - 1) / 2 then ps.getD ((x - 1) / 2 - k) [] else []
theorem argF_at (k : Nat) (ps : List (List Nat)) (j : Nat) : argF k ps (2 * (k + j) + 1) = ps.getD j [] := by
  unfold argF
  rw [if_pos ⟨by omega, by omega⟩]
  congr 1; omega
theorem getD_sub {ps : List (List Nat)} {j b : Nat} (h : b ∈ ps.getD j []) : b ∈ ps.flatten := by
  rw [List.getD_eq_getElem?_getD] at h
  cases hp : ps[j]? with
  | none => rw [hp] at h; simp at h
  | some p => rw [hp] at h; exact List.mem_flatten.2 ⟨p, List.mem_of_getElem? hp, h⟩
theorem argF_sub {k : Nat} {ps : List (List Nat)} {x b : Nat} (h : b ∈ argF k ps x) : b ∈ ps.flatten := by
  unfold argF at h
  split at h
  · exact getD_sub h
  · simp at h
theorem parts_dis : ∀ {ps : List (List Nat)}, ps.flatten.Nodup → (∀ j, (ps.getD j []).Nodup) ∧ ∀ i j, i ≠ j → ∀ b, b ∈ ps.getD i [] → b ∉ ps.getD j []
  | [], _ => ⟨fun j => by simp, fun i j _ b hb => by simp at hb⟩
  | p :: ps, h => by
    rw [List.flatten_cons, List.nodup_append] at h
    obtain ⟨h1, h2, h3⟩ := h
    obtain ⟨k1, k2⟩ := parts_dis h2
    refine ⟨fun j => ?_, fun i j hij b hb hb' => ?_⟩
    · cases j with
      | zero => exact h1
      | succ j => exact k1 j
    · cases i with
      | zero =>
        cases j with
        | zero => exact hij rfl
        | succ j => exact h3 b hb b (getD_sub hb') rfl
      | succ i =>
        cases j with
        | zero => exact h3 b hb' b (getD_sub hb) rfl
        | succ j => exact k2 i j (by omega) b hb hb'
theorem argF_nod {k : Nat} {ps : List (List Nat)} (h : ps.flatten.Nodup) (x : Nat) : (argF k ps x).Nodup := by
  unfold argF
  split
  · exact (parts_dis h).1 _
  · exact List.nodup_nil
theorem argF_dis {k : Nat} {ps : List (List Nat)} (h : ps.flatten.Nodup) {x y : Nat} (hxy : x ≠ y) {b : Nat} (hb : b ∈ argF k ps x) : b ∉ argF k ps y := by
  unfold argF at hb ⊢
  split at hb
  · split
    · exact (parts_dis h).2 _ _ (by omega) b hb
    · simp
  · simp at hb
theorem lk_args : ∀ {qs : List (Bool × List PV)} {k i : Nat} {rv : RV}, lk (argsL k qs) i = some rv → ∃ j q, i = k + j ∧ qs[j]? = some q ∧ rv = RV.sv q.1 q.2
  | [], k, i, rv, h => by cases h
  | q :: qs, k, i, rv, h => by
    have h : (bif Nat.beq i k then some (RV.sv q.1 q.2) else lk (argsL (k + 1) qs) i) = some rv := h
    rw [beq_eq] at h
    by_cases hi : i = k
    · simp [hi] at h; subst h; subst hi
      exact ⟨0, q, rfl, rfl, rfl⟩
    · simp [hi] at h
      obtain ⟨j, q', e1, e2, e3⟩ := lk_args h
      exact ⟨j + 1, q', by omega, by simpa using e2, e3⟩
/-- The results, as one value. -/
theorem res_one {Fz : FzT} {w : World} {rs : List (Bool × List PV)} {vs : List Value} {F : List Nat} (h : OwnT rs Fz w vs F) (φ : Nat → Nat) : (resRV rs).holds φ Fz w (if h : vs.toArray.size = 1 then vs.toArray[0] else .tuple vs.toArray) F := by
  have hl := h.len
  by_cases h1 : vs.toArray.size = 1
  · rw [dif_pos h1]
    have hl1 : rs.length = 1 := by rw [← hl]; simpa using h1
    obtain ⟨q, rfl⟩ := List.length_eq_one_iff.1 hl1
    obtain ⟨v, vs2, F1, F2, rfl, rfl, k1, k2, rfl⟩ := h
    rw [List.append_nil]
    exact k1
  · rw [dif_neg h1]
    have hne : rs.length ≠ 1 := fun e => h1 (by simp [hl, e])
    have : resRV rs = RV.tup rs := by
      match rs, hne with
      | [], _ => rfl
      | [_], hne => exact absurd rfl hne
      | _ :: _ :: _, _ => rfl
    rw [this]
    exact ⟨vs.toArray, rfl, h⟩
theorem run_res {fn : Func} {t : Array Value} {w : World} {vs : List Value} (e1 : Sem.run P (fn.results.toList.mapM (resF t)) w = .ok vs w) : (results fn t).run P w = .ok (if h : vs.toArray.size = 1 then vs.toArray[0] else .tuple vs.toArray) w := by
  have erun : Sem.run P (fn.results.mapM (resF t)) w = .ok vs.toArray w := by
    rw [Array.mapM_eq_mapM_toList]
    simp only [map_eq_pure_bind, Sem.run_bind, e1, Result.andThen_ok, Sem.run_pure]
  rw [results_eq]
  simp only [Sem.run_bind, erun, Result.andThen_ok, Sem.run_pure]
theorem ocall_of {f : FuncId} {fn : Func} {c : Code} {args rs : List (Bool × List PV)} (hf : P.funcs[f]? = some fn) (hb : fn.body = some c) (hn : args.length ≤ fn.ntmps)
    (h : ∀ (h0 : Nat → Prop) (w0 : World) (Fz0 : FzT), SW P fn.ntmps h0 w0 Fz0 c (St.of (argsL 0 args) []) (endS P fn.results.toList rs)) : OCall P f args (resRV rs) := by
  intro w vs Fz F hz hown hnd
  have hvl := hown.len
  have hFlt : ∀ b, b ∈ F → b < w.heap.size := fun b hb => hown.lt b hb
  obtain ⟨ps, e1, e2, e3⟩ := hown.parts
  refine calls_of_wp hf hb ?_
  have hc : Conc (fun b => b < w.heap.size ∧ b ∉ F) w Fz fn.ntmps (St.of (argsL 0 args) []) { tmps := vs.toArray ++ Array.replicate (fn.ntmps - vs.toArray.size) undef, defers := [] } w := by
    refine ⟨fun _ => 0, Fz, argF 0 ps, ⟨BelowO.refl _ _, rfl, by simp; omega, fun _ hb => hb.1, fun _ _ _ => Iff.rfl, hz, fun i rv hi => ?_, fun d cs hd => (by cases hd), fun d cs hd => (by cases hd), fun d d' cs cs' hd => (by cases hd), fun x y hxy b hx => argF_dis (by rw [← e2]; exact hnd) hxy hx, fun x => argF_nod (by rw [← e2]; exact hnd) x, fun x b hb => ?_⟩⟩
    · obtain ⟨j, q, k1, k2, rfl⟩ := lk_args hi
      rw [Nat.zero_add] at k1
      subst k1
      obtain ⟨v, k3, k4⟩ := e3 i q k2
      have : (vs.toArray ++ Array.replicate (fn.ntmps - vs.toArray.size) undef).getD i undef = v := by
        rw [Array.getD_eq_getD_getElem?, Array.getElem?_append_left (by have := (List.getElem?_eq_some_iff.1 k3).1; simpa using this)]
        simp [k3]
      rw [this]
      have e := argF_at 0 ps i
      rw [Nat.zero_add] at e
      rw [e]; exact k4
    · have := argF_sub hb
      rw [← e2] at this
      exact ⟨fun k => k.2 this, hFlt b this⟩
  refine wp_mono (h _ w Fz _ w hc) fun e a' w' ⟨τ, hq, hc'⟩ => ?_
  obtain ⟨φ, Fz', Fp, hc'⟩ := hc'
  have hres : RetOk P fn.results.toList rs τ → a'.defers = [] ∧ ∃ v, (results fn a'.tmps).run P w' = .ok v w' ∧ ∃ (v' : Value) (Fz' : FzT) (G : List Nat), Ending.returned v = .returned v' ∧ Turned F none Fz w Fz' w' ∧ (∀ φ, (resRV rs).holds φ Fz' w' v' G) ∧ G.Nodup ∧ ∀ b, b ∈ G → b ∈ F ∨ (w.heap.size ≤ b ∧ b < w'.heap.size) := by
    intro hr
    obtain ⟨vs', G, r1, r2, r3, r4⟩ := ret_run _ rs hc' hr
    refine ⟨hc'.dfr, _, run_res r1, _, Fz', G, rfl, ⟨hc'.bel.os, hc'.bel.tape, hc'.bel.output, hc'.bel.size, fun b k1 _ k2 => ⟨hc'.bel.block b ⟨k1, k2⟩, fun o => hc'.fz0 b o ⟨k1, k2⟩⟩, hc'.fzl⟩, res_one r2, r3, fun b hb => ?_⟩
    obtain ⟨r, _, hr⟩ := r4 b hb
    have := hc'.low r b hr
    by_cases hbF : b ∈ F
    · exact .inl hbF
    · exact .inr ⟨Nat.le_of_not_lt fun hlt => this.1 ⟨hlt, hbF⟩, this.2⟩
  cases e with
  | normal => exact hres hq
  | ret => exact hres hq
  | _ => exact hq.elim
/-- Where variable D lies. -/
def RV.phi (D g : Nat) : RV where
  holds φ _ _ _ F := φ D = g ∧ F = []
  men x := Nat.beq x D
  mono h _ _ hφ := ⟨by rw [hφ D (by simp)]; exact h.1, h.2⟩
  lt h := by rw [h.2]; simp
theorem RV.lcl_phi {L D g : Nat} : (RV.phi D g).Lcl L := fun h _ => h
/-- The end of a function that turns variable 0. -/
def EndX (P : Program) (rs : List ResultVar) (g t : Nat) (cs' : List PV) (qs : List (Bool × List PV)) (τ : St) : Prop := τ.b 0 = some (t, cs') ∧ τ.s 5000 = some (RV.phi 0 g) ∧ RetOk P rs qs (τ.setB 0 none)
def endX (P : Program) (rs : List ResultVar) (g t : Nat) (cs' : List PV) (qs : List (Bool × List PV)) : Exit → St → Prop
  | .normal, τ => EndX P rs g t cs' qs τ
  | .ret, τ => EndX P rs g t cs' qs τ
  | _, _ => False
end
end Go.Proofs.YtloipjaiceifbaaGreat.M

/- The rules for calls that take what their arguments own, and for calls that turn a variable of the caller. No condition. -/
set_option linter.unusedVariables false
namespace Go.Proofs.YtloipjaiceifbaaGreat.M
open Go Go.RowKit
section
variable {P : Program} {n : Nat} {h0 : Nat → Prop} {w0 : World} {Fz0 : FzT} {ops : Array Oper} {Q : Exit → St → Prop}
theorem run_xcall {f d t : Nat} {xs : List Operand} {args : Array Operand} {tys : Array TypeId} {ty : TypeId} {pos : String} {af : Array Edge} {g : Option (Nat × Bool)} {a : Act} {w : World} (hf : callI P f = true) (he : args.toList = .tmp t :: xs) :
    (execOp a.eval ⟨some d, .call { callee := .value (.func f), args := args, argTypes := tys }, ty, pos, af, g⟩).run P w = .ok (.enter f (a.tmps.getD t undef :: xs.map a.eval).toArray) w := by
  unfold execOp
  have e : (#[] ++ args.map a.eval ++ #[] : Array Value) = (args.toList.map a.eval).toArray := by apply Array.ext'; simp
  simp only [resolve, Act.eval, Deferred.ofValue, Sem.run_bind, Sem.run_pure, Result.andThen_ok, invoke]
  rw [run_call hf, e, he]; rfl
theorem run_ocall {f d : Nat} {args : Array Operand} {tys : Array TypeId} {ty : TypeId} {pos : String} {af : Array Edge} {g : Option (Nat × Bool)} {a : Act} {w : World} (hf : callI P f = true) :
    (execOp a.eval ⟨some d, .call { callee := .value (.func f), args := args, argTypes := tys }, ty, pos, af, g⟩).run P w = .ok (.enter f (args.toList.map a.eval).toArray) w := by
  unfold execOp
  have e : (#[] ++ args.map a.eval ++ #[] : Array Value) = (args.toList.map a.eval).toArray := by apply Array.ext'; simp
  simp only [resolve, Act.eval, Deferred.ofValue, Sem.run_bind, Sem.run_pure, Result.andThen_ok, invoke]
  rw [run_call hf, e]
def PV.OTo (p q : PV) : Prop := ∀ {Fz : FzT} {w : World} {v : Value} {F : List Nat}, p.own Fz w v F → q.own Fz w v F
theorem OTo.refl {p : PV} : p.OTo p := fun h => h
theorem OTo.lo {L : Nat} {es : List (List PV)} : (PV.sl (.lo L) es).OTo (PV.sl .v es) := fun h => ⟨h.1.1, h.2⟩
theorem OTo.nv {u : Value} {p : PV} : (PV.nv u p).OTo p := fun h => h.2
theorem OwnTo.cons {p q : PV} {ps qs : List PV} (h : p.OTo q) (k : OwnTo ps qs) : OwnTo (p :: ps) (q :: qs) := fun hh => by
  obtain ⟨v, vs', F1, F2, rfl, rfl, h1, h2⟩ := hh
  exact ⟨v, vs', F1, F2, rfl, rfl, h h1, k h2⟩
def OwnToT : List (Bool × List PV) → List (Bool × List PV) → Prop
  | [], [] => True
  | p :: ps, q :: qs => (p.1 = q.1 ∧ OwnTo p.2 q.2) ∧ OwnToT ps qs
  | _, _ => False
theorem OwnToT.own {Fz : FzT} {w : World} : ∀ {ps qs : List (Bool × List PV)} {vs : List Value} {F : List Nat}, OwnToT ps qs → OwnT ps Fz w vs F → OwnT qs Fz w vs F
  | [], [], _, _, _, h => h
  | p :: ps, q :: qs, _, _, k, h => by
    obtain ⟨v, vs', F1, F2, rfl, rfl, h1, h2⟩ := h
    exact ⟨v, vs', F1, F2, rfl, rfl, ⟨k.1.1 ▸ h1.1, k.1.2 h1.2⟩, OwnToT.own k.2 h2⟩
def LclX (L : Nat) (ts : List Nat) : List (Nat × RV) → Prop
  | [] => True
  | p :: l => (p.1 ∈ ts ∨ p.2.Lcl L) ∧ LclX L ts l
theorem LclX.mem {L : Nat} {ts : List Nat} : ∀ {l : List (Nat × RV)}, LclX L ts l → ∀ p, p ∈ l → p.1 ∈ ts ∨ p.2.Lcl L
  | [], _, p, hp => by simp at hp
  | q :: l, h, p, hp => by
    rcases List.mem_cons.1 hp with rfl | hp
    · exact h.1
    · exact LclX.mem h.2 p hp
theorem setL_kills : ∀ {xs : List Operand} {f : Nat → Option RV} {i : Nat} {rv : RV}, setL (killsO xs) f i = some rv → i ∉ tmpsO xs ∧ f i = some rv
  | [], f, i, rv, h => ⟨by simp [tmpsO], h⟩
  | x :: xs, f, i, rv, h => by
    have h : setL (killsO xs) (setL (killO x) f) i = some rv := by rw [← setL_app]; exact h
    obtain ⟨k1, k2⟩ := setL_kills h
    cases x with
    | tmp t =>
      have k2 : (bif Nat.beq i t then none else f i) = some rv := k2
      rw [beq_eq] at k2
      by_cases e : i = t
      · simp [e] at k2
      · simp [e] at k2
        exact ⟨by simp [tmpsO, e, k1], k2⟩
    | _ => exact ⟨k1, k2⟩
/-- A call that takes what its arguments own. -/
theorem swl_ocall {f d L : Nat} {args : Array Operand} {tys : Array TypeId} {ty : TypeId} {pos : String} {af : Array Edge} {ol : List Oper} {l : List (Nat × RV)} {b : List (Nat × (Nat × List PV))} {qs as_ : List (Bool × List PV)} {r : RV}
    (hd : d < n) (hf : callI P f = true) (hrd : RdL (opsR args.toList qs) (lk l)) (hok : OpsOk args.toList qs) (hap : apartO args.toList = true) (hto : OwnToT qs as_) (hu : OCall P f as_ r) (hL : ∀ x, x < L → h0 x) (hls : LclX L (tmpsO args.toList) l) (hlb : LclBA L b)
    (h : SWL P n h0 w0 Fz0 ops ol ((⟨setL (killsO args.toList) (lk l), lk b⟩ : St).set d (some r)) Q) :
    SWL P n h0 w0 Fz0 ops (⟨some d, .call { callee := .value (.func f), args := args, argTypes := tys }, ty, pos, af, none⟩ :: ol) (St.of l b) Q := fun a w hc => by
  obtain ⟨φ, Fz, Fp, hc⟩ := hc
  obtain ⟨F, Fp', hown, c1, hm, hnd⟩ := hc.pulls args.toList qs hrd hok (of_decide_eq_true hap)
  have hF := (List.nodup_append.1 hnd).1
  refine wpList_plain rfl fun K hK => ?_
  unfold Oper.wp
  rw [run_ocall hf, Oper.upon_enter]
  refine (hu w _ Fz F hc.fzl (hto.own hown) hF).mono ?_
  rintro e w' ⟨v, Fz', G, rfl, ht, hv, hn, hin⟩
  have hlt0 : ∀ x, x ∈ Fp 0 → x < w.heap.size := fun x hx => (hc.low 0 x hx).2
  have c2 := c1.uworld (w' := w') (Fz' := Fz') (L := L) (X := G ++ Fp 0) ht.os ht.tape ht.output ht.size (fun x hx hx0 => ht.same x hx (by simp) (fun k => hx0 ((hm x).2 (by simp [k])))) hL
    (fun i rv hi => by
      obtain ⟨k1, k2⟩ := setL_kills hi
      rcases hls.mem _ (lk_mem k2) with k | k
      · exact absurd k k1
      · exact k)
    (fun d' bx hb => LclBA.mem hlb _ (lk_mem hb)) ht.fzl
    (fun x hx => by
      rcases List.mem_append.1 hx with hx | hx
      · rcases hin x hx with k | k
        · exact .inl ((hm x).2 (by simp [k]))
        · exact .inr k
      · exact .inl ((hm x).2 (by simp [hx])))
    (by
      rw [List.nodup_append] at hnd ⊢
      refine ⟨hn, hnd.2.1, fun x hx y hy e => ?_⟩
      rcases hin x hx with k | k
      · exact hnd.2.2 x k y hy e
      · have := hlt0 y hy; omega)
  have c3 := c2.push (i := d) (rv := r) (v := v) (F := G) (X := Fp 0) hd (hv _) (fun x hx => by simpa using hx) (by
      have := c2.nod 0
      simpa using this)
  exact hK _ _ (h _ _ ⟨_, _, _, c3⟩)
end
end Go.Proofs.YtloipjaiceifbaaGreat.M

/- Slices that are made own at once; arrays whose elements are read and written at places that are known only as numbers; calls that turn the array of a slice. No condition. -/
set_option linter.unusedVariables false
namespace Go.Proofs.YtloipjaiceifbaaGreat.M
open Go Go.RowKit
section
variable {P : Program} {n : Nat} {h0 : Nat → Prop} {w0 : World} {Fz0 : FzT} {ops : Array Oper} {Q : Exit → St → Prop}
def arr {α : Type} (f : α → List PV) (xs : List α) (jk : List Value) : List PV := (xs.map f).flatten ++ jk.map PV.val
theorem loc_aload {T d p b off t k e : Nat} {ty : TypeId} {pos : String} {af : Array Edge} {g : Option (Nat × Bool)} {ag : Bool} {α : Type} {f : α → List PV} {xs : List α} {jk : List Value} {qs : List PV} (hf : ∀ x, (f x).length = e) (hoff : off = k * e) (hk : k < xs.length) (hd : d < n) (hT : tyI P T = some (ag, e)) (h1 : ag = false → e = 1)
    (ht : ToL (f xs[k]) qs) (hb : BorL qs) :
    Loc P n ⟨some d, .load T (.tmp p), ty, pos, af, g⟩ ⟨[(p, RV.ptr b off)], [(b, (t, arr f xs jk))], [(d, some (RV.sv ag qs))], [], none⟩ := by
  unfold arr
  rw [at_split hk]
  exact loc_loadM (o := 0) (by rw [hoff, at_len hf (Nat.le_of_lt hk)]; rfl) hd hT h1 (by rw [hf]; omega) (by rw [List.drop_zero, List.take_of_length_le (by rw [hf]; exact Nat.le_refl _)]; exact ht) hb
theorem loc_astore {T p b off t k e : Nat} {x : Operand} {ty : TypeId} {pos : String} {af : Array Edge} {g : Option (Nat × Bool)} {ag : Bool} {α : Type} {f : α → List PV} {xs : List α} {jk : List Value} {vs : List PV} (y : α) (hf : ∀ x, (f x).length = e) (hoff : off = k * e) (hk : k < xs.length) (hT : tyI P T = some (ag, e)) (hx : OpOk x (RV.sv ag vs)) (hv : vs = f y) :
    Loc P n ⟨none, .store T (.tmp p) x, ty, pos, af, g⟩ ⟨(p, RV.ptr b off) :: opR x (RV.sv ag vs), [(b, (t, arr f xs jk))], killO x, [(b, some (t, arr f (xs.set k y) jk))], none⟩ := by
  have h : Loc P n ⟨none, .store T (.tmp p) x, ty, pos, af, g⟩ _ := loc_storeM (off := off) (P := P) (n := n) (T := T) (p := p) (b := b) (t := t) (x := x) (ty := ty) (pos := pos) (af := af) (g := g) (ag := ag) (A := ((xs.take k).map f).flatten) (m := f xs[k]) (B := ((xs.drop (k + 1)).map f).flatten ++ jk.map PV.val) (vs := vs) (o := 0) (by rw [hoff, at_len hf (Nat.le_of_lt hk)]; rfl) hT hx (by rw [hv]; exact hf y) (by rw [hf]; omega)
  unfold arr
  rw [at_split hk, ← at_join (cs := vs) y hk hv]
  have e2 : List.take 0 (f xs[k]) ++ (vs ++ List.drop (0 + e) (f xs[k])) = vs := by
    rw [List.take_zero, List.nil_append, List.drop_eq_nil_of_le (by rw [hf]; omega), List.append_nil]
  rw [e2] at h
  exact @h
/-- The function turns the array of the slice that is its first argument: from cs to cs'. -/
def ACall (P : Program) (f : FuncId) (t m cp : Nat) (cs cs' : List PV) (args : List (Bool × List PV)) (r : RV) : Prop :=
  ∀ (w : World) (g : Nat) (cur : Array Value) (vs : List Value) (Fz : FzT) (F1 F2 : List Nat), m ≤ cp → cp ≤ maxLen → (∀ b o, Fz b o → b < w.heap.size) → w.heap[g]? = some (.cells cur t (0, 0)) → (∀ o, ¬ Fz g o) → OwnL cs Fz w cur.toList F1 → OwnT args Fz w vs F2 → (g :: (F1 ++ F2)).Nodup →
    Calls P f (.slice (some ⟨g, 0, none⟩) m cp :: vs).toArray w fun e w' => ∃ (v : Value) (Fz' : FzT) (cur' : Array Value) (F1' G : List Nat), e = .returned v ∧ Turned (F1 ++ F2) (some g) Fz w Fz' w' ∧ w'.heap[g]? = some (.cells cur' t (0, 0)) ∧ (∀ o, ¬ Fz' g o) ∧ OwnL cs' Fz' w' cur'.toList F1' ∧
      (∀ φ, r.holds φ Fz' w' v G) ∧ (g :: (F1' ++ G)).Nodup ∧ ∀ b, b ∈ F1' ++ G → b ∈ F1 ++ F2 ∨ (w.heap.size ≤ b ∧ b < w'.heap.size)
theorem acall_of {f : FuncId} {fn : Func} {c : Code} {t m cp : Nat} {cs cs' : List PV} {args rs : List (Bool × List PV)} (hf : P.funcs[f]? = some fn) (hb : fn.body = some c) (hn : args.length + 1 ≤ fn.ntmps) (hn2 : args.length ≤ 4000)
    (h : ∀ (g : Nat) (h0 : Nat → Prop) (w0 : World) (Fz0 : FzT), m ≤ cp → SW P fn.ntmps h0 w0 Fz0 c (St.of ((0, RV.sc (.slice (some ⟨g, 0, none⟩) m cp)) :: (5000, RV.phi 0 g) :: (5001, RV.gat (.slice (some ⟨g, 0, none⟩) m cp) 0 m cp) :: argsL 1 args) [(0, (t, cs))]) (endX P fn.results.toList g t cs' rs)) : ACall P f t m cp cs cs' args (resRV rs) := by
  intro w g cur vs Fz F1 F2 hmc hcpx hz hg hfg hcs hown hnd
  have hvl := hown.len
  have hglt : g < w.heap.size := (Array.getElem?_eq_some_iff.1 hg).1
  have hFlt : ∀ b, b ∈ F2 → b < w.heap.size := fun b hb => hown.lt b hb
  have hFlt1 : ∀ b, b ∈ F1 → b < w.heap.size := fun b hb => hcs.lt b hb
  obtain ⟨ps, e1, e2, e3⟩ := hown.parts
  rw [List.nodup_cons, List.nodup_append] at hnd
  obtain ⟨n0, n1, n2, n12⟩ := hnd
  have n0' : g ∉ F1 ∧ g ∉ F2 := ⟨fun k => n0 (List.mem_append.2 (.inl k)), fun k => n0 (List.mem_append.2 (.inr k))⟩
  refine calls_of_wp hf hb ?_
  have hodd : ∀ x b, b ∈ argF 1 ps x → x ≠ 2 := fun x b hb e => by
    subst e
    unfold argF at hb
    rw [if_neg (by omega)] at hb
    simp at hb
  have hfp : ∀ x b, b ∈ (fun x => if x = 2 then F1 else argF 1 ps x) x → (x = 2 ∧ b ∈ F1) ∨ (x ≠ 2 ∧ b ∈ argF 1 ps x) := fun x b hb => by
    simp only at hb
    split at hb
    · rename_i e; exact .inl ⟨e, hb⟩
    · rename_i e; exact .inr ⟨e, hb⟩
  have hc : Conc (fun b => b < w.heap.size ∧ b ≠ g ∧ b ∉ F1 ++ F2) w Fz fn.ntmps (St.of ((0, RV.sc (.slice (some ⟨g, 0, none⟩) m cp)) :: (5000, RV.phi 0 g) :: (5001, RV.gat (.slice (some ⟨g, 0, none⟩) m cp) 0 m cp) :: argsL 1 args) [(0, (t, cs))]) { tmps := (.slice (some ⟨g, 0, none⟩) m cp :: vs).toArray ++ Array.replicate (fn.ntmps - (Value.slice (some ⟨g, 0, none⟩) m cp :: vs).toArray.size) undef, defers := [] } w := by
    refine ⟨fun _ => g, Fz, fun x => if x = 2 then F1 else argF 1 ps x, ⟨BelowO.refl _ _, rfl, by simp; omega, fun _ hb => hb.1, fun _ _ _ => Iff.rfl, hz, fun i rv hi => ?_, fun d bx hd => ?_, fun d bx hd => ?_, fun d d' bx bx' hd hd' _ => ?_, fun x y hxy b hx hy => ?_, fun x => ?_, fun x b hb => ?_⟩⟩
    · by_cases hi0 : i = 0
      · subst hi0
        have hi' : RV.sc (.slice (some ⟨g, 0, none⟩) m cp) = rv := by injection hi
        subst hi'
        have : ((.slice (some ⟨g, 0, none⟩) m cp :: vs).toArray ++ Array.replicate (fn.ntmps - (Value.slice (some ⟨g, 0, none⟩) m cp :: vs).toArray.size) undef).getD 0 undef = .slice (some ⟨g, 0, none⟩) m cp := by
          rw [Array.getD_eq_getD_getElem?, Array.getElem?_append_left (by simp)]
          simp
        rw [this]
        have e : (if 2 * 0 + 1 = 2 then F1 else argF 1 ps (2 * 0 + 1)) = [] := by
          simp only [argF]
          rw [if_neg (by omega), if_neg (by omega)]
        show (RV.sc _).holds _ _ _ _ (if 2 * 0 + 1 = 2 then F1 else argF 1 ps (2 * 0 + 1))
        rw [e]
        exact SvOwn.of_sc rfl
      · have hi2 : (if i = 5000 then some (RV.phi 0 g) else if i = 5001 then some (RV.gat (.slice (some ⟨g, 0, none⟩) m cp) 0 m cp) else lk (argsL 1 args) i) = some rv := by
          have : (bif Nat.beq i 0 then some (RV.sc (.slice (some ⟨g, 0, none⟩) m cp)) else bif Nat.beq i 5000 then some (RV.phi 0 g) else bif Nat.beq i 5001 then some (RV.gat (.slice (some ⟨g, 0, none⟩) m cp) 0 m cp) else lk (argsL 1 args) i) = some rv := hi
          rw [beq_eq, beq_eq, beq_eq] at this
          by_cases h5 : i = 5000
          · simpa [hi0, h5] using this
          · by_cases h6 : i = 5001
            · simpa [hi0, h5, h6] using this
            · simpa [hi0, h5, h6] using this
        by_cases h5 : i = 5000
        · subst h5
          rw [if_pos rfl] at hi2
          injection hi2 with hi2
          subst hi2
          refine ⟨rfl, ?_⟩
          show (if 2 * 5000 + 1 = 2 then F1 else argF 1 ps (2 * 5000 + 1)) = []
          rw [if_neg (by omega)]
          unfold argF
          rw [if_pos (by omega), List.getD_eq_getElem?_getD, List.getElem?_eq_none (by omega)]
          rfl
        rw [if_neg h5] at hi2
        by_cases h6 : i = 5001
        · subst h6
          rw [if_pos rfl] at hi2
          injection hi2 with hi2
          subst hi2
          refine ⟨⟨rfl, hmc, hcpx⟩, ?_⟩
          show (if 2 * 5001 + 1 = 2 then F1 else argF 1 ps (2 * 5001 + 1)) = []
          rw [if_neg (by omega)]
          unfold argF
          rw [if_pos (by omega), List.getD_eq_getElem?_getD, List.getElem?_eq_none (by omega)]
          rfl
        rw [if_neg h6] at hi2
        have hi' := hi2
        obtain ⟨j, q, k1, k2, rfl⟩ := lk_args hi'
        subst k1
        obtain ⟨v, k3, k4⟩ := e3 j q k2
        have hjl := (List.getElem?_eq_some_iff.1 k3).1
        have : ((.slice (some ⟨g, 0, none⟩) m cp :: vs).toArray ++ Array.replicate (fn.ntmps - (Value.slice (some ⟨g, 0, none⟩) m cp :: vs).toArray.size) undef).getD (1 + j) undef = v := by
          rw [Array.getD_eq_getD_getElem?, Array.getElem?_append_left (by simp; omega)]
          rw [Nat.add_comm]
          simp [k3]
        rw [this]
        have k5 : SvOwn q.1 q.2 Fz w v (if 2 * (1 + j) + 1 = 2 then F1 else argF 1 ps (2 * (1 + j) + 1)) := by rw [if_neg (by omega), argF_at]; exact k4
        exact k5
    · have hd2 : (bif Nat.beq d 0 then some (t, cs) else none) = some bx := hd
      rw [beq_eq] at hd2
      by_cases h0' : d = 0
      · simp [h0'] at hd2; subst hd2; subst h0'
        exact ⟨cur, hg, by simpa using hcs⟩
      · simp [h0'] at hd2
    · have hd2 : (bif Nat.beq d 0 then some (t, cs) else none) = some bx := hd
      refine ⟨fun k => k.2.1 rfl, hfg, fun r hr => ?_⟩
      rcases hfp r _ hr with ⟨_, k⟩ | ⟨_, k⟩
      · exact n0'.1 k
      · have := argF_sub k
        rw [← e2] at this
        exact n0'.2 this
    · have hd2 : (bif Nat.beq d 0 then some (t, cs) else none) = some bx := hd
      have hd3 : (bif Nat.beq d' 0 then some (t, cs) else none) = some bx' := hd'
      rw [beq_eq] at hd2 hd3
      by_cases k1 : d = 0
      · by_cases k2 : d' = 0
        · omega
        · simp [k2] at hd3
      · simp [k1] at hd2
    · rcases hfp x _ hx with ⟨k1, k2⟩ | ⟨k1, k2⟩ <;> rcases hfp y _ hy with ⟨k3, k4⟩ | ⟨k3, k4⟩
      · omega
      · have := argF_sub k4
        rw [← e2] at this
        exact n12 b k2 b this rfl
      · have := argF_sub k2
        rw [← e2] at this
        exact n12 b k4 b this rfl
      · exact argF_dis (by rw [← e2]; exact n2) hxy k2 k4
    · split
      · exact n1
      · exact argF_nod (by rw [← e2]; exact n2) x
    · rcases hfp x _ hb with ⟨_, k⟩ | ⟨_, k⟩
      · exact ⟨fun q => q.2.2 (List.mem_append.2 (.inl k)), hFlt1 b k⟩
      · have := argF_sub k
        rw [← e2] at this
        exact ⟨fun q => q.2.2 (List.mem_append.2 (.inr this)), hFlt b this⟩
  refine wp_mono (h g _ w Fz hmc _ w hc) fun e a' w' ⟨τ, hq, hc'⟩ => ?_
  obtain ⟨φ, Fz', Fp, hc'⟩ := hc'
  have hres : EndX P fn.results.toList g t cs' rs τ → a'.defers = [] ∧ ∃ v, (results fn a'.tmps).run P w' = .ok v w' ∧ ∃ (v' : Value) (Fz' : FzT) (cur' : Array Value) (F1' G : List Nat), Ending.returned v = .returned v' ∧ Turned (F1 ++ F2) (some g) Fz w Fz' w' ∧ w'.heap[g]? = some (.cells cur' t (0, 0)) ∧ (∀ o, ¬ Fz' g o) ∧ OwnL cs' Fz' w' cur'.toList F1' ∧
      (∀ φ, (resRV rs).holds φ Fz' w' v' G) ∧ (g :: (F1' ++ G)).Nodup ∧ ∀ b, b ∈ F1' ++ G → b ∈ F1 ++ F2 ∨ (w.heap.size ≤ b ∧ b < w'.heap.size) := by
    rintro ⟨hb0, hG, hr⟩
    have hφ : φ 0 = g := (hc'.slot 5000 _ hG).1
    obtain ⟨cur', hg', ho'⟩ := hc'.box 0 _ hb0
    obtain ⟨m1, m2, m3⟩ := hc'.bxb 0 _ hb0
    rw [hφ] at hg' m1 m2 m3
    have c1 := hc'.pullB hb0
    obtain ⟨vs', G, r1, r2, r3, r4⟩ := ret_run _ rs c1 hr
    have hG2 : ∀ b, b ∈ G → ∃ r, r ≠ 2 ∧ b ∈ Fp r := fun b hb => by
      obtain ⟨r, k1, k2⟩ := r4 b hb
      have k2 : b ∈ (if r = 0 then φ 0 :: mv Fp (2 * 0 + 2) 0 else mv Fp (2 * 0 + 2) r) := k2
      rw [if_neg k1] at k2
      unfold mv at k2
      rw [if_neg k1] at k2
      split at k2
      · simp at k2
      · rename_i k3; exact ⟨r, by omega, k2⟩
    have hlow : ∀ x b, b ∈ Fp x → b ∈ F1 ++ F2 ∨ (w.heap.size ≤ b ∧ b < w'.heap.size) := fun x b hb => by
      have := hc'.low x b hb
      by_cases hbF : b ∈ F1 ++ F2
      · exact .inl hbF
      · exact .inr ⟨Nat.le_of_not_lt fun hlt => this.1 ⟨hlt, fun e => m3 x (e ▸ hb), hbF⟩, this.2⟩
    refine ⟨hc'.dfr, _, run_res r1, _, Fz', cur', Fp 2, G, rfl, ⟨hc'.bel.os, hc'.bel.tape, hc'.bel.output, hc'.bel.size, fun b k1 k0 k2 => ?_, hc'.fzl⟩, hg', m2, ho', res_one r2, ?_, fun b hb => ?_⟩
    · have hbg : b ≠ g := fun e => k0 (by rw [e])
      exact ⟨hc'.bel.block b ⟨k1, hbg, k2⟩, fun o => hc'.fz0 b o ⟨k1, hbg, k2⟩⟩
    · rw [List.nodup_cons, List.nodup_append]
      refine ⟨fun hh => ?_, hc'.nod 2, r3, fun x hx y hy e => ?_⟩
      · rcases List.mem_append.1 hh with hh | hh
        · exact m3 2 hh
        · obtain ⟨r, _, k⟩ := hG2 g hh
          exact m3 r k
      · subst e
        obtain ⟨r, k1, k2⟩ := hG2 x hy
        exact hc'.dis r 2 k1 x k2 hx
    · rcases List.mem_append.1 hb with hb | hb
      · exact hlow 2 b hb
      · obtain ⟨r, _, k⟩ := hG2 b hb
        exact hlow r b k
  cases e with
  | normal => exact hres hq
  | ret => exact hres hq
  | _ => exact hq.elim
/-- A call that turns the array of a slice. -/
theorem swl_acall {f d p G bx t m cp L : Nat} {u : Value} {xs : List Operand} {args : Array Operand} {tys : Array TypeId} {ty : TypeId} {pos : String} {af : Array Edge} {ol : List Oper} {l : List (Nat × RV)} {b : List (Nat × (Nat × List PV))} {cs cs' : List PV} {qs as_ : List (Bool × List PV)} {r : RV}
    (hd : d < n) (hf : callI P f = true) (he : args.toList = .tmp p :: xs) (hp : lk l p = some (RV.sc u)) (hG : lk l G = some (RV.gat u bx m cp)) (hbx : lk b bx = some (t, cs)) (hrd : RdL (opsR xs qs) (lk l)) (hok : OpsOk xs qs) (hap : apartO xs = true) (hto : OwnToT qs as_) (hu : ACall P f t m cp cs cs' as_ r) (hL : ∀ x, x < L → h0 x) (hls : LclX L (tmpsO xs) l) (hlb : LclB L bx b)
    (h : SWL P n h0 w0 Fz0 ops ol (((⟨setL (killsO xs) (lk l), lk b⟩ : St).setB bx (some (t, cs'))).set d (some r)) Q) :
    SWL P n h0 w0 Fz0 ops (⟨some d, .call { callee := .value (.func f), args := args, argTypes := tys }, ty, pos, af, none⟩ :: ol) (St.of l b) Q := fun a w hc => by
  obtain ⟨φ, Fz, Fp, hc⟩ := hc
  obtain ⟨⟨eu, hmc, hcpx⟩, _⟩ := hc.slot G _ hG
  have hpv : a.tmps.getD p undef = .slice (some ⟨φ bx, 0, none⟩) m cp := by rw [← eu]; exact (hc.one_ hp).1
  obtain ⟨F, Fp', hown, c1, hm, hnd⟩ := hc.pulls xs qs hrd hok (of_decide_eq_true hap)
  have hF := (List.nodup_append.1 hnd).1
  have hb1 : (⟨setL (killsO xs) (St.of l b).s, (St.of l b).b⟩ : St).b bx = some (t, cs) := hbx
  obtain ⟨cur, hg, ho⟩ := c1.box bx _ hb1
  obtain ⟨g1, g2, g3⟩ := c1.bxb bx _ hb1
  have hglt : φ bx < w.heap.size := (Array.getElem?_eq_some_iff.1 hg).1
  have c2 := c1.pullB hb1
  generalize hFp2 : (fun x => if x = 0 then φ bx :: mv Fp' (2 * bx + 2) 0 else mv Fp' (2 * bx + 2) x) = Fp2 at c2
  have e0 : Fp2 0 = φ bx :: (Fp' (2 * bx + 2) ++ Fp' 0) := by rw [← hFp2]; simp [mv]
  have hFin : ∀ x, x ∈ F → x ∈ Fp' 0 := fun x hx => (hm x).2 (by simp [hx])
  have hXin : ∀ x, x ∈ Fp 0 → x ∈ Fp' 0 := fun x hx => (hm x).2 (by simp [hx])
  have hn1 : (φ bx :: (Fp' (2 * bx + 2) ++ F)).Nodup := by
    rw [List.nodup_cons, List.nodup_append]
    refine ⟨fun k => ?_, c1.nod _, hF, fun x hx y hy e => ?_⟩
    · rcases List.mem_append.1 k with k | k
      · exact g3 _ k
      · exact g3 0 (hFin _ k)
    · subst e
      exact c1.dis 0 (2 * bx + 2) (by omega) x (hFin x hy) hx
  refine wpList_plain rfl fun K hK => ?_
  unfold Oper.wp
  rw [run_xcall hf he, hpv, Oper.upon_enter]
  refine (hu w (φ bx) cur _ Fz _ F hmc hcpx hc.fzl hg g2 ho (hto.own hown) hn1).mono ?_
  rintro e w' ⟨v, Fz', cur', F1', G, rfl, ht, hg', hf', ho', hv, hn, hin⟩
  have hn' := hn
  rw [List.nodup_cons, List.nodup_append] at hn'
  have hlt0 : ∀ x, x ∈ Fp 0 → x < w.heap.size := fun x hx => (hc.low 0 x hx).2
  have hdis0 : ∀ x, x ∈ Fp 0 → x ≠ φ bx ∧ x ∉ Fp' (2 * bx + 2) ∧ x ∉ F := fun x hx => by
    refine ⟨fun e => g3 0 (e ▸ hXin x hx), fun k => c1.dis 0 (2 * bx + 2) (by omega) x (hXin x hx) k, fun k => ?_⟩
    rw [List.nodup_append] at hnd
    exact hnd.2.2 x k x hx rfl
  have hdn : ∀ x, x ∈ F1' ++ G → x ∉ Fp 0 := fun x hx k => by
    obtain ⟨k1, k2, k3⟩ := hdis0 x k
    rcases hin x hx with hx | hx
    · rcases List.mem_append.1 hx with hx | hx
      · exact k2 hx
      · exact k3 hx
    · have := hlt0 x k; omega
  have c3 := c2.uworld (w' := w') (Fz' := Fz') (L := L) (X := φ bx :: (F1' ++ (G ++ Fp 0))) ht.os ht.tape ht.output ht.size (fun x hx hx0 => ht.same x hx (fun k => hx0 (by rw [e0, Option.some.inj k]; simp)) (fun k => hx0 (by
        rw [e0]
        rcases List.mem_append.1 k with k | k
        · simp [k]
        · simp [hFin x k]))) hL
    (fun i rv hi => by
      obtain ⟨k1, k2⟩ := setL_kills hi
      rcases hls.mem _ (lk_mem k2) with k | k
      · exact absurd k k1
      · exact k)
    (fun d' bxx hb => by
      rw [St.setB_b] at hb
      split at hb
      · cases hb
      · rename_i hne
        rcases hlb.mem _ (lk_mem hb) with k | k
        · exact absurd k hne
        · exact k) ht.fzl
    (fun x hx => by
      rw [e0]
      simp only [List.mem_cons, List.mem_append] at hx ⊢
      rcases hx with hx | hx | hx | hx
      · exact .inl (.inl hx)
      · rcases hin x (by simp [hx]) with k | k
        · rcases List.mem_append.1 k with k | k
          · exact .inl (.inr (.inl k))
          · exact .inl (.inr (.inr (hFin x k)))
        · exact .inr k
      · rcases hin x (by simp [hx]) with k | k
        · rcases List.mem_append.1 k with k | k
          · exact .inl (.inr (.inl k))
          · exact .inl (.inr (.inr (hFin x k)))
        · exact .inr k
      · exact .inl (.inr (.inr (hXin x hx))))
    (by
      rw [List.nodup_cons, List.nodup_append, List.nodup_append]
      refine ⟨fun k => ?_, hn'.2.1, ⟨hn'.2.2.1, (List.nodup_append.1 hnd).2.1, fun x hx y hy e => hdn x (by simp [hx]) (e ▸ hy)⟩, fun x hx y hy e => ?_⟩
      · simp only [List.mem_append] at k
        rcases k with k | k | k
        · exact hn'.1 (by simp [k])
        · exact hn'.1 (by simp [k])
        · exact (hdis0 _ k).1 rfl
      · rcases List.mem_append.1 hy with hy | hy
        · exact hn'.2.2.2 x hx y hy e
        · exact hdn x (by simp [hx]) (e ▸ hy))
  have hnX : (F1' ++ φ bx :: (G ++ Fp 0)).Nodup := by
    have := c3.nod 0
    simp only [if_true] at this
    refine (List.Perm.nodup_iff ?_).2 this
    exact List.perm_middle
  have c4 := c3.pushB (d := bx) (g := φ bx) (t := t) (cs := cs') (cur := cur') (F := F1') (X := G ++ Fp 0) (by simp [St.setB_b]) hg' ho' hf' (fun x hx => by
      simp only [if_true]
      simp only [List.mem_append, List.mem_cons] at hx ⊢
      rcases hx with hx | hx | hx | hx <;> simp [hx]) hnX (.inl rfl)
  have c5 := c4.push (i := d) (rv := r) (v := v) (F := G) (X := Fp 0) hd (hv _) (fun x hx => by
      simp only [give, if_true]
      rw [if_neg (by omega)]
      exact hx) (by
      have := c4.nod 0
      simp only [give, if_true] at this
      rw [if_neg (by omega)] at this
      exact this)
  exact hK _ _ (h _ _ (Conc.eqv ⟨_, _, _, c5⟩ (fun i => rfl) (fun x => by
    simp only [St.set_b, St.setB_b]
    split <;> rfl)))
end
end Go.Proofs.YtloipjaiceifbaaGreat.M

/- Short forms of the rules. No condition. -/
set_option linter.unusedVariables false
namespace Go.Proofs.YtloipjaiceifbaaGreat.M
open Go Go.RowKit
section
variable {P : Program} {n : Nat} {h0 : Nat → Prop} {w0 : World} {Fz0 : FzT} {ops : Array Oper} {σ σ0 : St} {QS : St → Prop} {Q : Exit → St → Prop} {o : Oper} {l : List Oper} {acc : List (Nat × Step)} {c : Code}
theorem rA {L : Step} (y : RunS P n ops QS l (σ.app L)) (h1 : RdL L.rs σ.s := by repeat (first | exact True.intro | refine And.intro rfl ?_)) (h2 : RdL L.rb σ.b := by repeat (first | exact True.intro | refine And.intro rfl ?_)) (x : Loc P n o L) (hg : o.guard = none := by exact rfl) (ha : L.al = none := by exact rfl) : RunS P n ops QS (o :: l) σ :=
  RunS.step h1 h2 (LocG.of hg x) (fun d hd => by rw [ha] at hd; cases hd) y
theorem rB {L : Step} {g s : Nat} {b c : Bool} (hb : c = b) (y : RunS P n ops QS l (σ.app ⟨(s, RV.bool c) :: L.rs, L.rb, L.ws, L.wb, L.al⟩)) (hg : o.guard = some (g, b) := by exact rfl) (hs : (ops[g]?).bind (·.dst) = some s := by exact rfl) (h1 : RdL ((s, RV.bool c) :: L.rs) σ.s := by repeat (first | exact True.intro | refine And.intro rfl ?_)) (h2 : RdL L.rb σ.b := by repeat (first | exact True.intro | refine And.intro rfl ?_)) (x : Loc P n o L) (hlt : s < n := by decide) (ha : L.al = none := by exact rfl) : RunS P n ops QS (o :: l) σ :=
  RunS.step (L := ⟨(s, RV.bool c) :: L.rs, L.rb, L.ws, L.wb, L.al⟩) h1 h2 (LocG.yes hg hs hlt hb x) (fun d hd => by have hd : L.al = some d := hd; rw [ha] at hd; cases hd) y
theorem dA {L : Step} (m : Nat) (y : Run P n ops σ0 (fun _ _ => True) QS l (acc ++ [(m, L)]) (σ.app L)) (h1 : RdL L.rs σ.s := by repeat (first | exact True.intro | refine And.intro rfl ?_)) (h2 : RdL L.rb σ.b := by repeat (first | exact True.intro | refine And.intro rfl ?_)) (x : Loc P n o L) (hg : o.guard = none := by exact rfl) (ha : L.al = none := by exact rfl) (h4 : chkE m o L acc = true := by kernel_rfl) : Run P n ops σ0 (fun _ _ => True) QS (o :: l) acc σ :=
  Run.step m h1 h2 (LocG.of hg x) (fun d hd => by rw [ha] at hd; cases hd) h4 y
theorem dB {L : Step} {g s : Nat} {b c : Bool} (m : Nat) (hb : c = b) (y : Run P n ops σ0 (fun _ _ => True) QS l (acc ++ [(m, ⟨(s, RV.bool c) :: L.rs, L.rb, L.ws, L.wb, L.al⟩)]) (σ.app ⟨(s, RV.bool c) :: L.rs, L.rb, L.ws, L.wb, L.al⟩)) (hg : o.guard = some (g, b) := by exact rfl) (hs : (ops[g]?).bind (·.dst) = some s := by exact rfl) (h1 : RdL ((s, RV.bool c) :: L.rs) σ.s := by repeat (first | exact True.intro | refine And.intro rfl ?_)) (h2 : RdL L.rb σ.b := by repeat (first | exact True.intro | refine And.intro rfl ?_)) (x : Loc P n o L) (hlt : s < n := by decide) (ha : L.al = none := by exact rfl)
    (h4 : chkE m o ⟨(s, RV.bool c) :: L.rs, L.rb, L.ws, L.wb, L.al⟩ acc = true := by kernel_rfl) : Run P n ops σ0 (fun _ _ => True) QS (o :: l) acc σ :=
  Run.step (L := ⟨(s, RV.bool c) :: L.rs, L.rb, L.ws, L.wb, L.al⟩) m h1 h2 (LocG.yes hg hs hlt hb x) (fun d hd => by have hd : L.al = some d := hd; rw [ha] at hd; cases hd) h4 y
theorem dF {g s d : Nat} {c : Bool} (m : Nat) (hb : c = false) (y : Run P n ops σ0 (fun _ _ => True) QS l (acc ++ [(m, ⟨[(s, RV.bool c)], [], [(d, some RV.und)], [], none⟩)]) (σ.app ⟨[(s, RV.bool c)], [], [(d, some RV.und)], [], none⟩)) (hg : o.guard = some (g, true) := by exact rfl) (hs : (ops[g]?).bind (·.dst) = some s := by exact rfl) (hlt : s < n := by decide) (hd : o.dst = some d := by exact rfl)
    (h1 : σ.s s = some (RV.bool c) := by exact rfl) (h4 : chkE m o ⟨[(s, RV.bool c)], [], [(d, some RV.und)], [], none⟩ acc = true := by kernel_rfl) : Run P n ops σ0 (fun _ _ => True) QS (o :: l) acc σ :=
  Run.step (L := ⟨[(s, RV.bool c)], [], [(d, some RV.und)], [], none⟩) m ⟨h1, True.intro⟩ True.intro (LocG.no hg hs hlt hb hd) nofree h4 y
theorem dT {g s d : Nat} {c : Bool} (m : Nat) (hb : c = true) (y : Run P n ops σ0 (fun _ _ => True) QS l (acc ++ [(m, ⟨[(s, RV.bool c)], [], [(d, some RV.und)], [], none⟩)]) (σ.app ⟨[(s, RV.bool c)], [], [(d, some RV.und)], [], none⟩)) (hg : o.guard = some (g, false) := by exact rfl) (hs : (ops[g]?).bind (·.dst) = some s := by exact rfl) (hlt : s < n := by decide) (hd : o.dst = some d := by exact rfl)
    (h1 : σ.s s = some (RV.bool c) := by exact rfl) (h4 : chkE m o ⟨[(s, RV.bool c)], [], [(d, some RV.und)], [], none⟩ acc = true := by kernel_rfl) : Run P n ops σ0 (fun _ _ => True) QS (o :: l) acc σ :=
  Run.step (L := ⟨[(s, RV.bool c)], [], [(d, some RV.und)], [], none⟩) m ⟨h1, True.intro⟩ True.intro (LocG.no hg hs hlt hb hd) nofree h4 y
theorem dU {g s d : Nat} {b : Bool} (m : Nat) (y : Run P n ops σ0 (fun _ _ => True) QS l (acc ++ [(m, ⟨[(s, RV.und)], [], [(d, some RV.und)], [], none⟩)]) (σ.app ⟨[(s, RV.und)], [], [(d, some RV.und)], [], none⟩)) (hg : o.guard = some (g, b) := by exact rfl) (hs : (ops[g]?).bind (·.dst) = some s := by exact rfl) (hd : o.dst = some d := by exact rfl)
    (h1 : σ.s s = some RV.und := by exact rfl) (h4 : chkE m o ⟨[(s, RV.und)], [], [(d, some RV.und)], [], none⟩ acc = true := by kernel_rfl) : Run P n ops σ0 (fun _ _ => True) QS (o :: l) acc σ :=
  Run.step (L := ⟨[(s, RV.und)], [], [(d, some RV.und)], [], none⟩) m ⟨h1, True.intro⟩ True.intro (LocG.noU hg hs hd) nofree h4 y
theorem sO (l : List (Nat × RV)) (b : List (Nat × (Nat × List PV))) (h : SW P n h0 w0 Fz0 c (St.of l b) Q) (hl : RdL l σ.s := by repeat (first | exact True.intro | refine And.intro rfl ?_)) (hb : RdL b σ.b := by repeat (first | exact True.intro | refine And.intro rfl ?_)) : SW P n h0 w0 Fz0 c σ Q := sw_of hl hb h
theorem wO (m : List (Nat × RV)) (b : List (Nat × (Nat × List PV))) (h : SWL P n h0 w0 Fz0 ops l (St.of m b) Q) (hl : RdL m σ.s := by repeat (first | exact True.intro | refine And.intro rfl ?_)) (hb : RdL b σ.b := by repeat (first | exact True.intro | refine And.intro rfl ?_)) : SWL P n h0 w0 Fz0 ops l σ Q := swl_of hl hb h
theorem wA {L : Step} (y : SWL P n h0 w0 Fz0 ops l (σ.app L) Q) (h1 : RdL L.rs σ.s := by repeat (first | exact True.intro | refine And.intro rfl ?_)) (h2 : RdL L.rb σ.b := by repeat (first | exact True.intro | refine And.intro rfl ?_)) (x : Loc P n o L) (hg : o.guard = none := by exact rfl) (ha : L.al = none := by exact rfl) : SWL P n h0 w0 Fz0 ops (o :: l) σ Q :=
  swl_step h1 h2 (LocG.of hg x) (fun d hd => by rw [ha] at hd; cases hd) y
end
section
variable {P : Program} {n : Nat} {d x : Nat} {ty : TypeId} {pos : String} {af : Array Edge} {g : Option (Nat × Bool)}
theorem cM {r r' : RV} (hc : Cp r r') (hd : d < n := by decide) : Loc P n ⟨some d, .move (.tmp x), ty, pos, af, g⟩ ⟨[(x, r)], [], [(d, some r')], [], none⟩ := loc_copy (.inl rfl) hd hc
theorem cA {r r' : RV} (hc : Cp r r') (hd : d < n := by decide) : Loc P n ⟨some d, .assign (.tmp x), ty, pos, af, g⟩ ⟨[(x, r)], [], [(d, some r')], [], none⟩ := loc_copy (.inr rfl) hd hc
theorem sM {v : Value} (hd : d < n := by decide) : Loc P n ⟨some d, .move (.tmp x), ty, pos, af, g⟩ ⟨[(x, RV.sc v)], [], [(d, some (RV.sc v))], [], none⟩ := cM Cp.sc hd
theorem sA {v : Value} (hd : d < n := by decide) : Loc P n ⟨some d, .assign (.tmp x), ty, pos, af, g⟩ ⟨[(x, RV.sc v)], [], [(d, some (RV.sc v))], [], none⟩ := cA Cp.sc hd
theorem vM {cs : List PV} (ag : Bool) (qs : List PV) (ht : ToL cs qs := by repeat' (first | exact True.intro | exact PV.To.refl _ | exact PV.to_none | apply And.intro)) (hb : BorL qs := by repeat (first | exact BorL.nil | refine BorL.cons (PV.bor_val _) ?_ | refine BorL.cons (PV.bor_sl _) ?_ | refine BorL.cons (PV.bor_lo _ _) ?_)) (hd : d < n := by decide) :
    Loc P n ⟨some d, .move (.tmp x), ty, pos, af, g⟩ ⟨[(x, RV.sv ag cs)], [], [(d, some (RV.sv ag qs))], [], none⟩ := cM (Cp.sv ht hb) hd
theorem vA {cs : List PV} (ag : Bool) (qs : List PV) (ht : ToL cs qs := by repeat' (first | exact True.intro | exact PV.To.refl _ | exact PV.to_none | apply And.intro)) (hb : BorL qs := by repeat (first | exact BorL.nil | refine BorL.cons (PV.bor_val _) ?_ | refine BorL.cons (PV.bor_sl _) ?_ | refine BorL.cons (PV.bor_lo _ _) ?_)) (hd : d < n := by decide) :
    Loc P n ⟨some d, .assign (.tmp x), ty, pos, af, g⟩ ⟨[(x, RV.sv ag cs)], [], [(d, some (RV.sv ag qs))], [], none⟩ := cA (Cp.sv ht hb) hd
theorem tM {r : RV} (hd : d < n := by decide) : Loc P n ⟨some d, .move (.tmp x), ty, pos, af, g⟩ ⟨[(x, r)], [], [(x, none), (d, some r)], [], none⟩ := loc_take (.inl rfl) hd
theorem tA {r : RV} (hd : d < n := by decide) : Loc P n ⟨some d, .assign (.tmp x), ty, pos, af, g⟩ ⟨[(x, r)], [], [(x, none), (d, some r)], [], none⟩ := loc_take (.inr rfl) hd
theorem kM {v : Value} (h : v.oneCell' = true := by exact rfl) (hd : d < n := by decide) : Loc P n ⟨some d, .move (.const v), ty, pos, af, g⟩ ⟨[], [], [(d, some (RV.sc v))], [], none⟩ := loc_const (.inl rfl) hd (ok_sc h)
theorem kA {v : Value} (h : v.oneCell' = true := by exact rfl) (hd : d < n := by decide) : Loc P n ⟨some d, .assign (.const v), ty, pos, af, g⟩ ⟨[], [], [(d, some (RV.sc v))], [], none⟩ := loc_const (.inr rfl) hd (ok_sc h)
theorem lD {T p b off t : Nat} {ag : Bool} {k : Nat} {cs : List PV} (qs : List PV) (hT : tyI P T = some (ag, k)) (h1 : ag = false → k = 1 := by first | exact fun _ => rfl | exact fun h => nomatch h) (hk : off + k ≤ cs.length := by exact Nat.le_of_ble_eq_true rfl) (ht : ToL ((cs.drop off).take k) qs := by repeat' (first | exact True.intro | exact PV.To.refl _ | exact PV.to_none | apply And.intro))
    (hb : BorL qs := by repeat (first | exact BorL.nil | refine BorL.cons (PV.bor_val _) ?_ | refine BorL.cons (PV.bor_sl _) ?_ | refine BorL.cons (PV.bor_lo _ _) ?_)) (hd : d < n := by decide) :
    Loc P n ⟨some d, .load T (.tmp p), ty, pos, af, g⟩ ⟨[(p, RV.ptr b off)], [(b, (t, cs))], [(d, some (RV.sv ag qs))], [], none⟩ := loc_load hd hT h1 hk ht hb
theorem lE {T p : Nat} {ag : Bool} {k : Nat} {cs : List PV} (qs : List PV) (hT : tyI P T = some (ag, k)) (h1 : ag = false → k = 1 := by first | exact fun _ => rfl | exact fun h => nomatch h) (hk : k ≤ cs.length := by exact Nat.le_of_ble_eq_true rfl) (ht : ToL (cs.take k) qs := by repeat' (first | exact True.intro | exact PV.To.refl _ | exact PV.to_none | apply And.intro))
    (hb : BorL qs := by repeat (first | exact BorL.nil | refine BorL.cons (PV.bor_val _) ?_ | refine BorL.cons (PV.bor_sl _) ?_ | refine BorL.cons (PV.bor_lo _ _) ?_)) (hd : d < n := by decide) :
    Loc P n ⟨some d, .load T (.tmp p), ty, pos, af, g⟩ ⟨[(p, RV.eptr cs)], [], [(d, some (RV.sv ag qs))], [], none⟩ := loc_eload hd hT h1 hk ht hb
theorem lF {T p b off f fo : Nat} (hT : fieldI P T f = some fo) (hd : d < n := by decide) : Loc P n ⟨some d, .fieldAddr T (.tmp p) f, ty, pos, af, g⟩ ⟨[(p, RV.ptr b off)], [], [(d, some (RV.ptr b (off + fo)))], [], none⟩ := loc_field hd hT
theorem lN {T E e bs s m : Nat} {o : Fl} {es : List (List PV)} (hT : sliceI P T = some (E, e, bs)) (hm : es.length = m := by first | exact List.length_map _ | exact rfl) (hd : d < n := by decide) :
    Loc P n ⟨some d, .call { callee := .builtin .len, args := #[.tmp s], argTypes := #[T] }, ty, pos, af, g⟩ ⟨[(s, RV.slc o es)], [], [(d, some (RV.int (m : Int)))], [], none⟩ := loc_len hd hT hm
theorem nT {T : TypeId} {b : Bool} (hd : d < n := by decide) : Loc P n ⟨some d, .unOp .not T (.tmp x), ty, pos, af, g⟩ ⟨[(x, RV.bool b)], [], [(d, some (RV.bool !b))], [], none⟩ := loc_not hd
theorem pkT {c x y : Operand} {b : Bool} {r : RV} (hg : b = true) (hc : OpOk c (RV.bool b) := by exact True.intro) (hz : OpOk x r := by first | exact True.intro | exact ok_sc rfl) (hcp : Cp r r := by exact Cp.sc) (hd : d < n := by decide) : Loc P n ⟨some d, .pick c x y, ty, pos, af, g⟩ ⟨opR c (RV.bool b) ++ opR x r, [], [(d, some r)], [], none⟩ := loc_pick (z := x) hd (by rw [hg]; rfl) hc hz hcp
theorem pkF {c x y : Operand} {b : Bool} {r : RV} (hg : b = false) (hc : OpOk c (RV.bool b) := by exact True.intro) (hz : OpOk y r := by first | exact True.intro | exact ok_sc rfl) (hcp : Cp r r := by exact Cp.sc) (hd : d < n := by decide) : Loc P n ⟨some d, .pick c x y, ty, pos, af, g⟩ ⟨opR c (RV.bool b) ++ opR y r, [], [(d, some r)], [], none⟩ := loc_pick (z := y) hd (by rw [hg]; rfl) hc hz hcp
theorem cL {f : Nat} {args : Array Operand} {tys : Array TypeId} {r : RV} (qs as_ : List (Bool × List PV)) (hf : callI P f = true) (hok : OpsOk args.toList qs := by repeat' (first | exact True.intro | exact ok_sc rfl | exact ok_nilr | apply And.intro))
    (hto : ToT qs as_ := by repeat' (first | exact True.intro | exact rfl | exact PV.To.refl _ | exact PV.to_none | apply And.intro)) (hs : SCall P f as_ r) (hd : d < n := by decide) : Loc P n ⟨some d, .call { callee := .value (.func f), args := args, argTypes := tys }, ty, pos, af, g⟩ ⟨opsR args.toList qs, [], [(d, some r)], [], none⟩ := loc_call hd hf hok hto hs
section
variable {T T2 : TypeId} {x y : Operand} {i j : Int}
theorem B_lss (hx : OpOk x (RV.int i) := by first | exact True.intro | exact ok_sc rfl) (hy : OpOk y (RV.int j) := by first | exact True.intro | exact ok_sc rfl) (hd : d < n := by decide) : Loc P n ⟨some d, .binOp .lss T x y T2, ty, pos, af, g⟩ ⟨opR x (RV.int i) ++ opR y (RV.int j), [], [(d, some (RV.bool (decide (i < j))))], [], none⟩ := loc_lss hd hx hy
theorem B_leq (hx : OpOk x (RV.int i) := by first | exact True.intro | exact ok_sc rfl) (hy : OpOk y (RV.int j) := by first | exact True.intro | exact ok_sc rfl) (hd : d < n := by decide) : Loc P n ⟨some d, .binOp .leq T x y T2, ty, pos, af, g⟩ ⟨opR x (RV.int i) ++ opR y (RV.int j), [], [(d, some (RV.bool (decide (i ≤ j))))], [], none⟩ := loc_leq hd hx hy
theorem B_gtr (hx : OpOk x (RV.int i) := by first | exact True.intro | exact ok_sc rfl) (hy : OpOk y (RV.int j) := by first | exact True.intro | exact ok_sc rfl) (hd : d < n := by decide) : Loc P n ⟨some d, .binOp .gtr T x y T2, ty, pos, af, g⟩ ⟨opR x (RV.int i) ++ opR y (RV.int j), [], [(d, some (RV.bool (decide (i > j))))], [], none⟩ := loc_gtr hd hx hy
theorem B_geq (hx : OpOk x (RV.int i) := by first | exact True.intro | exact ok_sc rfl) (hy : OpOk y (RV.int j) := by first | exact True.intro | exact ok_sc rfl) (hd : d < n := by decide) : Loc P n ⟨some d, .binOp .geq T x y T2, ty, pos, af, g⟩ ⟨opR x (RV.int i) ++ opR y (RV.int j), [], [(d, some (RV.bool (decide (i ≥ j))))], [], none⟩ := loc_geq hd hx hy
theorem B_eql (hx : OpOk x (RV.int i) := by first | exact True.intro | exact ok_sc rfl) (hy : OpOk y (RV.int j) := by first | exact True.intro | exact ok_sc rfl) (hd : d < n := by decide) : Loc P n ⟨some d, .binOp .eql T x y T2, ty, pos, af, g⟩ ⟨opR x (RV.int i) ++ opR y (RV.int j), [], [(d, some (RV.bool (i == j)))], [], none⟩ := loc_eql hd hx hy
theorem B_neq (hx : OpOk x (RV.int i) := by first | exact True.intro | exact ok_sc rfl) (hy : OpOk y (RV.int j) := by first | exact True.intro | exact ok_sc rfl) (hd : d < n := by decide) : Loc P n ⟨some d, .binOp .neq T x y T2, ty, pos, af, g⟩ ⟨opR x (RV.int i) ++ opR y (RV.int j), [], [(d, some (RV.bool (i != j)))], [], none⟩ := loc_neq hd hx hy
theorem B_add (hx : OpOk x (RV.int i) := by first | exact True.intro | exact ok_sc rfl) (hy : OpOk y (RV.int j) := by first | exact True.intro | exact ok_sc rfl) (h : I64 (i + j) := by unfold I64; omega) (hd : d < n := by decide) : Loc P n ⟨some d, .binOp .add T x y T2, ty, pos, af, g⟩ ⟨opR x (RV.int i) ++ opR y (RV.int j), [], [(d, some (RV.int (i + j)))], [], none⟩ := loc_add hd hx hy h
theorem B_sub (hx : OpOk x (RV.int i) := by first | exact True.intro | exact ok_sc rfl) (hy : OpOk y (RV.int j) := by first | exact True.intro | exact ok_sc rfl) (h : I64 (i - j) := by unfold I64; omega) (hd : d < n := by decide) : Loc P n ⟨some d, .binOp .sub T x y T2, ty, pos, af, g⟩ ⟨opR x (RV.int i) ++ opR y (RV.int j), [], [(d, some (RV.int (i - j)))], [], none⟩ := loc_sub hd hx hy h
end
end
end Go.Proofs.YtloipjaiceifbaaGreat.M

/- Rules for whole numbers of other kinds, for bytes of texts, and for conditions that are constants. No condition. -/
set_option linter.unusedVariables false
namespace Go.Proofs.YtloipjaiceifbaaGreat.M
open Go Go.RowKit
section
variable {P : Program} {n : Nat}
section
variable {T : TypeId} {x y : Operand} {i j : Int} {k : IntKind} {w : World}
theorem ubin_geq : Sem.run P (do eqGuard .geq T x y (.int k i) (.int k j); binOp .geq T (.int k i) (.int k j) : Sem Value) w = .ok (.bool (decide (i ≥ j))) w := by simp [eqGuard, binOp, Op.intCmp]
end
section
variable {T T2 : TypeId} {x y : Operand} {d : Nat} {ty : TypeId} {pos : String} {af : Array Edge} {g : Option (Nat × Bool)} {i j : Int} {k : IntKind}
theorem U_geq (hx : OpOk x (RV.sc (.int k i)) := by first | exact True.intro | exact ok_sc rfl) (hy : OpOk y (RV.sc (.int k j)) := by first | exact True.intro | exact ok_sc rfl) (hd : d < n := by decide) : Loc P n ⟨some d, .binOp .geq T x y T2, ty, pos, af, g⟩ ⟨opR x (RV.sc (.int k i)) ++ opR y (RV.sc (.int k j)), [], [(d, some (RV.bool (decide (i ≥ j))))], [], none⟩ := loc_bin hd hx hy rfl fun _ => ubin_geq
theorem loc_conv {src dst : TypeId} {k2 : IntKind} (hS : P.underlying src = some (.int k)) (hD : P.underlying dst = some (.int k2)) (hj : k2.wrap i = j) (hx : OpOk x (RV.sc (.int k i)) := by first | exact True.intro | exact ok_sc rfl) (hd : d < n := by decide) :
    Loc P n ⟨some d, .convert src dst x, ty, pos, af, g⟩ ⟨opR x (RV.sc (.int k i)), [], [(d, some (RV.sc (.int k2 j)))], [], none⟩ := by
  intro h0 w0 Fz0 σ a w K Q h1 h2 _ _ h5
  obtain ⟨φ, Fz, Fp, hc⟩ := h1
  have ex := hc.sc h2 hx
  refine wp_val (v := .int k2 j) (w' := w) ?_ (h5 _ _ (hc.put0 hd (SvOwn.of_sc rfl)))
  unfold execOp
  simp [ex, convert, run_underlying hS, run_underlying hD, Conv.intToInt, hj]
theorem loc_ghidx {T E e bs d s G k m : Nat} {i : Operand} {ty : TypeId} {pos : String} {af : Array Edge} {g : Option (Nat × Bool)} {v : Value} {us : List Value} {ds : List PV} {o : Fl} {es : List (List PV)} {cs : List PV} {q : Int} (hT : sliceI P T = some (E, e, bs)) (hv : us[m]? = some v) (hm : ds[m]? = some (PV.sl o es))
    (hq : q = (k : Int)) (hk : es[k]? = some cs) (he : cs.length = e) (hi : OpOk i (RV.int q) := by first | exact True.intro | exact ok_sc rfl) (hd : d < n := by decide) :
    Loc P n ⟨some d, .indexAddr T (.tmp s) i, ty, pos, af, g⟩ ⟨(s, RV.sc v) :: (G, RV.gh us ds) :: opR i (RV.int q), [], [(d, some (RV.eptr cs))], [], none⟩ := by
  intro h0 w0 Fz0 σ a w K Q hc hr _ _ h5
  obtain ⟨φ, Fz, Fp, hc⟩ := hc
  subst hq
  have ei := hc.sc hr.2.2 hi
  have hown : OwnL ds Fz w us _ := hc.slot G _ hr.2.1
  obtain ⟨v', hv', hrel⟩ := hown.rel.at_ hm
  rw [hv] at hv'
  injection hv' with hv'
  subst hv'
  have evs := (hc.one_ hr.1).1
  obtain ⟨ad, c, e', u, ev, h1, h2, h3, h4, h6⟩ := hrel.1
  have hlt : k < es.length := (List.getElem?_eq_some_iff.1 hk).1
  have hee : e' = e := by rw [← he]; exact (h3 cs (List.mem_of_getElem? hk)).symm
  subst hee
  rcases h4 with h4 | ⟨b, off, rfl, h4⟩
  · rw [h4] at hlt; simp at hlt
  obtain ⟨hu, inf, hinf, hsz, _⟩ := sliceI_spec hT
  refine wp_val (v := .pointer (some ⟨b, off + k * e', none⟩)) (w' := w) ?_ (h5 _ _ (hc.put0 hd ⟨⟨b, off + k * e', (List.range e').map (u k), rfl, ?_, fun j x hx => ?_⟩, rfl⟩))
  · unfold execOp
    have es' : a.eval (.tmp s) = .slice (some ⟨b, off, none⟩) es.length c := by rw [← ev]; exact evs
    have hlt' : (0 : Int) ≤ (k : Int) ∧ (k : Int) < (es.length : Int) := by omega
    simp only [es', ei, Instr.indexAt, asIntOf, Sem.run_bind, Sem.run_pure, Result.andThen_ok, run_underlying hu]
    simp [hlt', sizeOf, typeInfo, hinf, hsz, add_lit]
  · refine RelL.of_at (by simp [he]) fun j p v hp hv => ?_
    have hj : j < e' := by rw [← he]; exact (List.getElem?_eq_some_iff.1 hp).1
    simp [hj] at hv
    subst hv
    exact h6 k cs j p hk hp
  · have hj : j < e' := by have := (List.getElem?_eq_some_iff.1 hx).1; simpa using this
    simp [hj] at hx
    subst hx
    rw [Nat.add_assoc]
    exact h4 k j hlt hj
theorem loc_sidx {s : ByteArray} (hS : P.underlying T = some .string) (hx : OpOk x (RV.sc (.string s)) := by first | exact True.intro | exact ok_sc rfl) (hy : OpOk y (RV.sc (.int k i)) := by first | exact True.intro | exact ok_sc rfl) (hi : 0 ≤ i) (hb : ∃ b, s[i.toNat]? = some b ∧ ((b.toNat : Nat) : Int) = j) (hd : d < n := by decide) :
    Loc P n ⟨some d, .index T x y, ty, pos, af, g⟩ ⟨opR x (RV.sc (.string s)) ++ opR y (RV.sc (.int k i)), [], [(d, some (RV.sc (.int .u8 j)))], [], none⟩ := by
  intro h0 w0 Fz0 σ a w K Q h1 h2 _ _ h5
  obtain ⟨φ, Fz, Fp, hc⟩ := h1
  have ex := hc.sc h2.left hx
  have ey := hc.sc h2.right hy
  obtain ⟨b, hb, rfl⟩ := hb
  refine wp_val (v := .int .u8 (b.toNat : Nat)) (w' := w) ?_ (h5 _ _ (hc.put0 hd (SvOwn.of_sc rfl)))
  unfold execOp
  simp [ex, ey, Instr.index, asIntOf, run_underlying hS, hi, hb]
end
section
variable {h0 : Nat → Prop} {w0 : World} {Fz0 : FzT} {σ : St} {Q : Exit → St → Prop} {c1 c2 : Code}
theorem sw_condF (h : SW P n h0 w0 Fz0 c2 σ Q) : SW P n h0 w0 Fz0 (.cond (.const (.bool false)) c1 c2) σ Q := fun a w hc => wp_cond (t := false) rfl (h a w hc)
end
end
end Go.Proofs.YtloipjaiceifbaaGreat.M
