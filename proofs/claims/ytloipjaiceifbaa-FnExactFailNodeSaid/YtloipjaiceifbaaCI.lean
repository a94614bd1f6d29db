/- Rules for slices that are filled in place. No condition. -/
import Derived.Test.YtloipjaiceifbaaCH
namespace Go.Proofs.Ytloipjaiceifbaa.M
open Go Go.RowKit

section
variable {P : Program} {n : Nat} {ops : Array Oper} {h0 : Nat → Prop} {w0 : World} {Fz0 : FzT} {σ τ : St} {a : Act} {w : World} {φ : Nat → Nat} {Fz : FzT} {Fp : Nat → List Nat}

/-! ### a slice that is filled in place: its array is a variable -/
/-- The slice of all m elements of variable d. -/
def RV.hdr (d m : Nat) (c : Nat := m) : RV where
  holds φ _ _ v F := (v = .slice (some ⟨φ d, 0, none⟩) m c ∧ m ≤ c ∧ c ≤ maxLen) ∧ F = []
  men x := Nat.beq x d
  mono h _ _ hφ := ⟨⟨by rw [hφ d (by simp)]; exact h.1.1, h.1.2⟩, h.2⟩
  lt h := by rw [h.2]; simp
theorem Cp.hdr {d m c : Nat} : Cp (RV.hdr d m c) (RV.hdr d m c) := fun h => ⟨h.1, rfl⟩
/-- The first k are laid. -/
def filled {α : Type} (xs : List α) (f : α → List PV) (z : List PV) (k : Nat) : List (List PV) := (xs.take k).map f ++ List.replicate (xs.length - k) z
theorem filled_zero {α : Type} (xs : List α) (f : α → List PV) (z : List PV) : filled xs f z 0 = List.replicate xs.length z := by simp [filled]
theorem filled_all {α : Type} (xs : List α) (f : α → List PV) (z : List PV) : filled xs f z xs.length = xs.map f := by simp [filled]
theorem filled_len {α : Type} {xs : List α} {f : α → List PV} {z : List PV} {k : Nat} (hk : k ≤ xs.length) : (filled xs f z k).length = xs.length := by simp [filled]; omega
theorem filled_lens {α : Type} {xs : List α} {f : α → List PV} {z : List PV} {k e : Nat} (hf : ∀ x, (f x).length = e) (hz : z.length = e) : ∀ cs, cs ∈ filled xs f z k → cs.length = e := by
  intro cs hcs
  rcases List.mem_append.1 hcs with h | h
  · obtain ⟨x, _, rfl⟩ := List.mem_map.1 h; exact hf x
  · rw [(List.mem_replicate.1 h).2]; exact hz
theorem flatten_len {e : Nat} : ∀ {es : List (List PV)}, (∀ cs, cs ∈ es → cs.length = e) → es.flatten.length = es.length * e
  | [], _ => by simp
  | c :: es, h => by rw [List.flatten_cons, List.length_append, flatten_len fun x hx => h x (by simp [hx]), h c (by simp), List.length_cons, Nat.succ_mul]; omega
theorem flatten_set {e : Nat} : ∀ {es : List (List PV)} {k : Nat} {v : List PV}, (∀ cs, cs ∈ es → cs.length = e) → v.length = e → k < es.length → es.flatten.take (k * e) ++ (v ++ es.flatten.drop (k * e + e)) = (es.set k v).flatten
  | [], k, v, _, _, hk => by simp at hk
  | c :: es, 0, v, h, hv, _ => by
    have hc := h c (by simp)
    subst hc
    simp
  | c :: es, k + 1, v, h, hv, hk => by
    have hc := h c (by simp)
    have ih := flatten_set (es := es) (k := k) (v := v) (fun x hx => h x (by simp [hx])) hv (by simpa using hk)
    rw [List.flatten_cons, List.set_cons_succ, List.flatten_cons, ← ih]
    rw [Nat.succ_mul, List.take_append, List.drop_append]
    rw [List.take_of_length_le (by omega), List.drop_of_length_le (by omega), show k * e + e - c.length = k * e by omega, show k * e + e + e - c.length = k * e + e by omega]
    simp
theorem filled_set {α : Type} {xs : List α} {f : α → List PV} {z : List PV} {k : Nat} (hk : k < xs.length) : (filled xs f z k).set k (f xs[k]) = filled xs f z (k + 1) := by
  unfold filled
  rw [List.set_append_right _ _ (by simp; omega)]
  have e : k - ((xs.take k).map f).length = 0 := by simp; omega
  rw [e, show xs.length - k = (xs.length - (k + 1)) + 1 by omega, List.replicate_succ, List.set_cons_zero, List.take_succ_eq_append_getElem hk, List.map_append, List.append_assoc]
  rfl
/-- The next element, laid. -/
theorem fill_next {α : Type} {xs : List α} {f : α → List PV} {z : List PV} {k e : Nat} (hf : ∀ x, (f x).length = e) (hz : z.length = e) (hk : k < xs.length) :
    (filled xs f z k).flatten.take (k * e) ++ (f xs[k] ++ (filled xs f z k).flatten.drop (k * e + e)) = (filled xs f z (k + 1)).flatten := by
  rw [flatten_set (filled_lens hf hz) (hf _) (by rw [filled_len (by omega)]; exact hk), filled_set hk]
theorem fill_room {α : Type} {xs : List α} {f : α → List PV} {z : List PV} {k e : Nat} (hf : ∀ x, (f x).length = e) (hz : z.length = e) (hk : k < xs.length) : k * e + e ≤ (filled xs f z k).flatten.length := by
  rw [flatten_len (filled_lens hf hz), filled_len (by omega), ← Nat.succ_mul]
  exact Nat.mul_le_mul_right _ hk
theorem madeCells_flat (z : Array Value) : ∀ (m : Nat), (madeCells z (m * z.size)).toList = (List.replicate m z.toList).flatten
  | 0 => by simp [madeCells]
  | m + 1 => by
    have ih := madeCells_flat z m
    rw [List.replicate_succ', List.flatten_append, ← ih]
    apply List.ext_getElem?
    intro j
    by_cases hz : z.size = 0
    · simp [madeCells, hz]
    · by_cases h1 : j < m * z.size
      · rw [List.getElem?_append_left (by simp [madeCells]; exact h1)]
        have h2 : j < (m + 1) * z.size := by rw [Nat.succ_mul]; omega
        simp [madeCells, h1, h2]
      · rw [List.getElem?_append_right (by simp [madeCells]; omega)]
        have hl : (madeCells z (m * z.size)).toList.length = m * z.size := by simp [madeCells]
        rw [hl]
        by_cases h2 : j < (m + 1) * z.size
        · have h2' := h2
          rw [Nat.succ_mul] at h2'
          have hm : j % z.size = j - m * z.size := by
            have : j = z.size * m + (j - m * z.size) := by rw [Nat.mul_comm z.size m]; omega
            rw [this, Nat.mul_add_mod, Nat.mod_eq_of_lt (by omega)]
            rw [Nat.mul_comm z.size m]; omega
          have h3 : j - m * z.size < z.size := by omega
          simp [madeCells, h2, hm, h3]
        · have h2' := h2
          rw [Nat.succ_mul] at h2'
          rw [List.getElem?_eq_none (by simp [madeCells]; omega), List.getElem?_eq_none (by simp; omega)]
theorem own_repl {zs : List PV} {vs : List Value} (h : OwnL zs Fz w vs []) : ∀ m : Nat, OwnL (List.replicate m zs).flatten Fz w (List.replicate m vs).flatten []
  | 0 => ⟨rfl, rfl⟩
  | m + 1 => by
    rw [List.replicate_succ, List.replicate_succ, List.flatten_cons, List.flatten_cons]
    exact h.append (own_repl h m)
theorem loc_make {T E e bs d m : Nat} {x y : Operand} {ty : TypeId} {pos : String} {af : Array Edge} {g : Option (Nat × Bool)} {q q2 : Int} {z : Value} {zs : List PV} (hd : d < n) (hT : sliceI P T = some (E, e, bs)) (hz : zeroI P E = some z) (hz1 : z.cells.size = e)
    (hzs : ∀ {Fz : FzT} {w : World}, OwnL zs Fz w z.cells.toList []) (hx : OpOk x (RV.int q)) (hy : OpOk y (RV.int q2)) (hq : q = (m : Int)) (hq2 : q2 = (m : Int)) (hm : m ≤ 9223372036854775807) (hb : bs * m ≤ 281474976710656) :
    Loc P n ⟨some d, .makeSlice T x y, ty, pos, af, g⟩ ⟨opR x (RV.int q) ++ opR y (RV.int q2), [], [(d, some (RV.hdr d m))], [(d, some (E, (List.replicate m zs).flatten))], some d⟩ := by
  intro h0 w0 Fz0 σ a w K Q hc hr _ h4 h5
  obtain ⟨φ, Fz, Fp, hc⟩ := hc
  subst hq
  subst hq2
  have ex := hc.sc hr.left hx
  have ey := hc.sc hr.right hy
  obtain ⟨hu, inf, hinf, hsz, hby⟩ := sliceI_spec hT
  have hz' : inf.zero = some z := by
    unfold zeroI at hz
    rw [hinf, Option.bind_some] at hz; exact hz
  have hb' : (inf.bytes : Int) * (m : Int) ≤ 281474976710656 := by
    have h : ((inf.bytes * m : Nat) : Int) ≤ 281474976710656 := by rw [hby]; omega
    rwa [Int.natCast_mul] at h
  have hr2 := run_make (P := P) w T E inf z hu hinf hz' .i64 .i64 m m (by omega) (Int.le_refl _) hb' (by omega)
  simp only [Int.toNat_natCast, hsz] at hr2
  have k := (hc.drop d).new (madeCells z.cells (m * e)) E 0
  have k2 := k.pushB (d := d) (g := w.heap.size) (cs := (List.replicate m zs).flatten) (F := []) (X := Fp 0) (by rw [St.setB_b, if_pos rfl]) (heap_alloc_new w _)
    (by
      rw [← hz1, madeCells_flat]
      exact own_repl hzs m)
    (fun o ho => by
      rcases ho with ho | ⟨_, ho⟩
      · have := hc.fzl _ _ ho; omega
      · omega)
    (fun b hb => hb) (by simpa using k.nod 0) (.inr (h4 d rfl))
  have k3 := k2.push (i := d) (rv := RV.hdr d m) (v := .slice (some ⟨w.heap.size, 0, none⟩) m m) (F := []) (X := Fp 0) hd ⟨⟨by simp, Nat.le_refl _, hm⟩, rfl⟩
    (by intro b hb; simp [give] at hb ⊢; exact hb) (by simpa using hc.nod 0)
  refine wp_val (v := .slice (some ⟨w.heap.size, 0, none⟩) m m) (w' := w.alloc (.cells (madeCells z.cells (m * e)) E)) ?_ (h5 _ _ (Conc.eqv ⟨_, _, _, k3⟩ (fun i => rfl) (fun e => ?_)))
  · unfold execOp
    simp only [ex, ey, hr2, Sem.run_bind, Result.andThen_ok, Sem.run_pure]
  · show setL [(d, some _)] σ.b e = _
    rw [St.set_b, St.setB_b, St.setB_b]
    simp only [setL, beq_eq]
    by_cases he : e = d <;> simp [he]
theorem loc_hlen {T E e bs d s b m c : Nat} {ty : TypeId} {pos : String} {af : Array Edge} {g : Option (Nat × Bool)} (hd : d < n) (hT : sliceI P T = some (E, e, bs)) :
    Loc P n ⟨some d, .call { callee := .builtin .len, args := #[.tmp s], argTypes := #[T] }, ty, pos, af, g⟩ ⟨[(s, RV.hdr b m c)], [], [(d, some (RV.int (m : Int)))], [], none⟩ := by
  intro h0 w0 Fz0 σ a w K Q hc hr _ _ h5
  obtain ⟨φ, Fz, Fp, hc⟩ := hc
  obtain ⟨⟨ev, _⟩, _⟩ := hc.slot s _ hr.1
  obtain ⟨hu, _⟩ := sliceI_spec hT
  refine wp_val (v := .int .i64 (m : Int)) (w' := w) ?_ (h5 _ _ (hc.put0 hd (SvOwn.of_sc rfl)))
  have es' : a.eval (.tmp s) = .slice (some ⟨φ b, 0, none⟩) m c := ev
  unfold execOp
  simp [resolve, invoke, builtin, es', Builtin.len_, run_underlying hu, goInt]
theorem loc_hindex {T E e bs d s b m c k : Nat} {i : Operand} {ty : TypeId} {pos : String} {af : Array Edge} {g : Option (Nat × Bool)} {q : Int} (hd : d < n) (hT : sliceI P T = some (E, e, bs)) (hi : OpOk i (RV.int q)) (hq : q = (k : Int)) (hk : k < m) :
    Loc P n ⟨some d, .indexAddr T (.tmp s) i, ty, pos, af, g⟩ ⟨(s, RV.hdr b m c) :: opR i (RV.int q), [], [(d, some (RV.ptr b (k * e)))], [], none⟩ := by
  intro h0 w0 Fz0 σ a w K Q hc hr _ _ h5
  obtain ⟨φ, Fz, Fp, hc⟩ := hc
  subst hq
  have ei := hc.sc hr.2 hi
  obtain ⟨⟨ev, _⟩, _⟩ := hc.slot s _ hr.1
  obtain ⟨hu, inf, hinf, hsz, _⟩ := sliceI_spec hT
  refine wp_val (v := .pointer (some ⟨φ b, k * e, none⟩)) (w' := w) ?_ (h5 _ _ (hc.put0 hd ⟨rfl, rfl⟩))
  unfold execOp
  have es' : a.eval (.tmp s) = .slice (some ⟨φ b, 0, none⟩) m c := ev
  have hlt' : (0 : Int) ≤ (k : Int) ∧ (k : Int) < (m : Int) := by omega
  simp only [es', ei, Instr.indexAt, asIntOf, Sem.run_bind, Sem.run_pure, Result.andThen_ok, run_underlying hu]
  simp [hlt', sizeOf, typeInfo, hinf, hsz, add_lit]
/-- The array of variable b is a slice's own from now on; jk: what lies behind its elements. -/
theorem ConcW.freeze {h0 : Nat → Prop} {w0 : World} {Fz0 : FzT} {σ : St} {a : Act} {w : World} {φ : Nat → Nat} {Fz : FzT} {Fp : Nat → List Nat} {s b m c E e : Nat} {es : List (List PV)} {jk : List Value} (hc : ConcW h0 w0 Fz0 n σ a w φ Fz Fp)
    (hb : σ.b b = some (E, es.flatten ++ jk.map PV.val)) (hmc : m ≤ c) (hmx : c ≤ maxLen) (hl : es.length = m) (he : ∀ c, c ∈ es → c.length = e) (hj : m * e + jk.length = c * e) :
    ∃ Fz' Fp', ConcW h0 w0 Fz0 n ((σ.setB b none).set s none) a w φ Fz' Fp' ∧ SlOwn E e es Fz' w (.slice (some ⟨φ b, 0, none⟩) m c) (φ b :: Fp (2 * b + 2)) ∧ (∀ x, x ∈ φ b :: Fp (2 * b + 2) → x ∈ Fp' 0) ∧ (φ b :: Fp (2 * b + 2)).Nodup ∧ Fp' (2 * s + 1) = [] := by
  obtain ⟨cur, hg, ho⟩ := hc.box b _ hb
  obtain ⟨k1, k2, k3⟩ := hc.bxb b _ hb
  have hlt : φ b < w.heap.size := (Array.getElem?_eq_some_iff.1 hg).1
  have c1 := hc.pullB hb
  have c2 := c1.pull s
  have hol : cur.size = c * e := by
    have : cur.toList.length = (es.flatten ++ jk.map PV.val).length := ho.len
    rw [List.length_append, flatten_len he, List.length_map, hl, hj] at this
    simpa using this
  have hone := ho.one
  obtain ⟨v1, v2, G1, G2, hv12, hG12, o1, o2⟩ := ho.split
  have hl1 : v1.length = es.length * e := by rw [o1.len, flatten_len he]
  have hG2 : G2 = [] := by
    have : ∀ (jk : List Value) (v2 : List Value) (G2 : List Nat), OwnL (jk.map PV.val) Fz w v2 G2 → G2 = [] := by
      intro jk
      induction jk with
      | nil => intro v2 G2 h; exact h.2
      | cons j jk ih =>
        intro v2 G2 h
        obtain ⟨v, vs', F1, F2, _, rfl, h1, h2⟩ := h
        rw [ih _ _ h2, h1.2]; rfl
    exact this _ _ _ o2
  subst hG2
  rw [List.append_nil] at hG12
  generalize hF0 : (fun x => if x = 0 then φ b :: mv Fp (2 * b + 2) 0 else mv Fp (2 * b + 2) x) = Fp1 at c1 c2
  have e1 : Fp1 0 = φ b :: (Fp (2 * b + 2) ++ Fp 0) := by rw [← hF0]; simp [mv]
  have e2 : mv Fp1 (2 * s + 1) 0 = Fp1 (2 * s + 1) ++ Fp1 0 := by simp [mv]
  have hnd := c1.nod 0
  rw [e1] at hnd
  have hX : ∀ x, x ∈ φ b :: Fp (2 * b + 2) → x ∈ mv Fp1 (2 * s + 1) 0 := by
    intro x hx
    rw [e2, e1]
    rcases List.mem_cons.1 hx with rfl | hx
    · simp
    · simp [hx]
  have hndX : (φ b :: Fp (2 * b + 2)).Nodup := by
    rw [← List.cons_append] at hnd
    exact (List.nodup_append.1 hnd).1
  have hFin : ∀ x o, (Fz x o ∨ (x = φ b ∧ o < es.length * e)) → x < w.heap.size := by
    rintro x o (h | ⟨rfl, _⟩)
    · exact hc.fzl x o h
    · exact hlt
  have c3 := c2.world (w' := w) (Fz' := fun x o => Fz x o ∨ (x = φ b ∧ o < es.length * e)) (X := φ b :: Fp (2 * b + 2)) rfl rfl rfl (Nat.le_refl _)
    (fun x hx h0 => ⟨rfl, fun o ho => by
      rcases ho with ho | ⟨rfl, _⟩
      · exact ho
      · exact absurd (hX _ (by simp)) h0⟩) (fun x o hxo => ⟨.inl hxo, rfl⟩) (fun x o h => hFin x o h) (fun x hx => .inl (hX x hx)) hndX
  have hsl : SlOwn E e es (fun x o => Fz x o ∨ (x = φ b ∧ o < es.length * e)) w (.slice (some ⟨φ b, 0, none⟩) m c) (φ b :: Fp (2 * b + 2)) := by
    refine ⟨v1, Fp (2 * b + 2), ⟨hl1, .inr ⟨φ b, c, cur, by rw [hl], Nat.zero_le _, hg, by omega, hmx, hol, by rw [hv12, ← hl1]; exact List.take_left⟩⟩,
      (OwnL.chunk he (by rw [hG12]; exact o1)).mono (fun x o h => ⟨.inl h, rfl⟩) (fun x hx => ⟨rfl, fun o ho => by
        rcases ho with ho | ⟨rfl, _⟩
        · exact ho
        · exact absurd hx (k3 _)⟩), ?_, by simp [Value.ownBlock], ?_⟩
    · intro g hg' o
      simp [Value.ownBlock] at hg'
      subst hg'
      constructor
      · rintro (h | ⟨_, h⟩)
        · exact absurd h (k2 o)
        · exact h
      · intro h; exact .inr ⟨rfl, h⟩
    · intro g hg' cur' t' o' hc' x hx
      simp [Value.ownBlock] at hg'
      subst hg'
      rw [hg] at hc'
      simp only [Option.some.injEq, Obj.cells.injEq] at hc'
      rw [← hc'.1] at hx
      exact hone x hx
  exact ⟨_, _, c3, hsl, fun x hx => by simpa using hx, hndX, by simp [mv]⟩
/-- The array is a slice's own from now on. -/
theorem loc_freezej {op : Op} {d s b m c E e : Nat} {ty : TypeId} {pos : String} {af : Array Edge} {g : Option (Nat × Bool)} {cs : List PV} {es : List (List PV)} {jk : List Value} (hop : op = .move (.tmp s) ∨ op = .assign (.tmp s)) (hd : d < n) (hcs : cs = es.flatten ++ jk.map PV.val) (hl : es.length = m) (he : ∀ c, c ∈ es → c.length = e) (hj : m * e + jk.length = c * e) :
    Loc P n ⟨some d, op, ty, pos, af, g⟩ ⟨[(s, RV.hdr b m c)], [(b, (E, cs))], [(s, none), (d, some (RV.slc (.own E e) es))], [(b, none)], none⟩ := by
  intro h0 w0 Fz0 σ a w K Q hc hr hrb _ h5
  obtain ⟨φ, Fz, Fp, hc⟩ := hc
  subst hcs
  obtain ⟨⟨ev, hmc, hmx⟩, _⟩ := hc.slot s _ hr.1
  obtain ⟨Fz', Fp', c3, hsl, hX, hnd, _⟩ := hc.freeze (s := s) hrb.1 hmc hmx hl he hj
  have c4 := c3.push (i := d) (rv := RV.slc (.own E e) es) (v := .slice (some ⟨φ b, 0, none⟩) m c) (F := φ b :: Fp (2 * b + 2)) (X := []) hd (SvOwn.of_atom (p := PV.sl (.own E e) es) hsl)
    (fun x hx => hX x (by simpa using hx)) (by simpa using hnd)
  have ev' : a.eval (.tmp s) = .slice (some ⟨φ b, 0, none⟩) m c := ev
  refine wp_val (v := .slice (some ⟨φ b, 0, none⟩) m c) (w' := w) ?_ (h5 _ _ (Conc.eqv ⟨_, _, _, c4⟩ (fun i => rfl) (fun x => rfl)))
  rw [run_move hop, ev']
/-- The same, where nothing lies behind. -/
theorem loc_freeze {op : Op} {d s b m E e : Nat} {ty : TypeId} {pos : String} {af : Array Edge} {g : Option (Nat × Bool)} {cs : List PV} {es : List (List PV)} (hop : op = .move (.tmp s) ∨ op = .assign (.tmp s)) (hd : d < n) (hcs : cs = es.flatten) (hl : es.length = m) (he : ∀ c, c ∈ es → c.length = e) :
    Loc P n ⟨some d, op, ty, pos, af, g⟩ ⟨[(s, RV.hdr b m)], [(b, (E, cs))], [(s, none), (d, some (RV.slc (.own E e) es))], [(b, none)], none⟩ :=
  loc_freezej (jk := []) hop hd (by simpa using hcs) hl he (by simp)
end
end Go.Proofs.Ytloipjaiceifbaa.M
