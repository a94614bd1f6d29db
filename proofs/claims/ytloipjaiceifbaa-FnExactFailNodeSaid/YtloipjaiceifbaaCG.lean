/- Rules for built slices and append. No condition. -/
import Derived.Test.YtloipjaiceifbaaCF
namespace Go.Proofs.Ytloipjaiceifbaa.M
open Go Go.RowKit

section
variable {P : Program} {n : Nat} {ops : Array Oper} {h0 : Nat → Prop} {w0 : World} {Fz0 : FzT} {σ τ : St} {a : Act} {w : World} {φ : Nat → Nat} {Fz : FzT} {Fp : Nat → List Nat}

/-! ### a slice out of its elements -/
theorem fillP_seq (e : Nat) : ∀ (qs : List (List PV)) (k : Nat) (pre post : List PV), pre.length = k * e → post.length = qs.length * e → (∀ q, q ∈ qs → q.length = e) →
    fillP (fun i => some (i * e, e)) (pre ++ post) ((List.range' k qs.length).zip qs) = some (pre ++ qs.flatten)
  | [], k, pre, post, _, h2, _ => by
    have : post = [] := List.eq_nil_of_length_eq_zero (by simpa using h2)
    subst this; simp [fillP]
  | q :: qs, k, pre, post, h1, h2, h3 => by
    have hq := h3 q (by simp)
    rw [List.length_cons, Nat.succ_mul] at h2
    rw [List.length_cons, List.range'_succ, List.zip_cons_cons, fillP]
    simp only
    rw [if_neg (by rw [List.length_append]; omega), ← h1, List.take_left, ← List.drop_drop, List.drop_left, ← List.append_assoc]
    rw [fillP_seq e qs (k + 1) (pre ++ q) (post.drop q.length) (by rw [List.length_append, Nat.succ_mul]; omega) (by rw [List.length_drop]; omega) fun x hx => h3 x (by simp [hx])]
    simp
theorem OwnL.chunk {e : Nat} : ∀ {qs : List (List PV)} {vs : List Value} {F : List Nat}, (∀ q, q ∈ qs → q.length = e) → OwnL qs.flatten Fz w vs F → OwnLL e qs Fz w vs F
  | [], _, _, _, h => h
  | q :: qs, vs, F, hq, h => by
    rw [List.flatten_cons] at h
    obtain ⟨v1, v2, F1, F2, rfl, rfl, h1, h2⟩ := h.split
    exact ⟨v1, v2, F1, F2, rfl, rfl, by rw [h1.len]; exact hq q (by simp), h1, OwnL.chunk (fun x hx => hq x (by simp [hx])) h2⟩
theorem own_vals : ∀ {vs : List Value}, (∀ v, v ∈ vs → v.oneCell' = true) → OwnL (vs.map PV.val) Fz w vs []
  | [], _ => ⟨rfl, rfl⟩
  | v :: vs, h => ⟨v, vs, [], [], rfl, rfl, ⟨⟨rfl, h v (by simp)⟩, rfl⟩, own_vals fun u hu => h u (by simp [hu])⟩
theorem loc_bslice {T E e bs d m : Nat} {ty : TypeId} {pos : String} {af : Array Edge} {g : Option (Nat × Bool)} {parts : Array (Nat × Operand)} {qs : List (Bool × List PV)} {z : Value} (hd : d < n) (hT : sliceI P T = some (E, e, bs)) (hz : zeroI P E = some z)
    (he0 : 0 < e) (hz1 : z.cells.size = e) (hz2 : (z.cells.toList.all (·.oneCell')) = true) (hm : m = qs.length) (hi : parts.toList.map (·.1) = List.range' 0 qs.length) (hq : (qs.all fun q => Nat.beq q.2.length e) = true) (hb : m * e ≤ 16777216)
    (hok : OpsOk (parts.toList.map (·.2)) qs) (hap : apartO (parts.toList.map (·.2)) = true) :
    Loc P n ⟨some d, .buildSlice T m parts, ty, pos, af, g⟩ ⟨opsR (parts.toList.map (·.2)) qs, [], killsO (parts.toList.map (·.2)) ++ [(d, some (RV.slc (.own E e) (qs.map (·.2))))], [], none⟩ := by
  intro h0 w0 Fz0 σ a w K Q hc hr _ _ h5
  obtain ⟨φ, Fz, Fp, hc⟩ := hc
  obtain ⟨F, Fp', hT', hc', hmem, hnd⟩ := hc.pulls _ _ hr hok (of_decide_eq_true hap)
  obtain ⟨hu, inf, hinf, hsz, _⟩ := sliceI_spec hT
  have hq' : ∀ q, q ∈ qs.map (·.2) → q.length = e := by
    intro q hq0
    obtain ⟨x, hx, rfl⟩ := List.mem_map.1 hq0
    have := List.all_eq_true.1 hq x hx
    simpa [Nat.beq_eq] using this
  generalize hcells : ((Array.range (m * e)).map fun i => z.cells[i % z.cells.size]!) = cells0
  have hcs : cells0.size = m * e := by rw [← hcells]; simp
  have hone : ∀ v, v ∈ cells0.toList → v.oneCell' = true := by
    intro v hv
    rw [← hcells] at hv
    simp only [Array.toList_map, List.mem_map] at hv
    obtain ⟨i, hi', rfl⟩ := hv
    have hi2 : i < m * e := by simpa using hi'
    have he : 0 < e := by
      rcases Nat.eq_zero_or_pos e with h | h
      · subst h; simp at hi2
      · exact h
    have hlt : i % z.cells.size < z.cells.size := Nat.mod_lt _ (by omega)
    rw [getElem!_pos z.cells _ hlt]
    have := List.all_eq_true.1 hz2 (z.cells[i % z.cells.size]) (by simp)
    exact this
  have hfp : fillP (fun i => some (i * e, e)) (cells0.toList.map PV.val) ((parts.toList.map (·.1)).zip (qs.map (·.2))) = some (qs.map (·.2)).flatten := by
    have := fillP_seq e (qs.map (·.2)) 0 [] (cells0.toList.map PV.val) (by simp) (by simp [hcs, hm]) hq'
    rw [hi]
    simpa using this
  obtain ⟨cells, F', e1, e2, e3, e4⟩ := fill_own (fun i => some (i * e, e)) _ qs _ (cells0.toList.map PV.val) _ cells0 [] F (by rw [hi]; simp) (own_vals hone) hT' (by rw [List.nil_append]; exact (List.nodup_append.1 hnd).1) hfp
  have hlen : cells.size = m * e := by
    have := e2.len
    have hfl : (qs.map (·.2)).flatten.length = (qs.map (·.2)).length * e := by
      have key : ∀ (l : List (List PV)), (∀ q, q ∈ l → q.length = e) → l.flatten.length = l.length * e := by
        intro l
        induction l with
        | nil => intro _; simp
        | cons q l ih => intro h; rw [List.flatten_cons, List.length_append, ih fun x hx => h x (by simp [hx]), h q (by simp), List.length_cons, Nat.succ_mul]; omega
      exact key _ hq'
    rw [hfl, List.length_map, ← hm] at this
    simpa using this
  have hlt := e2.lt
  have k := hc'.new cells E (m * e)
  have hFl : ∀ b, b ∈ F' → b < w.heap.size := hlt
  have hnew : w.heap.size ∉ F' := fun hh => by have := hlt _ hh; omega
  have hsl : SlOwn E e (qs.map (·.2)) (fun b o => Fz b o ∨ (b = w.heap.size ∧ o < m * e)) (w.alloc (.cells cells E)) (.slice (some ⟨w.heap.size, 0, none⟩) m m) (w.heap.size :: F') := by
    have hmm : m ≤ maxLen := by
      have h1 : m * 1 ≤ m * e := Nat.mul_le_mul_left _ (by omega)
      show m ≤ 9223372036854775807
      omega
    refine ⟨cells.toList, F', ?_, (e2.chunk hq').mono (keeps_new w Fz cells E _ hc.fzl) (holds_new w Fz cells E _ hFl), ?_, by simp [Value.ownBlock], ?_⟩
    · have := World.ownsRow_lit (e := E) (size := e) w cells m (Nat.zero_le _) hmm hlen
      rw [show (qs.map (·.2)).length = m by rw [List.length_map, hm]]
      exact this
    · intro g hg o
      simp [Value.ownBlock] at hg
      subst hg
      rw [List.length_map, ← hm]
      constructor
      · rintro (h | ⟨_, h⟩)
        · have := hc.fzl _ _ h; omega
        · exact h
      · intro h; exact .inr ⟨rfl, h⟩
    · intro g hg cur t' o hc x hx
      simp [Value.ownBlock] at hg
      subst hg
      rw [heap_alloc_new] at hc
      simp only [Option.some.injEq, Obj.cells.injEq] at hc
      rw [← hc.1] at hx
      exact e2.one x hx
  have k2 := k.push (i := d) (rv := RV.slc (.own E e) (qs.map fun q : Bool × List PV => q.2)) (v := .slice (some ⟨w.heap.size, 0, none⟩) m m) (F := w.heap.size :: F') (X := []) hd (SvOwn.of_atom (p := PV.sl (.own E e) (qs.map fun q : Bool × List PV => q.2)) hsl)
    (fun b hb => by
      simp only [if_true]
      rw [List.append_nil] at hb
      rcases List.mem_cons.1 hb with rfl | hb
      · simp
      · refine List.mem_cons_of_mem _ ?_
        rw [hmem]
        have := e4 b hb
        simp at this ⊢; exact .inl this) (by rw [List.append_nil]; exact List.nodup_cons.2 ⟨hnew, e3⟩)
  refine wp_val (v := .slice (some ⟨w.heap.size, 0, none⟩) m m) (w' := w.alloc (.cells cells E)) ?_ (h5 _ _ (Conc.eqv ⟨_, _, _, k2⟩ (fun i => ?_) (fun e => rfl)))
  · unfold execOp
    have ep : (parts.map fun p => (p.1, a.eval p.2)).toList = (parts.toList.map (·.1)).zip ((parts.toList.map (·.2)).map a.eval) := by
      rw [Array.toList_map]; induction parts.toList with
      | nil => rfl
      | cons p l ih => simp [ih]
    have hng : ¬ (m * e > 2 ^ 24) := by omega
    simp only [Instr.buildSlice, Sem.run_bind, run_underlying hu, Result.andThen_ok, sizeOf, typeInfo, run_program, hinf, hsz, Sem.run_pure, if_neg hng]
    by_cases h0 : m * e = 0
    · have hc0 : cells0 = #[] := by apply Array.eq_empty_of_size_eq_zero; omega
      rw [if_pos h0]
      rw [Sem.run_bind, Sem.run_pure, Result.andThen_ok, ep, h0]
      rw [hc0] at e1
      rw [show ((Array.range 0).map fun x => (#[] : Array Value)[x % (#[] : Array Value).size]!) = #[] by simp, e1]
      simp [newRow]
    · rw [if_neg h0]
      simp only [Sem.run_bind, zeroI_spec hz, Result.andThen_ok, Sem.run_pure]
      rw [ep, hcells, e1]
      simp [newRow]
  · show setL (killsO _ ++ [(d, some _)]) σ.s i = _
    rw [setL_app]; rfl

/-! ### append -/
/-- What is appended: m elements, in the cells news. -/
def SrcOk (e : Nat) (ys : List (List PV)) (Fz : FzT) (w : World) (v : Value) (news : List Value) (F : List Nat) : Prop :=
  ∃ xa c, v = .slice xa ys.length c ∧ OwnLL e ys Fz w news F ∧ (∀ ad, xa = some ad → ∀ j u, news[j]? = some u → w.cell? (ad.add j) = some u) ∧ (xa = none → ys = [])
theorem src_own {t e : Nat} {ys : List (List PV)} {v : Value} {F : List Nat} (h : SlOwn t e ys Fz w v F) : ∃ news F', SrcOk e ys Fz w v news F' ∧ (∀ b, b ∈ F' → b ∈ F) ∧ (F.Nodup → F'.Nodup) := by
  obtain ⟨css, F', ho, hl, hf, rfl, _⟩ := h
  refine ⟨css, F', ?_, fun b hb => by simp [hb], fun hn => (List.nodup_append.1 hn).2.1⟩
  rcases ho.2 with ⟨rfl, hn⟩ | ⟨g, cap, cur, rfl, _⟩
  · have he : ys = [] := List.eq_nil_of_length_eq_zero hn
    subst he
    exact ⟨none, 0, rfl, hl, fun ad h => by simp at h, fun _ => rfl⟩
  · exact ⟨some ⟨g, 0, none⟩, cap, rfl, hl, fun ad had j u hu => by injection had with had; subst had; exact ho.cells (g := g) rfl j u hu, fun h => by simp at h⟩
theorem src_bor {e : Nat} {ys : List (List PV)} {v : Value} (he : 0 < e) (h : SlRel ys Fz w v) (hlen : ∀ cs, cs ∈ ys → cs.length = e) (hb : ∀ cs, cs ∈ ys → BorL cs) : ∃ news, SrcOk e ys Fz w v news [] := by
  obtain ⟨xa, c, e', u, rfl, h1, h2, h3, h4, h5⟩ := h
  refine ⟨(List.range (ys.length * e)).map fun q => u (q / e) (q % e), xa, c, rfl, OwnLL.of_bor (by simp) hlen ?_, ?_, ?_⟩
  · intro i cs j p v hi hj hv
    have hi' : i < ys.length := (List.getElem?_eq_some_iff.1 hi).1
    have hcs := hlen cs (List.mem_of_getElem? hi)
    have hj' : j < e := by rw [← hcs]; exact (List.getElem?_eq_some_iff.1 hj).1
    have hlt : i * e + j < ys.length * e := by
      have : (i + 1) * e ≤ ys.length * e := Nat.mul_le_mul_right _ hi'
      rw [Nat.succ_mul] at this; omega
    simp [hlt] at hv
    rw [show (i * e + j) / e = i by rw [Nat.mul_comm, Nat.mul_add_div he, Nat.div_eq_of_lt hj', Nat.add_zero], Nat.mod_eq_of_lt hj'] at hv
    subst hv
    exact (hb cs (List.mem_of_getElem? hi)) p (List.mem_of_getElem? hj) (h5 i cs j p hi hj)
  · intro ad had q x hx
    have hq : q < ys.length * e := by have := (List.getElem?_eq_some_iff.1 hx).1; simpa using this
    simp [hq] at hx
    subst hx
    have hdiv : q / e < ys.length := (Nat.div_lt_iff_lt_mul he).2 hq
    rcases h4 with h4 | ⟨b, off, rfl, h4⟩
    · rw [h4] at hq; simp at hq
    · injection had with had
      subst had
      have hee : e' = e := by
        have h0 : ys[q / e]? = some ys[q / e] := List.getElem?_eq_getElem hdiv
        rw [← h3 _ (List.mem_of_getElem? h0)]; exact hlen _ (List.mem_of_getElem? h0)
      subst hee
      have := (h4 (q / e') (q % e') hdiv (Nat.mod_lt _ he)).2
      rw [add_lit]
      rw [Nat.mul_comm, Nat.div_add_mod] at this
      exact this
  · intro hx
    rcases h4 with h4 | ⟨b, off, h4, _⟩
    · exact h4
    · rw [hx] at h4; cases h4

theorem oneB_new {w : World} {arr : Array Value} {E m c : Nat} (h : ∀ x, x ∈ arr.toList → x.oneCell' = true) : OneB (w.alloc (.cells arr E)) (.slice (some ⟨w.heap.size, 0, none⟩) m c) := by
  intro g hg cur t' o hc x hx
  simp [Value.ownBlock] at hg
  subst hg
  rw [heap_alloc_new] at hc
  simp only [Option.some.injEq, Obj.cells.injEq] at hc
  rw [← hc.1] at hx
  exact h x hx
theorem one_zeroCells {z : Array Value} {m : Nat} (h : (z.toList.all (·.oneCell')) = true) : ∀ x, x ∈ (Builtin.zeroCells z m).toList → x.oneCell' = true := by
  intro x hx
  unfold Builtin.zeroCells at hx
  rw [List.all_eq_true] at h
  simp only [Array.toList_map, Array.toList_range, List.mem_map, List.mem_range] at hx
  obtain ⟨i, hi, rfl⟩ := hx
  have hz : 0 < z.size := by
    rcases Nat.eq_zero_or_pos z.size with h0 | h0
    · rw [h0] at hi; simp at hi
    · exact h0
  have hlt : i % z.size < z.size := Nat.mod_lt _ hz
  rw [getElem!_pos z (i % z.size) hlt]
  exact h _ (by simp)
theorem run_app {t ty E e bs : Nat} {z : Value} {v x : Value} {k : Nat} {xs news : List Value} {ys : List (List PV)} {F : List Nat} (hT : sliceI P t = some (E, e, bs)) (hz : zeroI P E = some z) (hzs : z.cells.size = e) (he : 0 < e)
    (hown : w.ownsRow 0 E e v k xs) (hob : OneB w v) (hoz : (z.cells.toList.all (·.oneCell')) = true) (hs : SrcOk e ys Fz w x news F) (h63 : k + ys.length ≤ 9223372036854775807) (hbytes : (k + ys.length) * bs ≤ 140737488355328) :
    ∃ v' w', (Builtin.append_ #[t, t] ty #[v, x]).run P w = .ok v' w' ∧ w'.ownsRow 0 E e v' (k + ys.length) (xs ++ news) ∧ w'.os = w.os ∧ w'.tape = w.tape ∧ w'.output = w.output ∧ w.heap.size ≤ w'.heap.size ∧
      ((v'.ownBlock = v.ownBlock ∧ ∀ b, b < w.heap.size → some b ≠ v.ownBlock → w'.heap[b]? = w.heap[b]?) ∨ (v'.ownBlock = some w.heap.size ∧ ∀ b, b < w.heap.size → w'.heap[b]? = w.heap[b]?)) ∧ OneB w' v' := by
  obtain ⟨hu, i, hi, hsize, hby⟩ := sliceI_spec hT
  obtain ⟨xa, c, rfl, hl, hcell, hnone⟩ := hs
  have hz' : i.zero = some z := by
    unfold zeroI at hz
    rw [hi, Option.bind_some] at hz; exact hz
  have hnl := hl.len
  have h1 := hl.one
  cases xa with
  | none =>
    have hy := hnone rfl
    subst hy
    have hn0 : news = [] := List.eq_nil_of_length_eq_zero (by simpa using hnl)
    subst hn0
    refine ⟨v, w, ?_, by simpa using hown, rfl, rfl, rfl, Nat.le_refl _, ⟨.inl ⟨rfl, fun _ _ _ => rfl⟩, hob⟩⟩
    rcases hown.2 with ⟨rfl, rfl⟩ | ⟨g, cap, cur, rfl, _, _, hnc, _⟩
    · simp [Builtin.append_, run_underlying hu, sizeOf, typeInfo, hi, Builtin.lenOf, Builtin.firstCells]
    · simp [Builtin.append_, run_underlying hu, sizeOf, typeInfo, hi, Builtin.lenOf, Builtin.firstCells, hnc, storeCells]
  | some ad =>
    have hc := hcell ad rfl
    subst hsize
    subst hby
    rcases hown.2 with ⟨rfl, rfl⟩ | ⟨g, cap, cur, rfl, hbg, hg, hnc, hcm, hcs, htake⟩
    · have hx : xs = [] := List.eq_nil_of_length_eq_zero (by simpa using hown.1)
      subst hx
      by_cases hm : ys.length = 0
      · have hn0 : news = [] := List.eq_nil_of_length_eq_zero (by rw [hnl, hm]; simp)
        subst hn0
        refine ⟨.slice none 0 0, w, ?_, ?_, rfl, rfl, rfl, Nat.le_refl _, ⟨.inl ⟨rfl, fun _ _ _ => rfl⟩, hob⟩⟩
        · rw [hm]
          simp [Builtin.append_, run_underlying hu, sizeOf, typeInfo, hi, Builtin.lenOf, Builtin.firstCells, loadCells, loadCellsFrom]
        · rw [hm]; exact World.ownsRow_nil w 0 E i.size
      · have hr := run_append_nil (P := P) w t ty E i z hu hi hz' ad ys.length c news hnl hc (by omega) (by omega) (by rw [Nat.zero_add] at hbytes; omega)
        have hge := grownCap_ge w ys.length 0 E
        refine ⟨_, _, hr, ⟨by rw [List.nil_append, Nat.zero_add]; exact hnl, .inr ⟨w.heap.size, _, _, by rw [Nat.zero_add], Nat.zero_le _, heap_alloc_new w.drew _, by rw [Nat.zero_add]; exact hge, grownCap_le_maxLen w ys.length 0 E (by show _ ≤ 9223372036854775807; omega), ?_, ?_⟩⟩, rfl, rfl, rfl, by simp, ⟨.inr ⟨rfl, fun b hb => Below.heap_alloc w.drew _ b hb⟩, oneB_new (w := w.drew) fun x hx => by
          rw [Array.toList_append, List.mem_append] at hx
          rcases hx with hx | hx
          · exact h1 x hx
          · exact one_zeroCells hoz x hx⟩⟩
        · rw [Array.size_append, size_zeroCells, hzs]
          simp only [List.size_toArray, hnl]
          rw [← Nat.add_mul]; congr 1; omega
        · rw [Nat.zero_add, List.nil_append, Array.toList_append, ← hnl]
          simp
    · by_cases hroom : k + ys.length ≤ cap
      · have hfit : k * i.size + news.length ≤ cur.size := by rw [hnl, hcs, ← Nat.add_mul]; exact Nat.mul_le_mul_right _ hroom
        have hr := run_append_room (P := P) w t ty E i hu hi g k cap cur hg ad ys.length c news hnl hc h1 hroom hfit
        have hlen : (xs ++ news).length = (k + ys.length) * i.size := by rw [List.length_append, hown.1, hnl, Nat.add_mul]
        refine ⟨_, _, hr, ⟨hlen, .inr ⟨g, cap, _, rfl, hbg, setRow_heap w g cur _ E _ hg, hroom, hcm, ?_, ?_⟩⟩, rfl, rfl, rfl, by simp, ⟨.inl ⟨rfl, fun b _ hne => setRow_other w g b _ fun e => hne (by simp [Value.ownBlock, e])⟩, fun g' hg' cur' t' o' hc' x hx => by
          simp [Value.ownBlock] at hg'
          subst hg'
          rw [setRow_heap w g cur _ E _ hg] at hc'
          simp only [Option.some.injEq, Obj.cells.injEq] at hc'
          rw [← hc'.1] at hx
          simp only [List.mem_append] at hx
          have hold := hob g rfl cur E (0, 0) hg
          rcases hx with (hx | hx) | hx
          · exact hold x (List.mem_of_mem_take hx)
          · exact h1 x hx
          · exact hold x (List.mem_of_mem_drop hx)⟩⟩
        · simp only [List.size_toArray, List.length_append, List.length_take, List.length_drop, Array.length_toList]; omega
        · rw [htake, ← hlen]; exact List.take_left
      · have holds : ∀ j u, xs[j]? = some u → w.cell? ((⟨g, 0, none⟩ : Addr).add j) = some u := hown.cells (g := g) rfl
        have hr := run_append_grow (P := P) w t ty E i z hu hi hz' ⟨g, 0, none⟩ k cap xs hown.1 holds ad ys.length c news hnl hc (by omega) (by omega) (growslice_fits (by omega) hbytes)
        have hge := grownCap_ge w (k + ys.length) cap E
        have hlen : (xs ++ news).length = (k + ys.length) * i.size := by rw [List.length_append, hown.1, hnl, Nat.add_mul]
        refine ⟨_, _, hr, ⟨hlen, .inr ⟨w.heap.size, _, _, rfl, Nat.zero_le _, heap_alloc_new w.drew _, hge, grownCap_le_maxLen w (k + ys.length) cap E h63, ?_, ?_⟩⟩, rfl, rfl, rfl, by simp, ⟨.inr ⟨rfl, fun b hb => Below.heap_alloc w.drew _ b hb⟩, oneB_new (w := w.drew) fun x hx => by
          simp only [Array.toList_append, List.mem_append] at hx
          rcases hx with (hx | hx) | hx
          · rw [← htake] at hx
            exact hob g rfl cur E (0, 0) hg x (List.mem_of_mem_take hx)
          · exact h1 x hx
          · exact one_zeroCells hoz x hx⟩⟩
        · simp only [Array.size_append, List.size_toArray, size_zeroCells, hzs, hown.1, hnl, ← Nat.add_mul]; congr 1; omega
        · simp only [Array.toList_append, List.append_assoc]
          rw [← List.append_assoc, ← hlen]; exact List.take_left

/-- The base and what is appended float; the result is the base's again. -/
theorem app_core {t ty E e bs d : Nat} {z : Value} {v x : Value} {es ys : List (List PV)} {news : List Value} {Fs Fx : List Nat} (hd : d < n) (hT : sliceI P t = some (E, e, bs)) (hz : zeroI P E = some z) (hoz : (z.cells.toList.all (·.oneCell')) = true) (hzs : z.cells.size = e) (he : 0 < e)
    (hc : ConcW h0 w0 Fz0 n σ a w φ Fz Fp) (hv : SlOwn E e es Fz w v Fs) (hx : SrcOk e ys Fz w x news Fx) (hsub : ∀ b, b ∈ Fs ++ Fx → b ∈ Fp 0) (hnd : (Fs ++ Fx).Nodup)
    (h63 : es.length + ys.length ≤ 9223372036854775807) (hbytes : (es.length + ys.length) * bs ≤ 140737488355328) :
    ∃ v' w', (Builtin.append_ #[t, t] ty #[v, x]).run P w = .ok v' w' ∧ Conc h0 w0 Fz0 n (σ.set d (some (RV.slc (.own E e) (es ++ ys)))) (a.put (some d) v') w' := by
  obtain ⟨css, F', ho, hl, hf, rfl, hob⟩ := hv
  obtain ⟨v', w', hr, ho', k1, k2, k3, k4, k5, k6⟩ := run_app (ty := ty) hT hz hzs he ho hob hoz hx h63 hbytes
  obtain ⟨xa, c, rfl, hly, _, _⟩ := hx
  refine ⟨v', w', hr, ?_⟩
  have hcl := hl.len
  have hyl := hly.len
  have hlt' : ∀ g, v'.ownBlock = some g → g < w'.heap.size := fun g hg => (ho'.lt g hg).2
  have hlow : ∀ b, b ∈ v.ownBlock.toList ++ F' ++ Fx → b < w.heap.size := fun b hb => (hc.low 0 b (hsub b hb)).2
  simp only [List.nodup_append, List.mem_append] at hnd
  obtain ⟨⟨m1, m2, m12⟩, m3, m13⟩ := hnd
  generalize hFz' : (fun (b o : Nat) => Fz b o ∨ (v'.ownBlock = some b ∧ o < (es.length + ys.length) * e)) = Fz'
  have hFin : ∀ b o, Fz' b o ↔ (Fz b o ∨ (v'.ownBlock = some b ∧ o < (es.length + ys.length) * e)) := fun b o => by rw [← hFz']
  have hcellk : ∀ g, v'.ownBlock = some g → ∀ o, o < (es.length + ys.length) * e → w'.cell? ⟨g, o, none⟩ = (css ++ news)[o]? := by
    intro g hg o hog
    rcases ho'.2 with ⟨rfl, _⟩ | ⟨g', cap, cur, rfl, _, hgg, _, _, _, htk⟩
    · simp [Value.ownBlock] at hg
    · simp [Value.ownBlock] at hg
      subst hg
      rw [cell_of_row w' g' o cur E (0, 0) hgg, ← htk, List.getElem?_take_of_lt hog]; simp
  have hcello : ∀ g, v.ownBlock = some g → ∀ o, o < es.length * e → w.cell? ⟨g, o, none⟩ = css[o]? := by
    intro g hg o hog
    rcases ho.2 with ⟨rfl, _⟩ | ⟨g', cap, cur, rfl, _, hgg, _, _, _, htk⟩
    · simp [Value.ownBlock] at hg
    · simp [Value.ownBlock] at hg
      subst hg
      rw [cell_of_row w g' o cur E (0, 0) hgg, ← htk, List.getElem?_take_of_lt hog]; simp
  have hsame : ∀ b, b < w.heap.size → v.ownBlock ≠ some b → w'.heap[b]? = w.heap[b]? ∧ v'.ownBlock ≠ some b := by
    intro b hb hne
    rcases k5 with ⟨k5, k6⟩ | ⟨k5, k6⟩
    · exact ⟨k6 b hb (fun e => hne e.symm), by rw [k5]; exact hne⟩
    · exact ⟨k6 b hb, by rw [k5]; intro e; injection e with e; omega⟩
  have hkeep : Keeps Fz w Fz' w' := by
    intro b o hbo
    refine ⟨(hFin b o).2 (.inl hbo), ?_⟩
    have hb := hc.fzl b o hbo
    by_cases hvb : v.ownBlock = some b
    · rcases k5 with ⟨k5, _⟩ | ⟨_, k6⟩
      · have ho1 := (hf b hvb o).1 hbo
        have hle : es.length * e ≤ (es.length + ys.length) * e := Nat.mul_le_mul_right _ (by omega)
        rw [hcellk b (by rw [k5]; exact hvb) o (by omega), hcello b hvb o ho1, List.getElem?_append_left (by omega)]
      · exact World.cell?_of_block (k6 b hb)
    · exact World.cell?_of_block (hsame b hb hvb).1
  have hholds : ∀ G : List Nat, (∀ b, b ∈ G → b < w.heap.size ∧ v.ownBlock ≠ some b) → Holds G Fz w Fz' w' := by
    intro G hG b hb
    obtain ⟨g1, g2⟩ := hG b hb
    obtain ⟨g3, g4⟩ := hsame b g1 g2
    refine ⟨g3, fun o ho => ?_⟩
    rcases (hFin b o).1 ho with ho | ⟨ho, _⟩
    · exact ho
    · exact absurd ho g4
  have hnewm : ∀ g, v'.ownBlock = some g → v.ownBlock = some g ∨ g = w.heap.size := by
    intro g hg
    rcases k5 with ⟨k5, _⟩ | ⟨k5, _⟩
    · exact .inl (by rw [← k5]; exact hg)
    · exact .inr (by rw [k5] at hg; injection hg with hg; exact hg.symm)
  have hnot : ∀ b, b ∈ F' ++ Fx → v'.ownBlock ≠ some b := by
    intro b hb hg
    rcases hnewm b hg with h | h
    · rcases List.mem_append.1 hb with hb | hb
      · exact m12 b (by simp [h]) b hb rfl
      · exact m13 b (.inl (by simp [h])) b hb rfl
    · have := hlow b (by rcases List.mem_append.1 hb with hb | hb <;> simp [hb]); omega
  have hndX : (v'.ownBlock.toList ++ (F' ++ Fx)).Nodup := by
    rw [List.nodup_append, List.nodup_append]
    refine ⟨by cases v'.ownBlock <;> simp, ⟨m2, m3, fun u hu y hy => m13 u (.inr hu) y hy⟩, fun u hu y hy e => ?_⟩
    subst e
    exact hnot u hy (by cases hvb : v'.ownBlock with | none => rw [hvb] at hu; simp at hu | some g => rw [hvb] at hu; simp at hu; rw [hu])
  have c2 := hc.world (w' := w') (Fz' := Fz') (X := v'.ownBlock.toList ++ (F' ++ Fx)) k1 k2 k3 k4
    (fun b hb hb0 => by
      have hne : v.ownBlock ≠ some b := fun h => hb0 (hsub b (by simp [h]))
      obtain ⟨g3, g4⟩ := hsame b hb hne
      refine ⟨g3, fun o ho => ?_⟩
      rcases (hFin b o).1 ho with ho | ⟨ho, _⟩
      · exact ho
      · exact absurd ho g4) hkeep
    (fun b o ho => by
      rcases (hFin b o).1 ho with ho | ⟨ho, _⟩
      · have := hc.fzl b o ho; omega
      · exact hlt' b ho)
    (fun b hb => by
      rcases List.mem_append.1 hb with hb | hb
      · cases hvb : v'.ownBlock with
        | none => rw [hvb] at hb; simp at hb
        | some g =>
          rw [hvb] at hb; simp at hb; subst hb
          rcases hnewm b hvb with h | h
          · exact .inl (hsub b (by simp [h]))
          · exact .inr ⟨by omega, hlt' b hvb⟩
      · refine .inl (hsub b ?_)
        rcases List.mem_append.1 hb with hb | hb <;> simp [hb]) hndX
  have hsl : SlOwn E e (es ++ ys) Fz' w' v' (v'.ownBlock.toList ++ (F' ++ Fx)) := by
    refine ⟨css ++ news, F' ++ Fx, by rw [List.length_append]; exact ho', ?_, ?_, rfl, k6⟩
    · refine (hl.mono hkeep (hholds F' fun b hb => ⟨hlow b (by simp [hb]), fun h => m12 b (by simp [h]) b hb rfl⟩)).append
        (hly.mono hkeep (hholds Fx fun b hb => ⟨hlow b (by simp [hb]), fun h => m13 b (.inl (by simp [h])) b hb rfl⟩))
    · intro g hg o
      rw [hFin, List.length_append]
      constructor
      · rintro (h | ⟨_, h⟩)
        · rcases hnewm g hg with hv | hv
          · have := (hf g hv o).1 h
            have hle : es.length * e ≤ (es.length + ys.length) * e := Nat.mul_le_mul_right _ (by omega)
            omega
          · have := hc.fzl g o h; omega
        · exact h
      · intro h; exact .inr ⟨hg, h⟩
  exact ⟨φ, Fz', _, c2.push (i := d) (rv := RV.slc (.own E e) (es ++ ys)) (F := v'.ownBlock.toList ++ (F' ++ Fx)) (X := []) hd (SvOwn.of_atom (p := PV.sl (.own E e) (es ++ ys)) hsl) (fun b hb => by simpa using hb) (by simpa using hndX)⟩
section
variable {t d s x E e bs : Nat} {ty : TypeId} {pos : String} {af : Array Edge} {g : Option (Nat × Bool)} {z : Value} {es ys : List (List PV)}
/-- append(s, x..), where what is appended is its own (the parts written out, mostly). -/
theorem loc_append {t2 : Nat} (hd : d < n) (hT : sliceI P t = some (E, e, bs)) (hz : zeroI P E = some z) (hoz : (z.cells.toList.all (·.oneCell')) = true) (hzs : z.cells.size = e) (he : 0 < e) (hsx : Nat.beq s x = false) (h63 : es.length + ys.length ≤ 9223372036854775807) (hbytes : (es.length + ys.length) * bs ≤ 140737488355328) :
    Loc P n ⟨some d, .call { callee := .builtin .append, args := #[.tmp s, .tmp x], argTypes := #[t, t] }, ty, pos, af, g⟩ ⟨[(s, RV.slc (.own E e) es), (x, RV.slc (.own t2 e) ys)], [], [(s, none), (x, none), (d, some (RV.slc (.own E e) (es ++ ys)))], [], none⟩ := by
  intro h0 w0 Fz0 σ a w K Q hc hr _ _ h5
  obtain ⟨φ, Fz, Fp, hc⟩ := hc
  rw [beq_eq, decide_eq_false_iff_not] at hsx
  have hv := SvOwn.atom (hc.slot s _ hr.1)
  have hx := SvOwn.atom (hc.slot x _ hr.2.1)
  have c1 := hc.pull s
  have c2 := c1.pull x
  obtain ⟨news, F', h1, h2, h3⟩ := src_own hx
  have e0 : mv (mv Fp (2 * s + 1)) (2 * x + 1) 0 = Fp (2 * x + 1) ++ (Fp (2 * s + 1) ++ Fp 0) := by
    simp only [mv, if_true]
    rw [if_neg (by omega), if_neg (by omega)]
  have hnd := c2.nod 0
  rw [e0] at hnd
  simp only [List.nodup_append, List.mem_append] at hnd
  obtain ⟨v', w', hr', k⟩ := app_core (ty := ty) (d := d) hd hT hz hoz hzs he c2 hv h1 (fun b hb => by
      rw [e0]
      rcases List.mem_append.1 hb with hb | hb
      · simp [hb]
      · simp [h2 b hb]) (by
      rw [List.nodup_append]
      exact ⟨hnd.2.1.1, h3 hnd.1, fun u hu y hy e => hnd.2.2 y (h2 y hy) u (.inl hu) e.symm⟩) h63 hbytes
  refine wp_val (v := v') (w' := w') ?_ (h5 _ _ (Conc.eqv k (fun i => rfl) (fun e => rfl)))
  have es' : a.eval (.tmp s) = a.tmps.getD s undef := rfl
  have ex' : a.eval (.tmp x) = a.tmps.getD x undef := rfl
  unfold execOp
  simp only [resolve, invoke, builtin, Sem.run_bind, Sem.run_pure, Result.andThen_ok, List.map_toArray, List.map_cons, List.map_nil, es', ex', hr']
/-- append(s, x..), where what is appended is read only. -/
theorem loc_appendb {o : Fl} (hd : d < n) (hT : sliceI P t = some (E, e, bs)) (hz : zeroI P E = some z) (hoz : (z.cells.toList.all (·.oneCell')) = true) (hzs : z.cells.size = e) (he : 0 < e) (hlen : ∀ cs, cs ∈ ys → cs.length = e) (hb : ∀ cs, cs ∈ ys → BorL cs)
    (h63 : es.length + ys.length ≤ 9223372036854775807) (hbytes : (es.length + ys.length) * bs ≤ 140737488355328) :
    Loc P n ⟨some d, .call { callee := .builtin .append, args := #[.tmp s, .tmp x], argTypes := #[t, t] }, ty, pos, af, g⟩ ⟨[(s, RV.slc (.own E e) es), (x, RV.slc o ys)], [], [(s, none), (d, some (RV.slc (.own E e) (es ++ ys)))], [], none⟩ := by
  intro h0 w0 Fz0 σ a w K Q hc hr _ _ h5
  obtain ⟨φ, Fz, Fp, hc⟩ := hc
  have hv := SvOwn.atom (hc.slot s _ hr.1)
  have hx := hc.slrel hr.2.1
  have c1 := hc.pull s
  obtain ⟨news, h1⟩ := src_bor he hx hlen hb
  have e0 : mv Fp (2 * s + 1) 0 = Fp (2 * s + 1) ++ Fp 0 := by simp [mv]
  have hnd := c1.nod 0
  rw [e0] at hnd
  obtain ⟨v', w', hr', k⟩ := app_core (ty := ty) (d := d) hd hT hz hoz hzs he c1 hv h1 (fun b hb => by
      rw [e0]
      rw [List.append_nil] at hb
      simp [hb]) (by rw [List.append_nil]; exact (List.nodup_append.1 hnd).1) h63 hbytes
  refine wp_val (v := v') (w' := w') ?_ (h5 _ _ (Conc.eqv k (fun i => rfl) (fun e => rfl)))
  have es' : a.eval (.tmp s) = a.tmps.getD s undef := rfl
  have ex' : a.eval (.tmp x) = a.tmps.getD x undef := rfl
  unfold execOp
  simp only [resolve, invoke, builtin, Sem.run_bind, Sem.run_pure, Result.andThen_ok, List.map_toArray, List.map_cons, List.map_nil, es', ex', hr']
end
end
end Go.Proofs.Ytloipjaiceifbaa.M
