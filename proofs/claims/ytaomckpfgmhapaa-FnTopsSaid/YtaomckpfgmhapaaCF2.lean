/- Arrays whose elements are lent by name; calls that turn them. No condition. -/
import Derived.Test.YtaomckpfgmhapaaCF1
import Derived.Laws.Strings3
import Derived.Laws.BytesString
import Derived.Laws.Concat
import Derived.Lib.LaidTab
import Derived.Lib.Join
import Derived.Lib.ItoaNum
import Derived.Lib.ItoaLen
import Derived.Sort.Grow
import Derived.Deep.Draws
set_option linter.unusedVariables false
namespace Go.Proofs.Ytaomckpfgmhapaa.M
open Go Go.RowKit
def nvL : List Value → List PV → List PV
  | u :: us, p :: ps => PV.nv u p :: nvL us ps
  | _, _ => []
theorem own_nvL {Fz : FzT} {w : World} : ∀ {ps : List PV} {us : List Value}, BorL ps → RelL ps Fz w us → OwnL (nvL us ps) Fz w us []
  | [], us, _, h => by
    have h : us = [] := h
    subst h; exact ⟨rfl, rfl⟩
  | p :: ps, us, hb, h => by
    obtain ⟨v, vs, rfl, h1, h2⟩ := h
    exact ⟨v, vs, [], [], rfl, rfl, ⟨rfl, hb p (by simp) h1⟩, own_nvL (fun q hq => hb q (by simp [hq])) h2⟩
def nvI (h : Nat → Value) : Nat → List PV → List PV
  | _, [] => []
  | i, p :: ps => PV.nv (h i) p :: nvI h (i + 1) ps
theorem nvI_eq (h : Nat → Value) : ∀ (ps : List PV) (i : Nat), nvI h i ps = nvL ((List.range' i ps.length).map h) ps
  | [], i => rfl
  | p :: ps, i => by rw [nvI, nvI_eq h ps (i + 1)]; rfl
def valsE {α : Type} (e : Nat) (zs : List (α × (Nat → Value))) : List Value := (zs.map fun z => (List.range e).map z.2).flatten
def flatM {α : Type} (f : α → List PV) (zs : List (α × (Nat → Value))) : List PV := (zs.map fun z => f z.1).flatten
theorem nvL_app : ∀ {us vs : List Value} {ps qs : List PV}, us.length = ps.length → nvL (us ++ vs) (ps ++ qs) = nvL us ps ++ nvL vs qs
  | [], vs, [], qs, _ => rfl
  | u :: us, vs, p :: ps, qs, h => by
    simp only [List.cons_append, nvL]
    rw [nvL_app (by simpa using h)]
theorem chunk_fn {e : Nat} {us : List Value} (h : us.length = e) : ∃ k : Nat → Value, us = (List.range e).map k := by
  refine ⟨fun i => us.getD i undef, ?_⟩
  subst h
  apply List.ext_getElem
  · simp
  · intro i h1 h2
    simp [h1]
theorem nv_names {α : Type} {g : α → List PV} {fN : α × (Nat → Value) → List PV} {e : Nat} (hN : ∀ x h, fN (x, h) = nvI h 0 (g x)) (hg : ∀ x, (g x).length = e) (jk : List PV) : ∀ (xs : List α) (us : List Value), us.length = xs.length * e + jk.length →
    ∃ (zs : List (α × (Nat → Value))) (vs : List Value), zs.map Prod.fst = xs ∧ us = valsE e zs ++ vs ∧ vs.length = jk.length ∧ nvL us ((xs.map g).flatten ++ jk) = (zs.map fN).flatten ++ nvL vs jk
  | [], us, h => ⟨[], us, rfl, rfl, by simpa using h, rfl⟩
  | x :: xs, us, h => by
    have hs : (x :: xs).length * e = e + xs.length * e := by rw [List.length_cons, Nat.succ_mul]; omega
    obtain ⟨k, hk⟩ := chunk_fn (e := e) (us := us.take e) (by rw [List.length_take]; omega)
    obtain ⟨zs, vs, e1, e2, e3, e4⟩ := nv_names hN hg jk xs (us.drop e) (by rw [List.length_drop]; omega)
    refine ⟨(x, k) :: zs, vs, by rw [List.map_cons, e1], ?_, e3, ?_⟩
    · rw [← List.take_append_drop e us, hk, e2]
      simp [valsE, List.append_assoc]
    · rw [← List.take_append_drop e us]
      have : ((x :: xs).map g).flatten ++ jk = g x ++ ((xs.map g).flatten ++ jk) := by simp
      rw [this, nvL_app (by rw [hg, List.length_take]; omega), e4, hk]
      simp only [List.map_cons, List.flatten_cons, List.append_assoc]
      rw [hN, nvI_eq, hg, List.range_eq_range']
theorem to_flat {α : Type} {f g : α → List PV} (h : ∀ x, ToL (f x) (g x)) : ∀ (xs : List α) {js : List PV}, ToL ((xs.map f).flatten ++ js) ((xs.map g).flatten ++ js)
  | [], js => ToL.refl js
  | x :: xs, js => by
    have k : ∀ {ps qs rs ss : List PV}, ToL ps qs → ToL rs ss → ToL (ps ++ rs) (qs ++ ss) := by
      intro ps
      induction ps with
      | nil => intro qs rs ss h1 h2; cases qs with
        | nil => exact h2
        | cons q qs => exact h1.elim
      | cons p ps ih => intro qs rs ss h1 h2; cases qs with
        | nil => exact h1.elim
        | cons q qs => exact ⟨h1.1, ih h1.2 h2⟩
    simp only [List.map_cons, List.flatten_cons, List.append_assoc]
    exact k (h x) (to_flat h xs)
theorem bor_flat {α : Type} {g : α → List PV} (h : ∀ x, BorL (g x)) (xs : List α) (jk : List Value) : BorL ((xs.map g).flatten ++ jk.map PV.val) := fun p hp => by
  rcases List.mem_append.1 hp with hp | hp
  · obtain ⟨cs, hcs, hp⟩ := List.mem_flatten.1 hp
    obtain ⟨x, _, rfl⟩ := List.mem_map.1 hcs
    exact h x p hp
  · obtain ⟨v, _, rfl⟩ := List.mem_map.1 hp
    exact PV.bor_val _
theorem own_nvval {Fz : FzT} {w : World} : ∀ {jk us vs : List Value} {F : List Nat}, OwnL (nvL us (jk.map PV.val)) Fz w vs F → us.length = jk.length → OwnL (jk.map PV.val) Fz w vs F
  | [], us, vs, F, h, hl => by
    have : us = [] := List.eq_nil_of_length_eq_zero hl
    subst this; exact h
  | j :: jk, [], vs, F, h, hl => by simp at hl
  | j :: jk, u :: us, vs, F, h, hl => by
    obtain ⟨v, vs', F1, F2, rfl, rfl, h1, h2⟩ := h
    exact ⟨v, vs', F1, F2, rfl, rfl, h1.2, own_nvval h2 (by simpa using hl)⟩
theorem own_perm {α : Type} {f : α → List PV} {e : Nat} (hf : ∀ x, (f x).length = e) {Fz : FzT} {w : World} {zs ys : List (α × (Nat → Value))} (hp : zs.Perm ys) : ∀ {F : List Nat}, OwnL (flatM f zs) Fz w (valsE e zs) F → ∃ F', F.Perm F' ∧ OwnL (flatM f ys) Fz w (valsE e ys) F' := by
  have hone : ∀ {z : α × (Nat → Value)} {l : List (α × (Nat → Value))} {F : List Nat}, OwnL (flatM f (z :: l)) Fz w (valsE e (z :: l)) F → ∃ F1 F2, F = F1 ++ F2 ∧ OwnL (f z.1) Fz w ((List.range e).map z.2) F1 ∧ OwnL (flatM f l) Fz w (valsE e l) F2 := by
    intro z l F h
    have h : OwnL (f z.1 ++ flatM f l) Fz w ((List.range e).map z.2 ++ valsE e l) F := h
    obtain ⟨v1, v2, F1, F2, e1, rfl, h1, h2⟩ := h.split
    have hl : ((List.range e).map z.2).length = v1.length := by rw [h1.len, hf]; simp
    obtain ⟨rfl, rfl⟩ := List.append_inj e1 hl
    exact ⟨F1, F2, rfl, h1, h2⟩
  induction hp with
  | nil => intro F h; exact ⟨F, List.Perm.refl _, h⟩
  | cons z _ ih =>
    intro F h
    obtain ⟨F1, F2, rfl, h1, h2⟩ := hone h
    obtain ⟨F', k1, k2⟩ := ih h2
    exact ⟨F1 ++ F', List.Perm.append_left F1 k1, h1.append k2⟩
  | swap z y l =>
    intro F h
    obtain ⟨F1, F2, rfl, h1, h2⟩ := hone h
    obtain ⟨F3, F4, rfl, h3, h4⟩ := hone h2
    refine ⟨F3 ++ (F1 ++ F4), ?_, h3.append (h1.append h4)⟩
    rw [← List.append_assoc, ← List.append_assoc]
    exact List.Perm.append_right _ List.perm_append_comm
  | trans _ _ ih1 ih2 =>
    intro F h
    obtain ⟨F1, k1, h1⟩ := ih1 h
    obtain ⟨F2, k2, h2⟩ := ih2 h1
    exact ⟨F2, k1.trans k2, h2⟩
def rsI {γ : Type} (q : γ → Int) (x : γ) : RV := RV.sv false [PV.val (vI (q x))]
section
variable {P : Program} {n : Nat} {h0 : Nat → Prop} {w0 : World} {Fz0 : FzT} {σ : St} {Q : Exit → St → Prop} {c : Code} {ops : Array Oper}
/-- A call that turns an array which owns nothing. -/
theorem loc_acall0 {f d p G bx t m cp : Nat} {u : Value} {xs : List Operand} {args : Array Operand} {tys : Array TypeId} {ty : TypeId} {pos : String} {af : Array Edge} {g : Option (Nat × Bool)} {cs cs' : List PV} {qs as_ : List (Bool × List PV)} {r : RV} (hd : d < n) (hf : callI P f = true) (he : args.toList = .tmp p :: xs)
    (hok : OpsOk xs qs) (hto : ToT qs as_) (hbc : BorL cs) (hba : ∀ q, q ∈ as_ → BorL q.2) (hu : ACall P f t m cp cs cs' as_ r) :
    Loc P n ⟨some d, .call { callee := .value (.func f), args := args, argTypes := tys }, ty, pos, af, g⟩ ⟨(p, RV.sc u) :: (G, RV.gat u bx m cp) :: opsR xs qs, [(bx, (t, cs))], [(d, some r)], [(bx, some (t, cs'))], none⟩ := by
  intro h0 w0 Fz0 σ a w K Q hc hr hrb _ h5
  obtain ⟨φ, Fz, Fp, hc⟩ := hc
  obtain ⟨⟨eu, hmc, hcpx⟩, _⟩ := hc.slot G _ hr.2.1
  have hp : a.tmps.getD p undef = .slice (some ⟨φ bx, 0, none⟩) m cp := by rw [← eu]; exact (hc.one_ hr.1).1
  obtain ⟨cur, hg, ho⟩ := hc.box bx _ hrb.1
  obtain ⟨g1, g2, g3⟩ := hc.bxb bx _ hrb.1
  have hglt : φ bx < w.heap.size := (Array.getElem?_eq_some_iff.1 hg).1
  have hrel := hto.rel (hc.relT hr.2.2 hok)
  unfold Oper.wp
  rw [run_xcall hf he, hp, Oper.upon_enter]
  refine (hu w (φ bx) cur _ Fz [] [] hmc hcpx hc.fzl hg g2 (BorL.own hbc ho.rel) (RelT.bor hba hrel) (by simp)).mono ?_
  rintro e w' ⟨v, Fz', cur', F1', G, rfl, ht, hg', hf', ho', hv, hn, hin⟩
  simp only [List.append_nil, List.not_mem_nil, false_or] at hin
  refine h5 _ _ ?_
  have c1 := hc.pullB hrb.1
  have hn' := hn
  rw [List.nodup_cons, List.nodup_append] at hn'
  have c2 := c1.world (w' := w') (Fz' := Fz') (X := φ bx :: (F1' ++ G)) ht.os ht.tape ht.output ht.size (fun b hb hb0 => by
      have hbg : b ≠ φ bx := fun e => hb0 (by simp [e])
      have := ht.same b hb (fun e => hbg (Option.some.inj e)) (by simp)
      exact ⟨this.1, fun o => (this.2 o).1⟩)
    (fun b o hbo => by
      have hb := hc.fzl b o hbo
      have hbg : b ≠ φ bx := fun e => g2 o (e ▸ hbo)
      have := ht.same b hb (fun e => hbg (Option.some.inj e)) (by simp)
      exact ⟨(this.2 o).2 hbo, World.cell?_of_block this.1⟩) ht.fzl
    (fun b hb => by
      rcases List.mem_cons.1 hb with rfl | hb
      · exact .inl (by simp)
      · exact .inr (hin b hb)) hn
  have c3 := c2.pushB (d := bx) (g := φ bx) (t := t) (cs := cs') (cur := cur') (F := F1') (X := G) (by simp [St.setB_b]) hg' ho' hf' (fun b hb => by
      simp only [if_true]
      simp only [List.mem_append, List.mem_cons] at hb ⊢
      rcases hb with hb | hb | hb <;> simp [hb])
    (by
      rw [List.nodup_append, List.nodup_cons]
      refine ⟨hn'.2.1, ⟨fun h => hn'.1 (by simp [h]), hn'.2.2.1⟩, fun x hx y hy e => ?_⟩
      rcases List.mem_cons.1 hy with rfl | hy
      · exact hn'.1 (by simp [← e, hx])
      · exact hn'.2.2.2 x hx y hy e) (.inl rfl)
  have c4 := c3.push (i := d) (rv := r) (v := v) (F := G) (X := []) hd (hv _) (fun b hb => by
      simp only [give]
      rw [if_neg (by omega)]
      simpa using hb) (by simpa using hn'.2.2.1)
  exact Conc.eqv ⟨_, _, _, c4⟩ (fun i => rfl) (fun x => by
    show (bif Nat.beq x bx then some (t, cs') else σ.b x) = _
    rw [St.set_b, St.setB_b, St.setB_b, beq_eq]
    by_cases e : x = bx <;> simp [e])
theorem sw_lendN {d t G : Nat} {cs qs : List PV} (hd : σ.b d = some (t, cs)) (hG : σ.s G = none) (hq : ToL cs qs) (hb : BorL qs) (h : ∀ us : List Value, (∃ Fz w, RelL cs Fz w us) → SW P n h0 w0 Fz0 c ((σ.setB d (some (t, nvL us qs))).set G (some (RV.gh us cs))) Q) : SW P n h0 w0 Fz0 c σ Q := fun a w hc => by
  obtain ⟨φ, Fz, Fp, hc⟩ := hc
  obtain ⟨cur, h1, h2⟩ := hc.box d _ hd
  have k0 := hc.pull G
  have e0 : ∀ i rv, (σ.set G none).s i = some rv → i ≠ G ∧ σ.s i = some rv := fun i rv hi => by
    rw [St.set_s] at hi
    split at hi
    · cases hi
    · rename_i hne; exact ⟨hne, hi⟩
  have hne : mv Fp (2 * G + 1) (2 * d + 2) = Fp (2 * d + 2) := by
    simp only [mv]; rw [if_neg (by omega), if_neg (by omega)]
  have hgn : mv Fp (2 * G + 1) (2 * G + 1) = [] := by simp [mv]
  generalize hFp1 : mv Fp (2 * G + 1) = Fp1 at k0 hne hgn
  refine h cur.toList ⟨Fz, w, h2.rel⟩ a w ⟨φ, Fz, swp Fp1 (2 * d + 2) (2 * G + 1), ?_⟩
  have hsub : ∀ r b, b ∈ swp Fp1 (2 * d + 2) (2 * G + 1) r → ∃ r', b ∈ Fp1 r' := fun r b hb => by
    rcases swp_mem hb with ⟨_, k⟩ | ⟨_, _, k⟩
    · exact ⟨_, k⟩
    · exact ⟨_, k⟩
  exact { k0 with
    slot := fun i rv hi => by
      rw [St.set_s] at hi
      split at hi
      · rename_i e
        subst e
        injection hi with hi
        subst hi
        show OwnL cs Fz w cur.toList (swp Fp1 (2 * d + 2) (2 * i + 1) (2 * i + 1))
        simp only [swp, if_true]
        rw [hne]; exact h2
      · rename_i e
        have := k0.slot i rv (by rw [St.set_s, if_neg e]; exact hi)
        simp only [swp]
        rw [if_neg (by omega), if_neg (by omega)]
        exact this
    box := fun e bx he => by
      rw [St.set_b, St.setB_b] at he
      split at he
      · rename_i e'; subst e'; injection he with he; subst he
        refine ⟨cur, h1, ?_⟩
        simp only [swp]
        rw [if_neg (by omega), if_pos (by trivial)]
        exact own_nvL hb (hq.rel h2.rel)
      · rename_i e'
        obtain ⟨cur', k1, k2⟩ := k0.box e bx he
        refine ⟨cur', k1, ?_⟩
        simp only [swp]
        rw [if_neg (by omega), if_neg (by omega)]
        exact k2
    bxb := fun e bx he => by
      have : ∃ z, (σ.set G none).b e = some z := by
        rw [St.set_b, St.setB_b] at he
        split at he
        · rename_i e'; subst e'; exact ⟨_, hd⟩
        · exact ⟨_, he⟩
      obtain ⟨z, hz⟩ := this
      obtain ⟨g1, g2, g3⟩ := k0.bxb e z hz
      exact ⟨g1, g2, fun r hr => by obtain ⟨r', h'⟩ := hsub r _ hr; exact g3 r' h'⟩
    inj := fun e e' c1 c2 he he' => by
      have f : ∀ x y, ((σ.setB d (some (t, nvL cur.toList qs))).set G (some (RV.gh cur.toList cs))).b x = some y → ∃ z, (σ.set G none).b x = some z := by
        intro x y hx
        rw [St.set_b, St.setB_b] at hx
        split at hx
        · rename_i e'; subst e'; exact ⟨_, hd⟩
        · exact ⟨_, hx⟩
      obtain ⟨z1, f1⟩ := f _ _ he
      obtain ⟨z2, f2⟩ := f _ _ he'
      exact k0.inj e e' z1 z2 f1 f2
    dis := swp_dis k0.dis
    nod := swp_nod k0.nod
    low := fun r b hb => by obtain ⟨r', h'⟩ := hsub r b hb; exact k0.low r' b h' }
/-- The elements of an array are lent, by name. -/
theorem sw_lendA {d t G e : Nat} {α : Type} {f g : α → List PV} {fN : α × (Nat → Value) → List PV} {xs : List α} {jk : List Value} (hd : σ.b d = some (t, arr f xs jk)) (hG : σ.s G = none) (hN : ∀ x h, fN (x, h) = nvI h 0 (g x)) (hg : ∀ x, (g x).length = e) (hq : ∀ x, ToL (f x) (g x)) (hb : ∀ x, BorL (g x))
    (h : ∀ zs : List (α × (Nat → Value)), zs.map Prod.fst = xs → SW P n h0 w0 Fz0 c ((σ.setB d (some (t, arr fN zs jk))).set G (some (RV.gh (valsE e zs) (flatM f zs)))) Q) : SW P n h0 w0 Fz0 c σ Q := by
  refine sw_lendN hd hG (to_flat hq xs) (bor_flat hb xs jk) fun us hus => ?_
  intro a w hc
  have hfl : ∀ x, (f x).length = e := fun x => by rw [(hq x).len]; exact hg x
  have hlen : us.length = xs.length * e + (jk.map PV.val).length := by
    obtain ⟨_, _, hr⟩ := hus
    rw [hr.len]; unfold arr
    rw [List.length_append, flatten_len (e := e) (fun cs hcs => by obtain ⟨x, _, rfl⟩ := List.mem_map.1 hcs; exact hfl x), List.length_map]
  obtain ⟨zs, vs, e1, e2, e3, e4⟩ := nv_names hN hg (jk.map PV.val) xs us hlen
  have hvl : (valsE e zs).length = (flatM f zs).length := by
    unfold valsE flatM
    rw [flatten_len (e := e) (fun cs hcs => by obtain ⟨x, _, rfl⟩ := List.mem_map.1 hcs; exact hfl x.1)]
    have : ∀ l : List (α × (Nat → Value)), (l.map fun z => (List.range e).map z.2).flatten.length = l.length * e := by
      intro l; induction l with
      | nil => simp
      | cons z l ih => rw [List.map_cons, List.flatten_cons, List.length_append, ih, List.length_cons, Nat.succ_mul]; simp; omega
    rw [this, List.length_map]
  have hfm : flatM f zs = (xs.map f).flatten := by unfold flatM; rw [← e1, List.map_map]; rfl
  refine h zs e1 a w ?_
  obtain ⟨φ, Fz, Fp, hc⟩ := hc
  refine ⟨φ, Fz, Fp, { hc with slot := fun i rv hi => ?_, box := fun b bx hb' => ?_, bxb := fun b bx hb' => ?_, inj := fun b b' c1 c2 hb1 hb2 => ?_ }⟩
  · rw [St.set_s] at hi
    split at hi
    · rename_i hiG
      injection hi with hi
      subst hi
      have := hc.slot i _ (by rw [St.set_s, if_pos hiG])
      have this : OwnL (arr f xs jk) Fz w us (Fp (2 * i + 1)) := this
      unfold arr at this
      rw [e2] at this
      obtain ⟨v1, v2, F1, F2, k1, k2, k3, k4⟩ := this.split
      have hF2 : F2 = [] := by
        have : ∀ (jk : List Value) (v2 : List Value) (G2 : List Nat), OwnL (jk.map PV.val) Fz w v2 G2 → G2 = [] := by
          intro jk
          induction jk with
          | nil => intro v2 G2 h; exact h.2
          | cons j jk ih =>
            intro v2 G2 h
            obtain ⟨v, vs', F1, F2, _, rfl, h1, h2⟩ := h
            rw [ih _ _ h2, h1.2]; rfl
        exact this _ _ _ k4
      obtain ⟨rfl, rfl⟩ := List.append_inj k1 (by rw [hvl, k3.len, hfm])
      show OwnL (flatM f zs) Fz w (valsE e zs) (Fp (2 * i + 1))
      rw [k2, hF2, List.append_nil, hfm]; exact k3
    · rename_i hiG
      exact hc.slot i rv (by rw [St.set_s, if_neg hiG]; exact hi)
  · rw [St.set_b, St.setB_b] at hb'
    split at hb'
    · rename_i hbd
      injection hb' with hb'
      subst hb'
      obtain ⟨cur, k1, k2⟩ := hc.box b (t, nvL us ((xs.map g).flatten ++ jk.map PV.val)) (by rw [St.set_b, St.setB_b, if_pos hbd])
      refine ⟨cur, k1, ?_⟩
      have k2 : OwnL (nvL us ((xs.map g).flatten ++ jk.map PV.val)) Fz w cur.toList (Fp (2 * b + 2)) := k2
      rw [e4] at k2
      obtain ⟨v1, v2, F1, F2, q1, q2, q3, q4⟩ := k2.split
      rw [q1, q2]
      exact q3.append (own_nvval q4 (by rw [e3, List.length_map]))
    · rename_i hbd
      exact hc.box b bx (by rw [St.set_b, St.setB_b, if_neg hbd]; exact hb')
  · have : ∃ z, ((σ.setB d (some (t, nvL us ((xs.map g).flatten ++ jk.map PV.val)))).set G (some (RV.gh us (arr f xs jk)))).b b = some z := by
      rw [St.set_b, St.setB_b] at hb' ⊢
      split at hb'
      · rename_i hbd; rw [if_pos hbd]; exact ⟨_, rfl⟩
      · rename_i hbd; rw [if_neg hbd]; exact ⟨_, hb'⟩
    obtain ⟨z, hz⟩ := this
    exact hc.bxb b z hz
  · have : ∀ x y, ((σ.setB d (some (t, arr fN zs jk))).set G (some (RV.gh (valsE e zs) (flatM f zs)))).b x = some y → ∃ z, ((σ.setB d (some (t, nvL us ((xs.map g).flatten ++ jk.map PV.val)))).set G (some (RV.gh us (arr f xs jk)))).b x = some z := by
      intro x y hx
      rw [St.set_b, St.setB_b] at hx ⊢
      split at hx
      · rename_i hbd; rw [if_pos hbd]; exact ⟨_, rfl⟩
      · rename_i hbd; rw [if_neg hbd]; exact ⟨_, hx⟩
    obtain ⟨z1, f1⟩ := this _ _ hb1
    obtain ⟨z2, f2⟩ := this _ _ hb2
    exact hc.inj b b' z1 z2 f1 f2
theorem rel_names {α : Type} {g : α → List PV} {fN : α × (Nat → Value) → List PV} {e : Nat} (hN : ∀ x h, fN (x, h) = nvI h 0 (g x)) (hg : ∀ x, (g x).length = e) {Fz : FzT} {w : World} : ∀ {zs : List (α × (Nat → Value))} {js : List PV} {us : List Value}, RelL ((zs.map fN).flatten ++ js) Fz w us → ∃ vs, us = valsE e zs ++ vs ∧ RelL js Fz w vs
  | [], js, us, h => ⟨us, rfl, h⟩
  | z :: zs, js, us, h => by
    have hk : ∀ (ps : List PV) (i : Nat) (k : Nat → Value) (vs : List Value), RelL (nvI k i ps) Fz w vs → vs = (List.range' i ps.length).map k := by
      intro ps
      induction ps with
      | nil => intro i k vs h; exact h
      | cons p ps ih =>
        intro i k vs h
        obtain ⟨v, vs', rfl, h1, h2⟩ := h
        rw [ih _ _ _ h2, h1.1]; rfl
    simp only [List.map_cons, List.flatten_cons, List.append_assoc] at h
    obtain ⟨v1, v2, rfl, h1, h2⟩ := h.split
    obtain ⟨vs, rfl, h3⟩ := rel_names hN hg h2
    obtain ⟨x, k⟩ := z
    rw [hN] at h1
    have := hk _ _ _ _ h1
    rw [hg] at this
    refine ⟨vs, ?_, h3⟩
    rw [this]
    simp [valsE, List.range_eq_range']
/-- They come back, in another order. -/
theorem sw_backA {d t G e : Nat} {α : Type} {f g : α → List PV} {fN : α × (Nat → Value) → List PV} {zs ys : List (α × (Nat → Value))} {jk : List Value} (hd : σ.b d = some (t, arr fN ys jk)) (hG : σ.s G = some (RV.gh (valsE e zs) (flatM f zs))) (hN : ∀ x h, fN (x, h) = nvI h 0 (g x)) (hg : ∀ x, (g x).length = e) (hf : ∀ x, (f x).length = e) (hp : ys.Perm zs)
    (h : SW P n h0 w0 Fz0 c ((σ.set G none).setB d (some (t, arr f (ys.map Prod.fst) jk))) Q) : SW P n h0 w0 Fz0 c σ Q := fun a w hc => by
  obtain ⟨φ, Fz, Fp, hc⟩ := hc
  have hg0 : OwnL (flatM f zs) Fz w (valsE e zs) (Fp (2 * G + 1)) := hc.slot G _ hG
  obtain ⟨F', hpF, hown⟩ := own_perm hf hp.symm hg0
  have c1 := hc.pull G
  have e0 : mv Fp (2 * G + 1) 0 = Fp (2 * G + 1) ++ Fp 0 := by simp [mv]
  obtain ⟨cur, h1, h2⟩ := c1.box d (t, arr fN ys jk) hd
  obtain ⟨g1, g2, g3⟩ := c1.bxb d (t, arr fN ys jk) hd
  obtain ⟨vs, hu, hvs⟩ := rel_names hN hg (zs := ys) (js := jk.map PV.val) h2.rel
  have hju : OwnL (jk.map PV.val) Fz w vs [] := BorL.own (fun p hp => by obtain ⟨v, _, rfl⟩ := List.mem_map.1 hp; exact PV.bor_val _) hvs
  have hall : OwnL (arr f (ys.map Prod.fst) jk) Fz w cur.toList F' := by
    have := hown.append hju
    rw [List.append_nil, ← hu] at this
    unfold arr
    have e : ((ys.map Prod.fst).map f).flatten = flatM f ys := by unfold flatM; rw [List.map_map]; rfl
    rw [e]; exact this
  have c2 := c1.pullB (d := d) (cs := (t, arr fN ys jk)) hd
  generalize hFp1 : mv Fp (2 * G + 1) = Fp1 at c1 c2 e0 h2 g3
  have hnd := c2.nod 0
  simp only [if_true] at hnd
  have em : mv Fp1 (2 * d + 2) 0 = Fp1 (2 * d + 2) ++ Fp1 0 := by simp [mv]
  rw [em, e0] at hnd
  have c3 := c2.pushB (d := d) (g := φ d) (t := t) (cs := arr f (ys.map Prod.fst) jk) (F := F') (X := Fp 0) (by rw [St.setB_b, if_pos rfl]) h1 hall g2
    (fun x hx => by
      simp only [if_true]
      rw [em, e0]
      rcases List.mem_append.1 hx with hx | hx
      · have := hpF.mem_iff.2 hx; simp [this]
      · rcases List.mem_cons.1 hx with rfl | hx
        · simp
        · simp [hx])
    (by
      simp only [List.nodup_cons, List.mem_append] at hnd
      obtain ⟨m0, m1⟩ := hnd
      have m2 := (List.nodup_append.1 m1).2.1
      rw [List.nodup_append] at m2 ⊢
      refine ⟨hpF.nodup_iff.1 m2.1, List.nodup_cons.2 ⟨fun hh => m0 (.inr (.inr hh)), m2.2.1⟩, fun x hx y hy e => ?_⟩
      have hx' := hpF.mem_iff.2 hx
      rcases List.mem_cons.1 hy with rfl | hy
      · exact m0 (.inr (.inl (e ▸ hx')))
      · exact m2.2.2 x hx' y hy e)
    (.inl rfl)
  exact h a w (Conc.eqv ⟨_, _, _, c3⟩ (fun i => rfl) (fun e => by
    simp only [St.setB_b, St.set_b]
    split <;> rfl))
theorem bor_arr {α : Type} {f : α → List PV} (h : ∀ x, BorL (f x)) (xs : List α) (jk : List Value) : BorL (arr f xs jk) := bor_flat h xs jk
theorem loc_aget {T d p b off t k e : Nat} {ty : TypeId} {pos : String} {af : Array Edge} {g : Option (Nat × Bool)} {ag : Bool} {α : Type} {f : α → List PV} {xs : List α} {jk : List Value} (hf : ∀ x, (f x).length = e) (hoff : off = k * e) (hk : k < xs.length) (hT : tyI P T = some (ag, e)) (h1 : ag = false → e = 1) (hb : ∀ x, BorL (f x)) (hd : d < n := by decide) :
    Loc P n ⟨some d, .load T (.tmp p), ty, pos, af, g⟩ ⟨[(p, RV.ptr b off)], [(b, (t, arr f xs jk))], [(d, some (RV.sv ag (f xs[k])))], [], none⟩ := loc_aload hf hoff hk hd hT h1 (ToL.refl _) (hb _)
theorem loc_shr {T T2 : TypeId} {x y : Operand} {d : Nat} {ty : TypeId} {pos : String} {af : Array Edge} {g : Option (Nat × Bool)} {k k2 : IntKind} {i j : Int} {m : Nat} (hm : j = (m : Int)) (hb : m ≤ k.bits) (hx : OpOk x (RV.sc (.int k i)) := by first | exact True.intro | exact ok_sc rfl) (hy : OpOk y (RV.sc (.int k2 j)) := by first | exact True.intro | exact ok_sc rfl) (hd : d < n := by decide) :
    Loc P n ⟨some d, .binOp .shr T x y T2, ty, pos, af, g⟩ ⟨opR x (RV.sc (.int k i)) ++ opR y (RV.sc (.int k2 j)), [], [(d, some (RV.sc (.int k (i.fdiv (2 ^ m)))))], [], none⟩ := by
  subst hm
  refine loc_bin hd hx hy rfl fun w => ?_
  have h1 : ¬ (m : Int) < 0 := by omega
  simp [eqGuard, binOp, Op.shift, h1, Nat.min_eq_left hb]
theorem fdiv2 {i : Int} : i.fdiv (2 ^ 1) = i / 2 := by rw [Int.fdiv_eq_ediv_of_nonneg _ (by decide)]; rfl
end
end Go.Proofs.Ytaomckpfgmhapaa.M

/- What a call returns, read only. No condition. -/
set_option linter.unusedVariables false
namespace Go.Proofs.Ytaomckpfgmhapaa.M
open Go Go.RowKit
theorem SCall.view {P : Program} {f : FuncId} {args : List (Bool × List PV)} {ag : Bool} {cs qs : List PV} (ht : ToL cs qs) (hb : BorL qs) (h : SCall P f args (RV.sv ag cs)) : SCall P f args (RV.sv ag qs) := fun w vs Fz hz hr => by
  refine (h w vs Fz hz hr).mono ?_
  rintro e w' ⟨v, Fz', F, e1, hb1, h1, h2, hv, hn, hF⟩
  exact ⟨v, Fz', [], e1, hb1, h1, h2, fun φ => Cp.sv ht hb (hv φ), List.nodup_nil, fun b hb => nomatch hb⟩
end Go.Proofs.Ytaomckpfgmhapaa.M

/- From here on what is known lies low: what was made before is only read. No condition. -/
set_option linter.unusedVariables false
namespace Go.Proofs.Ytaomckpfgmhapaa.M
open Go Go.RowKit
def LowR (L : Nat → Prop) (r r' : RV) : Prop := ∀ {φ : Nat → Nat} {Fz : FzT} {w : World} {v : Value} {F : List Nat}, (∀ b o, Fz b o → L b) → r.holds φ Fz w v F → r'.holds φ Fz w v []
theorem LowR.sv {L : Nat → Prop} {ag : Bool} {cs qs : List PV} (ht : ToBL L cs qs) (hb : BorL qs) : LowR L (RV.sv ag cs) (RV.sv ag qs) := fun hz h => ⟨h.1, hb.own (ht.rel hz h.2.rel)⟩
theorem LowR.ptr {L : Nat → Prop} {d off : Nat} : LowR L (RV.ptr d off) (RV.ptr d off) := fun _ h => ⟨h.1, rfl⟩
def LowS (L : Nat → Prop) : List (Nat × RV) → List (Nat × RV) → Prop
  | [], [] => True
  | p :: l, q :: l' => (p.1 = q.1 ∧ LowR L p.2 q.2) ∧ LowS L l l'
  | _, _ => False
theorem LowS.cons {L : Nat → Prop} {i : Nat} {r r' : RV} {l l' : List (Nat × RV)} (h : LowR L r r') (k : LowS L l l') : LowS L ((i, r) :: l) ((i, r') :: l') := ⟨⟨rfl, h⟩, k⟩
theorem LowS.at_ {L : Nat → Prop} {i : Nat} {r' : RV} : ∀ {l l' : List (Nat × RV)}, LowS L l l' → lk l' i = some r' → ∃ r, lk l i = some r ∧ LowR L r r'
  | [], [], _, h => by cases h
  | (j, r) :: l, (j', q) :: l', k, h => by
    obtain ⟨⟨e, k1⟩, k2⟩ := k
    dsimp only at e
    subst e
    rw [lk, beq_eq] at h ⊢
    by_cases hx : i = j
    · rw [decide_eq_true hx] at h ⊢
      simp only [cond_true, Option.some.injEq] at h ⊢
      subst h
      exact ⟨r, rfl, k1⟩
    · rw [decide_eq_false hx] at h ⊢
      simp only [cond_false] at h ⊢
      exact LowS.at_ k2 h
section
variable {P : Program} {n : Nat} {h0 : Nat → Prop} {w0 : World} {Fz0 : FzT} {Q : Exit → St → Prop} {c : Code}
end
end Go.Proofs.Ytaomckpfgmhapaa.M

/- What a call returns is fixed for good: nothing of it turns any more, so that it lies low. No condition. -/
set_option linter.unusedVariables false
namespace Go.Proofs.Ytaomckpfgmhapaa.M
open Go Go.RowKit
/-- The blocks that are B's and not h0's. -/
def RV.lump (h0 B : Nat → Prop) : RV where
  holds _ _ w _ F := (∀ b, B b ↔ (h0 b ∨ b ∈ F)) ∧ ∀ b, b ∈ F → b < w.heap.size
  men _ := false
  mono h k hh _ := ⟨h.1, fun b hb => (Array.getElem?_eq_some_iff.1 ((hh b hb).1.trans (Array.getElem?_eq_getElem (h.2 b hb)))).1⟩
  lt h := h.2
def LclRT (L : Nat → Prop) : List (Bool × List PV) → Prop
  | [] => True
  | q :: qs => LclRC L q.2 ∧ LclRT L qs
theorem RelL.lclr {L : Nat → Prop} {Fz Fz' : FzT} {w : World} (hk : ∀ b, L b → ∀ o, Fz' b o ↔ Fz b o) : ∀ {ps : List PV} {vs : List Value}, LclRC L ps → RelL ps Fz w vs → RelL ps Fz' w vs
  | [], _, _, h => h
  | p :: ps, _, hl, h => by
    obtain ⟨v, vs', rfl, h1, h2⟩ := h
    exact ⟨v, vs', rfl, hl p (by simp) h1 fun b hb => ⟨rfl, hk b hb⟩, RelL.lclr hk (fun q hq => hl q (by simp [hq])) h2⟩
theorem RelT.lclr {L : Nat → Prop} {Fz Fz' : FzT} {w : World} (hk : ∀ b, L b → ∀ o, Fz' b o ↔ Fz b o) : ∀ {qs : List (Bool × List PV)} {vs : List Value}, LclRT L qs → RelT qs Fz w vs → RelT qs Fz' w vs
  | [], _, _, h => h
  | q :: qs, _, hl, h => by
    obtain ⟨v, vs', rfl, h1, h2⟩ := h
    exact ⟨v, vs', rfl, ⟨h1.1, h1.2.lclr hk hl.1⟩, RelT.lclr hk hl.2 h2⟩
section
variable {P : Program} {n : Nat} {h0 : Nat → Prop} {w0 : World} {Fz0 : FzT}
section
variable {σ : St} {a : Act} {w : World} {φ : Nat → Nat} {Fz : FzT} {Fp : Nat → List Nat}
/-- A ghost gets a part of what floats. -/
theorem ConcW.ghost (h : ConcW h0 w0 Fz0 n σ a w φ Fz Fp) {i : Nat} {rv : RV} {F X : List Nat} (hv : rv.holds φ Fz w (a.tmps.getD i undef) F) (hX : ∀ b, b ∈ F ++ X → b ∈ Fp 0) (hn : (F ++ X).Nodup) :
    ConcW h0 w0 Fz0 n (σ.set i (some rv)) a w φ Fz (give Fp (2 * i + 1) F X) where
  bel := h.bel
  dfr := h.dfr
  siz := h.siz
  hlt := h.hlt
  fz0 := h.fz0
  fzl := h.fzl
  slot j rv' hj := by
    rw [St.set_s] at hj
    split at hj
    · rename_i hji
      subst hji
      injection hj with hj
      subst hj
      unfold give
      rw [if_pos rfl]; exact hv
    · rename_i hne
      unfold give
      rw [if_neg (by omega), if_neg (by omega)]
      exact h.slot j rv' hj
  box d cs hd := by
    obtain ⟨cur, h1, h2⟩ := h.box d cs hd
    refine ⟨cur, h1, ?_⟩
    unfold give
    rw [if_neg (by omega), if_neg (by omega)]; exact h2
  bxb d cs hd := by
    obtain ⟨h1, h2, h3⟩ := h.bxb d cs hd
    refine ⟨h1, h2, fun r hr => ?_⟩
    rcases give_mem hr with ⟨_, hr⟩ | ⟨_, _, hr⟩ | ⟨_, _, hr⟩
    · exact h3 0 (hX _ (by simp [hr]))
    · exact h3 0 (hX _ (by simp [hr]))
    · exact h3 _ hr
  inj d d' cs cs' := h.inj d d' cs cs'
  dis := give_dis (by omega) hX hn h.dis
  nod := give_nod hn h.nod
  low r b hb := by
    rcases give_mem hb with ⟨_, hr⟩ | ⟨_, _, hr⟩ | ⟨_, _, hr⟩
    · exact h.low 0 b (hX _ (by simp [hr]))
    · exact h.low 0 b (hX _ (by simp [hr]))
    · exact h.low _ b hr
end
section
variable {ops : Array Oper} {Q : Exit → St → Prop}
theorem swl_lcall {f d G : Nat} {args : Array Operand} {tys : Array TypeId} {ty : TypeId} {pos : String} {af : Array Edge} {ol : List Oper} {l : List (Nat × RV)} {b : List (Nat × (Nat × List PV))} {qs as_ : List (Bool × List PV)} {ag : Bool} {cs : List PV} (cs' : (Nat → Prop) → List PV)
    (hd : d < n) (hf : callI P f = true) (hrd : RdL (opsR args.toList qs) (lk l)) (hok : OpsOk args.toList qs) (hlq : LclRT h0 qs) (hto : ToT qs as_) (hs : SCall P f as_ (RV.sv ag cs)) (hb : ∀ B, ToBL B cs (cs' B)) (hbo : ∀ B, BorL (cs' B))
    (h : ∀ B : Nat → Prop, (∀ x, h0 x → B x) → SWL P n h0 w0 Fz0 ops ol (((St.of l b).set d (some (RV.sv ag (cs' B)))).set G (some (RV.lump h0 B))) Q) :
    SWL P n h0 w0 Fz0 ops (⟨some d, .call { callee := .value (.func f), args := args, argTypes := tys }, ty, pos, af, none⟩ :: ol) (St.of l b) Q := fun a w hc => by
  obtain ⟨φ, Fz, Fp, hc⟩ := hc
  have hrel : RelT as_ (fun x o => Fz x o ∧ h0 x) w (args.toList.map a.eval) := hto.rel ((hc.relT hrd hok).lclr (fun x hx o => ⟨fun k => k.1, fun k => ⟨k, hx⟩⟩) hlq)
  refine wpList_plain rfl fun K hK => ?_
  unfold Oper.wp
  rw [run_ocall hf, Oper.upon_enter]
  refine (hs w _ (fun x o => Fz x o ∧ h0 x) (fun x o k => hc.fzl x o k.1) hrel).mono ?_
  rintro e w' ⟨v, Fz', F, rfl, hbl, hz1, hz2, hv, hn, hF⟩
  obtain ⟨N, hN⟩ : ∃ N : List Nat, N = List.range' w.heap.size (w'.heap.size - w.heap.size) := ⟨_, rfl⟩
  have hsz := hbl.size
  have hNm : ∀ x, x ∈ N ↔ w.heap.size ≤ x ∧ x < w'.heap.size := fun x => by
    rw [hN, List.mem_range'_1]; omega
  have hNn : N.Nodup := by rw [hN]; exact List.nodup_range'
  obtain ⟨Fz2, hFz2⟩ : ∃ Fz2 : FzT, Fz2 = fun x o => (x < w.heap.size ∧ Fz x o) ∨ (w.heap.size ≤ x ∧ Fz' x o) := ⟨_, rfl⟩
  have f1 : ∀ x o, x < w.heap.size → (Fz2 x o ↔ Fz x o) := fun x o hx => by
    rw [hFz2]
    exact ⟨fun k => k.elim (fun k => k.2) fun k => absurd k.1 (by omega), fun k => .inl ⟨hx, k⟩⟩
  have f2 : ∀ x o, w.heap.size ≤ x → (Fz2 x o ↔ Fz' x o) := fun x o hx => by
    rw [hFz2]
    exact ⟨fun k => k.elim (fun k => absurd k.1 (by omega)) fun k => k.2, fun k => .inr ⟨hx, k⟩⟩
  have c1 := hc.world (w' := w') (Fz' := Fz2) (X := N) hbl.os hbl.tape hbl.output hsz (fun x hx _ => ⟨hbl.block x hx, fun o ho => (f1 x o hx).1 ho⟩)
    (fun x o ho => ⟨(f1 x o (hc.fzl x o ho)).2 ho, World.cell?_of_block (hbl.block x (hc.fzl x o ho))⟩)
    (fun x o ho => by
      by_cases hx : x < w.heap.size
      · omega
      · exact hz2 x o ((f2 x o (by omega)).1 ho))
    (fun x hx => .inr ((hNm x).1 hx)) hNn
  have hB : ∀ x o, Fz' x o → h0 x ∨ x ∈ N := fun x o ho => by
    by_cases hx : x < w.heap.size
    · exact .inl ((hz1 x o hx).1 ho).2
    · exact .inr ((hNm x).2 ⟨by omega, hz2 x o ho⟩)
  have hv' : SvOwn ag (cs' fun x => h0 x ∨ x ∈ N) Fz2 w' v [] := ⟨(hv φ).1, (hbo _).own (((hb fun x => h0 x ∨ x ∈ N).rel hB (hv φ).2.rel).mono fun x o ho => ⟨by
    by_cases hx : x < w.heap.size
    · exact (f1 x o hx).2 ((hz1 x o hx).1 ho).1
    · exact (f2 x o (by omega)).2 ho, rfl⟩)⟩
  have c2 := c1.push (i := d) (rv := RV.sv ag (cs' fun x => h0 x ∨ x ∈ N)) (v := v) (F := []) (X := N) hd hv' (fun x hx => by simpa using hx) (by simpa using hNn)
  have c3 := c2.ghost (i := G) (rv := RV.lump h0 fun x => h0 x ∨ x ∈ N) (F := N) (X := []) ⟨fun x => Iff.rfl, fun x hx => ((hNm x).1 hx).2⟩ (fun x hx => by simp only [give]; simpa using hx) (by simpa using hNn)
  exact hK _ _ (h _ (fun x hx => .inl hx) _ _ ⟨_, _, _, c3⟩)
end
def FixR (r r' : RV) : Prop := ∀ {φ : Nat → Nat} {Fz : FzT} {w : World} {v : Value} {F : List Nat}, r.holds φ Fz w v F → r'.holds φ Fz w v F
theorem FixR.refl {r : RV} : FixR r r := fun h => h
theorem FixR.sv {ag : Bool} {cs qs : List PV} (h : OwnTo cs qs) : FixR (RV.sv ag cs) (RV.sv ag qs) := fun hh => ⟨hh.1, h hh.2⟩
def FixL (f : Nat → Option RV) (G : Nat) : List (Nat × RV) → Prop
  | [] => True
  | p :: l' => (Nat.beq p.1 G = false ∧ ∃ r, f p.1 = some r ∧ FixR r p.2) ∧ FixL f G l'
theorem FixL.cons {f : Nat → Option RV} {G i : Nat} {r r' : RV} {l' : List (Nat × RV)} (h1 : Nat.beq i G = false) (h2 : f i = some r) (h3 : FixR r r') (k : FixL f G l') : FixL f G ((i, r') :: l') := ⟨⟨h1, r, h2, h3⟩, k⟩
theorem FixL.at_ {f : Nat → Option RV} {G i : Nat} {r' : RV} : ∀ {l' : List (Nat × RV)}, FixL f G l' → (i, r') ∈ l' → i ≠ G ∧ ∃ r, f i = some r ∧ FixR r r'
  | [], _, h => by simp at h
  | p :: l', k, h => by
    rcases List.mem_cons.1 h with rfl | h
    · exact ⟨fun e => by have := k.1.1; dsimp only at this; rw [e] at this; simp at this, k.1.2⟩
    · exact FixL.at_ k.2 h
variable {Q : Exit → St → Prop} {c : Code}
/-- What a slot owns is only read from here on. -/
theorem sw_weak {σ : St} {s : Nat} {ag : Bool} {cs : List PV} (qs : List PV) (hs : σ.s s = some (RV.sv ag cs)) (ht : ToL cs qs) (hb : BorL qs) (h : SW P n h0 w0 Fz0 c (σ.set s (some (RV.sv ag qs))) Q) : SW P n h0 w0 Fz0 c σ Q := fun a w hc => by
  obtain ⟨φ, Fz, Fp, hc⟩ := hc
  have hv : SvOwn ag cs Fz w (a.tmps.getD s undef) (Fp (2 * s + 1)) := hc.slot s _ hs
  have c1 := (hc.pull s).reslot (s := s) (rv := RV.sv ag qs) (by
    have : mv Fp (2 * s + 1) (2 * s + 1) = [] := by simp [mv]
    rw [this]
    exact ⟨hv.1, hb.own (ht.rel hv.2.rel)⟩)
  exact h a w (Conc.eqv ⟨φ, Fz, _, c1⟩ (fun i => by
    simp only [St.set_s]
    split <;> rfl) (fun d => rfl))
theorem sw_fix {l : List (Nat × RV)} {b : List (Nat × (Nat × List PV))} {B : Nat → Prop} (G : Nat) (l' : List (Nat × RV)) (hG : lk l G = some (RV.lump h0 B)) (hl : FixL (lk l) G l') (h : ∀ (w1 : World) (Fz1 : FzT), SW P n B w1 Fz1 c (St.of l' b) Q) : SW P n h0 w0 Fz0 c (St.of l b) Q := fun a w hc => by
  obtain ⟨φ, Fz, Fp, hc⟩ := hc
  have hg : (∀ x, B x ↔ (h0 x ∨ x ∈ Fp (2 * G + 1))) ∧ ∀ x, x ∈ Fp (2 * G + 1) → x < w.heap.size := hc.slot G _ hG
  have hin : ∀ x, h0 x → B x := fun x hx => (hg.1 x).2 (.inl hx)
  have hmem : ∀ r x, x ∈ (if r = 2 * G + 1 then [] else Fp r) → r ≠ 2 * G + 1 ∧ x ∈ Fp r := fun r x hx => by
    split at hx
    · simp at hx
    · rename_i hr; exact ⟨hr, hx⟩
  have hk : Conc B w Fz n (St.of l' b) a w := ⟨φ, Fz, fun r => if r = 2 * G + 1 then [] else Fp r, {
    bel := BelowO.refl _ _
    dfr := hc.dfr
    siz := hc.siz
    hlt := fun x hx => ((hg.1 x).1 hx).elim (hc.hlt x) (hg.2 x)
    fz0 := fun _ _ _ => Iff.rfl
    fzl := hc.fzl
    slot := fun i rv hi => by
      obtain ⟨hi1, r, hr, hfix⟩ := hl.at_ (lk_mem (show lk l' i = some rv from hi))
      rw [if_neg (by omega)]
      exact hfix (hc.slot i r hr)
    box := fun d bx hd => by
      rw [if_neg (by omega)]
      exact hc.box d bx hd
    bxb := fun d bx hd => by
      obtain ⟨k1, k2, k3⟩ := hc.bxb d bx hd
      exact ⟨fun hx => ((hg.1 _).1 hx).elim k1 (k3 _), k2, fun r hr => k3 r (hmem r _ hr).2⟩
    inj := hc.inj
    dis := fun r r' hne x hx hx' => hc.dis r r' hne x (hmem r x hx).2 (hmem r' x hx').2
    nod := fun r => by
      split
      · exact List.nodup_nil
      · exact hc.nod r
    low := fun r x hx => by
      obtain ⟨k1, k2⟩ := hmem r x hx
      exact ⟨fun hx' => ((hg.1 x).1 hx').elim (hc.low r x k2).1 (hc.dis r _ k1 x k2), (hc.low r x k2).2⟩ }⟩
  refine wp_mono (h w Fz a w hk) fun e a' w' ⟨τ, hq, hc'⟩ => ⟨τ, hq, ?_⟩
  obtain ⟨φ', Fz', Fp', c'⟩ := hc'
  exact ⟨φ', Fz', Fp', {
    bel := hc.bel.trans ⟨c'.bel.os, c'.bel.tape, c'.bel.output, c'.bel.size, fun k hk' => c'.bel.block k (hin k hk')⟩
    dfr := c'.dfr
    siz := c'.siz
    hlt := fun x hx => Nat.lt_of_lt_of_le (hc.hlt x hx) c'.bel.size
    fz0 := fun x o hx => (c'.fz0 x o (hin x hx)).trans (hc.fz0 x o hx)
    fzl := c'.fzl
    slot := c'.slot
    box := c'.box
    bxb := fun d cs hd => ⟨fun hh => (c'.bxb d cs hd).1 (hin _ hh), (c'.bxb d cs hd).2⟩
    inj := c'.inj
    dis := c'.dis
    nod := c'.nod
    low := fun r x hx => ⟨fun hh => (c'.low r x hx).1 (hin _ hh), (c'.low r x hx).2⟩ }⟩
def LowB1 (L : Nat → Prop) : List (Nat × (Nat × List PV)) → List (Nat × (Nat × List PV)) → Prop
  | [], [] => True
  | p :: b, q :: b' => (p.1 = q.1 ∧ p.2.1 = q.2.1 ∧ ToBL L p.2.2 q.2.2 ∧ BorL q.2.2) ∧ LowB1 L b b'
  | _, _ => False
theorem LowB1.cons {L : Nat → Prop} {d t : Nat} {cs qs : List PV} {b b' : List (Nat × (Nat × List PV))} (h1 : ToBL L cs qs) (h2 : BorL qs) (k : LowB1 L b b') : LowB1 L ((d, (t, cs)) :: b) ((d, (t, qs)) :: b') := ⟨⟨rfl, rfl, h1, h2⟩, k⟩
theorem LowB1.at_ {L : Nat → Prop} {d t : Nat} {qs : List PV} : ∀ {b b' : List (Nat × (Nat × List PV))}, LowB1 L b b' → lk b' d = some (t, qs) → ∃ cs, lk b d = some (t, cs) ∧ ToBL L cs qs ∧ BorL qs
  | [], [], _, h => by cases h
  | (j, (s, r)) :: l, (j', (s', q)) :: l', k, h => by
    obtain ⟨⟨e, e2, k1⟩, k2⟩ := k
    dsimp only at e e2 k1
    subst e e2
    rw [lk, beq_eq] at h ⊢
    by_cases hx : d = j
    · rw [decide_eq_true hx] at h ⊢
      simp only [cond_true, Option.some.injEq, Prod.mk.injEq] at h ⊢
      obtain ⟨rfl, rfl⟩ := h
      exact ⟨r, ⟨rfl, rfl⟩, k1⟩
    · rw [decide_eq_false hx] at h ⊢
      simp only [cond_false] at h ⊢
      exact LowB1.at_ k2 h
/-- All that is known lies low from here on; the variables stay. -/
theorem sw_lowB {l : List (Nat × RV)} {b : List (Nat × (Nat × List PV))} (l' : (Nat → Prop) → List (Nat × RV)) (b' : (Nat → Prop) → List (Nat × (Nat × List PV))) (hl : ∀ L, LowS L l (l' L)) (hb : ∀ L, LowB1 L b (b' L)) (h : ∀ (B : Nat → Prop) (w1 : World) (Fz1 : FzT), SW P n B w1 Fz1 c (St.of (l' B) (b' B)) Q) : SW P n h0 w0 Fz0 c (St.of l b) Q := fun a w hc => by
  obtain ⟨φ, Fz, Fp, hc⟩ := hc
  obtain ⟨B, hB⟩ : ∃ B : Nat → Prop, B = fun x => x < w.heap.size ∧ ∀ d bx, lk b d = some bx → x ≠ φ d := ⟨_, rfl⟩
  have hBi : ∀ x, B x ↔ (x < w.heap.size ∧ ∀ d bx, lk b d = some bx → x ≠ φ d) := fun x => by rw [hB]
  have hz : ∀ x o, Fz x o → B x := fun x o ho => (hBi x).2 ⟨hc.fzl x o ho, fun d bx hd e => (hc.bxb d bx hd).2.1 o (e ▸ ho)⟩
  have hin : ∀ x, h0 x → B x := fun x hx => (hBi x).2 ⟨hc.hlt x hx, fun d bx hd e => (hc.bxb d bx hd).1 (e ▸ hx)⟩
  have hbx : ∀ d bx, lk (b' B) d = some bx → ∃ cs, lk b d = some (bx.1, cs) ∧ ToBL B cs bx.2 ∧ BorL bx.2 := fun d bx hd => (hb B).at_ hd
  have hk : Conc B w Fz n (St.of (l' B) (b' B)) a w := ⟨φ, Fz, fun _ => [], {
    bel := BelowO.refl _ _
    dfr := hc.dfr
    siz := hc.siz
    hlt := fun x hx => ((hBi x).1 hx).1
    fz0 := fun _ _ _ => Iff.rfl
    fzl := hc.fzl
    slot := fun i rv hi => by
      obtain ⟨r, hr, hlow⟩ := (hl B).at_ (show lk (l' B) i = some rv from hi)
      exact hlow hz (hc.slot i r hr)
    box := fun d bx hd => by
      obtain ⟨cs, k1, k2, k3⟩ := hbx d bx hd
      obtain ⟨cur, q1, q2⟩ := hc.box d _ k1
      exact ⟨cur, q1, k3.own (k2.rel hz q2.rel)⟩
    bxb := fun d bx hd => by
      obtain ⟨cs, k1, _⟩ := hbx d bx hd
      exact ⟨fun hx => ((hBi _).1 hx).2 d _ k1 rfl, (hc.bxb d _ k1).2.1, fun _ hr => nomatch hr⟩
    inj := fun d d' c1 c2 h1 h2 => by
      obtain ⟨_, k1, _⟩ := hbx d c1 h1
      obtain ⟨_, k2, _⟩ := hbx d' c2 h2
      exact hc.inj d d' _ _ k1 k2
    dis := fun _ _ _ _ hb => nomatch hb
    nod := fun _ => List.nodup_nil
    low := fun _ _ hb => nomatch hb }⟩
  refine wp_mono (h B w Fz a w hk) fun e a' w' ⟨τ, hq, hc'⟩ => ⟨τ, hq, ?_⟩
  obtain ⟨φ', Fz', Fp', c'⟩ := hc'
  exact ⟨φ', Fz', Fp', {
    bel := hc.bel.trans ⟨c'.bel.os, c'.bel.tape, c'.bel.output, c'.bel.size, fun k hk' => c'.bel.block k (hin k hk')⟩
    dfr := c'.dfr
    siz := c'.siz
    hlt := fun x hx => Nat.lt_of_lt_of_le (hc.hlt x hx) c'.bel.size
    fz0 := fun x o hx => (c'.fz0 x o (hin x hx)).trans (hc.fz0 x o hx)
    fzl := c'.fzl
    slot := c'.slot
    box := c'.box
    bxb := fun d cs hd => ⟨fun hh => (c'.bxb d cs hd).1 (hin _ hh), (c'.bxb d cs hd).2⟩
    inj := c'.inj
    dis := c'.dis
    nod := c'.nod
    low := fun r x hx => ⟨fun hh => (c'.low r x hx).1 (hin _ hh), (c'.low r x hx).2⟩ }⟩
end
end Go.Proofs.Ytaomckpfgmhapaa.M

/- Functions that return a new variable, and the integers' operations that wrap. No condition. -/
set_option linter.unusedVariables false
namespace Go.Proofs.Ytaomckpfgmhapaa.M
open Go Go.RowKit
/-- The function ends with a pointer to a new variable, which owns nothing. -/
def NCall (P : Program) (f : FuncId) (t : Nat) (args : List (Bool × List PV)) (cs : List PV) : Prop :=
  ∀ (w : World) (vs : List Value) (Fz : FzT), (∀ b o, Fz b o → b < w.heap.size) → RelT args Fz w vs → Calls P f vs.toArray w fun e w' => ∃ g Fz' cur, e = .returned (.pointer (some ⟨g, 0, none⟩)) ∧ Below w.heap.size w w' ∧
    (∀ b o, b < w.heap.size → (Fz' b o ↔ Fz b o)) ∧ (∀ b o, Fz' b o → b < w'.heap.size) ∧ w.heap.size ≤ g ∧ w'.heap[g]? = some (.cells cur t (0, 0)) ∧ (∀ o, ¬ Fz' g o) ∧ OwnL cs Fz' w' cur.toList []
def EndN (rs t : Nat) (cs : List PV) (τ : St) : Prop := ∃ D, τ.s rs = some (RV.ptr D 0) ∧ τ.b D = some (t, cs)
def endN (rs t : Nat) (cs : List PV) : Exit → St → Prop
  | .normal, τ => EndN rs t cs τ
  | .ret, τ => EndN rs t cs τ
  | _, _ => False
section
variable {P : Program} {n : Nat} {h0 : Nat → Prop} {w0 : World} {Fz0 : FzT}
theorem ncall_of {f : FuncId} {fn : Func} {c : Code} {args : List (Bool × List PV)} {rs t : Nat} {cs : List PV} (hf : P.funcs[f]? = some fn) (hb : fn.body = some c) (hres0 : fn.results.toList = [.tmp rs]) (hn : args.length ≤ fn.ntmps) (hbor : ∀ q, q ∈ args → BorL q.2) (hbc : BorL cs)
    (h : ∀ (h0 : Nat → Prop) (w0 : World) (Fz0 : FzT), SW P fn.ntmps h0 w0 Fz0 c (St.of (argsL 0 args) []) (endN rs t cs)) : NCall P f t args cs := by
  intro w vs Fz hz hrel
  have hvl := hrel.len
  refine calls_of_wp hf hb ?_
  have hc : Conc (fun b => b < w.heap.size) w Fz fn.ntmps (St.of (argsL 0 args) []) { tmps := vs.toArray ++ Array.replicate (fn.ntmps - vs.toArray.size) undef, defers := [] } w := by
    refine ⟨fun _ => 0, Fz, fun _ => [], ⟨BelowO.refl _ _, rfl, by simp; omega, fun _ hb => hb, fun _ _ _ => Iff.rfl, hz, fun i rv hi => ?_, fun d cs hd => (by cases hd), fun d cs hd => (by cases hd), fun d d' cs cs' hd => (by cases hd), fun _ _ _ b hb => (by simp at hb), fun _ => List.nodup_nil, fun _ b hb => (by simp at hb)⟩⟩
    obtain ⟨j, v, e1, e2, e3, e4⟩ := BorT.own (φ := fun _ => 0) hbor hrel hi
    rw [Nat.zero_add] at e1
    subst e1
    have : (vs.toArray ++ Array.replicate (fn.ntmps - vs.toArray.size) undef).getD i undef = v := by
      rw [Array.getD_eq_getD_getElem?, Array.getElem?_append_left (by simpa using e2)]
      simp [e3]
    rw [this]; exact e4
  refine wp_mono (h _ w Fz _ w hc) fun e a' w' ⟨τ, hq, hc'⟩ => ?_
  obtain ⟨φ, Fz', Fp, hc'⟩ := hc'
  have hres : EndN rs t cs τ → a'.defers = [] ∧ ∃ v, (results fn a'.tmps).run P w' = .ok v w' ∧ ∃ g Fz' cur, Ending.returned v = .returned (.pointer (some ⟨g, 0, none⟩)) ∧ Below w.heap.size w w' ∧
      (∀ b o, b < w.heap.size → (Fz' b o ↔ Fz b o)) ∧ (∀ b o, Fz' b o → b < w'.heap.size) ∧ w.heap.size ≤ g ∧ w'.heap[g]? = some (.cells cur t (0, 0)) ∧ (∀ o, ¬ Fz' g o) ∧ OwnL cs Fz' w' cur.toList [] := by
    rintro ⟨D, k1, k2⟩
    have hp := (hc'.slot rs _ k1).1
    obtain ⟨cur, q1, q2⟩ := hc'.box D _ k2
    obtain ⟨m1, m2, m3⟩ := hc'.bxb D _ k2
    refine ⟨hc'.dfr, ?_⟩
    rw [results_eq]
    have erun : Sem.run P (fn.results.mapM (resF a'.tmps)) w' = .ok #[.pointer (some ⟨φ D, 0, none⟩)] w' := by
      rw [Array.mapM_eq_mapM_toList, hres0]
      simp only [map_eq_pure_bind, List.mapM_cons, List.mapM_nil, resF, Sem.run_bind, Sem.run_pure, Result.andThen_ok, hp]
    simp only [Sem.run_bind, erun, Result.andThen_ok, Sem.run_pure]
    exact ⟨_, rfl, φ D, Fz', cur, rfl, ⟨hc'.bel.os, hc'.bel.tape, hc'.bel.output, hc'.bel.size, hc'.bel.block⟩, hc'.fz0, hc'.fzl, Nat.le_of_not_lt m1, q1, m2, hbc.own q2.rel⟩
  cases e with
  | normal => exact hres hq
  | ret => exact hres hq
  | _ => exact hq.elim
theorem loc_ncall {f d t : Nat} {args : Array Operand} {tys : Array TypeId} {ty : TypeId} {pos : String} {af : Array Edge} {g : Option (Nat × Bool)} {qs as_ : List (Bool × List PV)} {cs : List PV} (hd : d < n) (hf : callI P f = true) (hok : OpsOk args.toList qs) (hto : ToT qs as_) (hs : NCall P f t as_ cs) :
    Loc P n ⟨some d, .call { callee := .value (.func f), args := args, argTypes := tys }, ty, pos, af, g⟩ ⟨opsR args.toList qs, [], [(d, some (RV.ptr d 0))], [(d, some (t, cs))], some d⟩ := by
  intro h0 w0 Fz0 σ a w K Q hc hr _ h4 h5
  obtain ⟨φ, Fz, Fp, hc⟩ := hc
  have hrel := hto.rel (hc.relT hr hok)
  unfold Oper.wp
  rw [run_ocall hf, Oper.upon_enter]
  refine (hs w _ Fz hc.fzl hrel).mono ?_
  rintro e w' ⟨G, Fz', cur, rfl, hbl, hz1, hz2, hG, hg, hgz, ho⟩
  refine h5 _ _ ?_
  have hglt : G < w'.heap.size := (Array.getElem?_eq_some_iff.1 hg).1
  have k := (hc.drop d).world (w' := w') (Fz' := Fz') (X := [G]) hbl.os hbl.tape hbl.output hbl.size (fun b hb' _ => ⟨hbl.block b hb', fun o ho => (hz1 b o hb').1 ho⟩)
    (fun b o ho => ⟨(hz1 b o (hc.fzl b o ho)).2 ho, World.cell?_of_block (hbl.block b (hc.fzl b o ho))⟩) hz2 (fun b hb' => .inr (by
      rw [List.mem_singleton] at hb'; subst hb'; exact ⟨hG, hglt⟩)) (by simp)
  have k2 := k.pushB (d := d) (g := G) (t := t) (cs := cs) (F := []) (X := []) (by rw [St.setB_b, if_pos rfl]) hg ho hgz (fun b hb => by simpa using hb) (by simp) (.inr (h4 d rfl))
  have k3 := k2.push (i := d) (rv := RV.ptr d 0) (v := .pointer (some ⟨G, 0, none⟩)) (F := []) (X := []) hd ⟨by simp, rfl⟩ (fun b hb => nomatch hb) (by simp)
  exact Conc.eqv ⟨_, _, _, k3⟩ (fun i => rfl) (fun e => by
    show setL [(d, some (t, cs))] σ.b e = _
    rw [St.set_b, St.setB_b, St.setB_b]
    simp only [setL, beq_eq]
    by_cases he : e = d <;> simp [he])
end
theorem loc_nilchk {P : Program} {n x d b off : Nat} {ty : TypeId} {pos : String} {af : Array Edge} {g : Option (Nat × Bool)} (hd : d < n) : Loc P n ⟨some d, .nilCheck (.tmp x), ty, pos, af, g⟩ ⟨[(x, RV.ptr b off)], [], [(d, some (RV.ptr b off))], [], none⟩ := by
  intro h0 w0 Fz0 σ a w K Q h1 h2 _ _ h5
  obtain ⟨φ, Fz, Fp, hc⟩ := h1
  have ex := (hc.slot x _ h2.1).1
  refine wp_val (v := .pointer (some ⟨φ b, off, none⟩)) (w' := w) ?_ (h5 _ _ (hc.put0 hd (r := RV.ptr b off) ⟨rfl, rfl⟩))
  unfold execOp
  simp only [Act.eval, ex, Sem.run_pure]
theorem LowR.phi {L : Nat → Prop} {D g : Nat} : LowR L (RV.phi D g) (RV.phi D g) := fun _ h => ⟨h.1, rfl⟩
section
variable {P : Program} {n : Nat} {h0 : Nat → Prop} {w0 : World} {Fz0 : FzT} {σ : St} {Q : Exit → St → Prop} {c : Code}
/-- A variable's cells in other words. -/
theorem sw_boxO {d t : Nat} {cs : List PV} (cs' : List PV) (hd : σ.b d = some (t, cs)) (ho : OwnTo cs cs') (h : SW P n h0 w0 Fz0 c (σ.setB d (some (t, cs'))) Q) : SW P n h0 w0 Fz0 c σ Q := fun a w hc => by
  obtain ⟨φ, Fz, Fp, hc⟩ := hc
  exact h a w ⟨φ, Fz, Fp, hc.rebox hd fun _ k _ => ho k⟩
end
/-! ### operations that wrap -/
def mulW (x y : Int) : Int := IntKind.i64.wrap (x * y)
def addW (x y : Int) : Int := IntKind.i64.wrap (x + y)
def andW (x y : Int) : Int := IntKind.i64.wrap (BitVec.ofInt 64 x &&& BitVec.ofInt 64 y).toNat
def xorW (x y : Int) : Int := IntKind.i64.wrap (BitVec.ofInt 64 x ^^^ BitVec.ofInt 64 y).toNat
theorem andW_le {x : Int} {m : Nat} (hm : m < 2 ^ 62) : 0 ≤ andW x (m : Int) ∧ andW x (m : Int) ≤ m := by
  have e : (BitVec.ofInt 64 (m : Int)).toNat = m := by
    rw [BitVec.toNat_ofInt]
    omega
  have h : (BitVec.ofInt 64 x &&& BitVec.ofInt 64 (m : Int)).toNat ≤ m := by
    rw [BitVec.toNat_and, e]; exact Nat.and_le_right
  unfold andW
  rw [IntWalk.i64_in _ (by omega)]
  omega
section
variable {P : Program} {n : Nat} {T T2 : TypeId} {x y : Operand} {d : Nat} {ty : TypeId} {pos : String} {af : Array Edge} {g : Option (Nat × Bool)} {i j : Int}
theorem loc_mulW (hd : d < n) (hx : OpOk x (RV.int i)) (hy : OpOk y (RV.int j)) : Loc P n ⟨some d, .binOp .mul T x y T2, ty, pos, af, g⟩ ⟨opR x (RV.int i) ++ opR y (RV.int j), [], [(d, some (RV.int (mulW i j)))], [], none⟩ :=
  loc_bin hd hx hy rfl fun w => by simp [eqGuard, binOp, Op.intArith, mulW]
theorem loc_addW (hd : d < n) (hx : OpOk x (RV.int i)) (hy : OpOk y (RV.int j)) : Loc P n ⟨some d, .binOp .add T x y T2, ty, pos, af, g⟩ ⟨opR x (RV.int i) ++ opR y (RV.int j), [], [(d, some (RV.int (addW i j)))], [], none⟩ :=
  loc_bin hd hx hy rfl fun w => by simp [eqGuard, binOp, Op.intArith, addW]
theorem loc_andW (hd : d < n) (hx : OpOk x (RV.int i)) (hy : OpOk y (RV.int j)) : Loc P n ⟨some d, .binOp .and T x y T2, ty, pos, af, g⟩ ⟨opR x (RV.int i) ++ opR y (RV.int j), [], [(d, some (RV.int (andW i j)))], [], none⟩ :=
  loc_bin hd hx hy rfl fun w => by simp [eqGuard, binOp, Op.intBits, IntKind.bits]; unfold andW; rw [BitVec.toNat_and, BitVec.toNat_ofInt, BitVec.toNat_ofInt]; rfl
theorem loc_xorW (hd : d < n) (hx : OpOk x (RV.int i)) (hy : OpOk y (RV.int j)) : Loc P n ⟨some d, .binOp .xor T x y T2, ty, pos, af, g⟩ ⟨opR x (RV.int i) ++ opR y (RV.int j), [], [(d, some (RV.int (xorW i j)))], [], none⟩ :=
  loc_bin hd hx hy rfl fun w => by simp [eqGuard, binOp, Op.intBits, IntKind.bits]; unfold xorW; rw [BitVec.toNat_xor, BitVec.toNat_ofInt, BitVec.toNat_ofInt]; rfl
end
end Go.Proofs.Ytaomckpfgmhapaa.M

/- Texts and their operations; functions that read tables of the library. No condition. -/
set_option linter.unusedVariables false
namespace Go.Proofs.Ytaomckpfgmhapaa.M
open Go Go.RowKit
abbrev Bytes := List UInt8
abbrev B (l : Bytes) : ByteArray := ⟨l.toArray⟩
abbrev RV.str (l : Bytes) : RV := RV.sc (.string (B l))
section
variable {P : Program} {n : Nat} {T T2 : TypeId} {x y : Operand} {d : Nat} {ty : TypeId} {pos : String} {af : Array Edge} {g : Option (Nat × Bool)} {s t : Bytes}
/-- The bytes that whole numbers stand for. -/
def bys (xs : List Int) : Bytes := xs.map fun n => UInt8.ofNat n.toNat
end
/-! ### what is known of the library's tables -/
/-- What is known of blocks that stay: of no slot. -/
structure Glob where
  rel : FzT → World → Prop
  mono : ∀ {Fz Fz' : FzT} {w w' : World}, rel Fz w → Keeps Fz w Fz' w' → rel Fz' w'
def RV.glob (G : Glob) : RV where
  holds _ Fz w _ F := G.rel Fz w ∧ F = []
  men _ := false
  mono h k _ _ := ⟨G.mono h.1 k, h.2⟩
  lt h := by rw [h.2]; simp
/-- As SCall, where G is known. -/
def GCall (P : Program) (G : Glob) (f : FuncId) (args : List (Bool × List PV)) (r : RV) : Prop :=
  ∀ (w : World) (vs : List Value) (Fz : FzT), (∀ b o, Fz b o → b < w.heap.size) → G.rel Fz w → RelT args Fz w vs → Calls P f vs.toArray w fun e w' => ∃ v Fz' F, e = .returned v ∧ Below w.heap.size w w' ∧
    (∀ b o, b < w.heap.size → (Fz' b o ↔ Fz b o)) ∧ (∀ b o, Fz' b o → b < w'.heap.size) ∧ (∀ φ, r.holds φ Fz' w' v F) ∧ F.Nodup ∧ ∀ b, b ∈ F → w.heap.size ≤ b ∧ b < w'.heap.size
theorem SCall.g {P : Program} {G : Glob} {f : FuncId} {args : List (Bool × List PV)} {r : RV} (h : SCall P f args r) : GCall P G f args r := fun w vs Fz hz _ hr => h w vs Fz hz hr
section
variable {P : Program} {n : Nat} {G : Glob}
end
/-! ### calls into the library -/
section
variable {P : Program} {G : Glob} {f : FuncId}
theorem SvRel.sc {v x : Value} {Fz : FzT} {w : World} (h : SvRel false [PV.val x] Fz w v) : v = x := (SvOwn.sc ⟨h.1, (BorL.cons (PV.bor_val _) BorL.nil).own h.2⟩).1
theorem SvRel.sl {v : Value} {es : List (List PV)} {Fz : FzT} {w : World} (h : SvRel false [PV.sl .v es] Fz w v) : SlRel es Fz w v :=
  (SvOwn.atom (p := PV.sl .v es) ⟨h.1, (BorL.cons (PV.bor_sl _) BorL.nil).own h.2⟩).1
/-- The text of texts, a text between each two. -/
def joinB (xs : List Bytes) (sep : Bytes) : Bytes := Lib.join xs sep
/-- A table that stays. -/
theorem tab_keep {Fz Fz' : FzT} {w w' : World} {g : Nat} {nm : String} {k : IntKind} {zs : List Int} (hg : P.globalNamed nm = some g) (hz : 0 < zs.length) (h : (∀ o, Fz g o) ∧ Lib.TabIs P w nm k zs) (hk : Keeps Fz w Fz' w') : (∀ o, Fz' g o) ∧ Lib.TabIs P w' nm k zs := by
  refine ⟨fun o => (hk g o (h.1 o)).1, ?_⟩
  have hc : ∀ o, w'.cell? ⟨g, o, none⟩ = w.cell? ⟨g, o, none⟩ := fun o => (hk g o (h.1 o)).2
  have h2 := h.2
  unfold Lib.TabIs World.var? at h2 ⊢
  rw [hg] at h2 ⊢
  simp only [Option.bind_some] at h2 ⊢
  cases hw : w.heap[g]? with
  | none => rw [hw] at h2; cases h2
  | some o =>
    cases o with
    | cells cs t fr =>
      rw [hw] at h2
      injection h2 with h2
      have hc1 : ∀ o, w.cell? ⟨g, o, none⟩ = cs[o]? := fun o => by simp [World.cell?, hw]
      have h0 : (w'.cell? ⟨g, 0, none⟩).isSome = true := by rw [hc, hc1, h2]; simp [hz]
      cases hw' : w'.heap[g]? with
      | none => simp [World.cell?, hw'] at h0
      | some o' =>
        cases o' with
        | cells cs' t' fr' =>
          have hc2 : ∀ o, w'.cell? ⟨g, o, none⟩ = cs'[o]? := fun o => by simp [World.cell?, hw']
          rw [← h2]
          show some cs' = some cs
          congr 1
          apply Array.ext_getElem?
          intro i
          rw [← hc2, hc, hc1]
        | _ => simp [World.cell?, hw'] at h0
    | _ => rw [hw] at h2; cases h2
/-- What is known where numbers are printed. -/
def glItoa (P : Program) (g : Nat) (hg : P.globalNamed "internal/strconv.uint64pow10" = some g) : Glob where
  rel Fz w := (∀ o, Fz g o) ∧ Lib.TabIs P w "internal/strconv.uint64pow10" .u64 Lib.pow10Tab
  mono h k := tab_keep hg (by decide) h k
end
end Go.Proofs.Ytaomckpfgmhapaa.M

/- Short forms for calls that want what is known of tables; what a text reads as. No condition. -/
set_option linter.unusedVariables false
namespace Go.Proofs.Ytaomckpfgmhapaa.M
open Go Go.RowKit
section
variable {P : Program} {n d : Nat} {ty : TypeId} {pos : String} {af : Array Edge} {g : Option (Nat × Bool)} {G : Glob}
end
end Go.Proofs.Ytaomckpfgmhapaa.M

/- A pointer to a new variable beside other results. No condition. -/
set_option linter.unusedVariables false
namespace Go.Proofs.Ytaomckpfgmhapaa.M
open Go Go.RowKit
/-- A pointer at a variable that is its own alone: of type t, with cells cs. -/
def PV.np (t : Nat) (cs : List PV) : PV where
  rel _ _ v := ∃ g, v = .pointer (some ⟨g, 0, none⟩)
  own Fz w v F := ∃ g cur F', v = .pointer (some ⟨g, 0, none⟩) ∧ w.heap[g]? = some (.cells cur t (0, 0)) ∧ (∀ o, ¬ Fz g o) ∧ OwnL cs Fz w cur.toList F' ∧ F = g :: F'
  one h := by obtain ⟨g, rfl⟩ := h; rfl
  toRel h := by obtain ⟨g, _, _, rfl, _⟩ := h; exact ⟨g, rfl⟩
  relMono h _ := h
  ownMono h k hh := by
    obtain ⟨g, cur, F', rfl, h1, h2, h3, rfl⟩ := h
    exact ⟨g, cur, F', rfl, (hh g (by simp)).1.trans h1, fun o ho => h2 o ((hh g (by simp)).2 o ho), h3.mono k (hh.sub fun b hb => by simp [hb]), rfl⟩
  lt h := by
    obtain ⟨g, cur, F', rfl, h1, h2, h3, rfl⟩ := h
    intro b hb
    rcases List.mem_cons.1 hb with rfl | hb
    · exact (Array.getElem?_eq_some_iff.1 h1).1
    · exact h3.lt b hb
section
variable {h0 : Nat → Prop} {n : Nat} {w0 w : World} {Fz0 Fz : FzT} {σ : St} {a : Act} {φ : Nat → Nat} {Fp : Nat → List Nat} {P : Program} {c : Code} {Q : Exit → St → Prop}
/-- A variable floats. -/
theorem ConcW.unbox (h : ConcW h0 w0 Fz0 n σ a w φ Fz Fp) {D t : Nat} {cs : List PV} (hb : σ.b D = some (t, cs)) : ConcW h0 w0 Fz0 n (σ.setB D none) a w φ Fz (fun x => if x = 0 then φ D :: (Fp (2 * D + 2) ++ Fp 0) else if x = 2 * D + 2 then [] else Fp x) := by
  obtain ⟨k1, k2, k3⟩ := h.bxb D _ hb
  obtain ⟨cur, q1, q2⟩ := h.box D _ hb
  have hin : ∀ e cs', (σ.setB D none).b e = some cs' → e ≠ D ∧ σ.b e = some cs' := fun e cs' he => by
    rw [St.setB_b] at he
    split at he
    · cases he
    · rename_i hne; exact ⟨hne, he⟩
  have hmem : ∀ x b, b ∈ (if x = 0 then φ D :: (Fp (2 * D + 2) ++ Fp 0) else if x = 2 * D + 2 then [] else Fp x) → (x = 0 ∧ b = φ D) ∨ (x = 0 ∧ b ∈ Fp (2 * D + 2)) ∨ (x ≠ 2 * D + 2 ∧ b ∈ Fp x) := by
    intro x b hb
    split at hb
    · rename_i hx
      subst hx
      rcases List.mem_cons.1 hb with hb | hb
      · exact .inl ⟨rfl, hb⟩
      · rcases List.mem_append.1 hb with hb | hb
        · exact .inr (.inl ⟨rfl, hb⟩)
        · exact .inr (.inr ⟨by omega, hb⟩)
    · split at hb
      · cases hb
      · rename_i _ hx; exact .inr (.inr ⟨hx, hb⟩)
  refine ⟨h.bel, h.dfr, h.siz, h.hlt, h.fz0, h.fzl, fun i rv hi => ?_, fun e cs' he => ?_, fun e cs' he => ?_, fun e e' cs1 cs2 h1 h2 h3 => ?_, fun r r' hne b hr hr' => ?_, fun r => ?_, fun r b hr => ?_⟩
  · rw [if_neg (by omega), if_neg (by omega)]; exact h.slot i rv hi
  · obtain ⟨hne, he⟩ := hin e cs' he
    obtain ⟨cur', a1, a2⟩ := h.box e cs' he
    rw [if_neg (by omega), if_neg (by omega)]; exact ⟨cur', a1, a2⟩
  · obtain ⟨hne, he⟩ := hin e cs' he
    obtain ⟨a1, a2, a3⟩ := h.bxb e cs' he
    refine ⟨a1, a2, fun r hr => ?_⟩
    rcases hmem _ _ hr with ⟨_, hr⟩ | ⟨_, hr⟩ | ⟨_, hr⟩
    · exact hne (h.inj e D _ _ he hb hr)
    · exact a3 _ hr
    · exact a3 _ hr
  · exact h.inj e e' _ _ (hin e cs1 h1).2 (hin e' cs2 h2).2 h3
  · have hm1 := hmem _ _ hr
    have hm2 := hmem _ _ hr'
    clear hr hr'
    rcases hm1 with ⟨e3, hr⟩ | ⟨e3, hr⟩ | ⟨e1, hr⟩ <;> rcases hm2 with ⟨e4, hr'⟩ | ⟨e4, hr'⟩ | ⟨e2, hr'⟩
    · exact hne (e3.trans e4.symm)
    · exact hne (e3.trans e4.symm)
    · subst hr; exact k3 _ hr'
    · exact hne (e3.trans e4.symm)
    · exact hne (e3.trans e4.symm)
    · exact h.dis _ _ (fun e => e2 e.symm) b hr hr'
    · subst hr'; exact k3 _ hr
    · exact h.dis _ _ e1 b hr hr'
    · exact h.dis _ _ hne b hr hr'
  · split
    · rw [List.nodup_cons, List.nodup_append]
      refine ⟨fun hm => ?_, h.nod _, h.nod _, fun u hu v hv e => h.dis (2 * D + 2) 0 (by omega) u hu (e ▸ hv)⟩
      rcases List.mem_append.1 hm with hm | hm <;> exact k3 _ hm
    · split
      · exact List.nodup_nil
      · exact h.nod r
  · rcases hmem _ _ hr with ⟨_, rfl⟩ | ⟨_, hr⟩ | ⟨_, hr⟩
    · exact ⟨k1, (Array.getElem?_eq_some_iff.1 q1).1⟩
    · exact h.low _ _ hr
    · exact h.low _ _ hr
/-- A pointer and its variable become one value. -/
theorem sw_abs {s D t : Nat} {cs : List PV} (hs : σ.s s = some (RV.ptr D 0)) (hb : σ.b D = some (t, cs)) (hsn : s < n) (h : SW P n h0 w0 Fz0 c ((σ.setB D none).set s (some (RV.sv false [PV.np t cs]))) Q) : SW P n h0 w0 Fz0 c σ Q := fun a w hc => by
  obtain ⟨φ, Fz, Fp, hc⟩ := hc
  have hv : a.tmps.getD s undef = .pointer (some ⟨φ D, 0, none⟩) := (hc.slot s _ hs).1
  obtain ⟨cur, q1, q2⟩ := hc.box D _ hb
  obtain ⟨k1, k2, k3⟩ := hc.bxb D _ hb
  have c1 := (hc.unbox hb).pull s
  have hself : a.put (some s) (a.tmps.getD s undef) = a := put_self
  have hnd := c1.nod 0
  have hne : 2 * s + 1 ≠ 0 := by omega
  have hne2 : 2 * s + 1 ≠ 2 * D + 2 := by omega
  simp only [mv, if_true, if_neg hne, if_neg hne2] at hnd
  rw [List.nodup_append] at hnd
  have hn2 := hnd.2.1
  rw [List.nodup_cons, List.nodup_append] at hn2
  have c2 := c1.push (i := s) (rv := RV.sv false [PV.np t cs]) (v := a.tmps.getD s undef) (F := φ D :: Fp (2 * D + 2)) (X := []) hsn
    (SvOwn.of_atom (p := PV.np t cs) ⟨φ D, cur, _, hv, q1, k2, q2, rfl⟩) (fun x hx => by
      simp only [mv, if_true, if_neg hne, if_neg hne2]
      simp only [List.append_nil] at hx
      exact List.mem_append_right _ (by
        rcases List.mem_cons.1 hx with rfl | hx
        · simp
        · simp [hx])) (by
      rw [List.append_nil, List.nodup_cons]
      exact ⟨fun hm => k3 _ hm, hc.nod _⟩)
  rw [hself] at c2
  exact h a w (Conc.eqv ⟨_, _, _, c2⟩ (fun i => by simp only [St.set_s]; split <;> rfl) (fun d => rfl))
/-- A pointer and its variable apart again. -/
theorem sw_rel {s D t : Nat} {cs : List PV} (hs : σ.s s = some (RV.sv false [PV.np t cs])) (hD : σ.b D = none) (hsn : s < n) (hf : Free D σ) (h : SW P n h0 w0 Fz0 c ((σ.setB D (some (t, cs))).set s (some (RV.ptr D 0))) Q) : SW P n h0 w0 Fz0 c σ Q := fun a w hc => by
  obtain ⟨φ, Fz, Fp, hc⟩ := hc
  obtain ⟨g, cur, F', hv, q1, q2, q3, hF⟩ := (SvOwn.atom (hc.slot s _ hs) : (PV.np t cs).own Fz w _ _)
  have c1 := hc.pull s
  have hself : a.put (some s) (a.tmps.getD s undef) = a := put_self
  have e0 : mv Fp (2 * s + 1) 0 = (g :: F') ++ Fp 0 := by simp only [mv, if_true]; rw [hF]
  have hnd := c1.nod 0
  rw [e0] at hnd
  have c2 := c1.pushB (d := D) (g := g) (t := t) (cs := cs) (F := F') (X := Fp 0) hD q1 q3 q2 (fun b hb => by
      rw [e0]
      simp only [List.mem_append, List.mem_cons] at hb ⊢
      rcases hb with hb | hb | hb <;> simp [hb])
    ((List.perm_middle (a := g) (l₁ := F') (l₂ := Fp 0)).nodup_iff.2 hnd) (.inr fun i rv hi => by
      rw [St.set_s] at hi
      split at hi
      · cases hi
      · exact hf i rv hi)
  have c3 := c2.push (i := s) (rv := RV.ptr D 0) (v := a.tmps.getD s undef) (F := []) (X := []) hsn ⟨by simp only [if_true]; exact hv, rfl⟩ (fun b hb => nomatch hb) (by simp)
  rw [hself] at c3
  exact h a w (Conc.eqv ⟨_, _, _, c3⟩ (fun i => by simp only [St.set_s, St.setB_s]; split <;> rfl) (fun d => by simp only [St.setB_b, St.set_b]))
end
end Go.Proofs.Ytaomckpfgmhapaa.M
