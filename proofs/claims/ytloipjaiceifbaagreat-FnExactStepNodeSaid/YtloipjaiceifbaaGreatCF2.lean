/- Slices that are made own at once; arrays whose elements are read and written at places that are known only as numbers; calls that turn the array of a slice. No condition. -/
import Derived.Test.YtloipjaiceifbaaGreatCF1
import Derived.KernelRfl
set_option linter.unusedVariables false
namespace Go.Proofs.YtloipjaiceifbaaGreat.M
open Go Go.RowKit
section
variable {P : Program} {n : Nat} {h0 : Nat → Prop} {w0 : World} {Fz0 : FzT} {ops : Array Oper} {Q : Exit → St → Prop}
def arr {α : Type} (f : α → List PV) (xs : List α) (jk : List Value) : List PV := (xs.map f).flatten ++ jk.map PV.val
theorem loc_aload {T d p b off t k e : Nat} {ty : TypeId} {pos : String} {af : Array Edge} {g : Option (Nat × Bool)} {ag : Bool} {α : Type} {f : α → List PV} {xs : List α} {jk : List Value} {qs : List PV} (hf : ∀ x, (f x).length = e) (hoff : off = k * e) (hk : k < xs.length) (hd : d < n) (hT : tyI P T = some (ag, e)) (h1 : ag = false → e = 1)
    (ht : ToL (f xs[k]) qs) (hb : BorL qs) :
    Loc P n ⟨some d, .load T (.tmp p), ty, pos, af, g⟩ ⟨[(p, RV.ptr b off)], [(b, (t, arr f xs jk))], [(d, some (RV.sv ag qs))], [], none⟩ := by
  unfold arr
  rw [at_split hk]
  exact loc_loadM (o := 0) (by rw [hoff, at_len hf (Nat.le_of_lt hk)]; rfl) hd hT h1 (by rw [hf]; omega) (by rw [List.drop_zero, List.take_of_length_le (by rw [hf]; exact Nat.le_refl _)]; exact ht) hb
theorem loc_astore {T p b off t k e : Nat} {x : Operand} {ty : TypeId} {pos : String} {af : Array Edge} {g : Option (Nat × Bool)} {ag : Bool} {α : Type} {f : α → List PV} {xs : List α} {jk : List Value} {vs : List PV} (y : α) (hf : ∀ x, (f x).length = e) (hoff : off = k * e) (hk : k < xs.length) (hT : tyI P T = some (ag, e)) (hx : OpOk x (RV.sv ag vs)) (hv : vs = f y) :
    Loc P n ⟨none, .store T (.tmp p) x, ty, pos, af, g⟩ ⟨(p, RV.ptr b off) :: opR x (RV.sv ag vs), [(b, (t, arr f xs jk))], killO x, [(b, some (t, arr f (xs.set k y) jk))], none⟩ := by
  have h : Loc P n ⟨none, .store T (.tmp p) x, ty, pos, af, g⟩ _ := loc_storeM (off := off) (P := P) (n := n) (T := T) (p := p) (b := b) (t := t) (x := x) (ty := ty) (pos := pos) (af := af) (g := g) (ag := ag) (A := ((xs.take k).map f).flatten) (m := f xs[k]) (B := ((xs.drop (k + 1)).map f).flatten ++ jk.map PV.val) (vs := vs) (o := 0) (by rw [hoff, at_len hf (Nat.le_of_lt hk)]; rfl) hT hx (by rw [hv]; exact hf y) (by rw [hf]; omega)
  unfold arr
  rw [at_split hk, ← at_join (cs := vs) y hk hv]
  have e2 : List.take 0 (f xs[k]) ++ (vs ++ List.drop (0 + e) (f xs[k])) = vs := by
    rw [List.take_zero, List.nil_append, List.drop_eq_nil_of_le (by rw [hf]; omega), List.append_nil]
  rw [e2] at h
  exact @h
/-- The function turns the array of the slice that is its first argument: from cs to cs'. -/
def ACall (P : Program) (f : FuncId) (t m cp : Nat) (cs cs' : List PV) (args : List (Bool × List PV)) (r : RV) : Prop :=
  ∀ (w : World) (g : Nat) (cur : Array Value) (vs : List Value) (Fz : FzT) (F1 F2 : List Nat), m ≤ cp → cp ≤ maxLen → (∀ b o, Fz b o → b < w.heap.size) → w.heap[g]? = some (.cells cur t (0, 0)) → (∀ o, ¬ Fz g o) → OwnL cs Fz w cur.toList F1 → OwnT args Fz w vs F2 → (g :: (F1 ++ F2)).Nodup →
    Calls P f (.slice (some ⟨g, 0, none⟩) m cp :: vs).toArray w fun e w' => ∃ (v : Value) (Fz' : FzT) (cur' : Array Value) (F1' G : List Nat), e = .returned v ∧ Turned (F1 ++ F2) (some g) Fz w Fz' w' ∧ w'.heap[g]? = some (.cells cur' t (0, 0)) ∧ (∀ o, ¬ Fz' g o) ∧ OwnL cs' Fz' w' cur'.toList F1' ∧
      (∀ φ, r.holds φ Fz' w' v G) ∧ (g :: (F1' ++ G)).Nodup ∧ ∀ b, b ∈ F1' ++ G → b ∈ F1 ++ F2 ∨ (w.heap.size ≤ b ∧ b < w'.heap.size)
theorem acall_of {f : FuncId} {fn : Func} {c : Code} {t m cp : Nat} {cs cs' : List PV} {args rs : List (Bool × List PV)} (hf : P.funcs[f]? = some fn) (hb : fn.body = some c) (hn : args.length + 1 ≤ fn.ntmps) (hn2 : args.length ≤ 4000)
    (h : ∀ (g : Nat) (h0 : Nat → Prop) (w0 : World) (Fz0 : FzT), m ≤ cp → SW P fn.ntmps h0 w0 Fz0 c (St.of ((0, RV.sc (.slice (some ⟨g, 0, none⟩) m cp)) :: (5000, RV.phi 0 g) :: (5001, RV.gat (.slice (some ⟨g, 0, none⟩) m cp) 0 m cp) :: argsL 1 args) [(0, (t, cs))]) (endX P fn.results.toList g t cs' rs)) : ACall P f t m cp cs cs' args (resRV rs) := by
  intro w g cur vs Fz F1 F2 hmc hcpx hz hg hfg hcs hown hnd
  have hvl := hown.len
  have hglt : g < w.heap.size := (Array.getElem?_eq_some_iff.1 hg).1
  have hFlt : ∀ b, b ∈ F2 → b < w.heap.size := fun b hb => hown.lt b hb
  have hFlt1 : ∀ b, b ∈ F1 → b < w.heap.size := fun b hb => hcs.lt b hb
  obtain ⟨ps, e1, e2, e3⟩ := hown.parts
  rw [List.nodup_cons, List.nodup_append] at hnd
  obtain ⟨n0, n1, n2, n12⟩ := hnd
  have n0' : g ∉ F1 ∧ g ∉ F2 := ⟨fun k => n0 (List.mem_append.2 (.inl k)), fun k => n0 (List.mem_append.2 (.inr k))⟩
  refine calls_of_wp hf hb ?_
  have hodd : ∀ x b, b ∈ argF 1 ps x → x ≠ 2 := fun x b hb e => by
    subst e
    unfold argF at hb
    rw [if_neg (by omega)] at hb
    simp at hb
  have hfp : ∀ x b, b ∈ (fun x => if x = 2 then F1 else argF 1 ps x) x → (x = 2 ∧ b ∈ F1) ∨ (x ≠ 2 ∧ b ∈ argF 1 ps x) := fun x b hb => by
    simp only at hb
    split at hb
    · rename_i e; exact .inl ⟨e, hb⟩
    · rename_i e; exact .inr ⟨e, hb⟩
  have hc : Conc (fun b => b < w.heap.size ∧ b ≠ g ∧ b ∉ F1 ++ F2) w Fz fn.ntmps (St.of ((0, RV.sc (.slice (some ⟨g, 0, none⟩) m cp)) :: (5000, RV.phi 0 g) :: (5001, RV.gat (.slice (some ⟨g, 0, none⟩) m cp) 0 m cp) :: argsL 1 args) [(0, (t, cs))]) { tmps := (.slice (some ⟨g, 0, none⟩) m cp :: vs).toArray ++ Array.replicate (fn.ntmps - (Value.slice (some ⟨g, 0, none⟩) m cp :: vs).toArray.size) undef, defers := [] } w := by
    refine ⟨fun _ => g, Fz, fun x => if x = 2 then F1 else argF 1 ps x, ⟨BelowO.refl _ _, rfl, by simp; omega, fun _ hb => hb.1, fun _ _ _ => Iff.rfl, hz, fun i rv hi => ?_, fun d bx hd => ?_, fun d bx hd => ?_, fun d d' bx bx' hd hd' _ => ?_, fun x y hxy b hx hy => ?_, fun x => ?_, fun x b hb => ?_⟩⟩
    · by_cases hi0 : i = 0
      · subst hi0
        have hi' : RV.sc (.slice (some ⟨g, 0, none⟩) m cp) = rv := by injection hi
        subst hi'
        have : ((.slice (some ⟨g, 0, none⟩) m cp :: vs).toArray ++ Array.replicate (fn.ntmps - (Value.slice (some ⟨g, 0, none⟩) m cp :: vs).toArray.size) undef).getD 0 undef = .slice (some ⟨g, 0, none⟩) m cp := by
          rw [Array.getD_eq_getD_getElem?, Array.getElem?_append_left (by simp)]
          simp
        rw [this]
        have e : (if 2 * 0 + 1 = 2 then F1 else argF 1 ps (2 * 0 + 1)) = [] := by
          simp only [argF]
          rw [if_neg (by omega), if_neg (by omega)]
        show (RV.sc _).holds _ _ _ _ (if 2 * 0 + 1 = 2 then F1 else argF 1 ps (2 * 0 + 1))
        rw [e]
        exact SvOwn.of_sc rfl
      · have hi2 : (if i = 5000 then some (RV.phi 0 g) else if i = 5001 then some (RV.gat (.slice (some ⟨g, 0, none⟩) m cp) 0 m cp) else lk (argsL 1 args) i) = some rv := by
          have : (bif Nat.beq i 0 then some (RV.sc (.slice (some ⟨g, 0, none⟩) m cp)) else bif Nat.beq i 5000 then some (RV.phi 0 g) else bif Nat.beq i 5001 then some (RV.gat (.slice (some ⟨g, 0, none⟩) m cp) 0 m cp) else lk (argsL 1 args) i) = some rv := hi
          rw [beq_eq, beq_eq, beq_eq] at this
          by_cases h5 : i = 5000
          · simpa [hi0, h5] using this
          · by_cases h6 : i = 5001
            · simpa [hi0, h5, h6] using this
            · simpa [hi0, h5, h6] using this
        by_cases h5 : i = 5000
        · subst h5
          rw [if_pos rfl] at hi2
          injection hi2 with hi2
          subst hi2
          refine ⟨rfl, ?_⟩
          show (if 2 * 5000 + 1 = 2 then F1 else argF 1 ps (2 * 5000 + 1)) = []
          rw [if_neg (by omega)]
          unfold argF
          rw [if_pos (by omega), List.getD_eq_getElem?_getD, List.getElem?_eq_none (by omega)]
          rfl
        rw [if_neg h5] at hi2
        by_cases h6 : i = 5001
        · subst h6
          rw [if_pos rfl] at hi2
          injection hi2 with hi2
          subst hi2
          refine ⟨⟨rfl, hmc, hcpx⟩, ?_⟩
          show (if 2 * 5001 + 1 = 2 then F1 else argF 1 ps (2 * 5001 + 1)) = []
          rw [if_neg (by omega)]
          unfold argF
          rw [if_pos (by omega), List.getD_eq_getElem?_getD, List.getElem?_eq_none (by omega)]
          rfl
        rw [if_neg h6] at hi2
        have hi' := hi2
        obtain ⟨j, q, k1, k2, rfl⟩ := lk_args hi'
        subst k1
        obtain ⟨v, k3, k4⟩ := e3 j q k2
        have hjl := (List.getElem?_eq_some_iff.1 k3).1
        have : ((.slice (some ⟨g, 0, none⟩) m cp :: vs).toArray ++ Array.replicate (fn.ntmps - (Value.slice (some ⟨g, 0, none⟩) m cp :: vs).toArray.size) undef).getD (1 + j) undef = v := by
          rw [Array.getD_eq_getD_getElem?, Array.getElem?_append_left (by simp; omega)]
          rw [Nat.add_comm]
          simp [k3]
        rw [this]
        have k5 : SvOwn q.1 q.2 Fz w v (if 2 * (1 + j) + 1 = 2 then F1 else argF 1 ps (2 * (1 + j) + 1)) := by rw [if_neg (by omega), argF_at]; exact k4
        exact k5
    · have hd2 : (bif Nat.beq d 0 then some (t, cs) else none) = some bx := hd
      rw [beq_eq] at hd2
      by_cases h0' : d = 0
      · simp [h0'] at hd2; subst hd2; subst h0'
        exact ⟨cur, hg, by simpa using hcs⟩
      · simp [h0'] at hd2
    · have hd2 : (bif Nat.beq d 0 then some (t, cs) else none) = some bx := hd
      refine ⟨fun k => k.2.1 rfl, hfg, fun r hr => ?_⟩
      rcases hfp r _ hr with ⟨_, k⟩ | ⟨_, k⟩
      · exact n0'.1 k
      · have := argF_sub k
        rw [← e2] at this
        exact n0'.2 this
    · have hd2 : (bif Nat.beq d 0 then some (t, cs) else none) = some bx := hd
      have hd3 : (bif Nat.beq d' 0 then some (t, cs) else none) = some bx' := hd'
      rw [beq_eq] at hd2 hd3
      by_cases k1 : d = 0
      · by_cases k2 : d' = 0
        · omega
        · simp [k2] at hd3
      · simp [k1] at hd2
    · rcases hfp x _ hx with ⟨k1, k2⟩ | ⟨k1, k2⟩ <;> rcases hfp y _ hy with ⟨k3, k4⟩ | ⟨k3, k4⟩
      · omega
      · have := argF_sub k4
        rw [← e2] at this
        exact n12 b k2 b this rfl
      · have := argF_sub k2
        rw [← e2] at this
        exact n12 b k4 b this rfl
      · exact argF_dis (by rw [← e2]; exact n2) hxy k2 k4
    · split
      · exact n1
      · exact argF_nod (by rw [← e2]; exact n2) x
    · rcases hfp x _ hb with ⟨_, k⟩ | ⟨_, k⟩
      · exact ⟨fun q => q.2.2 (List.mem_append.2 (.inl k)), hFlt1 b k⟩
      · have := argF_sub k
        rw [← e2] at this
        exact ⟨fun q => q.2.2 (List.mem_append.2 (.inr this)), hFlt b this⟩
  refine wp_mono (h g _ w Fz hmc _ w hc) fun e a' w' ⟨τ, hq, hc'⟩ => ?_
  obtain ⟨φ, Fz', Fp, hc'⟩ := hc'
  have hres : EndX P fn.results.toList g t cs' rs τ → a'.defers = [] ∧ ∃ v, (results fn a'.tmps).run P w' = .ok v w' ∧ ∃ (v' : Value) (Fz' : FzT) (cur' : Array Value) (F1' G : List Nat), Ending.returned v = .returned v' ∧ Turned (F1 ++ F2) (some g) Fz w Fz' w' ∧ w'.heap[g]? = some (.cells cur' t (0, 0)) ∧ (∀ o, ¬ Fz' g o) ∧ OwnL cs' Fz' w' cur'.toList F1' ∧
      (∀ φ, (resRV rs).holds φ Fz' w' v' G) ∧ (g :: (F1' ++ G)).Nodup ∧ ∀ b, b ∈ F1' ++ G → b ∈ F1 ++ F2 ∨ (w.heap.size ≤ b ∧ b < w'.heap.size) := by
    rintro ⟨hb0, hG, hr⟩
    have hφ : φ 0 = g := (hc'.slot 5000 _ hG).1
    obtain ⟨cur', hg', ho'⟩ := hc'.box 0 _ hb0
    obtain ⟨m1, m2, m3⟩ := hc'.bxb 0 _ hb0
    rw [hφ] at hg' m1 m2 m3
    have c1 := hc'.pullB hb0
    obtain ⟨vs', G, r1, r2, r3, r4⟩ := ret_run _ rs c1 hr
    have hG2 : ∀ b, b ∈ G → ∃ r, r ≠ 2 ∧ b ∈ Fp r := fun b hb => by
      obtain ⟨r, k1, k2⟩ := r4 b hb
      have k2 : b ∈ (if r = 0 then φ 0 :: mv Fp (2 * 0 + 2) 0 else mv Fp (2 * 0 + 2) r) := k2
      rw [if_neg k1] at k2
      unfold mv at k2
      rw [if_neg k1] at k2
      split at k2
      · simp at k2
      · rename_i k3; exact ⟨r, by omega, k2⟩
    have hlow : ∀ x b, b ∈ Fp x → b ∈ F1 ++ F2 ∨ (w.heap.size ≤ b ∧ b < w'.heap.size) := fun x b hb => by
      have := hc'.low x b hb
      by_cases hbF : b ∈ F1 ++ F2
      · exact .inl hbF
      · exact .inr ⟨Nat.le_of_not_lt fun hlt => this.1 ⟨hlt, fun e => m3 x (e ▸ hb), hbF⟩, this.2⟩
    refine ⟨hc'.dfr, _, run_res r1, _, Fz', cur', Fp 2, G, rfl, ⟨hc'.bel.os, hc'.bel.tape, hc'.bel.output, hc'.bel.size, fun b k1 k0 k2 => ?_, hc'.fzl⟩, hg', m2, ho', res_one r2, ?_, fun b hb => ?_⟩
    · have hbg : b ≠ g := fun e => k0 (by rw [e])
      exact ⟨hc'.bel.block b ⟨k1, hbg, k2⟩, fun o => hc'.fz0 b o ⟨k1, hbg, k2⟩⟩
    · rw [List.nodup_cons, List.nodup_append]
      refine ⟨fun hh => ?_, hc'.nod 2, r3, fun x hx y hy e => ?_⟩
      · rcases List.mem_append.1 hh with hh | hh
        · exact m3 2 hh
        · obtain ⟨r, _, k⟩ := hG2 g hh
          exact m3 r k
      · subst e
        obtain ⟨r, k1, k2⟩ := hG2 x hy
        exact hc'.dis r 2 k1 x k2 hx
    · rcases List.mem_append.1 hb with hb | hb
      · exact hlow 2 b hb
      · obtain ⟨r, _, k⟩ := hG2 b hb
        exact hlow r b k
  cases e with
  | normal => exact hres hq
  | ret => exact hres hq
  | _ => exact hq.elim
/-- A call that turns the array of a slice. -/
theorem swl_acall {f d p G bx t m cp L : Nat} {u : Value} {xs : List Operand} {args : Array Operand} {tys : Array TypeId} {ty : TypeId} {pos : String} {af : Array Edge} {ol : List Oper} {l : List (Nat × RV)} {b : List (Nat × (Nat × List PV))} {cs cs' : List PV} {qs as_ : List (Bool × List PV)} {r : RV}
    (hd : d < n) (hf : callI P f = true) (he : args.toList = .tmp p :: xs) (hp : lk l p = some (RV.sc u)) (hG : lk l G = some (RV.gat u bx m cp)) (hbx : lk b bx = some (t, cs)) (hrd : RdL (opsR xs qs) (lk l)) (hok : OpsOk xs qs) (hap : apartO xs = true) (hto : OwnToT qs as_) (hu : ACall P f t m cp cs cs' as_ r) (hL : ∀ x, x < L → h0 x) (hls : LclX L (tmpsO xs) l) (hlb : LclB L bx b)
    (h : SWL P n h0 w0 Fz0 ops ol (((⟨setL (killsO xs) (lk l), lk b⟩ : St).setB bx (some (t, cs'))).set d (some r)) Q) :
    SWL P n h0 w0 Fz0 ops (⟨some d, .call { callee := .value (.func f), args := args, argTypes := tys }, ty, pos, af, none⟩ :: ol) (St.of l b) Q := fun a w hc => by
  obtain ⟨φ, Fz, Fp, hc⟩ := hc
  obtain ⟨⟨eu, hmc, hcpx⟩, _⟩ := hc.slot G _ hG
  have hpv : a.tmps.getD p undef = .slice (some ⟨φ bx, 0, none⟩) m cp := by rw [← eu]; exact (hc.one_ hp).1
  obtain ⟨F, Fp', hown, c1, hm, hnd⟩ := hc.pulls xs qs hrd hok (of_decide_eq_true hap)
  have hF := (List.nodup_append.1 hnd).1
  have hb1 : (⟨setL (killsO xs) (St.of l b).s, (St.of l b).b⟩ : St).b bx = some (t, cs) := hbx
  obtain ⟨cur, hg, ho⟩ := c1.box bx _ hb1
  obtain ⟨g1, g2, g3⟩ := c1.bxb bx _ hb1
  have hglt : φ bx < w.heap.size := (Array.getElem?_eq_some_iff.1 hg).1
  have c2 := c1.pullB hb1
  generalize hFp2 : (fun x => if x = 0 then φ bx :: mv Fp' (2 * bx + 2) 0 else mv Fp' (2 * bx + 2) x) = Fp2 at c2
  have e0 : Fp2 0 = φ bx :: (Fp' (2 * bx + 2) ++ Fp' 0) := by rw [← hFp2]; simp [mv]
  have hFin : ∀ x, x ∈ F → x ∈ Fp' 0 := fun x hx => (hm x).2 (by simp [hx])
  have hXin : ∀ x, x ∈ Fp 0 → x ∈ Fp' 0 := fun x hx => (hm x).2 (by simp [hx])
  have hn1 : (φ bx :: (Fp' (2 * bx + 2) ++ F)).Nodup := by
    rw [List.nodup_cons, List.nodup_append]
    refine ⟨fun k => ?_, c1.nod _, hF, fun x hx y hy e => ?_⟩
    · rcases List.mem_append.1 k with k | k
      · exact g3 _ k
      · exact g3 0 (hFin _ k)
    · subst e
      exact c1.dis 0 (2 * bx + 2) (by omega) x (hFin x hy) hx
  refine wpList_plain rfl fun K hK => ?_
  unfold Oper.wp
  rw [run_xcall hf he, hpv, Oper.upon_enter]
  refine (hu w (φ bx) cur _ Fz _ F hmc hcpx hc.fzl hg g2 ho (hto.own hown) hn1).mono ?_
  rintro e w' ⟨v, Fz', cur', F1', G, rfl, ht, hg', hf', ho', hv, hn, hin⟩
  have hn' := hn
  rw [List.nodup_cons, List.nodup_append] at hn'
  have hlt0 : ∀ x, x ∈ Fp 0 → x < w.heap.size := fun x hx => (hc.low 0 x hx).2
  have hdis0 : ∀ x, x ∈ Fp 0 → x ≠ φ bx ∧ x ∉ Fp' (2 * bx + 2) ∧ x ∉ F := fun x hx => by
    refine ⟨fun e => g3 0 (e ▸ hXin x hx), fun k => c1.dis 0 (2 * bx + 2) (by omega) x (hXin x hx) k, fun k => ?_⟩
    rw [List.nodup_append] at hnd
    exact hnd.2.2 x k x hx rfl
  have hdn : ∀ x, x ∈ F1' ++ G → x ∉ Fp 0 := fun x hx k => by
    obtain ⟨k1, k2, k3⟩ := hdis0 x k
    rcases hin x hx with hx | hx
    · rcases List.mem_append.1 hx with hx | hx
      · exact k2 hx
      · exact k3 hx
    · have := hlt0 x k; omega
  have c3 := c2.uworld (w' := w') (Fz' := Fz') (L := L) (X := φ bx :: (F1' ++ (G ++ Fp 0))) ht.os ht.tape ht.output ht.size (fun x hx hx0 => ht.same x hx (fun k => hx0 (by rw [e0, Option.some.inj k]; simp)) (fun k => hx0 (by
        rw [e0]
        rcases List.mem_append.1 k with k | k
        · simp [k]
        · simp [hFin x k]))) hL
    (fun i rv hi => by
      obtain ⟨k1, k2⟩ := setL_kills hi
      rcases hls.mem _ (lk_mem k2) with k | k
      · exact absurd k k1
      · exact k)
    (fun d' bxx hb => by
      rw [St.setB_b] at hb
      split at hb
      · cases hb
      · rename_i hne
        rcases hlb.mem _ (lk_mem hb) with k | k
        · exact absurd k hne
        · exact k) ht.fzl
    (fun x hx => by
      rw [e0]
      simp only [List.mem_cons, List.mem_append] at hx ⊢
      rcases hx with hx | hx | hx | hx
      · exact .inl (.inl hx)
      · rcases hin x (by simp [hx]) with k | k
        · rcases List.mem_append.1 k with k | k
          · exact .inl (.inr (.inl k))
          · exact .inl (.inr (.inr (hFin x k)))
        · exact .inr k
      · rcases hin x (by simp [hx]) with k | k
        · rcases List.mem_append.1 k with k | k
          · exact .inl (.inr (.inl k))
          · exact .inl (.inr (.inr (hFin x k)))
        · exact .inr k
      · exact .inl (.inr (.inr (hXin x hx))))
    (by
      rw [List.nodup_cons, List.nodup_append, List.nodup_append]
      refine ⟨fun k => ?_, hn'.2.1, ⟨hn'.2.2.1, (List.nodup_append.1 hnd).2.1, fun x hx y hy e => hdn x (by simp [hx]) (e ▸ hy)⟩, fun x hx y hy e => ?_⟩
      · simp only [List.mem_append] at k
        rcases k with k | k | k
        · exact hn'.1 (by simp [k])
        · exact hn'.1 (by simp [k])
        · exact (hdis0 _ k).1 rfl
      · rcases List.mem_append.1 hy with hy | hy
        · exact hn'.2.2.2 x hx y hy e
        · exact hdn x (by simp [hx]) (e ▸ hy))
  have hnX : (F1' ++ φ bx :: (G ++ Fp 0)).Nodup := by
    have := c3.nod 0
    simp only [if_true] at this
    refine (List.Perm.nodup_iff ?_).2 this
    exact List.perm_middle
  have c4 := c3.pushB (d := bx) (g := φ bx) (t := t) (cs := cs') (cur := cur') (F := F1') (X := G ++ Fp 0) (by simp [St.setB_b]) hg' ho' hf' (fun x hx => by
      simp only [if_true]
      simp only [List.mem_append, List.mem_cons] at hx ⊢
      rcases hx with hx | hx | hx | hx <;> simp [hx]) hnX (.inl rfl)
  have c5 := c4.push (i := d) (rv := r) (v := v) (F := G) (X := Fp 0) hd (hv _) (fun x hx => by
      simp only [give, if_true]
      rw [if_neg (by omega)]
      exact hx) (by
      have := c4.nod 0
      simp only [give, if_true] at this
      rw [if_neg (by omega)] at this
      exact this)
  exact hK _ _ (h _ _ (Conc.eqv ⟨_, _, _, c5⟩ (fun i => rfl) (fun x => by
    simp only [St.set_b, St.setB_b]
    split <;> rfl)))
end
end Go.Proofs.YtloipjaiceifbaaGreat.M

/- Short forms of the rules. No condition. -/
set_option linter.unusedVariables false
namespace Go.Proofs.YtloipjaiceifbaaGreat.M
open Go Go.RowKit
section
variable {P : Program} {n : Nat} {h0 : Nat → Prop} {w0 : World} {Fz0 : FzT} {ops : Array Oper} {σ σ0 : St} {QS : St → Prop} {Q : Exit → St → Prop} {o : Oper} {l : List Oper} {acc : List (Nat × Step)} {c : Code}
theorem rA {L : Step} (y : RunS P n ops QS l (σ.app L)) (h1 : RdL L.rs σ.s := by repeat (first | exact True.intro | refine And.intro rfl ?_)) (h2 : RdL L.rb σ.b := by repeat (first | exact True.intro | refine And.intro rfl ?_)) (x : Loc P n o L) (hg : o.guard = none := by exact rfl) (ha : L.al = none := by exact rfl) : RunS P n ops QS (o :: l) σ :=
  RunS.step h1 h2 (LocG.of hg x) (fun d hd => by rw [ha] at hd; cases hd) y
theorem rB {L : Step} {g s : Nat} {b c : Bool} (hb : c = b) (y : RunS P n ops QS l (σ.app ⟨(s, RV.bool c) :: L.rs, L.rb, L.ws, L.wb, L.al⟩)) (hg : o.guard = some (g, b) := by exact rfl) (hs : (ops[g]?).bind (·.dst) = some s := by exact rfl) (h1 : RdL ((s, RV.bool c) :: L.rs) σ.s := by repeat (first | exact True.intro | refine And.intro rfl ?_)) (h2 : RdL L.rb σ.b := by repeat (first | exact True.intro | refine And.intro rfl ?_)) (x : Loc P n o L) (hlt : s < n := by decide) (ha : L.al = none := by exact rfl) : RunS P n ops QS (o :: l) σ :=
  RunS.step (L := ⟨(s, RV.bool c) :: L.rs, L.rb, L.ws, L.wb, L.al⟩) h1 h2 (LocG.yes hg hs hlt hb x) (fun d hd => by have hd : L.al = some d := hd; rw [ha] at hd; cases hd) y
theorem dA {L : Step} (m : Nat) (y : Run P n ops σ0 (fun _ _ => True) QS l (acc ++ [(m, L)]) (σ.app L)) (h1 : RdL L.rs σ.s := by repeat (first | exact True.intro | refine And.intro rfl ?_)) (h2 : RdL L.rb σ.b := by repeat (first | exact True.intro | refine And.intro rfl ?_)) (x : Loc P n o L) (hg : o.guard = none := by exact rfl) (ha : L.al = none := by exact rfl) (h4 : chkE m o L acc = true := by kernel_rfl) : Run P n ops σ0 (fun _ _ => True) QS (o :: l) acc σ :=
  Run.step m h1 h2 (LocG.of hg x) (fun d hd => by rw [ha] at hd; cases hd) h4 y
theorem dB {L : Step} {g s : Nat} {b c : Bool} (m : Nat) (hb : c = b) (y : Run P n ops σ0 (fun _ _ => True) QS l (acc ++ [(m, ⟨(s, RV.bool c) :: L.rs, L.rb, L.ws, L.wb, L.al⟩)]) (σ.app ⟨(s, RV.bool c) :: L.rs, L.rb, L.ws, L.wb, L.al⟩)) (hg : o.guard = some (g, b) := by exact rfl) (hs : (ops[g]?).bind (·.dst) = some s := by exact rfl) (h1 : RdL ((s, RV.bool c) :: L.rs) σ.s := by repeat (first | exact True.intro | refine And.intro rfl ?_)) (h2 : RdL L.rb σ.b := by repeat (first | exact True.intro | refine And.intro rfl ?_)) (x : Loc P n o L) (hlt : s < n := by decide) (ha : L.al = none := by exact rfl)
    (h4 : chkE m o ⟨(s, RV.bool c) :: L.rs, L.rb, L.ws, L.wb, L.al⟩ acc = true := by kernel_rfl) : Run P n ops σ0 (fun _ _ => True) QS (o :: l) acc σ :=
  Run.step (L := ⟨(s, RV.bool c) :: L.rs, L.rb, L.ws, L.wb, L.al⟩) m h1 h2 (LocG.yes hg hs hlt hb x) (fun d hd => by have hd : L.al = some d := hd; rw [ha] at hd; cases hd) h4 y
theorem dF {g s d : Nat} {c : Bool} (m : Nat) (hb : c = false) (y : Run P n ops σ0 (fun _ _ => True) QS l (acc ++ [(m, ⟨[(s, RV.bool c)], [], [(d, some RV.und)], [], none⟩)]) (σ.app ⟨[(s, RV.bool c)], [], [(d, some RV.und)], [], none⟩)) (hg : o.guard = some (g, true) := by exact rfl) (hs : (ops[g]?).bind (·.dst) = some s := by exact rfl) (hlt : s < n := by decide) (hd : o.dst = some d := by exact rfl)
    (h1 : σ.s s = some (RV.bool c) := by exact rfl) (h4 : chkE m o ⟨[(s, RV.bool c)], [], [(d, some RV.und)], [], none⟩ acc = true := by kernel_rfl) : Run P n ops σ0 (fun _ _ => True) QS (o :: l) acc σ :=
  Run.step (L := ⟨[(s, RV.bool c)], [], [(d, some RV.und)], [], none⟩) m ⟨h1, True.intro⟩ True.intro (LocG.no hg hs hlt hb hd) nofree h4 y
theorem dT {g s d : Nat} {c : Bool} (m : Nat) (hb : c = true) (y : Run P n ops σ0 (fun _ _ => True) QS l (acc ++ [(m, ⟨[(s, RV.bool c)], [], [(d, some RV.und)], [], none⟩)]) (σ.app ⟨[(s, RV.bool c)], [], [(d, some RV.und)], [], none⟩)) (hg : o.guard = some (g, false) := by exact rfl) (hs : (ops[g]?).bind (·.dst) = some s := by exact rfl) (hlt : s < n := by decide) (hd : o.dst = some d := by exact rfl)
    (h1 : σ.s s = some (RV.bool c) := by exact rfl) (h4 : chkE m o ⟨[(s, RV.bool c)], [], [(d, some RV.und)], [], none⟩ acc = true := by kernel_rfl) : Run P n ops σ0 (fun _ _ => True) QS (o :: l) acc σ :=
  Run.step (L := ⟨[(s, RV.bool c)], [], [(d, some RV.und)], [], none⟩) m ⟨h1, True.intro⟩ True.intro (LocG.no hg hs hlt hb hd) nofree h4 y
theorem dU {g s d : Nat} {b : Bool} (m : Nat) (y : Run P n ops σ0 (fun _ _ => True) QS l (acc ++ [(m, ⟨[(s, RV.und)], [], [(d, some RV.und)], [], none⟩)]) (σ.app ⟨[(s, RV.und)], [], [(d, some RV.und)], [], none⟩)) (hg : o.guard = some (g, b) := by exact rfl) (hs : (ops[g]?).bind (·.dst) = some s := by exact rfl) (hd : o.dst = some d := by exact rfl)
    (h1 : σ.s s = some RV.und := by exact rfl) (h4 : chkE m o ⟨[(s, RV.und)], [], [(d, some RV.und)], [], none⟩ acc = true := by kernel_rfl) : Run P n ops σ0 (fun _ _ => True) QS (o :: l) acc σ :=
  Run.step (L := ⟨[(s, RV.und)], [], [(d, some RV.und)], [], none⟩) m ⟨h1, True.intro⟩ True.intro (LocG.noU hg hs hd) nofree h4 y
theorem sO (l : List (Nat × RV)) (b : List (Nat × (Nat × List PV))) (h : SW P n h0 w0 Fz0 c (St.of l b) Q) (hl : RdL l σ.s := by repeat (first | exact True.intro | refine And.intro rfl ?_)) (hb : RdL b σ.b := by repeat (first | exact True.intro | refine And.intro rfl ?_)) : SW P n h0 w0 Fz0 c σ Q := sw_of hl hb h
theorem wO (m : List (Nat × RV)) (b : List (Nat × (Nat × List PV))) (h : SWL P n h0 w0 Fz0 ops l (St.of m b) Q) (hl : RdL m σ.s := by repeat (first | exact True.intro | refine And.intro rfl ?_)) (hb : RdL b σ.b := by repeat (first | exact True.intro | refine And.intro rfl ?_)) : SWL P n h0 w0 Fz0 ops l σ Q := swl_of hl hb h
theorem wA {L : Step} (y : SWL P n h0 w0 Fz0 ops l (σ.app L) Q) (h1 : RdL L.rs σ.s := by repeat (first | exact True.intro | refine And.intro rfl ?_)) (h2 : RdL L.rb σ.b := by repeat (first | exact True.intro | refine And.intro rfl ?_)) (x : Loc P n o L) (hg : o.guard = none := by exact rfl) (ha : L.al = none := by exact rfl) : SWL P n h0 w0 Fz0 ops (o :: l) σ Q :=
  swl_step h1 h2 (LocG.of hg x) (fun d hd => by rw [ha] at hd; cases hd) y
end
section
variable {P : Program} {n : Nat} {d x : Nat} {ty : TypeId} {pos : String} {af : Array Edge} {g : Option (Nat × Bool)}
theorem cM {r r' : RV} (hc : Cp r r') (hd : d < n := by decide) : Loc P n ⟨some d, .move (.tmp x), ty, pos, af, g⟩ ⟨[(x, r)], [], [(d, some r')], [], none⟩ := loc_copy (.inl rfl) hd hc
theorem cA {r r' : RV} (hc : Cp r r') (hd : d < n := by decide) : Loc P n ⟨some d, .assign (.tmp x), ty, pos, af, g⟩ ⟨[(x, r)], [], [(d, some r')], [], none⟩ := loc_copy (.inr rfl) hd hc
theorem sM {v : Value} (hd : d < n := by decide) : Loc P n ⟨some d, .move (.tmp x), ty, pos, af, g⟩ ⟨[(x, RV.sc v)], [], [(d, some (RV.sc v))], [], none⟩ := cM Cp.sc hd
theorem sA {v : Value} (hd : d < n := by decide) : Loc P n ⟨some d, .assign (.tmp x), ty, pos, af, g⟩ ⟨[(x, RV.sc v)], [], [(d, some (RV.sc v))], [], none⟩ := cA Cp.sc hd
theorem vM {cs : List PV} (ag : Bool) (qs : List PV) (ht : ToL cs qs := by repeat' (first | exact True.intro | exact PV.To.refl _ | exact PV.to_none | apply And.intro)) (hb : BorL qs := by repeat (first | exact BorL.nil | refine BorL.cons (PV.bor_val _) ?_ | refine BorL.cons (PV.bor_sl _) ?_ | refine BorL.cons (PV.bor_lo _ _) ?_)) (hd : d < n := by decide) :
    Loc P n ⟨some d, .move (.tmp x), ty, pos, af, g⟩ ⟨[(x, RV.sv ag cs)], [], [(d, some (RV.sv ag qs))], [], none⟩ := cM (Cp.sv ht hb) hd
theorem vA {cs : List PV} (ag : Bool) (qs : List PV) (ht : ToL cs qs := by repeat' (first | exact True.intro | exact PV.To.refl _ | exact PV.to_none | apply And.intro)) (hb : BorL qs := by repeat (first | exact BorL.nil | refine BorL.cons (PV.bor_val _) ?_ | refine BorL.cons (PV.bor_sl _) ?_ | refine BorL.cons (PV.bor_lo _ _) ?_)) (hd : d < n := by decide) :
    Loc P n ⟨some d, .assign (.tmp x), ty, pos, af, g⟩ ⟨[(x, RV.sv ag cs)], [], [(d, some (RV.sv ag qs))], [], none⟩ := cA (Cp.sv ht hb) hd
theorem tM {r : RV} (hd : d < n := by decide) : Loc P n ⟨some d, .move (.tmp x), ty, pos, af, g⟩ ⟨[(x, r)], [], [(x, none), (d, some r)], [], none⟩ := loc_take (.inl rfl) hd
theorem tA {r : RV} (hd : d < n := by decide) : Loc P n ⟨some d, .assign (.tmp x), ty, pos, af, g⟩ ⟨[(x, r)], [], [(x, none), (d, some r)], [], none⟩ := loc_take (.inr rfl) hd
theorem kM {v : Value} (h : v.oneCell' = true := by exact rfl) (hd : d < n := by decide) : Loc P n ⟨some d, .move (.const v), ty, pos, af, g⟩ ⟨[], [], [(d, some (RV.sc v))], [], none⟩ := loc_const (.inl rfl) hd (ok_sc h)
theorem kA {v : Value} (h : v.oneCell' = true := by exact rfl) (hd : d < n := by decide) : Loc P n ⟨some d, .assign (.const v), ty, pos, af, g⟩ ⟨[], [], [(d, some (RV.sc v))], [], none⟩ := loc_const (.inr rfl) hd (ok_sc h)
theorem lD {T p b off t : Nat} {ag : Bool} {k : Nat} {cs : List PV} (qs : List PV) (hT : tyI P T = some (ag, k)) (h1 : ag = false → k = 1 := by first | exact fun _ => rfl | exact fun h => nomatch h) (hk : off + k ≤ cs.length := by exact Nat.le_of_ble_eq_true rfl) (ht : ToL ((cs.drop off).take k) qs := by repeat' (first | exact True.intro | exact PV.To.refl _ | exact PV.to_none | apply And.intro))
    (hb : BorL qs := by repeat (first | exact BorL.nil | refine BorL.cons (PV.bor_val _) ?_ | refine BorL.cons (PV.bor_sl _) ?_ | refine BorL.cons (PV.bor_lo _ _) ?_)) (hd : d < n := by decide) :
    Loc P n ⟨some d, .load T (.tmp p), ty, pos, af, g⟩ ⟨[(p, RV.ptr b off)], [(b, (t, cs))], [(d, some (RV.sv ag qs))], [], none⟩ := loc_load hd hT h1 hk ht hb
theorem lE {T p : Nat} {ag : Bool} {k : Nat} {cs : List PV} (qs : List PV) (hT : tyI P T = some (ag, k)) (h1 : ag = false → k = 1 := by first | exact fun _ => rfl | exact fun h => nomatch h) (hk : k ≤ cs.length := by exact Nat.le_of_ble_eq_true rfl) (ht : ToL (cs.take k) qs := by repeat' (first | exact True.intro | exact PV.To.refl _ | exact PV.to_none | apply And.intro))
    (hb : BorL qs := by repeat (first | exact BorL.nil | refine BorL.cons (PV.bor_val _) ?_ | refine BorL.cons (PV.bor_sl _) ?_ | refine BorL.cons (PV.bor_lo _ _) ?_)) (hd : d < n := by decide) :
    Loc P n ⟨some d, .load T (.tmp p), ty, pos, af, g⟩ ⟨[(p, RV.eptr cs)], [], [(d, some (RV.sv ag qs))], [], none⟩ := loc_eload hd hT h1 hk ht hb
theorem lF {T p b off f fo : Nat} (hT : fieldI P T f = some fo) (hd : d < n := by decide) : Loc P n ⟨some d, .fieldAddr T (.tmp p) f, ty, pos, af, g⟩ ⟨[(p, RV.ptr b off)], [], [(d, some (RV.ptr b (off + fo)))], [], none⟩ := loc_field hd hT
theorem lN {T E e bs s m : Nat} {o : Fl} {es : List (List PV)} (hT : sliceI P T = some (E, e, bs)) (hm : es.length = m := by first | exact List.length_map _ | exact rfl) (hd : d < n := by decide) :
    Loc P n ⟨some d, .call { callee := .builtin .len, args := #[.tmp s], argTypes := #[T] }, ty, pos, af, g⟩ ⟨[(s, RV.slc o es)], [], [(d, some (RV.int (m : Int)))], [], none⟩ := loc_len hd hT hm
theorem nT {T : TypeId} {b : Bool} (hd : d < n := by decide) : Loc P n ⟨some d, .unOp .not T (.tmp x), ty, pos, af, g⟩ ⟨[(x, RV.bool b)], [], [(d, some (RV.bool !b))], [], none⟩ := loc_not hd
theorem pkT {c x y : Operand} {b : Bool} {r : RV} (hg : b = true) (hc : OpOk c (RV.bool b) := by exact True.intro) (hz : OpOk x r := by first | exact True.intro | exact ok_sc rfl) (hcp : Cp r r := by exact Cp.sc) (hd : d < n := by decide) : Loc P n ⟨some d, .pick c x y, ty, pos, af, g⟩ ⟨opR c (RV.bool b) ++ opR x r, [], [(d, some r)], [], none⟩ := loc_pick (z := x) hd (by rw [hg]; rfl) hc hz hcp
theorem pkF {c x y : Operand} {b : Bool} {r : RV} (hg : b = false) (hc : OpOk c (RV.bool b) := by exact True.intro) (hz : OpOk y r := by first | exact True.intro | exact ok_sc rfl) (hcp : Cp r r := by exact Cp.sc) (hd : d < n := by decide) : Loc P n ⟨some d, .pick c x y, ty, pos, af, g⟩ ⟨opR c (RV.bool b) ++ opR y r, [], [(d, some r)], [], none⟩ := loc_pick (z := y) hd (by rw [hg]; rfl) hc hz hcp
theorem cL {f : Nat} {args : Array Operand} {tys : Array TypeId} {r : RV} (qs as_ : List (Bool × List PV)) (hf : callI P f = true) (hok : OpsOk args.toList qs := by repeat' (first | exact True.intro | exact ok_sc rfl | exact ok_nilr | apply And.intro))
    (hto : ToT qs as_ := by repeat' (first | exact True.intro | exact rfl | exact PV.To.refl _ | exact PV.to_none | apply And.intro)) (hs : SCall P f as_ r) (hd : d < n := by decide) : Loc P n ⟨some d, .call { callee := .value (.func f), args := args, argTypes := tys }, ty, pos, af, g⟩ ⟨opsR args.toList qs, [], [(d, some r)], [], none⟩ := loc_call hd hf hok hto hs
section
variable {T T2 : TypeId} {x y : Operand} {i j : Int}
theorem B_lss (hx : OpOk x (RV.int i) := by first | exact True.intro | exact ok_sc rfl) (hy : OpOk y (RV.int j) := by first | exact True.intro | exact ok_sc rfl) (hd : d < n := by decide) : Loc P n ⟨some d, .binOp .lss T x y T2, ty, pos, af, g⟩ ⟨opR x (RV.int i) ++ opR y (RV.int j), [], [(d, some (RV.bool (decide (i < j))))], [], none⟩ := loc_lss hd hx hy
theorem B_leq (hx : OpOk x (RV.int i) := by first | exact True.intro | exact ok_sc rfl) (hy : OpOk y (RV.int j) := by first | exact True.intro | exact ok_sc rfl) (hd : d < n := by decide) : Loc P n ⟨some d, .binOp .leq T x y T2, ty, pos, af, g⟩ ⟨opR x (RV.int i) ++ opR y (RV.int j), [], [(d, some (RV.bool (decide (i ≤ j))))], [], none⟩ := loc_leq hd hx hy
theorem B_gtr (hx : OpOk x (RV.int i) := by first | exact True.intro | exact ok_sc rfl) (hy : OpOk y (RV.int j) := by first | exact True.intro | exact ok_sc rfl) (hd : d < n := by decide) : Loc P n ⟨some d, .binOp .gtr T x y T2, ty, pos, af, g⟩ ⟨opR x (RV.int i) ++ opR y (RV.int j), [], [(d, some (RV.bool (decide (i > j))))], [], none⟩ := loc_gtr hd hx hy
theorem B_geq (hx : OpOk x (RV.int i) := by first | exact True.intro | exact ok_sc rfl) (hy : OpOk y (RV.int j) := by first | exact True.intro | exact ok_sc rfl) (hd : d < n := by decide) : Loc P n ⟨some d, .binOp .geq T x y T2, ty, pos, af, g⟩ ⟨opR x (RV.int i) ++ opR y (RV.int j), [], [(d, some (RV.bool (decide (i ≥ j))))], [], none⟩ := loc_geq hd hx hy
theorem B_eql (hx : OpOk x (RV.int i) := by first | exact True.intro | exact ok_sc rfl) (hy : OpOk y (RV.int j) := by first | exact True.intro | exact ok_sc rfl) (hd : d < n := by decide) : Loc P n ⟨some d, .binOp .eql T x y T2, ty, pos, af, g⟩ ⟨opR x (RV.int i) ++ opR y (RV.int j), [], [(d, some (RV.bool (i == j)))], [], none⟩ := loc_eql hd hx hy
theorem B_neq (hx : OpOk x (RV.int i) := by first | exact True.intro | exact ok_sc rfl) (hy : OpOk y (RV.int j) := by first | exact True.intro | exact ok_sc rfl) (hd : d < n := by decide) : Loc P n ⟨some d, .binOp .neq T x y T2, ty, pos, af, g⟩ ⟨opR x (RV.int i) ++ opR y (RV.int j), [], [(d, some (RV.bool (i != j)))], [], none⟩ := loc_neq hd hx hy
theorem B_add (hx : OpOk x (RV.int i) := by first | exact True.intro | exact ok_sc rfl) (hy : OpOk y (RV.int j) := by first | exact True.intro | exact ok_sc rfl) (h : I64 (i + j) := by unfold I64; omega) (hd : d < n := by decide) : Loc P n ⟨some d, .binOp .add T x y T2, ty, pos, af, g⟩ ⟨opR x (RV.int i) ++ opR y (RV.int j), [], [(d, some (RV.int (i + j)))], [], none⟩ := loc_add hd hx hy h
theorem B_sub (hx : OpOk x (RV.int i) := by first | exact True.intro | exact ok_sc rfl) (hy : OpOk y (RV.int j) := by first | exact True.intro | exact ok_sc rfl) (h : I64 (i - j) := by unfold I64; omega) (hd : d < n := by decide) : Loc P n ⟨some d, .binOp .sub T x y T2, ty, pos, af, g⟩ ⟨opR x (RV.int i) ++ opR y (RV.int j), [], [(d, some (RV.int (i - j)))], [], none⟩ := loc_sub hd hx hy h
end
end
end Go.Proofs.YtloipjaiceifbaaGreat.M

/- Rules for whole numbers of other kinds, for bytes of texts, and for conditions that are constants. No condition. -/
set_option linter.unusedVariables false
namespace Go.Proofs.YtloipjaiceifbaaGreat.M
open Go Go.RowKit
section
variable {P : Program} {n : Nat}
section
variable {T : TypeId} {x y : Operand} {i j : Int} {k : IntKind} {w : World}
theorem ubin_geq : Sem.run P (do eqGuard .geq T x y (.int k i) (.int k j); binOp .geq T (.int k i) (.int k j) : Sem Value) w = .ok (.bool (decide (i ≥ j))) w := by simp [eqGuard, binOp, Op.intCmp]
end
section
variable {T T2 : TypeId} {x y : Operand} {d : Nat} {ty : TypeId} {pos : String} {af : Array Edge} {g : Option (Nat × Bool)} {i j : Int} {k : IntKind}
theorem U_geq (hx : OpOk x (RV.sc (.int k i)) := by first | exact True.intro | exact ok_sc rfl) (hy : OpOk y (RV.sc (.int k j)) := by first | exact True.intro | exact ok_sc rfl) (hd : d < n := by decide) : Loc P n ⟨some d, .binOp .geq T x y T2, ty, pos, af, g⟩ ⟨opR x (RV.sc (.int k i)) ++ opR y (RV.sc (.int k j)), [], [(d, some (RV.bool (decide (i ≥ j))))], [], none⟩ := loc_bin hd hx hy rfl fun _ => ubin_geq
theorem loc_conv {src dst : TypeId} {k2 : IntKind} (hS : P.underlying src = some (.int k)) (hD : P.underlying dst = some (.int k2)) (hj : k2.wrap i = j) (hx : OpOk x (RV.sc (.int k i)) := by first | exact True.intro | exact ok_sc rfl) (hd : d < n := by decide) :
    Loc P n ⟨some d, .convert src dst x, ty, pos, af, g⟩ ⟨opR x (RV.sc (.int k i)), [], [(d, some (RV.sc (.int k2 j)))], [], none⟩ := by
  intro h0 w0 Fz0 σ a w K Q h1 h2 _ _ h5
  obtain ⟨φ, Fz, Fp, hc⟩ := h1
  have ex := hc.sc h2 hx
  refine wp_val (v := .int k2 j) (w' := w) ?_ (h5 _ _ (hc.put0 hd (SvOwn.of_sc rfl)))
  unfold execOp
  simp [ex, convert, run_underlying hS, run_underlying hD, Conv.intToInt, hj]
theorem loc_ghidx {T E e bs d s G k m : Nat} {i : Operand} {ty : TypeId} {pos : String} {af : Array Edge} {g : Option (Nat × Bool)} {v : Value} {us : List Value} {ds : List PV} {o : Fl} {es : List (List PV)} {cs : List PV} {q : Int} (hT : sliceI P T = some (E, e, bs)) (hv : us[m]? = some v) (hm : ds[m]? = some (PV.sl o es))
    (hq : q = (k : Int)) (hk : es[k]? = some cs) (he : cs.length = e) (hi : OpOk i (RV.int q) := by first | exact True.intro | exact ok_sc rfl) (hd : d < n := by decide) :
    Loc P n ⟨some d, .indexAddr T (.tmp s) i, ty, pos, af, g⟩ ⟨(s, RV.sc v) :: (G, RV.gh us ds) :: opR i (RV.int q), [], [(d, some (RV.eptr cs))], [], none⟩ := by
  intro h0 w0 Fz0 σ a w K Q hc hr _ _ h5
  obtain ⟨φ, Fz, Fp, hc⟩ := hc
  subst hq
  have ei := hc.sc hr.2.2 hi
  have hown : OwnL ds Fz w us _ := hc.slot G _ hr.2.1
  obtain ⟨v', hv', hrel⟩ := hown.rel.at_ hm
  rw [hv] at hv'
  injection hv' with hv'
  subst hv'
  have evs := (hc.one_ hr.1).1
  obtain ⟨ad, c, e', u, ev, h1, h2, h3, h4, h6⟩ := hrel.1
  have hlt : k < es.length := (List.getElem?_eq_some_iff.1 hk).1
  have hee : e' = e := by rw [← he]; exact (h3 cs (List.mem_of_getElem? hk)).symm
  subst hee
  rcases h4 with h4 | ⟨b, off, rfl, h4⟩
  · rw [h4] at hlt; simp at hlt
  obtain ⟨hu, inf, hinf, hsz, _⟩ := sliceI_spec hT
  refine wp_val (v := .pointer (some ⟨b, off + k * e', none⟩)) (w' := w) ?_ (h5 _ _ (hc.put0 hd ⟨⟨b, off + k * e', (List.range e').map (u k), rfl, ?_, fun j x hx => ?_⟩, rfl⟩))
  · unfold execOp
    have es' : a.eval (.tmp s) = .slice (some ⟨b, off, none⟩) es.length c := by rw [← ev]; exact evs
    have hlt' : (0 : Int) ≤ (k : Int) ∧ (k : Int) < (es.length : Int) := by omega
    simp only [es', ei, Instr.indexAt, asIntOf, Sem.run_bind, Sem.run_pure, Result.andThen_ok, run_underlying hu]
    simp [hlt', sizeOf, typeInfo, hinf, hsz, add_lit]
  · refine RelL.of_at (by simp [he]) fun j p v hp hv => ?_
    have hj : j < e' := by rw [← he]; exact (List.getElem?_eq_some_iff.1 hp).1
    simp [hj] at hv
    subst hv
    exact h6 k cs j p hk hp
  · have hj : j < e' := by have := (List.getElem?_eq_some_iff.1 hx).1; simpa using this
    simp [hj] at hx
    subst hx
    rw [Nat.add_assoc]
    exact h4 k j hlt hj
theorem loc_sidx {s : ByteArray} (hS : P.underlying T = some .string) (hx : OpOk x (RV.sc (.string s)) := by first | exact True.intro | exact ok_sc rfl) (hy : OpOk y (RV.sc (.int k i)) := by first | exact True.intro | exact ok_sc rfl) (hi : 0 ≤ i) (hb : ∃ b, s[i.toNat]? = some b ∧ ((b.toNat : Nat) : Int) = j) (hd : d < n := by decide) :
    Loc P n ⟨some d, .index T x y, ty, pos, af, g⟩ ⟨opR x (RV.sc (.string s)) ++ opR y (RV.sc (.int k i)), [], [(d, some (RV.sc (.int .u8 j)))], [], none⟩ := by
  intro h0 w0 Fz0 σ a w K Q h1 h2 _ _ h5
  obtain ⟨φ, Fz, Fp, hc⟩ := h1
  have ex := hc.sc h2.left hx
  have ey := hc.sc h2.right hy
  obtain ⟨b, hb, rfl⟩ := hb
  refine wp_val (v := .int .u8 (b.toNat : Nat)) (w' := w) ?_ (h5 _ _ (hc.put0 hd (SvOwn.of_sc rfl)))
  unfold execOp
  simp [ex, ey, Instr.index, asIntOf, run_underlying hS, hi, hb]
end
section
variable {h0 : Nat → Prop} {w0 : World} {Fz0 : FzT} {σ : St} {Q : Exit → St → Prop} {c1 c2 : Code}
theorem sw_condF (h : SW P n h0 w0 Fz0 c2 σ Q) : SW P n h0 w0 Fz0 (.cond (.const (.bool false)) c1 c2) σ Q := fun a w hc => wp_cond (t := false) rfl (h a w hc)
end
end
end Go.Proofs.YtloipjaiceifbaaGreat.M
