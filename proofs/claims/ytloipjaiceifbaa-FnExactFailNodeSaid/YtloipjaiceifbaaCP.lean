/- Marks: what the laws lay into memory, element by element. No condition. -/
import Derived.Test.YtloipjaiceifbaaCO
import Derived.Test.YtloipjaiceifbaaCK
set_option linter.unusedVariables false
namespace Go.Proofs.Ytloipjaiceifbaa.M
open Go Go.RowKit
section
variable {P : Program} {n : Nat} {h0 : Nat → Prop} {w0 : World} {Fz0 : FzT} {σ : St} {Q : Exit → St → Prop} {c : Code}
theorem mid_take {α : Type} {A m B : List α} {o : Nat} (ho : o ≤ m.length) : (A ++ (m ++ B)).take (A.length + o) = A ++ m.take o := by
  rw [List.take_append, List.take_of_length_le (by omega), show A.length + o - A.length = o by omega, List.take_append_of_le_length ho]
theorem mid_drop {α : Type} {A m B : List α} {o : Nat} (ho : o ≤ m.length) : (A ++ (m ++ B)).drop (A.length + o) = m.drop o ++ B := by
  rw [List.drop_append, List.drop_of_length_le (by omega), show A.length + o - A.length = o by omega, List.drop_append_of_le_length ho, List.nil_append]
theorem loc_storeM {T p b off t o : Nat} {x : Operand} {ty : TypeId} {pos : String} {af : Array Edge} {g : Option (Nat × Bool)} {ag : Bool} {k : Nat} {A m B vs : List PV} (hoff : off = A.length + o) (hT : tyI P T = some (ag, k)) (hx : OpOk x (RV.sv ag vs)) (hv : vs.length = k) (hk : o + k ≤ m.length) :
    Loc P n ⟨none, .store T (.tmp p) x, ty, pos, af, g⟩ ⟨(p, RV.ptr b off) :: opR x (RV.sv ag vs), [(b, (t, A ++ (m ++ B)))], killO x, [(b, some (t, A ++ ((m.take o ++ (vs ++ m.drop (o + k))) ++ B)))], none⟩ := by
  have h : Loc P n ⟨none, .store T (.tmp p) x, ty, pos, af, g⟩ ⟨(p, RV.ptr b off) :: opR x (RV.sv ag vs), [(b, (t, A ++ (m ++ B)))], killO x, [(b, some (t, (A ++ (m ++ B)).take off ++ (vs ++ (A ++ (m ++ B)).drop (off + k))))], none⟩ :=
    loc_store hT hx hv (by rw [hoff]; simp only [List.length_append]; omega)
  have e : (A ++ (m ++ B)).take off ++ (vs ++ (A ++ (m ++ B)).drop (off + k)) = A ++ ((m.take o ++ (vs ++ m.drop (o + k))) ++ B) := by
    rw [hoff, mid_take (by omega), show A.length + o + k = A.length + (o + k) by omega, mid_drop hk]
    simp only [List.append_assoc]
  rw [e] at h
  exact @h
theorem loc_loadM {T d p b off t o : Nat} {ty : TypeId} {pos : String} {af : Array Edge} {g : Option (Nat × Bool)} {ag : Bool} {k : Nat} {A m B qs : List PV} (hoff : off = A.length + o) (hd : d < n) (hT : tyI P T = some (ag, k)) (h1 : ag = false → k = 1) (hk : o + k ≤ m.length)
    (ht : ToL ((m.drop o).take k) qs) (hb : BorL qs) :
    Loc P n ⟨some d, .load T (.tmp p), ty, pos, af, g⟩ ⟨[(p, RV.ptr b off)], [(b, (t, A ++ (m ++ B)))], [(d, some (RV.sv ag qs))], [], none⟩ :=
  loc_load hd hT h1 (by rw [hoff]; simp only [List.length_append]; omega) (by
    rw [hoff, mid_drop (by omega), List.take_append_of_le_length (by rw [List.length_drop]; omega)]; exact ht) hb
/-- Names are dropped. -/
theorem sw_boxTo {d t : Nat} {A ms ms' B : List PV} (hd : σ.b d = some (t, A ++ (ms ++ B))) (ht : OwnTo ms ms') (h : SW P n h0 w0 Fz0 c (σ.setB d (some (t, A ++ (ms' ++ B)))) Q) : SW P n h0 w0 Fz0 c σ Q := fun a w hc => by
  obtain ⟨φ, Fz, Fp, hc⟩ := hc
  refine h a w ⟨φ, Fz, Fp, hc.rebox hd fun cur k _ => ?_⟩
  obtain ⟨vA, vM, vB, FA, FM, FB, e1, e2, kA, kM, kB⟩ := own_mid k
  rw [e1, e2]
  exact kA.append ((ht kM).append kB)
end
def mkL {α : Type} (f : α → Int → α × Int) : List α → Int → List α × Int
  | [], k => ([], k)
  | x :: xs, k => ((f x k).1 :: (mkL f xs (f x k).2).1, (mkL f xs (f x k).2).2)
section
variable {α : Type} {f : α → Int → α × Int}
theorem mkL_len : ∀ (xs : List α) (k : Int), (mkL f xs k).1.length = xs.length
  | [], _ => rfl
  | x :: xs, k => by simp [mkL, mkL_len xs]
theorem mkL_le (h : ∀ x k, k ≤ (f x k).2) : ∀ (xs : List α) (k : Int), k ≤ (mkL f xs k).2
  | [], k => Int.le_refl k
  | x :: xs, k => Int.le_trans (h x k) (mkL_le h xs _)
theorem mkL_app : ∀ (xs ys : List α) (k : Int), mkL f (xs ++ ys) k = ((mkL f xs k).1 ++ (mkL f ys (mkL f xs k).2).1, (mkL f ys (mkL f xs k).2).2)
  | [], ys, k => rfl
  | x :: xs, ys, k => by
    show mkL f (x :: (xs ++ ys)) k = _
    simp only [mkL, mkL_app xs ys, List.cons_append]
theorem mkL_succ {xs : List α} {i : Nat} (hi : i < xs.length) (k : Int) : mkL f (xs.take (i + 1)) k = ((mkL f (xs.take i) k).1 ++ [(f xs[i] (mkL f (xs.take i) k).2).1], (f xs[i] (mkL f (xs.take i) k).2).2) := by
  rw [List.take_succ_eq_append_getElem hi, mkL_app]; rfl
theorem mkL_take_le (h : ∀ x k, k ≤ (f x k).2) (xs : List α) (i : Nat) (k : Int) : (mkL f (xs.take i) k).2 ≤ (mkL f xs k).2 := by
  have e : mkL f xs k = mkL f (xs.take i ++ xs.drop i) k := by rw [List.take_append_drop]
  rw [e, mkL_app]
  exact mkL_le h _ _
theorem mkL_get {xs : List α} {i : Nat} (hi : i < xs.length) (k : Int) (hi' : i < (mkL f xs k).1.length) : (mkL f xs k).1[i] = (f xs[i] (mkL f (xs.take i) k).2).1 := by
  have e : (mkL f xs k).1 = (mkL f (xs.take (i + 1)) k).1 ++ (mkL f (xs.drop (i + 1)) (mkL f (xs.take (i + 1)) k).2).1 := by
    have := mkL_app (f := f) (xs.take (i + 1)) (xs.drop (i + 1)) k
    rw [List.take_append_drop] at this
    rw [this]
  have hl : (mkL f (xs.take i) k).1.length = i := by rw [mkL_len, List.length_take]; omega
  have h : (mkL f xs k).1[i]? = some (f xs[i] (mkL f (xs.take i) k).2).1 := by
    rw [e, mkL_succ hi, List.getElem?_append_left (by simp [hl]), List.getElem?_append_right (by omega)]
    simp [hl]
  exact (List.getElem?_eq_some_iff.1 h).2
theorem mkL_getc {c : α → List PV} {xs : List α} {i : Nat} {k : Int} {cs : List PV} (hi : i < xs.length) (hc : c (f xs[i] (mkL f (xs.take i) k).2).1 = cs) : ((mkL f xs k).1.map c)[i]? = some cs := by
  have hi' : i < (mkL f xs k).1.length := by rw [mkL_len]; exact hi
  rw [List.getElem?_map, List.getElem?_eq_getElem hi', mkL_get hi, ← hc]; rfl
variable {c : α → List PV}
theorem mark_split {xs : List α} {k : Int} {i : Nat} {J : List PV} (hi : i < xs.length) : (((mkL f (xs.take i) k).1 ++ xs.drop i).map c).flatten ++ J = ((mkL f (xs.take i) k).1.map c).flatten ++ (c xs[i] ++ (((xs.drop (i + 1)).map c).flatten ++ J)) := by
  rw [List.drop_eq_getElem_cons hi]; simp only [List.map_append, List.map_cons, List.flatten_append, List.flatten_cons, List.append_assoc]
theorem mark_join {xs : List α} {k : Int} {i : Nat} {J cs : List PV} (hi : i < xs.length) (hc : cs = c (f xs[i] (mkL f (xs.take i) k).2).1) : ((mkL f (xs.take i) k).1.map c).flatten ++ (cs ++ (((xs.drop (i + 1)).map c).flatten ++ J)) = (((mkL f (xs.take (i + 1)) k).1 ++ xs.drop (i + 1)).map c).flatten ++ J := by
  subst hc
  rw [mkL_succ hi]; simp only [List.map_append, List.map_cons, List.map_nil, List.flatten_append, List.flatten_cons, List.flatten_nil, List.append_assoc, List.append_nil, List.nil_append]
theorem mark_len {xs : List α} {k : Int} {i e : Nat} (hc : ∀ x, (c x).length = e) (hi : i ≤ xs.length) : ((mkL f (xs.take i) k).1.map c).flatten.length = i * e := by
  rw [flatten_len (e := e) (fun cs hcs => by obtain ⟨x, _, rfl⟩ := List.mem_map.1 hcs; exact hc x), List.length_map, mkL_len, List.length_take, Nat.min_eq_left hi]
theorem mark_zero {xs : List α} {k : Int} {J : List PV} : (xs.map c).flatten ++ J = (((mkL f (xs.take 0) k).1 ++ xs.drop 0).map c).flatten ++ J := by simp [mkL]
theorem mark_all {xs : List α} {k : Int} {i : Nat} {J : List PV} (hi : i = xs.length) : (((mkL f (xs.take i) k).1 ++ xs.drop i).map c).flatten ++ J = ((mkL f xs k).1.map c).flatten ++ J := by
  subst hi; simp
theorem ctL {w : α → Nat} {s c C : Int} (h : ∀ x k, (f x k).2 ≤ k + s + c * (w x : Int)) (hs : s ≤ C) (hc : c ≤ C) : ∀ (xs : List α) (k : Int), (mkL f xs k).2 ≤ k + C * ((xs.length + (xs.map w).sum : Nat) : Int)
  | [], k => by simp [mkL]
  | x :: xs, k => by
    have h1 := h x k
    have h2 := ctL h hs hc xs (f x k).2
    have h3 : c * (w x : Int) ≤ C * (w x : Int) := Int.mul_le_mul_of_nonneg_right hc (Int.natCast_nonneg _)
    have e : C * (((x :: xs).length + ((x :: xs).map w).sum : Nat) : Int) = C + C * (w x : Int) + C * ((xs.length + (xs.map w).sum : Nat) : Int) := by
      simp only [List.length_cons, List.map_cons, List.sum_cons, Int.natCast_add, Int.mul_add, Int.natCast_one, Int.mul_one]
      omega
    rw [e]
    show (mkL f xs (f x k).2).2 ≤ _
    omega
theorem box_eq {t : Nat} {cs ds : List PV} (h : cs = ds) : some (t, cs) = some (t, ds) := by rw [h]
theorem len1 {us : List Value} (h : us.length = 1) : ∃ u, us = [u] := List.length_eq_one_iff.1 h
end
end Go.Proofs.Ytloipjaiceifbaa.M
