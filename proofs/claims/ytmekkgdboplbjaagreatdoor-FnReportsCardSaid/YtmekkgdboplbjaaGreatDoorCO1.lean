/- Definitions and their laws. No condition. -/
import Derived.Test.YtmekkgdboplbjaaGreatDoorCZ0
set_option linter.all false
namespace Go.Proofs.YtmekkgdboplbjaaGreatDoor
open Go Go.RowKit M
set_option maxRecDepth 10000
def cg (c : au) : Int × au := ak c 7
def kS (c : au) : Int × au := ak (cg c).2 6
def ov (c : au) : ZG × au := gS (kS c).2 (kS c).1
def qG (c : au) : Int × au := aX (ov c).2 [0, 0, 1, 2]
structure lA where
 e : ay
 c : au
def kT (x : lA) : lA :=
 if (cg x.c).1 = 0 ∨ (cg x.c).1 = 1 then ⟨(iT x.e (ov x.c).1 (qG x.c).1).1, (qG x.c).2⟩
 else if (cg x.c).1 = 2 then ⟨(eW x.e (eC (cg x.c).2 x.e.Store).1).1, (eC (cg x.c).2 x.e.Store).2⟩
 else if (cg x.c).1 = 3 then ⟨(eV x.e (kS x.c).1).1, (kS x.c).2⟩
 else ⟨fk x.e, (cg x.c).2⟩
def CA {x : lA} (h : (cg x.c).1 = 0 ∨ (cg x.c).1 = 1) : kT x = ⟨(iT x.e (ov x.c).1 (qG x.c).1).1, (qG x.c).2⟩ := if_pos h
def Nk {x : lA} (h : ¬ ((cg x.c).1 = 0 ∨ (cg x.c).1 = 1)) (h2 : (cg x.c).1 = 2) : kT x = ⟨(eW x.e (eC (cg x.c).2 x.e.Store).1).1, (eC (cg x.c).2 x.e.Store).2⟩ := by unfold kT; rw [if_neg h, if_pos h2]
def Nl {x : lA} (h : ¬ ((cg x.c).1 = 0 ∨ (cg x.c).1 = 1)) (h2 : ¬ (cg x.c).1 = 2) (h3 : (cg x.c).1 = 3) : kT x = ⟨(eV x.e (kS x.c).1).1, (kS x.c).2⟩ := by unfold kT; rw [if_neg h, if_neg h2, if_pos h3]
def XR {x : lA} (h : ¬ ((cg x.c).1 = 0 ∨ (cg x.c).1 = 1)) (h2 : ¬ (cg x.c).1 = 2) (h3 : ¬ (cg x.c).1 = 3) : kT x = ⟨fk x.e, (cg x.c).2⟩ := by unfold kT; rw [if_neg h, if_neg h2, if_neg h3]
def bC (x : lA) : Nat → lA
 | 0 => x
 | k + 1 => kT (bC x k)
def bD (c : au) (most : Int) : lA := ⟨mX (br c).s, (ak (br c).c most).2⟩
def nd (c : au) (most : Int) : Nat := (ak (br c).c most).1.toNat
def dK (c : au) (most : Int) : lA := bC (bD c most) (nd c most)
def Nn (c : au) {most : Int} (h : 0 < most) : (nd c most : Int) < most := by
 have b1 := dh (br c).c most
 have b2 := di (br c).c (n := most) h
 unfold nd; omega
def XS (c : au) (most : Int) : eY 0 (bD c most).e := Xc (uq c)
def XT {N : Nat} {x : lA} (h : eY N x.e) (hN : N ≤ 249) : eY (N + 1) (kT x).e := by
 unfold kT
 split
 ·exact Xb h (by omega) _ _
 ·split
  ·exact (WW h _).le (by omega)
  ·split
   ·exact (WV h _).le (by omega)
   ·exact WU h hN
def No (c : au) (most : Int) : ∀ k, k ≤ 200 → eY k (bC (bD c most) k).e
 | 0, _ => XS c most
 | k + 1, h => XT (No c most k (by omega)) (by omega)
def XU (c : au) (most : Int) : bB (bD c most).e ≤ 210 := by
 have := rY (uq c)
 unfold bD mX bB
 dsimp only
 simp [bh, dP, ix, mC, hZ]; omega
def XV (x : lA) : bB (kT x).e ≤ bB x.e + 200 := by
 unfold kT
 split
 ·have h1 := WA x.e (ov x.c).1 (qG x.c).1
  have h2 := AT (kS x.c).2 (kS x.c).1
  have h3 : eM (ov x.c).1 ≤ 6 := h2
  dsimp only; omega
 ·split
  ·have := WE x.e (eC (cg x.c).2 x.e.Store).1
   dsimp only; omega
  ·split
   ·have := WC x.e (kS x.c).1
    dsimp only; omega
   ·exact VC x.e
def CB (c : au) (most : Int) : ∀ k, bB (bC (bD c most) k).e ≤ 210 + 200 * k
 | 0 => XU c most
 | k + 1 => by
  have h1 := CB c most k
  have h2 := XV (bC (bD c most) k)
  show bB (kT (bC (bD c most) k)).e ≤ _
  omega
def ow (c : au) : Int × au := ak c 6
def ne (c : au) : List Int := mJ.getD (ow c).1.toNat []
def mj (c : au) : Int × au := ak (ow c).2 12
def ml (c : au) : List Int × au := if (mj c).1 = 0 then ((ne c).set 0 (aX (mj c).2 [-1, 0, 3]).1, (aX (mj c).2 [-1, 0, 3]).2) else (ne c, (mj c).2)
def XW {c : au} (h : (mj c).1 = 0) : ml c = ((ne c).set 0 (aX (mj c).2 [-1, 0, 3]).1, (aX (mj c).2 [-1, 0, 3]).2) := if_pos h
def XX {c : au} (h : ¬ (mj c).1 = 0) : ml c = (ne c, (mj c).2) := if_neg h
def CC (c : au) : (ne c).length = 3 := by
 have b1 := dh c 6
 have b2 := di c (n := 6) (by decide)
 have h6 : mJ.length = 6 := rfl
 have hk : (ow c).1.toNat < mJ.length := by unfold ow; omega
 unfold ne
 rw [oo hk]
 exact Rs hk
def XY (c : au) : (ml c).1.length = 3 := by
 have := CC c
 unfold ml
 split
 ·dsimp only; rw [List.length_set]; exact this
 ·exact this
def dq (c : au) : Int × au := ak (dK c 14).c 16
def xO (e : ay) (v : Int) : ay := ⟨e.Store, v, e.Order, e.ZF, e.Done, e.ZR, e.Steps⟩
def xP (e : ay) (v : Int) : ay := ⟨e.Store, e.ZJ, e.Order, e.ZF, e.Done, e.ZR, v⟩
def xQ (e : ay) (v : Int) : ay := ⟨⟨e.Store.ZE, v⟩, e.ZJ, e.Order, e.ZF, e.Done, e.ZR, e.Steps⟩
def CD (e : ay) (o : List Int) : ay := ⟨e.Store, e.ZJ, o, e.ZF, e.Done, e.ZR, e.Steps⟩
def cz (c : au) : ay × au :=
 if (dq c).1 = 0 then (xO (dK c 14).e (aX (dq c).2 [-1, 8]).1, (aX (dq c).2 [-1, 8]).2)
 else if (dq c).1 = 1 then (xP (dK c 14).e (aX (dq c).2 [-1, 99999, 100000, 100001]).1, (aX (dq c).2 [-1, 99999, 100000, 100001]).2)
 else if (dq c).1 = 2 then (xQ (dK c 14).e (-1), (dq c).2)
 else if (dq c).1 = 3 then (CD (dK c 14).e (ml (dq c).2).1, (ml (dq c).2).2)
 else ((dK c 14).e, (dq c).2)
def XZ {c : au} (h : (dq c).1 = 0) : cz c = (xO (dK c 14).e (aX (dq c).2 [-1, 8]).1, (aX (dq c).2 [-1, 8]).2) := if_pos h
def Ya {c : au} (h0 : ¬ (dq c).1 = 0) (h : (dq c).1 = 1) : cz c = (xP (dK c 14).e (aX (dq c).2 [-1, 99999, 100000, 100001]).1, (aX (dq c).2 [-1, 99999, 100000, 100001]).2) := by unfold cz; rw [if_neg h0, if_pos h]
def Yb {c : au} (h0 : ¬ (dq c).1 = 0) (h1 : ¬ (dq c).1 = 1) (h : (dq c).1 = 2) : cz c = (xQ (dK c 14).e (-1), (dq c).2) := by unfold cz; rw [if_neg h0, if_neg h1, if_pos h]
def Yc {c : au} (h0 : ¬ (dq c).1 = 0) (h1 : ¬ (dq c).1 = 1) (h2 : ¬ (dq c).1 = 2) (h : (dq c).1 = 3) : cz c = (CD (dK c 14).e (ml (dq c).2).1, (ml (dq c).2).2) := by unfold cz; rw [if_neg h0, if_neg h1, if_neg h2, if_pos h]
def Yd {c : au} (h0 : ¬ (dq c).1 = 0) (h1 : ¬ (dq c).1 = 1) (h2 : ¬ (dq c).1 = 2) (h3 : ¬ (dq c).1 = 3) : cz c = ((dK c 14).e, (dq c).2) := by unfold cz; rw [if_neg h0, if_neg h1, if_neg h2, if_neg h3]
def Np (c : au) : bB (dK c 14).e ≤ 3010 := by
 have h1 := CB c 14 (nd c 14)
 have h2 := Nn c (most := 14) (by decide)
 unfold dK; omega
def Nq (c : au) : bB (cz c).1 ≤ 3100 := by
 have h := Np c
 unfold cz
 split
 ·unfold xO bB at *; dsimp only at *; simp only [bh] at *; omega
 ·split
  ·unfold xP bB at *; dsimp only at *; simp only [bh] at *; omega
  ·split
   ·unfold xQ bB cq at *; dsimp only at *; simp only [bh] at *; omega
   ·split
    ·have h3 := XY (dq c).2
     unfold CD bB at *; dsimp only at *; simp only [dP, bh] at *; omega
    ·dsimp only; omega
def nf (a b : ay) : Prop := a.ZR = b.ZR ∧ a.Done = b.Done ∧ a.ZF = b.ZF
def nf.cur (e : ay) (v : Int) : nf (xO e v) e := ⟨rfl, rfl, rfl⟩
def nf.stp (e : ay) (v : Int) : nf (xP e v) e := ⟨rfl, rfl, rfl⟩
def nf.now (e : ay) (v : Int) : nf (xQ e v) e := ⟨rfl, rfl, rfl⟩
def nf.refl (e : ay) : nf e e := ⟨rfl, rfl, rfl⟩
def nf.w {N : Nat} {a b : ay} (h : nf a b) (k : eY N b) (ok : aT a = true) : mh N a :=
 ⟨ok, by rw [h.1]; exact k.ld, by rw [h.2.1, h.2.2]; exact k.dn, by rw [h.2.2]; exact k.ag⟩
def pt (r : Row) : bW := if bp r then itoa r.Id ++ [58] ++ ln r.Values else []
def ox {r : Row} (h : bp r = true) : 0 ≤ r.Id ∧ r.Id ≤ 999 ∧ r.Values.length = 3 ∧ ∀ x ∈ r.Values, aQ x := by
 unfold bp at h
 simp only [aL, decide_eq_true_eq, aB] at h
 refine ⟨h.2.1.1, h.2.1.2, by omega, fun x hx => ?_⟩
 have := List.all_eq_true.1 h.1 x hx
 simp [iy, aB] at this
 unfold aQ; omega
def CE (r : Row) : (pt r).length ≤ 100 := by
 unfold pt
 split
 ·rename_i h
  obtain ⟨h1, h2, h3, h4⟩ := ox h
  have h5 : (itoa r.Id).length ≤ 21 := cy (by unfold aQ; omega)
  have h6 := pb h4
  simp only [aD, List.length_cons, List.length_nil]
  omega
 ·simp
def Ye (n : Int) : itoa n ≠ [] := by
 have hd : ∀ u, Lib.decDigits u ≠ [] := fun u e => by
  have := Lib.nDigits_pos u
  rw [← Lib.decDigits_length, e] at this
  simp at this
 by_cases h : n < 0
 ·rw [Kr h]; simp
 ·rw [AY h]; exact hd _
def uw (ws : List bW) : bW := if ws = [] then [110, 111, 110, 101] else dD ws [32]
def Nr {ws : List bW} (h : ws ≠ []) : uw ws = dD ws [32] := if_neg h
def Yf {ws : List bW} {sep : bW} (h : ws ≠ []) (hw : ∀ x ∈ ws, x ≠ []) : dD ws sep ≠ [] := by
 cases ws with
 | nil => exact absurd rfl h
 | cons x r =>
  unfold dD
  rw [Lib.join_cons]
  intro e
  exact hw x (by simp) (List.append_eq_nil_iff.1 e).1
def Ns {ws : List bW} (hw : ∀ x ∈ ws, x ≠ []) : (if dD ws [32] = [] then [110, 111, 110, 101] else dD ws [32]) = uw ws := by
 by_cases h : ws = []
 ·subst h; rfl
 ·rw [if_neg (Yf h hw), Nr h]
def Nt {α β : Type} {l : List α} {f : α → β} {k : Nat} (h : k < l.length) (hk : ¬ k = 0) : (l.take k).map f ≠ [] := by
 intro e
 have := congrArg List.length e
 rw [am, bg] at this
 simp at this
 rcases this with e | e
 ·exact hk e
 ·rw [e] at h; simp at h
def ng (q : ZG) (r : Row) : List Int := if bp r && bG q then q.Out.map fun f => r.Values.getD f.toNat 0 else []
def CF {q : ZG} (h : bG q = true) : q.Out.length ≤ 3 ∧ ∀ f ∈ q.Out, 0 ≤ f ∧ f ≤ 2 := by
 unfold bG lR at h
 simp only [aL] at h
 have h1 := h.2.2.1
 have h2 := h.2.2.2
 refine ⟨by simp [aB] at h2; omega, fun f hf => ?_⟩
 have := List.all_eq_true.1 h1 f hf
 simpa [iz, aB] using this
def Yg {q : ZG} {r : Row} {k : Nat} (h : (k = q.Out.length ∧ (bp r && bG q) = true) ∨ (k = 0 ∧ (q.Out.length = 0 ∨ (bp r && bG q) = false))) : ((q.Out.take k).map fun f => r.Values.getD f.toNat 0) = ng q r := by
 unfold ng
 rcases h with ⟨rfl, h⟩ | ⟨rfl, h⟩
 ·rw [if_pos h, bY]
 ·split
  ·rename_i h2
   rcases h with h | h
   ·rw [gu h]; rfl
   ·rw [h] at h2; cases h2
  ·rfl
def CG (q : ZG) (r : Row) : (ng q r).length ≤ 3 ∧ ∀ x ∈ ng q r, aQ x := by
 unfold ng
 split
 ·rename_i h
  rw [aL] at h
  obtain ⟨h1, h2, h3, h4⟩ := ox h.1
  have h5 := CF h.2
  refine ⟨by rw [am]; exact h5.1, fun x hx => ?_⟩
  obtain ⟨f, hf, rfl⟩ := List.mem_map.1 hx
  have := h5.2 f hf
  have hlt : f.toNat < r.Values.length := by omega
  rw [List.getD_eq_getElem?_getD, List.getElem?_eq_getElem hlt]
  exact h4 _ (List.getElem_mem hlt)
 ·exact ⟨by simp, fun x hx => nomatch hx⟩
def jw (q : ZG) (r : Row) : bW := itoa r.Id ++ [58] ++ ln (ng q r)
def Yh (q : ZG) (r : Row) : jw q r ≠ [] := by
 unfold jw
 intro e
 exact Ye r.Id (List.append_eq_nil_iff.1 (List.append_eq_nil_iff.1 e).1).1
def Yi {q : ZG} {r : Row} (h : bp r = true) : (jw q r).length ≤ 100 := by
 obtain ⟨h1, h2, h3, h4⟩ := ox h
 have h5 : (itoa r.Id).length ≤ 21 := cy (by unfold aQ; omega)
 have h6 := CG q r
 have h7 := pb h6.2
 unfold jw
 simp only [aD, List.length_cons, List.length_nil]
 omega
def se (x : eE) : bW := if bG x.ZG && fg x.Rows then uw (x.Rows.map (jw x.ZG)) else []
def CH {rows : List Row} (h : fg rows = true) {r : Row} (hr : r ∈ rows) : bp r = true := by
 unfold fg at h
 rw [aL] at h
 exact List.all_eq_true.1 h.1 r hr
def CI {rows : List Row} (h : fg rows = true) : rows.length ≤ 1000 := by
 unfold fg at h
 rw [aL] at h
 have := of_decide_eq_true h.2
 omega
def CJ {q : ZG} {rows : List Row} (h : fg rows = true) (k : Nat) : (dD ((rows.take k).map (jw q)) [32]).length ≤ 101000 := by
 have h1 := ua (m := 100) (sep := [32]) (xs := (rows.take k).map (jw q)) (by
  intro x hx
  obtain ⟨r, hr, rfl⟩ := List.mem_map.1 hx
  exact Yi (CH h (List.mem_of_mem_take hr)))
 have h2 := CI h
 rw [am, bg] at h1
 simp only [List.length_cons, List.length_nil] at h1
 have : min k rows.length * (100 + (0 + 1)) ≤ 1000 * 101 := Nat.mul_le_mul (by omega) (by omega)
 omega
def jx (v : aM) : bW := pt (ee v) ++ [64] ++ itoa v.ZT ++ (if v.ZP = -1 then [] else [45] ++ itoa v.ZP)
def Yj (v : aM) : jx v ≠ [] := by
 unfold jx
 intro e
 have := congrArg List.length e
 simp at this
def CK {now : Int} {v : aM} (h : cD now v = true) (hn : now ≤ 100000) : 0 ≤ v.ZT ∧ v.ZT ≤ 100000 ∧ -1 ≤ v.ZP ∧ v.ZP ≤ 100000 := by
 simp [cD, aB] at h; omega
def Yk {now : Int} {v : aM} (h : cD now v = true) (hn : now ≤ 100000) : (jx v).length ≤ 200 := by
 have h1 := CK h hn
 have h2 := CE (ee v)
 have h3 : (itoa v.ZT).length ≤ 21 := cy (by unfold aQ; omega)
 have h4 : (itoa v.ZP).length ≤ 21 := cy (by unfold aQ; omega)
 unfold jx
 split <;> simp only [aD, List.length_cons, List.length_nil] <;> omega
def sf (s : Store) (i : Int) : bW := if bL s && aB i 0 (s.ZE.length - 1) then uw ((s.ZE.getD i.toNat []).map jx) else []
def CL {s : Store} (h : bL s = true) {i : Nat} (hi : i < s.ZE.length) (k : Nat) : (dD ((s.ZE[i].take k).map jx) [32]).length ≤ 1000 := by
 obtain ⟨a1, a2, a3, a4, a5, a6⟩ := jd h
 have h1 := ua (m := 200) (sep := [32]) (xs := (s.ZE[i].take k).map jx) (by
  intro x hx
  obtain ⟨v, hv, rfl⟩ := List.mem_map.1 hx
  obtain ⟨j, hj, rfl⟩ := List.mem_iff_getElem.1 (List.mem_of_mem_take hv)
  exact Yk (rH h hi hj) a4)
 have h2 := a5 _ (List.getElem_mem hi)
 rw [am, bg] at h1
 simp only [List.length_cons, List.length_nil] at h1
 have : min k s.ZE[i].length * (200 + (0 + 1)) ≤ 4 * 201 := Nat.mul_le_mul (by omega) (by omega)
 omega
def kU (l : List bM) (k : Nat) : List bW := [[116, 111, 116, 97, 108], itoa (nQ l)] ++ (List.range k).flatMap fun i : Nat => [[116] ++ itoa (i : Int), itoa (lX l (i : Int))]
def CM {l : List bM} {k : Nat} : kU l (k + 1) = kU l k ++ [[116] ++ itoa (k : Int), itoa (lX l (k : Int))] := by
 simp [kU, List.range_succ, List.flatMap_append]
def Yl {l : List bM} {k : Nat} : kU l k ≠ [] := by simp [kU]
def xR {l : List bM} {k : Nat} : (kU l k).length = 2 + 2 * k := by
 induction k with
 | zero => rfl
 | succ k ih => rw [CM, aD, ih]; simp; omega
def CN (l : List bM) : bW := dD (kU l 4) [32]
def Ym {l : List bM} (hl : l.length ≤ 1048576) {k : Nat} (hk : k ≤ 4) : ∀ x ∈ kU l k, x.length ≤ 22 := by
 have h1 := ub l
 have h3 : (itoa (nQ l)).length ≤ 21 := cy (by unfold aQ; omega)
 intro x hx
 unfold kU at hx
 rcases List.mem_append.1 hx with hx | hx
 ·simp at hx
  rcases hx with rfl | rfl
  ·decide
  ·omega
 ·obtain ⟨i, hi, hx⟩ := List.mem_flatMap.1 hx
  have hi := List.mem_range.1 hi
  have h2 := uc l (i : Int)
  have h4 : (itoa (i : Int)).length ≤ 21 := cy (by unfold aQ; omega)
  have h5 : (itoa (lX l (i : Int))).length ≤ 21 := cy (by unfold aQ; omega)
  simp at hx
  rcases hx with rfl | rfl
  ·simp; omega
  ·omega
def Nu {l : List bM} (hl : l.length ≤ 1048576) {k : Nat} (hk : k ≤ 4) : (dD (kU l k) [32]).length ≤ 400 := by
 have h := ua (m := 22) (sep := [32]) (Ym hl hk)
 rw [xR] at h
 simp only [List.length_cons, List.length_nil] at h
 have : (2 + 2 * k) * (22 + (0 + 1)) ≤ 10 * 23 := Nat.mul_le_mul (by omega) (by omega)
 omega
end Go.Proofs.YtmekkgdboplbjaaGreatDoor
