/- What functions of the program compute. No condition. -/
import Derived.Test.YtmekkgdboplbjaaGreatDoorCC0
import Derived.Test.YtmekkgdboplbjaaGreatDoorCF0
set_option linter.all false
namespace Go.Proofs.YtmekkgdboplbjaaGreatDoor
open Go Go.RowKit M PV Tryz
set_option maxRecDepth 10000
attribute [local irreducible] PV.Lcl PV.LclR RV.Lcl
def yf {x : List Int} {k : Int} (h0k : 0 ≤ k) (hbk : (am aU x k).2 ≤ 4611686018427387904) : ib prog 146 false [sl aM (x.map ap)] [sl aM ((am aU x k).1.map ap)] [(false, [val (vI k)])] (vI (am aU x k).2) := by
 refine jU func146 rfl (nl rfl) (cD (ak.cons (bor_val _) ak.nil) cN) ?_
 intro us h0 w0 Fz0 hus
 obtain ⟨u0, rfl⟩ := td hus
 by_cases hx : x = []
 subst hx
 refine sS [0, 1] [] ?_
 refine cW ?_
 refine sS [0, 1, 4] [] ?_
 refine cH ?_
 refine vw ?_
 rintro _ _
 refine vK ?_
 refine rA ?_ (x := lN da)
 exact tv
 refine sN (s := 0) (D := 999) (E := 3) (e := 1) (u := u0) (es := x.map ap) (L := hM) (by exact rfl) (by simpa using hx) (by exact rfl) (by exact rfl) (fun x hx => hx.elim) (by exact aI (.inl rfl) (aI (.inr (RV.lcl_sv (aB.cons lcl_val aB.nil))) tI)) tI (aB.map fun x => (aB.cons lcl_val aB.nil)) fun cp jk hl0 hcp hjk => ?_
 have hlm : (x.map ap).length = x.length := bc _
 rw [hlm] at hl0 hcp
 have hmono := mA dQ x
 have hmono0 := fun i => cv dQ (x.take i) k
 refine sT [0, 1] [999] ?_
 refine cW ?_
 refine sS [0, 1, 4] [999] ?_
 refine cH ?_
 refine sP [0, 1, 4, 5] [999] ?_
 refine sL [0, 4] [] (fun i : Nat => i ≤ x.length) (fun i : Nat => [(1, RV.int (am aU (x.take i) k).2), (5, RV.int (i : Int))]) (fun i : Nat => [(999, (3, (((am aU (x.take i) k).1 ++ x.drop i).map ap).flatten ++ jk.map val))]) (fun i : Nat => x.length - i) 0 (by omega) (by exact aI (by exact rfl) (aI (by exact rfl) tI)) (by exact aI (by exact congrArg (fun z => some (3, z)) tb) tI) ?_
 rintro i hi
 refine ee ?_
 refine rA ?_ (x := cu (.inl rfl) (by decide) (by exact Cp.nm Cp.hdr))
 refine rA ?_ (x := sI (by decide) da)
 refine rA ?_ (x := cF)
 refine sc ?_ ?_ <;> intro hba
 have hlt : i < x.length := by omega
 have hk0 := hmono0 i
 have hk1 := hmono (i + 1) k
 rw [gG hlt] at hk1
 dsimp only at hk1
 simp only [aU] at hk1
 refine eD (d := 999) (by exact rfl) (sY hlt) ?_
 have hA := ta (f := aU) (c := ap) (e := 1) (k := k) (fun _ => rfl) (Nat.le_of_lt hlt)
 refine ir ?_
 refine wy ?_
 refine rA ?_ (x := cu (.inl rfl) (by decide) (by exact Cp.nm Cp.hdr))
 refine bU ?_
 refine rA ?_ (x := sJ (by decide) da (by exact tI) (by exact rfl) (by omega))
 refine rA ?_ (x := my (o := 0) (ag := false) (vs := [val _]) (by omega) aA (by exact tI) (by exact rfl) (by exact nl rfl))
 refine wy ?_
 refine cY ?_
 refine sG [0, 1, 4, 5] [999] ?_
 refine cY ?_
 refine nx (i + 1) (by omega) (e := (by exact aI (by exact dz (by rw [gG hlt]; rfl)) (aI (by exact rfl) tI))) (f := (by exact aI (by exact congrArg (fun z => some (3, z)) (sZ hlt rfl)) tI))
 have hend : i = x.length := by omega
 refine eD (d := 999) (by exact rfl) (tc hend) ?_
 refine sU (s := 0) (D := 999) (e := 1) (by exact rfl) (by exact rfl) (by rw [bc, ie, bc]) (by intro c hc; obtain ⟨y, _, rfl⟩ := List.mem_map.1 hc; exact rfl) hjk ?_
 exact tw
def DT {x : List bh} {k : Int} (h0k : 0 ≤ k) (hbk : (am bb x k).2 ≤ 4611686018427387904) : ib prog 145 false [sl cC (x.map aV)] [sl cC ((am bb x k).1.map aV)] [(false, [val (vI k)])] (vI (am bb x k).2) := by
 refine jU func145 rfl (nl rfl) (cD (ak.cons (bor_val _) ak.nil) cN) ?_
 intro us h0 w0 Fz0 hus
 obtain ⟨u0, rfl⟩ := td hus
 by_cases hx : x = []
 subst hx
 refine sS [0, 1] [] ?_
 refine cW ?_
 refine sS [0, 1, 4] [] ?_
 refine cH ?_
 refine vw ?_
 rintro _ _
 refine vK ?_
 refine rA ?_ (x := lN cz)
 exact tv
 refine sN (s := 0) (D := 999) (E := 65) (e := 3) (u := u0) (es := x.map aV) (L := hM) (by exact rfl) (by simpa using hx) (by exact rfl) (by exact rfl) (fun x hx => hx.elim) (by exact aI (.inl rfl) (aI (.inr (RV.lcl_sv (aB.cons lcl_val aB.nil))) tI)) tI (aB.map fun x => (aB.cons lcl_val (aB.cons lcl_val (aB.cons lcl_val aB.nil)))) fun cp jk hl0 hcp hjk => ?_
 have hlm : (x.map aV).length = x.length := bc _
 rw [hlm] at hl0 hcp
 have hmono := mA gP x
 have hmono0 := fun i => cv gP (x.take i) k
 refine sT [0, 1] [999] ?_
 refine cW ?_
 refine sS [0, 1, 4] [999] ?_
 refine cH ?_
 refine sP [0, 1, 4, 5] [999] ?_
 refine sL [0, 4] [] (fun i : Nat => i ≤ x.length) (fun i : Nat => [(1, RV.int (am bb (x.take i) k).2), (5, RV.int (i : Int))]) (fun i : Nat => [(999, (65, (((am bb (x.take i) k).1 ++ x.drop i).map aV).flatten ++ jk.map val))]) (fun i : Nat => x.length - i) 0 (by omega) (by exact aI (by exact rfl) (aI (by exact rfl) tI)) (by exact aI (by exact congrArg (fun z => some (65, z)) tb) tI) ?_
 rintro i hi
 refine ee ?_
 refine rA ?_ (x := cu (.inl rfl) (by decide) (by exact Cp.nm Cp.hdr))
 refine rA ?_ (x := sI (by decide) cz)
 refine rA ?_ (x := cF)
 refine sc ?_ ?_ <;> intro hba
 have hlt : i < x.length := by omega
 have hk0 := hmono0 i
 have hk1 := hmono (i + 1) k
 rw [gG hlt] at hk1
 dsimp only at hk1
 simp only [bb] at hk1
 refine eD (d := 999) (by exact rfl) (sY hlt) ?_
 have hA := ta (f := bb) (c := aV) (e := 3) (k := k) (fun _ => rfl) (Nat.le_of_lt hlt)
 refine ir ?_
 refine nf ?_
 refine qp ?_
 refine rA ?_ (x := lF eZ)
 refine rA ?_ (x := my (o := 0) (ag := false) (vs := [val _]) (by omega) aA (by exact tI) (by exact rfl) (by exact nl rfl))
 refine aT ?_
 refine nf ?_
 refine cY ?_
 refine sS [0, 1, 4, 5] [999] ?_
 refine qp ?_
 refine rA ?_ (x := lF gU)
 refine rA ?_ (x := my (o := 1) (ag := false) (vs := [val _]) (by omega) aA (by exact tI) (by exact rfl) (by exact nl rfl))
 refine aT ?_
 refine nf ?_
 refine cY ?_
 refine sS [0, 1, 4, 5] [999] ?_
 refine qp ?_
 refine rA ?_ (x := lF go)
 refine rA ?_ (x := my (o := 2) (ag := false) (vs := [val _]) (by omega) aA (by exact tI) (by exact rfl) (by exact nl rfl))
 refine nf ?_
 refine cY ?_
 refine sG [0, 1, 4, 5] [999] ?_
 refine cY ?_
 refine nx (i + 1) (by omega) (e := (by exact aI (by exact dz (by rw [gG hlt]; rfl)) (aI (by exact rfl) tI))) (f := (by exact aI (by exact congrArg (fun z => some (65, z)) (sZ hlt rfl)) tI))
 have hend : i = x.length := by omega
 refine eD (d := 999) (by exact rfl) (tc hend) ?_
 refine sU (s := 0) (D := 999) (e := 3) (by exact rfl) (by exact rfl) (by rw [bc, ie, bc]) (by intro c hc; obtain ⟨y, _, rfl⟩ := List.mem_map.1 hc; exact rfl) hjk ?_
 exact tw
def DU {x : Row} {k : Int} (h0k : 0 ≤ k) (hbk : (er x k).2 ≤ 4611686018427387904) : ib prog 147 true (wG aM x) (wG aM (er x k).1) [(false, [val (vI k)])] (vI (er x k).2) := by
 refine jU func147 rfl (nl rfl) (cD (ak.cons (bor_val _) ak.nil) cN) ?_
 intro us h0 w0 Fz0 hus
 obtain ⟨v0, v1, rfl⟩ := AE hus
 simp only [er] at hbk
 have hm0 := cv dQ x.Values k
 refine sS [0, 1] [] ?_
 refine rX ?_ (x := (eh (ag := true) (cs := [nv _ (val _), nv _ (sl _ _)]) (by decide) (by exact tI)))
 refine cW ?_
 refine sO [(1, _), (2, _), (4, _)] [(2, (27, [nv _ (val _), nv _ (sl _ _)]))] ?_
 refine iQ ?_
 refine bS (by exact ⟨rfl, ⟨⟩⟩) (by exact tI) (aN.of rfl (iL (by decide) ix)) br ?_
 refine bS (by exact ⟨rfl, ⟨⟩⟩) (by exact ⟨rfl, ⟨⟩⟩) (aN.of rfl (gE (qs := [val _]) (by decide) fa (fun _ => rfl) (by exact nl rfl) (by exact (ao.cons bT ao.nil)) (by exact (ak.cons (bor_val _) ak.nil)))) br ?_
 refine bS (by exact ⟨rfl, ⟨⟩⟩) (by exact tI) (aN.of rfl (cu (.inl rfl) (by decide) (by exact Cp.sc))) br ?_
 refine iR (l := [(1, RV.sv false [val _]), (2, RV.ptr 2 0), (4, RV.sv false [val _]), (5, RV.ptr 2 1), (6, RV.sv false [val _]), (7, RV.sv false [val _])]) (b := [(2, (27, [nv _ (val _), nv _ (sl _ _)]))]) (by exact ⟨rfl, rfl, rfl, rfl, rfl, rfl, ⟨⟩⟩) (by exact ⟨rfl, ⟨⟩⟩) ?_
 refine iS (bx := 2) (L := hM) (A := [nv _ (val _)]) (ms := [nv _ (sl _ _)]) (B := []) (qr := [(false, [val _])]) (as_ := [(false, [val _])]) (by decide) wS rfl (by exact rfl) (by exact (Nm.val Nm.nil)) (by exact ⟨rfl, ⟨⟩⟩) (by exact (aI (by exact tI) tI)) (by exact aI (aI rfl (aO ao.nil)) tI) (by exact rfl) (by exact (Nm.nv Nm.nil)) (by exact (ax.nv ax.nil)) (by exact yf (by omega) (by omega)) (by exact (be.nv be.nil)) (fun x hx => hx.elim) (by exact lc) (by exact (aI (.inl rfl) tI)) (by exact lc) (by exact aB.nil) rfl ?_
 refine bS (by exact ⟨rfl, ⟨⟩⟩) (by exact tI) (aN.of rfl (cu (.inr rfl) (by decide) (by exact Cp.sc))) br ?_
 refine iP ?_
 refine kg ?_
 refine cj ?_
 exact aI (by exact rfl) (bu _ (aI (.inr (bu 2 (bu _ (by exact rfl)))) (aI (by exact (Nm.nv (Nm.nv Nm.nil))) (by exact (ax.nv (ax.nv ax.nil))))))
def DV {x : FY} {k : Int} (h0k : 0 ≤ k) (hbk : (dt x k).2 ≤ 4611686018427387904) : ib prog 60 true (wI cC aM x) (wI cC aM (dt x k).1) [(false, [val (vI k)])] (vI (dt x k).2) := by
 refine jU func60 rfl (nl rfl) (cD (ak.cons (bor_val _) ak.nil) cN) ?_
 intro us h0 w0 Fz0 hus
 obtain ⟨v0, v1, v2, v3, rfl⟩ := AF hus
 simp only [dt] at hbk
 have hm0 := cv gP x.FZ k
 have hm1 := cv dQ x.Out (am bb x.FZ k).2
 refine sS [0, 1] [] ?_
 refine rX ?_ (x := (eh (ag := true) (cs := [nv _ (val _), nv _ (val _), nv _ (sl _ _), nv _ (sl _ _)]) (by decide) (by exact tI)))
 refine cW ?_
 refine sO [(1, _), (2, _), (4, _)] [(2, (25, [nv _ (val _), nv _ (val _), nv _ (sl _ _), nv _ (sl _ _)]))] ?_
 refine iQ ?_
 refine bS (by exact ⟨rfl, ⟨⟩⟩) (by exact tI) (aN.of rfl (iL (by decide) eu)) br ?_
 refine bS (by exact ⟨rfl, ⟨⟩⟩) (by exact ⟨rfl, ⟨⟩⟩) (aN.of rfl (gE (qs := [val _]) (by decide) ew (fun _ => rfl) (by exact nl rfl) (by exact (ao.cons bT ao.nil)) (by exact (ak.cons (bor_val _) ak.nil)))) br ?_
 refine bS (by exact ⟨rfl, ⟨⟩⟩) (by exact tI) (aN.of rfl (cu (.inl rfl) (by decide) (by exact Cp.sc))) br ?_
 refine iR (l := [(1, RV.sv false [val _]), (2, RV.ptr 2 0), (4, RV.sv false [val _]), (5, RV.ptr 2 2), (6, RV.sv false [val _]), (7, RV.sv false [val _])]) (b := [(2, (25, [nv _ (val _), nv _ (val _), nv _ (sl _ _), nv _ (sl _ _)]))]) (by exact ⟨rfl, rfl, rfl, rfl, rfl, rfl, ⟨⟩⟩) (by exact ⟨rfl, ⟨⟩⟩) ?_
 refine iS (bx := 2) (L := hM) (A := [nv _ (val _), nv _ (val _)]) (ms := [nv _ (sl _ _)]) (B := [nv _ (sl _ _)]) (qr := [(false, [val _])]) (as_ := [(false, [val _])]) (by decide) Bk rfl (by exact rfl) (by exact (Nm.val Nm.nil)) (by exact ⟨rfl, ⟨⟩⟩) (by exact (aI (by exact tI) tI)) (by exact aI (aI rfl (aO ao.nil)) tI) (by exact rfl) (by exact (Nm.nv Nm.nil)) (by exact (ax.nv ax.nil)) (by exact DT (by omega) (by omega)) (by exact (be.nv be.nil)) (fun x hx => hx.elim) (by exact lc) (by exact (aI (.inl rfl) tI)) (by exact lc) (by exact lc) rfl ?_
 refine bS (by exact ⟨rfl, ⟨⟩⟩) (by exact tI) (aN.of rfl (cu (.inr rfl) (by decide) (by exact Cp.sc))) br ?_
 refine iP ?_
 refine aT ?_
 refine sP [1, 2, 4] [2] ?_
 refine iQ ?_
 refine bS (by exact ⟨rfl, ⟨⟩⟩) (by exact tI) (aN.of rfl (iL (by decide) lS)) br ?_
 refine bS (by exact ⟨rfl, ⟨⟩⟩) (by exact ⟨rfl, ⟨⟩⟩) (aN.of rfl (gE (qs := [val _]) (by decide) fa (fun _ => rfl) (by exact nl rfl) (by exact (ao.cons bT ao.nil)) (by exact (ak.cons (bor_val _) ak.nil)))) br ?_
 refine bS (by exact ⟨rfl, ⟨⟩⟩) (by exact tI) (aN.of rfl (cu (.inl rfl) (by decide) (by exact Cp.sc))) br ?_
 refine iR (l := [(1, RV.sv false [val _]), (2, RV.ptr 2 0), (4, RV.sv false [val _]), (9, RV.ptr 2 3), (10, RV.sv false [val _]), (11, RV.sv false [val _])]) (b := [(2, (25, [nv _ (val _), nv _ (val _), nv _ (sl _ _), nv _ (sl _ _)]))]) (by exact ⟨rfl, rfl, rfl, rfl, rfl, rfl, ⟨⟩⟩) (by exact ⟨rfl, ⟨⟩⟩) ?_
 refine iS (bx := 2) (L := hM) (A := [nv _ (val _), nv _ (val _), nv _ (sl _ _)]) (ms := [nv _ (sl _ _)]) (B := []) (qr := [(false, [val _])]) (as_ := [(false, [val _])]) (by decide) wS rfl (by exact rfl) (by exact (Nm.val Nm.nil)) (by exact ⟨rfl, ⟨⟩⟩) (by exact (aI (by exact tI) tI)) (by exact aI (aI rfl (aO ao.nil)) tI) (by exact rfl) (by exact (Nm.nv Nm.nil)) (by exact (ax.nv ax.nil)) (by exact yf (by omega) (by omega)) (by exact (be.nv be.nil)) (fun x hx => hx.elim) (by exact lc) (by exact (aI (.inl rfl) tI)) (by exact lc) (by exact aB.nil) rfl ?_
 refine bS (by exact ⟨rfl, ⟨⟩⟩) (by exact tI) (aN.of rfl (cu (.inr rfl) (by decide) (by exact Cp.sc))) br ?_
 refine iP ?_
 refine kg ?_
 refine cj ?_
 exact aI (by exact rfl) (bu _ (aI (.inr (bu 2 (bu _ (by exact rfl)))) (aI (by exact (Nm.nv (Nm.nv (Nm.nv (Nm.nv Nm.nil))))) (by exact (ax.nv (ax.nv (ax.nv (ax.nv ax.nil))))))))
def DW {x : Ga} {k : Int} (h0k : 0 ≤ k) (hbk : (di x k).2 ≤ 4611686018427387904) : ib prog 61 true (wH aM x) (wH aM (di x k).1) [(false, [val (vI k)])] (vI (di x k).2) := by
 refine jU func61 rfl (nl rfl) (cD (ak.cons (bor_val _) ak.nil) cN) ?_
 intro us h0 w0 Fz0 hus
 obtain ⟨v0, v1, v2, v3, v4, rfl⟩ := AG hus
 simp only [di] at hbk
 have hm0 := cv dQ x.Row.Values k
 have hv0 : (er x.Row k).2 = (am aU x.Row.Values k).2 := rfl
 refine sS [0, 1] [] ?_
 refine rX ?_ (x := (eh (ag := true) (cs := [nv _ (val _), nv _ (val _), nv _ (sl _ _), nv _ (val _), nv _ (val _)]) (by decide) (by exact tI)))
 refine cW ?_
 refine sO [(1, _), (2, _), (4, _)] [(2, (29, [nv _ (val _), nv _ (val _), nv _ (sl _ _), nv _ (val _), nv _ (val _)]))] ?_
 refine iQ ?_
 refine bS (by exact ⟨rfl, ⟨⟩⟩) (by exact tI) (aN.of rfl (iL (by decide) eJ)) br ?_
 refine bS (by exact ⟨rfl, ⟨⟩⟩) (by exact ⟨rfl, ⟨⟩⟩) (aN.of rfl (gE (qs := [val _, val _]) (by decide) dV (fun h => nomatch h) (by exact nl rfl) (by exact (ao.cons bT (ao.cons bT ao.nil))) (by exact (ak.cons (bor_val _) (ak.cons (bor_val _) ak.nil))))) br ?_
 refine bS (by exact ⟨rfl, ⟨⟩⟩) (by exact tI) (aN.of rfl (cu (.inl rfl) (by decide) (by exact Cp.sc))) br ?_
 refine iR (l := [(1, RV.sv false [val _]), (2, RV.ptr 2 0), (4, RV.sv false [val _]), (5, RV.ptr 2 1), (6, RV.sv true [val _, val _]), (7, RV.sv false [val _])]) (b := [(2, (29, [nv _ (val _), nv _ (val _), nv _ (sl _ _), nv _ (val _), nv _ (val _)]))]) (by exact ⟨rfl, rfl, rfl, rfl, rfl, rfl, ⟨⟩⟩) (by exact ⟨rfl, ⟨⟩⟩) ?_
 refine iS (bx := 2) (L := hM) (A := [nv _ (val _)]) (ms := [nv _ (val _), nv _ (sl _ _)]) (B := [nv _ (val _), nv _ (val _)]) (qr := [(false, [val _])]) (as_ := [(false, [val _])]) (by decide) Bl rfl (by exact rfl) (by exact (Nm.val (Nm.val Nm.nil))) (by exact ⟨rfl, ⟨⟩⟩) (by exact (aI (by exact tI) tI)) (by exact aI (aI rfl (aO ao.nil)) tI) (by exact rfl) (by exact (Nm.nv (Nm.nv Nm.nil))) (by exact (ax.nv (ax.nv ax.nil))) (by exact DU (by first | omega | (simp only [er]; omega)) (by first | omega | (simp only [er]; omega))) (by exact (be.nv (be.nv be.nil))) (fun x hx => hx.elim) (by exact lc) (by exact (aI (.inl rfl) tI)) (by exact lc) (by exact lc) rfl ?_
 refine bS (by exact ⟨rfl, ⟨⟩⟩) (by exact tI) (aN.of rfl (cu (.inr rfl) (by decide) (by exact Cp.sc))) br ?_
 refine iP ?_
 refine kg ?_
 refine cj ?_
 exact aI (by exact rfl) (bu _ (aI (.inr (bu 2 (bu _ (by exact rfl)))) (aI (by exact (Nm.nv (Nm.nv (Nm.nv (Nm.nv (Nm.nv Nm.nil)))))) (by exact (ax.nv (ax.nv (ax.nv (ax.nv (ax.nv ax.nil)))))))))
def DX {x : bM} {k : Int} (h0k : 0 ≤ k) (hbk : (cy x k).2 ≤ 4611686018427387904) : ib prog 12 true (wJ cC aM aM x) (wJ cC aM aM (cy x k).1) [(false, [val (vI k)])] (vI (cy x k).2) := by
 refine jU func12 rfl (nl rfl) (cD (ak.cons (bor_val _) ak.nil) cN) ?_
 intro us h0 w0 Fz0 hus
 obtain ⟨v0, v1, v2, v3, v4, v5, v6, v7, v8, v9, v10, v11, v12, rfl⟩ := wF hus
 simp only [cy] at hbk
 have hm0 := cv gP x.FY.FZ k
 have hm1 := cv dQ x.FY.Out (am bb x.FY.FZ k).2
 have hm2 := cv dQ x.Ga.Row.Values (am aU x.FY.Out (am bb x.FY.FZ k).2).2
 have hv0 : (dt x.FY k).2 = (am aU x.FY.Out (am bb x.FY.FZ k).2).2 := rfl
 have hv1 : (di x.Ga (am aU x.FY.Out (am bb x.FY.FZ k).2).2).2 = (am aU x.Ga.Row.Values (am aU x.FY.Out (am bb x.FY.FZ k).2).2).2 := rfl
 refine sS [0, 1] [] ?_
 refine rX ?_ (x := (eh (ag := true) (cs := [nv _ (val _), nv _ (val _), nv _ (val _), nv _ (sl _ _), nv _ (sl _ _), nv _ (val _), nv _ (val _), nv _ (val _), nv _ (val _), nv _ (sl _ _), nv _ (val _), nv _ (val _), nv _ (val _)]) (by decide) (by exact tI)))
 refine cW ?_
 refine sO [(1, _), (2, _), (4, _)] [(2, (31, [nv _ (val _), nv _ (val _), nv _ (val _), nv _ (sl _ _), nv _ (sl _ _), nv _ (val _), nv _ (val _), nv _ (val _), nv _ (val _), nv _ (sl _ _), nv _ (val _), nv _ (val _), nv _ (val _)]))] ?_
 refine iQ ?_
 refine bS (by exact ⟨rfl, ⟨⟩⟩) (by exact tI) (aN.of rfl (iL (by decide) nX)) br ?_
 refine bS (by exact ⟨rfl, ⟨⟩⟩) (by exact ⟨rfl, ⟨⟩⟩) (aN.of rfl (gE (qs := [val _, val _, val _, val _]) (by decide) du (fun h => nomatch h) (by exact nl rfl) (by exact (ao.cons bT (ao.cons bT (ao.cons bT (ao.cons bT ao.nil))))) (by exact lq))) br ?_
 refine bS (by exact ⟨rfl, ⟨⟩⟩) (by exact tI) (aN.of rfl (cu (.inl rfl) (by decide) (by exact Cp.sc))) br ?_
 refine iR (l := [(1, RV.sv false [val _]), (2, RV.ptr 2 0), (4, RV.sv false [val _]), (5, RV.ptr 2 1), (6, RV.sv true [val _, val _, val _, val _]), (7, RV.sv false [val _])]) (b := [(2, (31, [nv _ (val _), nv _ (val _), nv _ (val _), nv _ (sl _ _), nv _ (sl _ _), nv _ (val _), nv _ (val _), nv _ (val _), nv _ (val _), nv _ (sl _ _), nv _ (val _), nv _ (val _), nv _ (val _)]))]) (by exact ⟨rfl, rfl, rfl, rfl, rfl, rfl, ⟨⟩⟩) (by exact ⟨rfl, ⟨⟩⟩) ?_
 refine iS (bx := 2) (L := hM) (A := [nv _ (val _)]) (ms := [nv _ (val _), nv _ (val _), nv _ (sl _ _), nv _ (sl _ _)]) (B := [nv _ (val _), nv _ (val _), nv _ (val _), nv _ (val _), nv _ (sl _ _), nv _ (val _), nv _ (val _), nv _ (val _)]) (qr := [(false, [val _])]) (as_ := [(false, [val _])]) (by decide) Bx rfl (by exact rfl) (by exact (Nm.val (Nm.val (Nm.val (Nm.val Nm.nil))))) (by exact ⟨rfl, ⟨⟩⟩) (by exact (aI (by exact tI) tI)) (by exact aI (aI rfl (aO ao.nil)) tI) (by exact rfl) (by exact (Nm.nv (Nm.nv (Nm.nv (Nm.nv Nm.nil))))) (by exact (ax.nv (ax.nv (ax.nv (ax.nv ax.nil))))) (by exact DV (by first | omega | (simp only [dt, di]; omega)) (by first | omega | (simp only [dt, di]; omega))) (by exact (be.nv (be.nv (be.nv (be.nv be.nil))))) (fun x hx => hx.elim) (by exact lc) (by exact (aI (.inl rfl) tI)) (by exact lc) (by exact lc) rfl ?_
 refine bS (by exact ⟨rfl, ⟨⟩⟩) (by exact tI) (aN.of rfl (cu (.inr rfl) (by decide) (by exact Cp.sc))) br ?_
 refine iP ?_
 refine aT ?_
 refine sP [1, 2, 4] [2] ?_
 refine iQ ?_
 refine bS (by exact ⟨rfl, ⟨⟩⟩) (by exact tI) (aN.of rfl (iL (by decide) jx)) br ?_
 refine bS (by exact ⟨rfl, ⟨⟩⟩) (by exact ⟨rfl, ⟨⟩⟩) (aN.of rfl (gE (qs := [val _, val _, val _, val _, val _]) (by decide) db (fun h => nomatch h) (by exact nl rfl) (by exact (ao.cons bT (ao.cons bT (ao.cons bT (ao.cons bT (ao.cons bT ao.nil)))))) (by exact lq))) br ?_
 refine bS (by exact ⟨rfl, ⟨⟩⟩) (by exact tI) (aN.of rfl (cu (.inl rfl) (by decide) (by exact Cp.sc))) br ?_
 refine iR (l := [(1, RV.sv false [val _]), (2, RV.ptr 2 0), (4, RV.sv false [val _]), (9, RV.ptr 2 7), (10, RV.sv true [val _, val _, val _, val _, val _]), (11, RV.sv false [val _])]) (b := [(2, (31, [nv _ (val _), nv _ (val _), nv _ (val _), nv _ (sl _ _), nv _ (sl _ _), nv _ (val _), nv _ (val _), nv _ (val _), nv _ (val _), nv _ (sl _ _), nv _ (val _), nv _ (val _), nv _ (val _)]))]) (by exact ⟨rfl, rfl, rfl, rfl, rfl, rfl, ⟨⟩⟩) (by exact ⟨rfl, ⟨⟩⟩) ?_
 refine iS (bx := 2) (L := hM) (A := [nv _ (val _), nv _ (val _), nv _ (val _), nv _ (sl _ _), nv _ (sl _ _), nv _ (val _), nv _ (val _)]) (ms := [nv _ (val _), nv _ (val _), nv _ (sl _ _), nv _ (val _), nv _ (val _)]) (B := [nv _ (val _)]) (qr := [(false, [val _])]) (as_ := [(false, [val _])]) (by decide) By rfl (by exact rfl) (by exact (Nm.val (Nm.val (Nm.val (Nm.val (Nm.val Nm.nil)))))) (by exact ⟨rfl, ⟨⟩⟩) (by exact (aI (by exact tI) tI)) (by exact aI (aI rfl (aO ao.nil)) tI) (by exact rfl) (by exact (Nm.nv (Nm.nv (Nm.nv (Nm.nv (Nm.nv Nm.nil)))))) (by exact (ax.nv (ax.nv (ax.nv (ax.nv (ax.nv ax.nil)))))) (by exact DW (by first | omega | (simp only [dt, di]; omega)) (by first | omega | (simp only [dt, di]; omega))) (by exact (be.nv (be.nv (be.nv (be.nv (be.nv be.nil)))))) (fun x hx => hx.elim) (by exact lc) (by exact (aI (.inl rfl) tI)) (by exact lc) (by exact lc) rfl ?_
 refine bS (by exact ⟨rfl, ⟨⟩⟩) (by exact tI) (aN.of rfl (cu (.inr rfl) (by decide) (by exact Cp.sc))) br ?_
 refine iP ?_
 refine kg ?_
 refine cj ?_
 exact aI (by exact rfl) (bu _ (aI (.inr (bu 2 (bu _ (by exact rfl)))) (aI (by exact (Nm.nv (Nm.nv (Nm.nv (Nm.nv (Nm.nv (Nm.nv (Nm.nv (Nm.nv (Nm.nv (Nm.nv (Nm.nv (Nm.nv (Nm.nv Nm.nil)))))))))))))) (by exact (ax.nv (ax.nv (ax.nv (ax.nv (ax.nv (ax.nv (ax.nv (ax.nv (ax.nv (ax.nv (ax.nv (ax.nv (ax.nv ax.nil)))))))))))))))))
end Go.Proofs.YtmekkgdboplbjaaGreatDoor
