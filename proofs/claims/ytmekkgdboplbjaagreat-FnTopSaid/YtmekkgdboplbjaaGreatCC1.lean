/- What functions of the program compute. No condition. -/
import Derived.Test.YtmekkgdboplbjaaGreatCV0
set_option linter.all false
namespace Go.Proofs.YtmekkgdboplbjaaGreat
open Go Go.RowKit M PV Tryz
set_option maxRecDepth 10000
attribute [local irreducible] PV.Lcl PV.LclR RV.Lcl
set_option maxHeartbeats 8000000
def TZ : dY prog 184 = some [(0, 1), (1, 1), (2, 1), (3, 1)] := by kernel_rfl
def Ua : prog.underlying 4 = some .bool := by kernel_rfl
def adD {p1 p2 : Fl} {s : Store} {id : Int}  (hb : cB s ≤ 68719476736) : aN prog 258 [(true, [sl .v (s.aey.map (aG p1 p2)), val (vI s.Now)]), (false, [val (vI id)])] (aJ [(false, [val (vI (ci s id))]), (false, [val (vI (me s id))])]) := by
 refine sF func258 fun h0 w0 Fz0 => ?_
 refine sn 0 0 fun hl0_0 => ?_
 have hbu := hb
 simp only [cB, fW, bf] at hbu
 refine jo ?_
 refine rK ?_
 refine eH ?_
 refine sT [1, 2, 4, 5] [2] ?_
 refine lM ?_
 refine eo ?_
 refine sP [1, 2, 4, 5, 11, 12, 13] [2] ?_
 refine sL [1, 2, 11, 12] [2] (fun i : Nat => i ≤ s.aey.length ∧ (s.aey.take i).any (gX id) = false) (fun i : Nat => [(13, RV.int (i : Int))]) (fun i : Nat => []) (fun i : Nat => s.aey.length - i) 0 (by exact ⟨by omega, rfl⟩) (by exact aI (by exact rfl) tI) (by exact tI) ?_
 rintro i ⟨hi, ha⟩
 refine cn ?_
 refine sc ?_ ?_ <;> intro hba
 have hlt : i < s.aey.length := by omega
 have hwm := di (f := co) hlt
 have hws : co s.aey[i] = s.aey[i].length + (s.aey[i].map cw).sum := rfl
 refine bi ?_
 refine sT [1, 2, 11, 12, 13] [2] ?_
 refine rM ?_
 refine sC ?_
 refine rS ?_
 refine rA ?_ (x := vA false [sl .v _])
 refine sS [1, 2, 6, 7, 11, 12, 13] [2] ?_
 refine tH ?_
 refine sP [1, 2, 6, 7, 11, 12, 13, 18, 19, 20] [2] ?_
 refine sL [1, 2, 6, 7, 11, 12, 13, 18, 19] [2] (fun j : Nat => j ≤ s.aey[i].length ∧ (s.aey[i].take j).any (gk id) = false) (fun j : Nat => [(20, RV.int (j : Int))]) (fun j : Nat => []) (fun j : Nat => s.aey[i].length - j) 0 (by exact ⟨by omega, rfl⟩) (by exact aI (by exact rfl) tI) (by exact tI) ?_
 rintro j ⟨hj, hc⟩
 refine cn ?_
 refine sc ?_ ?_ <;> intro hbb
 have hlt2 : j < s.aey[i].length := by omega
 refine bi ?_
 refine sT [1, 2, 6, 7, 11, 12, 13, 18, 19, 20] [2] ?_
 refine rM ?_
 refine vg ?_
 refine rX ?_ (x := (cr (by decide) fE ny))
 refine rS ?_
 refine rA ?_ (x := bh (ag := true) (vs := [val _, sl _ _, val _, val _]) fq (by exact tI) (by exact rfl) (by exact nl rfl))
 refine be ?_
 refine sO [(1, _), (2, _), (6, _), (7, _), (8, _), (9, _), (11, _), (12, _), (13, _), (18, _), (19, _), (20, _)] [(2, _), (9, (184, [val _, sl _ _, val _, val _]))] ?_
 refine bd ?_
 refine rA ?_ (x := lF nt)
 refine oo ?_
 refine rA ?_ (x := dQ)
 refine rM ?_
 refine cx 29 (fun ga sga => ?_) (fun ga sga => ?_)
 refine rB ga ?_ (x := lF iB)
 refine vh ?_
 refine rA ?_ (x := aO ga)
 refine sc ?_ ?_ <;> intro hbc
 have hyy : gk id s.aey[i][j] = true := by first | (simp_all [gk]; done) | (unfold gk; simp_all)
 have hfa := Re hlt ha hlt2 hc hyy
 refine sS [1, 2, 6, 7, 8, 9, 11, 12, 13, 18, 19, 20] [2, 9] ?_
 exact Lc
 exact Le
 refine mD ?_
 exact Le
 have hno1 : gX id s.aey[i] = false := by unfold gX; rw [show j = s.aey[i].length by omega, cj] at hc; exact hc
 refine bq ?_
 refine sH [1, 2, 6, 7, 11, 12, 13, 18, 19, 20] [2] ?_
 refine cF ?_
 exact Lf
 have hend : i = s.aey.length := by omega
 have hfn := Rf (s := s) (id := id) (by rw [hend, cj] at ha; exact ha)
 refine bq ?_
 refine sT [1, 2, 11, 12, 13] [2] ?_
 exact Lg
def adE {p1 p2 : Fl} {s : Store} {id : Int}  (hb : cB s ≤ 68719476736) : aN prog 253 [(true, [sl .v (s.aey.map (aG p1 p2)), val (vI s.Now)]), (false, [val (vI id)])] (aJ [(false, [val (vI (ci s id))]), (false, [val (vI (me s id))])]) := by
 refine sF func253 fun h0 w0 Fz0 => ?_
 refine sn 0 0 fun hl0_0 => ?_
 have hbu := hb
 simp only [cB, fW, bf] at hbu
 refine jo ?_
 refine rK ?_
 refine eH ?_
 refine sT [1, 2, 4, 5] [2] ?_
 refine ca ?_
 refine sP [1, 2, 4, 5, 6] [2] ?_
 refine sL [1, 2] [2] (fun i : Nat => i ≤ s.aey.length ∧ (s.aey.take i).any (gX id) = false) (fun i : Nat => [(6, RV.int (i : Int))]) (fun i : Nat => []) (fun i : Nat => s.aey.length - i) 0 (by exact ⟨by omega, rfl⟩) (by exact aI (by exact rfl) tI) (by exact tI) ?_
 rintro i ⟨hi, ha⟩
 refine tF ?_
 refine sc ?_ ?_ <;> intro hba
 have hlt : i < s.aey.length := by omega
 have hwm := di (f := co) hlt
 have hws : co s.aey[i] = s.aey[i].length + (s.aey[i].map cw).sum := rfl
 refine bi ?_
 refine sT [1, 2, 6] [2] ?_
 refine ca ?_
 refine sP [1, 2, 6, 7] [2] ?_
 refine sL [1, 2, 6] [2] (fun j : Nat => j ≤ s.aey[i].length ∧ (s.aey[i].take j).any (gk id) = false) (fun j : Nat => [(7, RV.int (j : Int))]) (fun j : Nat => []) (fun j : Nat => s.aey[i].length - j) 0 (by exact ⟨by omega, rfl⟩) (by exact aI (by exact rfl) tI) (by exact tI) ?_
 rintro j ⟨hj, hc⟩
 refine de ?_
 refine oe ?_
 refine rM ?_
 refine sC ?_
 refine Eb ?_
 refine sc ?_ ?_ <;> intro hbb
 have hlt2 : j < s.aey[i].length := by omega
 refine bi ?_
 refine sT [1, 2, 6, 7] [2] ?_
 refine oe ?_
 refine rM ?_
 refine sC ?_
 refine rM ?_
 refine rA ?_ (x := aU (by decide) cy (by exact tI) (by exact rfl) (by exact aW (by omega) rfl) (by exact rfl))
 refine PS ?_
 refine to ?_
 refine rM ?_
 refine cx 36 (fun ga sga => ?_) (fun ga sga => ?_)
 refine Dt ?_
 refine rB ga ?_ (x := sM)
 refine rB ga ?_ (x := aU (by decide) eP (by exact tI) (by exact rfl) (by exact aW (by omega) rfl) (by exact rfl))
 refine rB ga ?_ (x := lE [sl .v _] ie)
 refine rB ga ?_ (x := sM)
 refine rB ga ?_ (x := aU (by decide) cy (by exact tI) (by exact rfl) (by exact aW (by omega) rfl) (by exact rfl))
 refine rB ga ?_ (x := cd (by decide) iB (by exact nl rfl))
 refine rB ga ?_ (x := lE [val _] az)
 refine rB ga ?_ (x := dQ)
 refine rA ?_ (x := aO ga)
 refine sc ?_ ?_ <;> intro hbc
 have hyy : gk id s.aey[i][j] = true := by first | (simp_all [gk]; done) | (unfold gk; simp_all)
 have hfa := Re hlt ha hlt2 hc hyy
 refine sS [1, 2, 6, 7] [2] ?_
 exact Lc
 exact Lh
 refine mD ?_
 exact Lh
 have hno1 : gX id s.aey[i] = false := by unfold gX; rw [show j = s.aey[i].length by omega, cj] at hc; exact hc
 refine bq ?_
 refine sH [1, 2, 6, 7] [2] ?_
 refine cb ?_
 exact Lf
 have hend : i = s.aey.length := by omega
 have hfn := Rf (s := s) (id := id) (by rw [hend, cj] at ha; exact ha)
 refine bq ?_
 refine sT [1, 2, 6] [2] ?_
 exact Lg
def adF {p1 p2 : Fl} {s : Store}  (hb : cB s ≤ 68719476736) : aN prog 254 [(true, [sl .v (s.aey.map (aG p1 p2)), val (vI s.Now)])] (aJ [(false, [val (vI (ik s.aey))])]) := by
 refine sF func254 fun h0 w0 Fz0 => ?_
 refine sn 0 0 fun hl0_0 => ?_
 have hbu := hb
 simp only [cB, fW, bf] at hbu
 refine jo ?_
 refine lj ?_
 refine vZ ?_
 refine sL [1] [1] (fun k : Nat => k ≤ s.aey.length ∧ (s.aey.take k).any gY = false) (fun k : Nat => [(3, RV.int (k : Int))]) (fun k : Nat => []) (fun k : Nat => s.aey.length - k) 0 (by exact ⟨by omega, rfl⟩) (by exact aI (by exact rfl) tI) (by exact tI) ?_
 rintro k ⟨hk, ha⟩
 refine tF ?_
 refine sc ?_ ?_ <;> intro hba
 have hlt : k < s.aey.length := by omega
 have hwm := di (f := co) hlt
 have hws : co s.aey[k] = s.aey[k].length + (s.aey[k].map cw).sum := rfl
 refine bi ?_
 refine sT [1, 3] [1] ?_
 refine oe ?_
 refine rM ?_
 refine sC ?_
 refine Eb ?_
 refine sc ?_ ?_ <;> intro hbb
 have hy : gY s.aey[k] = true := by unfold gY; simpa using hbb
 have hra := Rg hlt ha hy
 refine sS [1, 3] [1] ?_
 refine rM ?_
 refine db ?_
 exact (aI (by refine bk ?_; rw [hra]) tI)
 have hno1 : gY s.aey[k] = false := by unfold gY; simpa using hbb
 refine wa ?_
 refine cb ?_
 refine nx (k + 1) (by exact ⟨by omega, qY ha hlt hno1⟩)
 have hend : k = s.aey.length := by omega
 have hrn := Rh (by rw [hend, cj] at ha; exact ha)
 refine zo ?_
 refine cm ?_
 exact (aI (by refine bk ?_; rw [hrn]) tI)
def adG {p1 p2 : Fl} {s : Store} {u : aeC}  (hb : cB s ≤ 68719000000) (hbu0 : lp u ≤ 68719000000) : aN prog 191 [(true, [sl .v (s.aey.map (aG p1 p2)), val (vI s.Now)]), (true, [val (vI u.Kind), val (vI u.Row.Id), sl .v (u.Row.Values.map am), val (vI u.Field), val (vI u.Value)])] (aJ [(true, [sl bz ((cQ s u).1.aey.map (aG aV ab)), val (vI (cQ s u).1.Now)]), (false, [val (.bool (cQ s u).2)])]) := by
 refine mq (largs := fun L => [(true, [sl (.lo L) (s.aey.map (aG (.lo L) (.lo L))), val (vI s.Now)]), (true, [val (vI u.Kind), val (vI u.Row.Id), sl (.lo L) (u.Row.Values.map am), val (vI u.Field), val (vI u.Value)])]) (rs := [(true, [sl bz ((cQ s u).1.aey.map (aG aV ab)), val (vI (cQ s u).1.Now)]), (false, [val (.bool (cQ s u).2)])]) func191 rfl (nl rfl) (fun L => by exact (aI (aI rfl (ae.cons (aP (fun _ => nl rfl) (fun _ => (ae.cons (aP (fun _ => nl rfl) (fun _ => (ae.cons av (ae.cons (aP (fun _ => nl rfl) (fun _ => (ae.cons av ae.nil))) (ae.cons av (ae.cons av ae.nil)))))) ae.nil))) (ae.cons av ae.nil))) (aI (aI rfl (ae.cons av (ae.cons av (ae.cons (aP (fun _ => nl rfl) (fun _ => (ae.cons av ae.nil))) (ae.cons av (ae.cons av ae.nil)))))) tI))) (fun L => by exact lq) ?_
 intro w0 Fz0
 refine sn 0 0 fun hl0_0 => ?_
 refine sn 1 2 fun hl1_2 => ?_
 have hbu := hb
 simp only [cB, fW, bf] at hbu
 have hbv := hbu0
 simp only [lp, fJ, dE, bf] at hbv
 have hvl2 := Rk s u
 have hul := oT s u
 refine Pw ?_
 refine OD ?_
 refine Dg ?_
 refine mw ?_
 refine PI ?_
 refine Pt ?_
 refine fz ?_
 refine cx 17 (fun ga sga => ?_) (fun ga sga => ?_)
 refine jq ?_
 refine aq.cases (s := 22) rfl (fun g2 => ?_) (fun g2 => nomatch g2)
 exact Lj
 refine rB ga ?_ (x := lD [val _, val _, sl (.lo _) _, val _, val _] ma)
 refine rB ga ?_ (x := cL [(true, [val _, val _, sl (.lo _) _, val _, val _])] [(true, [val _, val _, sl .v _, val _, val _])] Ql (hs := by exact TJ))
 refine lO ?_
 refine rM ?_
 refine cx 22 (fun gb sgb => ?_) (fun gb sgb => ?_)
 exact Lk
 refine rB gb ?_ (x := lF fK)
 refine qB ?_
 refine rA ?_ (x := aF gb)
 refine sc ?_ ?_ <;> intro hba
 exact xZ
 have hos : bQ s = true := by simp_all
 have hou : gF u = true := by simp_all
 obtain ⟨hs8, hs1, hn0, hn1, hs4, hver⟩ := mN hos
 have hnw : s.Now < 100000 := by first | omega | (simp_all; omega)
 refine yQ ?_
 refine rA ?_ (x := lD [sl (.lo _) _, val _] cW)
 refine rA ?_ (x := lF ic)
 refine pt ?_
 refine rA ?_ (x := cL [(true, [sl (.lo _) _, val _]), (false, [val _])] [(true, [sl .v _, val _]), (false, [val _])] YR (hs := by exact (adD (by omega))))
 refine rA ?_ (x := tM)
 refine NG ?_
 refine rS ?_
 refine hZ ?_
 refine sS [2, 3, 4, 5, 6, 7, 8] [2, 3, 4, 6] ?_
 refine rM ?_
 refine rA ?_ (x := iy)
 refine px ?_
 refine rA ?_ (x := Vg (by decide) Ua (by exact tI) (by exact tI))
 refine sc ?_ ?_ <;> intro hbb
 have hno : gZ s u = false := by rw [← Bool.not_eq_true]; intro hc_; obtain ⟨h1_, h2_, h3_, h4_, h5_⟩ := oU hc_; have hh_ := hbb; by_cases h1 : 0 ≤ ci s u.Row.Id <;> by_cases h2 : u.Kind = 1 <;> simp_all [GE.ge]
 refine sS [2, 3, 4, 5, 6, 7, 8] [2, 3, 4, 6] ?_
 exact Ch
 have hkd : 0 ≤ ci s u.Row.Id ↔ ¬ u.Kind = 1 := by have h_ := hbb; by_cases h1 : 0 ≤ ci s u.Row.Id <;> by_cases h2 : u.Kind = 1 <;> simp_all [GE.ge]
 refine bb ?_
 refine sS [2, 3, 4, 5, 6, 7, 8] [2, 3, 4, 6] ?_
 refine rA ?_ (x := lF fK)
 refine om ?_
 refine rA ?_ (x := lF fK)
 refine my ?_
 refine sO [(2, _), (3, _), (4, _), (5, _), (6, _), (7, _), (8, _)] [(2, _), (3, _), (4, _), (6, (26, [sl _ _, val _]))] ?_
 refine bd ?_
 refine rA ?_ (x := lF ic)
 refine rA ?_ (x := lF jv)
 refine rA ?_ (x := lD [sl (.lo _) _] bF)
 refine rA ?_ (x := cL [(false, [sl (.lo _) _])] [(false, [sl .v _])] oD (hs := by exact oV (by omega)))
 refine qI ?_
 refine sS [2, 3, 4, 5, 6, 7, 8, 9] [2, 3, 4, 6] ?_
 refine rM ?_
 refine rA ?_ (x := iy)
 refine sc ?_ ?_ <;> intro hbc
 have hge : 0 ≤ ci s u.Row.Id := by omega
 obtain ⟨i, k, hi, hk, hfi, hfk, hal⟩ := nz hge
 obtain ⟨hu1, hu2⟩ := mf hi hk hfi hfk
 have hwm := di (f := co) hi
 have hws : co s.aey[i] = s.aey[i].length + (s.aey[i].map cw).sum := rfl
 have hwm2 := di (f := cw) hk
 have hwv : cw s.aey[i][k] = s.aey[i][k].Values.length := by simp only [cw, dE, bf]; omega
 refine be ?_
 refine sP [2, 3, 4, 5, 6, 7, 8, 9] [2, 3, 4, 6] ?_
 refine jL (d := 6) (t := 26) (D := 920) (G := 2920) (E := 139) (e := 1) (L := (Lw w0.heap.size)) (A := []) (B := [val _]) (es := (s.aey).map (aG aV ab)) (by exact rfl) (iN hi) (by exact rfl) (by exact rfl) rfl (by exact rfl) (fun x hx => hx) (by exact lq) (by exact lq) (by exact ar.nil) (by exact lc) (ar.map fun x => (ar.cons (lcl_own (ar.map fun x => (ar.cons lcl_val (ar.cons (lcl_own (ar.map fun x => (ar.cons lcl_val ar.nil))) (ar.cons lcl_val (ar.cons lcl_val ar.nil)))))) ar.nil)) fun uu920 cp920 jk920 hlD920 hcp920 hjk920 => ?_
 rw [aw] at hlD920 hcp920 hjk920
 refine cV (d := 920) (by exact rfl) (iM (k := i) hi) ?_
 have hA920 := jl (f := (aG aV ab)) (e := 1) (xs := s.aey) (k := i) (fun _ => rfl) (Nat.le_of_lt hi)
 refine sO [(2, _), (3, _), (4, _), (5, _), (6, _), (7, _), (8, _), (9, _), (2920, _)] [(2, _), (3, _), (4, _), (6, (26, [val _, val _])), (920, (139, _ ++ ([sl _ _] ++ _)))] ?_
 refine jL (d := 920) (t := 139) (D := 921) (G := 2921) (E := 184) (e := 4) (L := (Lw w0.heap.size)) (A := _) (B := [] ++ _) (es := (s.aey[i]).map (eN ab)) (by exact rfl) (iN hk) (by exact rfl) (by exact rfl) rfl (by exact rfl) (fun x hx => hx) (by exact lq) (by exact lq) (by exact lc) (by exact lc) (ar.map fun x => (ar.cons lcl_val (ar.cons (lcl_own (ar.map fun x => (ar.cons lcl_val ar.nil))) (ar.cons lcl_val (ar.cons lcl_val ar.nil))))) fun uu921 cp921 jk921 hlD921 hcp921 hjk921 => ?_
 rw [aw] at hlD921 hcp921 hjk921
 refine cV (d := 921) (by exact rfl) (iM (k := k) hk) ?_
 have hA921 := jl (f := (eN ab)) (e := 4) (xs := s.aey[i]) (k := k) (fun _ => rfl) (Nat.le_of_lt hk)
 refine sO [(2, _), (3, _), (4, _), (5, _), (6, _), (7, _), (8, _), (9, _), (2920, _), (2921, _)] [(2, _), (3, _), (4, _), (6, _), (920, (139, _ ++ ([val _] ++ _))), (921, (184, _ ++ ([val _, sl _ _, val _, val _] ++ _)))] ?_
 refine da cG ?_
 refine wf ?_
 refine Cy ?_
 refine DW ?_
 refine CQ ?_
 refine CW ?_
 refine Cw ?_
 refine Ct ?_
 refine sO [(2, _), (3, _), (4, _), (5, _), (6, _), (7, _), (8, _), (9, _)] [(2, _), (3, _), (4, _), (6, (26, [sl _ _, val _]))] ?_
 refine bd ?_
 refine vz ?_
 refine Dj ?_
 refine rA ?_ (x := lE [sl (.lo _) _] ie)
 refine rM ?_
 refine CR ?_
 refine rA ?_ (x := lE [sl (.lo _) _] bF)
 refine rA ?_ (x := cL [(false, [sl (.lo _) _])] [(false, [sl .v _])] oD (hs := by exact oV (by omega)))
 refine rA ?_ (x := tA)
 exact Lm
 have hge : ¬ 0 ≤ ci s u.Row.Id := by omega
 obtain ⟨hu1, hu2⟩ := nA hge
 refine bb ?_
 exact Lm
def Ub {p1 p2 : Fl} {s : Store} {u : aeC}  (hb : cB s ≤ 68719000000) (hbu0 : lp u ≤ 68719000000) : aN prog 184 [(true, [sl .v (s.aey.map (aG p1 p2)), val (vI s.Now)]), (true, [val (vI u.Kind), val (vI u.Row.Id), sl .v (u.Row.Values.map am), val (vI u.Field), val (vI u.Value)])] (aJ [(true, [sl bz ((cQ s u).1.aey.map (aG aV ab)), val (vI (cQ s u).1.Now)]), (false, [val (.bool (cQ s u).2)])]) := by
 refine mq (largs := fun L => [(true, [sl (.lo L) (s.aey.map (aG (.lo L) (.lo L))), val (vI s.Now)]), (true, [val (vI u.Kind), val (vI u.Row.Id), sl (.lo L) (u.Row.Values.map am), val (vI u.Field), val (vI u.Value)])]) (rs := [(true, [sl bz ((cQ s u).1.aey.map (aG aV ab)), val (vI (cQ s u).1.Now)]), (false, [val (.bool (cQ s u).2)])]) func184 rfl (nl rfl) (fun L => by exact (aI (aI rfl (ae.cons (aP (fun _ => nl rfl) (fun _ => (ae.cons (aP (fun _ => nl rfl) (fun _ => (ae.cons av (ae.cons (aP (fun _ => nl rfl) (fun _ => (ae.cons av ae.nil))) (ae.cons av (ae.cons av ae.nil)))))) ae.nil))) (ae.cons av ae.nil))) (aI (aI rfl (ae.cons av (ae.cons av (ae.cons (aP (fun _ => nl rfl) (fun _ => (ae.cons av ae.nil))) (ae.cons av (ae.cons av ae.nil)))))) tI))) (fun L => by exact lq) ?_
 intro w0 Fz0
 refine sn 0 0 fun hl0_0 => ?_
 refine sn 1 2 fun hl1_2 => ?_
 have hbu := hb
 simp only [cB, fW, bf] at hbu
 have hbv := hbu0
 simp only [lp, fJ, dE, bf] at hbv
 have hvl2 := Rk s u
 have hul := oT s u
 refine Pw ?_
 refine OD ?_
 refine Pr ?_
 refine mw ?_
 refine PI ?_
 refine Pu ?_
 refine fz ?_
 refine cx 16 (fun ga sga => ?_) (fun ga sga => ?_)
 refine jq ?_
 refine aq.cases (s := 21) rfl (fun g2 => ?_) (fun g2 => nomatch g2)
 exact Lj
 refine rB ga ?_ (x := lD [val _, val _, sl (.lo _) _, val _, val _] ma)
 refine rB ga ?_ (x := cL [(true, [val _, val _, sl (.lo _) _, val _, val _])] [(true, [val _, val _, sl .v _, val _, val _])] Qm (hs := by exact TK))
 refine lO ?_
 refine rM ?_
 refine cx 21 (fun gb sgb => ?_) (fun gb sgb => ?_)
 exact Lk
 refine rB gb ?_ (x := lF fK)
 refine rB gb ?_ (x := lD [val _] az)
 refine rB gb ?_ (x := iy)
 refine rA ?_ (x := aF gb)
 refine sc ?_ ?_ <;> intro hba
 exact xZ
 have hos : bQ s = true := by simp_all
 have hou : gF u = true := by simp_all
 obtain ⟨hs8, hs1, hn0, hn1, hs4, hver⟩ := mN hos
 have hnw : s.Now < 100000 := by first | omega | (simp_all; omega)
 refine yQ ?_
 refine rA ?_ (x := lD [sl (.lo _) _, val _] cW)
 refine rA ?_ (x := lF ic)
 refine pt ?_
 refine rA ?_ (x := cL [(true, [sl (.lo _) _, val _]), (false, [val _])] [(true, [sl .v _, val _]), (false, [val _])] YP (hs := by exact (adE (by omega))))
 refine rA ?_ (x := tM)
 refine NG ?_
 refine rS ?_
 refine rS ?_
 refine sS [2, 3, 4, 5, 6, 7, 8] [2, 3, 4, 6] ?_
 refine rA ?_ (x := lD [sl (.lo _) _, val _] cW)
 refine rA ?_ (x := cL [(true, [sl (.lo _) _, val _])] [(true, [sl .v _, val _])] YQ (hs := by exact (adF (by omega))))
 refine hZ ?_
 refine sS [2, 3, 4, 5, 6, 7, 8, 9] [2, 3, 4, 6] ?_
 refine px ?_
 refine rM ?_
 refine rA ?_ (x := dq)
 refine rA ?_ (x := Hr (by decide) Ua (by exact tI) (by exact tI))
 refine rM ?_
 refine cx 43 (fun gc sgc => ?_) (fun gc sgc => ?_)
 refine qL ?_
 refine cv ?_
 exact Ln
 refine rB gc ?_ (x := lF tR)
 refine rB gc ?_ (x := lD [val _] az)
 refine Ec ?_
 refine cx 47 (fun gd sgd => ?_) (fun gd sgd => ?_)
 refine rB gd ?_ (x := sM)
 refine rB gd ?_ (x := dq)
 refine DY ?_
 refine sc ?_ ?_ <;> intro hbb
 exact Ln
 have hkr : (0 ≤ ci s u.Row.Id ↔ ¬ u.Kind = 1) ∧ (u.Kind = 2 ∨ 0 ≤ ik s.aey) := by by_cases h1 : 0 ≤ ci s u.Row.Id <;> by_cases h2 : u.Kind = 1 <;> by_cases h3 : u.Kind = 2 <;> by_cases h4 : 0 ≤ ik s.aey <;> by_cases h6 : ci s u.Row.Id < 0 <;> (first | omega | (simp_all; done) | (simp_all; omega))
 obtain ⟨hkd, hrr⟩ := hkr
 have hok := Aa hos hou hnw hkd hrr
 refine bb ?_
 refine sS [2, 3, 4, 5, 6, 7, 8, 9] [2, 3, 4, 6] ?_
 refine rA ?_ (x := lF fK)
 refine om ?_
 refine rA ?_ (x := lF fK)
 refine my ?_
 refine Pb ?_
 refine dA 0 ?_ (x := lF ic)
 refine dA 1 ?_ (x := lF jZ)
 refine OH ?_
 refine dA 0 ?_ (x := lF ic)
 refine dA 16 ?_ (x := lF jv)
 refine MI ?_
 refine DJ ?_
 refine OS ?_
 refine yu ?_
 refine lP ?_
 refine rA ?_ (x := iy)
 refine sc ?_ ?_ <;> intro hbc
 have hge : 0 ≤ ci s u.Row.Id := by omega
 obtain ⟨i, k, hi, hk, hfi, hfk, hal⟩ := nz hge
 obtain ⟨hu1, hu2⟩ := mf hi hk hfi hfk
 have hwm := di (f := co) hi
 have hws : co s.aey[i] = s.aey[i].length + (s.aey[i].map cw).sum := rfl
 have hwm2 := di (f := cw) hk
 have hwv : cw s.aey[i][k] = s.aey[i][k].Values.length := by simp only [cw, dE, bf]; omega
 refine On ?_
 refine oe ?_
 refine Dj ?_
 refine rA ?_ (x := lE [sl .v _] ie)
 refine rM ?_
 refine CR ?_
 refine Cv ?_
 refine rA ?_ (x := lF lu)
 refine Np ?_
 refine jL (d := 6) (t := 26) (D := 920) (G := 2920) (E := 139) (e := 1) (L := (Lw w0.heap.size)) (A := []) (B := [val _]) (es := (s.aey).map (aG aV ab)) (by exact rfl) (iN hi) (by exact rfl) (by exact rfl) rfl (by exact rfl) (fun x hx => hx) (by exact lq) (by exact lq) (by exact ar.nil) (by exact lc) (ar.map fun x => (ar.cons (lcl_own (ar.map fun x => (ar.cons lcl_val (ar.cons (lcl_own (ar.map fun x => (ar.cons lcl_val ar.nil))) (ar.cons lcl_val (ar.cons lcl_val ar.nil)))))) ar.nil)) fun uu920 cp920 jk920 hlD920 hcp920 hjk920 => ?_
 rw [aw] at hlD920 hcp920 hjk920
 refine cV (d := 920) (by exact rfl) (iM (k := i) hi) ?_
 have hA920 := jl (f := (aG aV ab)) (e := 1) (xs := s.aey) (k := i) (fun _ => rfl) (Nat.le_of_lt hi)
 refine sO [(2, _), (3, _), (4, _), (5, _), (6, _), (7, _), (8, _), (9, _), (10, _), (2920, _)] [(2, _), (3, _), (4, _), (6, (26, [val _, val _])), (10, _), (920, (139, _ ++ ([sl _ _] ++ _)))] ?_
 refine jL (d := 920) (t := 139) (D := 921) (G := 2921) (E := 184) (e := 4) (L := (Lw w0.heap.size)) (A := _) (B := [] ++ _) (es := (s.aey[i]).map (eN ab)) (by exact rfl) (iN hk) (by exact rfl) (by exact rfl) rfl (by exact rfl) (fun x hx => hx) (by exact lq) (by exact lq) (by exact lc) (by exact lc) (ar.map fun x => (ar.cons lcl_val (ar.cons (lcl_own (ar.map fun x => (ar.cons lcl_val ar.nil))) (ar.cons lcl_val (ar.cons lcl_val ar.nil))))) fun uu921 cp921 jk921 hlD921 hcp921 hjk921 => ?_
 rw [aw] at hlD921 hcp921 hjk921
 refine cV (d := 921) (by exact rfl) (iM (k := k) hk) ?_
 have hA921 := jl (f := (eN ab)) (e := 4) (xs := s.aey[i]) (k := k) (fun _ => rfl) (Nat.le_of_lt hk)
 refine Ns ?_
 refine wf ?_
 refine Cy ?_
 refine DW ?_
 refine CQ ?_
 refine CW ?_
 refine Cw ?_
 refine Ct ?_
 refine OO ?_
 exact Ls
 have hge : ¬ 0 ≤ ci s u.Row.Id := by omega
 obtain ⟨hu1, hu2⟩ := nA hge
 refine eG ?_
 refine yJ ?_
 exact Ls
 refine zf gd ?_
 refine DZ ?_
 refine eX ?_
 have hkr : (0 ≤ ci s u.Row.Id ↔ ¬ u.Kind = 1) ∧ (u.Kind = 2 ∨ 0 ≤ ik s.aey) := by by_cases h1 : 0 ≤ ci s u.Row.Id <;> by_cases h2 : u.Kind = 1 <;> by_cases h3 : u.Kind = 2 <;> by_cases h4 : 0 ≤ ik s.aey <;> by_cases h6 : ci s u.Row.Id < 0 <;> (first | omega | (simp_all; done) | (simp_all; omega))
 obtain ⟨hkd, hrr⟩ := hkr
 have hok := Aa hos hou hnw hkd hrr
 refine bb ?_
 refine sS [2, 3, 4, 5, 6, 7, 8, 9] [2, 3, 4, 6] ?_
 refine rA ?_ (x := lF fK)
 refine om ?_
 refine rA ?_ (x := lF fK)
 refine my ?_
 refine Pb ?_
 refine dA 0 ?_ (x := lF ic)
 refine dA 1 ?_ (x := lF jZ)
 refine OH ?_
 refine dA 0 ?_ (x := lF ic)
 refine dA 16 ?_ (x := lF jv)
 refine MI ?_
 refine DJ ?_
 refine OS ?_
 refine yu ?_
 refine lP ?_
 refine rA ?_ (x := iy)
 refine sc ?_ ?_ <;> intro hbb
 have hge : 0 ≤ ci s u.Row.Id := by omega
 obtain ⟨i, k, hi, hk, hfi, hfk, hal⟩ := nz hge
 obtain ⟨hu1, hu2⟩ := mf hi hk hfi hfk
 have hwm := di (f := co) hi
 have hws : co s.aey[i] = s.aey[i].length + (s.aey[i].map cw).sum := rfl
 have hwm2 := di (f := cw) hk
 have hwv : cw s.aey[i][k] = s.aey[i][k].Values.length := by simp only [cw, dE, bf]; omega
 refine On ?_
 refine oe ?_
 refine Dj ?_
 refine rA ?_ (x := lE [sl .v _] ie)
 refine rM ?_
 refine CR ?_
 refine Cv ?_
 refine rA ?_ (x := lF lu)
 refine Np ?_
 refine jL (d := 6) (t := 26) (D := 920) (G := 2920) (E := 139) (e := 1) (L := (Lw w0.heap.size)) (A := []) (B := [val _]) (es := (s.aey).map (aG aV ab)) (by exact rfl) (iN hi) (by exact rfl) (by exact rfl) rfl (by exact rfl) (fun x hx => hx) (by exact lq) (by exact lq) (by exact ar.nil) (by exact lc) (ar.map fun x => (ar.cons (lcl_own (ar.map fun x => (ar.cons lcl_val (ar.cons (lcl_own (ar.map fun x => (ar.cons lcl_val ar.nil))) (ar.cons lcl_val (ar.cons lcl_val ar.nil)))))) ar.nil)) fun uu920 cp920 jk920 hlD920 hcp920 hjk920 => ?_
 rw [aw] at hlD920 hcp920 hjk920
 refine cV (d := 920) (by exact rfl) (iM (k := i) hi) ?_
 have hA920 := jl (f := (aG aV ab)) (e := 1) (xs := s.aey) (k := i) (fun _ => rfl) (Nat.le_of_lt hi)
 refine sO [(2, _), (3, _), (4, _), (5, _), (6, _), (7, _), (8, _), (9, _), (10, _), (2920, _)] [(2, _), (3, _), (4, _), (6, (26, [val _, val _])), (10, _), (920, (139, _ ++ ([sl _ _] ++ _)))] ?_
 refine jL (d := 920) (t := 139) (D := 921) (G := 2921) (E := 184) (e := 4) (L := (Lw w0.heap.size)) (A := _) (B := [] ++ _) (es := (s.aey[i]).map (eN ab)) (by exact rfl) (iN hk) (by exact rfl) (by exact rfl) rfl (by exact rfl) (fun x hx => hx) (by exact lq) (by exact lq) (by exact lc) (by exact lc) (ar.map fun x => (ar.cons lcl_val (ar.cons (lcl_own (ar.map fun x => (ar.cons lcl_val ar.nil))) (ar.cons lcl_val (ar.cons lcl_val ar.nil))))) fun uu921 cp921 jk921 hlD921 hcp921 hjk921 => ?_
 rw [aw] at hlD921 hcp921 hjk921
 refine cV (d := 921) (by exact rfl) (iM (k := k) hk) ?_
 have hA921 := jl (f := (eN ab)) (e := 4) (xs := s.aey[i]) (k := k) (fun _ => rfl) (Nat.le_of_lt hk)
 refine Ns ?_
 refine wf ?_
 refine Cy ?_
 refine DW ?_
 refine CQ ?_
 refine CW ?_
 refine Cw ?_
 refine Ct ?_
 refine OO ?_
 exact Lu
 have hge : ¬ 0 ≤ ci s u.Row.Id := by omega
 obtain ⟨hu1, hu2⟩ := nA hge
 refine eG ?_
 refine yJ ?_
 exact Lu
end Go.Proofs.YtmekkgdboplbjaaGreat
