/- What functions of the program compute. No condition. -/
import Derived.Test.YtmekkgdboplbjaaGreatCY0
import Derived.Test.YtmekkgdboplbjaaGreatCA1
set_option linter.all false
namespace Go.Proofs.YtmekkgdboplbjaaGreat
open Go Go.RowKit M PV Tryz
set_option maxRecDepth 10000
attribute [local irreducible] PV.Lcl PV.LclR RV.Lcl
set_option maxHeartbeats 8000000
def Qt : gE prog 184 = some [(0, 1), (1, 1), (2, 1), (3, 1)] := by kernel_rfl
def Qu : prog.underlying 4 = some .bool := by kernel_rfl
def abE {p1 p2 : Fl} {s : Store} {id : Int}  (hb : cd s ≤ 68719476736) : aB prog 258 [(true, [sl .v (s.act.map (aC p1 p2)), val (vI s.Now)]), (false, [val (vI id)])] (aA [(false, [val (vI (cl s id))]), (false, [val (vI (lC s id))])]) := by
 refine sF func258 fun h0 w0 Fz0 => ?_
 refine sn 0 0 fun hl0_0 => ?_
 have hbu := hb
 simp only [cd, eO, bd] at hbu
 refine jy ?_
 refine rK ?_
 refine fh ?_
 refine sT [1, 2, 4, 5] [2] ?_
 refine lR ?_
 refine dZ ?_
 refine sP [1, 2, 4, 5, 11, 12, 13] [2] ?_
 refine sL [1, 2, 11, 12] [2] (fun i : Nat => i ≤ s.act.length ∧ (s.act.take i).any (ik id) = false) (fun i : Nat => [(13, RV.int (i : Int))]) (fun i : Nat => []) (fun i : Nat => s.act.length - i) 0 (by exact ⟨by omega, rfl⟩) (by exact aI (by exact rfl) tI) (by exact tI) ?_
 rintro i ⟨hi, ha⟩
 refine cF ?_
 refine sc (fun hba => ?_) (fun hba => ?_)
 have hlt : i < s.act.length := by omega
 have hwm := cT (f := bX) hlt
 have hws : bX s.act[i] = s.act[i].length + (s.act[i].map bW).sum := rfl
 refine bB ?_
 refine sT [1, 2, 11, 12, 13] [2] ?_
 refine rM ?_
 refine rZ ?_
 refine rS ?_
 refine rA ?_ (x := vA false [sl .v _])
 refine sS [1, 2, 6, 7, 11, 12, 13] [2] ?_
 refine sV ?_
 refine sP [1, 2, 6, 7, 11, 12, 13, 18, 19, 20] [2] ?_
 refine sL [1, 2, 6, 7, 11, 12, 13, 18, 19] [2] (fun j : Nat => j ≤ s.act[i].length ∧ (s.act[i].take j).any (gL id) = false) (fun j : Nat => [(20, RV.int (j : Int))]) (fun j : Nat => []) (fun j : Nat => s.act[i].length - j) 0 (by exact ⟨by omega, rfl⟩) (by exact aI (by exact rfl) tI) (by exact tI) ?_
 rintro j ⟨hj, hc⟩
 refine cF ?_
 refine sc (fun hbb => ?_) (fun hbb => ?_)
 have hlt2 : j < s.act[i].length := by omega
 refine bB ?_
 refine sT [1, 2, 6, 7, 11, 12, 13, 18, 19, 20] [2] ?_
 refine rM ?_
 refine wE ?_
 refine rX ?_ (x := (bY (by decide) fz lr))
 refine rS ?_
 refine rA ?_ (x := bg (ag := true) (vs := [val _, sl _ _, val _, val _]) en (by exact tI) (by exact rfl) (by exact nl rfl))
 refine aP ?_
 refine sO [(1, _), (2, _), (6, _), (7, _), (8, _), (9, _), (11, _), (12, _), (13, _), (18, _), (19, _), (20, _)] [(2, _), (9, (184, [val _, sl _ _, val _, val _]))] ?_
 refine bf ?_
 refine Bh ?_
 refine rM ?_
 refine rA ?_ (x := eG)
 refine rM ?_
 refine cx 29 (fun ga sga => ?_) (fun ga sga => ?_)
 refine rB ga ?_ (x := lF gG)
 refine pv ?_
 refine rA ?_ (x := aT ga)
 refine sc (fun hbc => ?_) (fun hbc => ?_)
 have hyy : gL id s.act[i][j] = true := by first | (simp_all [gL]; done) | (unfold gL; simp_all)
 have hfa := Qf hlt ha hlt2 hc hyy
 refine sS [1, 2, 6, 7, 8, 9, 11, 12, 13, 18, 19, 20] [2, 9] ?_
 exact Ih
 exact Ij
 refine pL ?_
 exact Ij
 have hno1 : ik id s.act[i] = false := by unfold ik; rw [show j = s.act[i].length by omega, cn] at hc; exact hc
 refine bG ?_
 refine sH [1, 2, 6, 7, 11, 12, 13, 18, 19, 20] [2] ?_
 refine df ?_
 exact Ik
 have hend : i = s.act.length := by omega
 have hfn := Qg (s := s) (id := id) (by rw [hend, cn] at ha; exact ha)
 refine bG ?_
 refine sT [1, 2, 11, 12, 13] [2] ?_
 exact Il
def abF {p1 p2 : Fl} {s : Store} {id : Int}  (hb : cd s ≤ 68719476736) : aB prog 253 [(true, [sl .v (s.act.map (aC p1 p2)), val (vI s.Now)]), (false, [val (vI id)])] (aA [(false, [val (vI (cl s id))]), (false, [val (vI (lC s id))])]) := by
 refine sF func253 fun h0 w0 Fz0 => ?_
 refine sn 0 0 fun hl0_0 => ?_
 have hbu := hb
 simp only [cd, eO, bd] at hbu
 refine jy ?_
 refine rK ?_
 refine fh ?_
 refine sT [1, 2, 4, 5] [2] ?_
 refine cH ?_
 refine sP [1, 2, 4, 5, 6] [2] ?_
 refine sL [1, 2] [2] (fun i : Nat => i ≤ s.act.length ∧ (s.act.take i).any (ik id) = false) (fun i : Nat => [(6, RV.int (i : Int))]) (fun i : Nat => []) (fun i : Nat => s.act.length - i) 0 (by exact ⟨by omega, rfl⟩) (by exact aI (by exact rfl) tI) (by exact tI) ?_
 rintro i ⟨hi, ha⟩
 refine eH ?_
 refine sD ?_
 refine sc (fun hba => ?_) (fun hba => ?_)
 have hlt : i < s.act.length := by omega
 have hwm := cT (f := bX) hlt
 have hws : bX s.act[i] = s.act[i].length + (s.act[i].map bW).sum := rfl
 refine bB ?_
 refine sT [1, 2, 6] [2] ?_
 refine cH ?_
 refine sP [1, 2, 6, 7] [2] ?_
 refine sL [1, 2, 6] [2] (fun j : Nat => j ≤ s.act[i].length ∧ (s.act[i].take j).any (gL id) = false) (fun j : Nat => [(7, RV.int (j : Int))]) (fun j : Nat => []) (fun j : Nat => s.act[i].length - j) 0 (by exact ⟨by omega, rfl⟩) (by exact aI (by exact rfl) tI) (by exact tI) ?_
 rintro j ⟨hj, hc⟩
 refine eH ?_
 refine qV ?_
 refine rZ ?_
 refine oj ?_
 refine sc (fun hbb => ?_) (fun hbb => ?_)
 have hlt2 : j < s.act[i].length := by omega
 refine bB ?_
 refine sT [1, 2, 6, 7] [2] ?_
 refine qV ?_
 refine rZ ?_
 refine rM ?_
 refine rA ?_ (x := aY (by decide) cv (by exact tI) (by exact rfl) (by exact bc (by omega) rfl) (by exact rfl))
 refine rA ?_ (x := bI (by decide) na (by exact nl rfl))
 refine rA ?_ (x := lE [val _] au)
 refine rM ?_
 refine rA ?_ (x := eG)
 refine rM ?_
 refine cx 36 (fun ga sga => ?_) (fun ga sga => ?_)
 refine BD ?_
 refine rB ga ?_ (x := sM)
 refine rB ga ?_ (x := aY (by decide) di (by exact tI) (by exact rfl) (by exact bc (by omega) rfl) (by exact rfl))
 refine rB ga ?_ (x := lE [sl .v _] gx)
 refine rB ga ?_ (x := sM)
 refine rB ga ?_ (x := aY (by decide) cv (by exact tI) (by exact rfl) (by exact bc (by omega) rfl) (by exact rfl))
 refine rB ga ?_ (x := bI (by decide) gG (by exact nl rfl))
 refine rB ga ?_ (x := lE [val _] au)
 refine rB ga ?_ (x := eG)
 refine rA ?_ (x := aT ga)
 refine sc (fun hbc => ?_) (fun hbc => ?_)
 have hyy : gL id s.act[i][j] = true := by first | (simp_all [gL]; done) | (unfold gL; simp_all)
 have hfa := Qf hlt ha hlt2 hc hyy
 refine sS [1, 2, 6, 7] [2] ?_
 exact Ih
 exact Im
 refine pL ?_
 exact Im
 have hno1 : ik id s.act[i] = false := by unfold ik; rw [show j = s.act[i].length by omega, cn] at hc; exact hc
 refine bG ?_
 refine sH [1, 2, 6, 7] [2] ?_
 refine cW ?_
 exact Ik
 have hend : i = s.act.length := by omega
 have hfn := Qg (s := s) (id := id) (by rw [hend, cn] at ha; exact ha)
 refine bG ?_
 refine sT [1, 2, 6] [2] ?_
 exact Il
def abG {p1 p2 : Fl} {s : Store}  (hb : cd s ≤ 68719476736) : aB prog 254 [(true, [sl .v (s.act.map (aC p1 p2)), val (vI s.Now)])] (aA [(false, [val (vI (il s.act))])]) := by
 refine sF func254 fun h0 w0 Fz0 => ?_
 refine sn 0 0 fun hl0_0 => ?_
 have hbu := hb
 simp only [cd, eO, bd] at hbu
 refine jy ?_
 refine lU ?_
 refine uD ?_
 refine sL [1] [1] (fun k : Nat => k ≤ s.act.length ∧ (s.act.take k).any gY = false) (fun k : Nat => [(3, RV.int (k : Int))]) (fun k : Nat => []) (fun k : Nat => s.act.length - k) 0 (by exact ⟨by omega, rfl⟩) (by exact aI (by exact rfl) tI) (by exact tI) ?_
 rintro k ⟨hk, ha⟩
 refine eH ?_
 refine sD ?_
 refine sc (fun hba => ?_) (fun hba => ?_)
 have hlt : k < s.act.length := by omega
 have hwm := cT (f := bX) hlt
 have hws : bX s.act[k] = s.act[k].length + (s.act[k].map bW).sum := rfl
 refine bB ?_
 refine sT [1, 3] [1] ?_
 refine qV ?_
 refine rZ ?_
 refine oj ?_
 refine sc (fun hbb => ?_) (fun hbb => ?_)
 have hy : gY s.act[k] = true := by unfold gY; simpa using hbb
 have hra := Qh hlt ha hy
 refine sS [1, 3] [1] ?_
 refine lS ?_
 exact (aI (by refine bh ?_; rw [hra]) tI)
 have hno1 : gY s.act[k] = false := by unfold gY; simpa using hbb
 refine uE ?_
 refine cW ?_
 refine nx (k + 1) (by exact ⟨by omega, qY ha hlt hno1⟩)
 have hend : k = s.act.length := by omega
 have hrn := Qi (by rw [hend, cn] at ha; exact ha)
 refine xK ?_
 refine cB ?_
 exact (aI (by refine bh ?_; rw [hrn]) tI)
def abH {p1 p2 : Fl} {s : Store} {u : acx}  (hb : cd s ≤ 68719000000) (hbu0 : hO u ≤ 68719000000) : aB prog 191 [(true, [sl .v (s.act.map (aC p1 p2)), val (vI s.Now)]), (true, [val (vI u.Kind), val (vI u.Row.Id), sl .v (u.Row.Values.map ak), val (vI u.Field), val (vI u.Value)])] (aA [(true, [sl bo ((dL s u).1.act.map (aC aS aa)), val (vI (dL s u).1.Now)]), (false, [val (.bool (dL s u).2)])]) := by
 refine kU (largs := fun L => [(true, [sl (.lo L) (s.act.map (aC (.lo L) (.lo L))), val (vI s.Now)]), (true, [val (vI u.Kind), val (vI u.Row.Id), sl (.lo L) (u.Row.Values.map ak), val (vI u.Field), val (vI u.Value)])]) (rs := [(true, [sl bo ((dL s u).1.act.map (aC aS aa)), val (vI (dL s u).1.Now)]), (false, [val (.bool (dL s u).2)])]) func191 rfl (nl rfl) (fun L => by exact (aI (aI rfl (ab.cons (aM (fun _ => nl rfl) (fun _ => (ab.cons (aM (fun _ => nl rfl) (fun _ => (ab.cons ao (ab.cons (aM (fun _ => nl rfl) (fun _ => (ab.cons ao ab.nil))) (ab.cons ao (ab.cons ao ab.nil)))))) ab.nil))) (ab.cons ao ab.nil))) (aI (aI rfl (ab.cons ao (ab.cons ao (ab.cons (aM (fun _ => nl rfl) (fun _ => (ab.cons ao ab.nil))) (ab.cons ao (ab.cons ao ab.nil)))))) tI))) (fun L => by exact lq) ?_
 intro w0 Fz0
 refine sn 0 0 fun hl0_0 => ?_
 refine sn 1 2 fun hl1_2 => ?_
 have hbu := hb
 simp only [cd, eO, bd] at hbu
 have hbv := hbu0
 simp only [hO, dv, ek, bd] at hbv
 have hvl2 := Qo s u
 have hul := DO s u
 refine Mb ?_
 refine KV ?_
 refine Bi ?_
 refine od ?_
 refine Mj ?_
 refine LX ?_
 refine gp ?_
 refine cx 17 (fun ga sga => ?_) (fun ga sga => ?_)
 refine kG ?_
 refine ar.cases (s := 22) rfl (fun g2 => ?_) (fun g2 => nomatch g2)
 exact Io
 refine rB ga ?_ (x := lD [val _, val _, sl (.lo _) _, val _, val _] mo)
 refine rB ga ?_ (x := cL [(true, [val _, val _, sl (.lo _) _, val _, val _])] [(true, [val _, val _, sl .v _, val _, val _])] MZ (hs := by exact Pd))
 refine mP ?_
 refine rM ?_
 refine cx 22 (fun gb sgb => ?_) (fun gb sgb => ?_)
 exact Ip
 refine rB gb ?_ (x := lF fV)
 refine qH ?_
 refine rA ?_ (x := aK gb)
 refine sc (fun hba => ?_) (fun hba => ?_)
 exact wg
 have hos : dI s = true := by simp_all
 have hou : jD u = true := by simp_all
 obtain ⟨hs8, hs1, hn0, hn1, hs4, hver⟩ := nq hos
 have hnw : s.Now < 100000 := by first | omega | (simp_all; omega)
 refine xn ?_
 refine rA ?_ (x := lD [sl (.lo _) _, val _] dV)
 refine si ?_
 refine rA ?_ (x := lD [val _] au)
 refine rA ?_ (x := cL [(true, [sl (.lo _) _, val _]), (false, [val _])] [(true, [sl .v _, val _]), (false, [val _])] Xj (hs := by exact (abE (by omega))))
 refine rA ?_ (x := tM)
 refine Kg ?_
 refine rS ?_
 refine eZ ?_
 refine sS [2, 3, 4, 5, 6, 7, 8] [2, 3, 4, 6] ?_
 refine rM ?_
 refine rA ?_ (x := iD)
 refine pC ?_
 refine rA ?_ (x := Rx (by decide) Qu (by exact tI) (by exact tI))
 refine sc (fun hbb => ?_) (fun hbb => ?_)
 have hno : jP s u = false := by rw [← Bool.not_eq_true]; intro hc_; obtain ⟨h1_, h2_, h3_, h4_, h5_⟩ := tl hc_; have hh_ := hbb; by_cases h1 : 0 ≤ cl s u.Row.Id <;> by_cases h2 : u.Kind = 1 <;> simp_all [GE.ge]
 refine sS [2, 3, 4, 5, 6, 7, 8] [2, 3, 4, 6] ?_
 exact Ai
 have hkd : 0 ≤ cl s u.Row.Id ↔ ¬ u.Kind = 1 := by have h_ := hbb; by_cases h1 : 0 ≤ cl s u.Row.Id <;> by_cases h2 : u.Kind = 1 <;> simp_all [GE.ge]
 refine bm ?_
 refine sS [2, 3, 4, 5, 6, 7, 8] [2, 3, 4, 6] ?_
 refine rA ?_ (x := lF fV)
 refine mO ?_
 refine xA ?_
 refine sO [(2, _), (3, _), (4, _), (5, _), (6, _), (7, _), (8, _)] [(2, _), (3, _), (4, _), (6, (26, [sl _ _, val _]))] ?_
 refine bf ?_
 refine rA ?_ (x := lF hZ)
 refine rA ?_ (x := lF iw)
 refine rA ?_ (x := lD [sl (.lo _) _] bv)
 refine rA ?_ (x := cL [(false, [sl (.lo _) _])] [(false, [sl .v _])] oN (hs := by exact oW (by omega)))
 refine sq ?_
 refine sS [2, 3, 4, 5, 6, 7, 8, 9] [2, 3, 4, 6] ?_
 refine rM ?_
 refine rA ?_ (x := iD)
 refine sc (fun hbc => ?_) (fun hbc => ?_)
 have hge : 0 ≤ cl s u.Row.Id := by omega
 obtain ⟨i, k, hi, hk, hfi, hfk, hal⟩ := rx hge
 obtain ⟨hu1, hu2⟩ := ry hi hk hfi hfk
 have hwm := cT (f := bX) hi
 have hws : bX s.act[i] = s.act[i].length + (s.act[i].map bW).sum := rfl
 have hwm2 := cT (f := bW) hk
 have hwv : bW s.act[i][k] = s.act[i][k].Values.length := by simp only [bW, ek, bd]; omega
 refine aP ?_
 refine sP [2, 3, 4, 5, 6, 7, 8, 9] [2, 3, 4, 6] ?_
 refine ju (d := 6) (t := 26) (D := 920) (G := 2920) (E := 139) (e := 1) (L := (Lw w0.heap.size)) (A := []) (B := [val _]) (es := (s.act).map (aC aS aa)) (by exact rfl) (iC hi) (by exact rfl) (by exact rfl) rfl (by exact rfl) (fun x hx => hx) (by exact lq) (by exact lq) (by exact ai.nil) (by exact lc) (ai.map fun x => (ai.cons (lcl_own (ai.map fun x => (ai.cons lcl_val (ai.cons (lcl_own (ai.map fun x => (ai.cons lcl_val ai.nil))) (ai.cons lcl_val (ai.cons lcl_val ai.nil)))))) ai.nil)) fun uu920 cp920 jk920 hlD920 hcp920 hjk920 => ?_
 rw [aq] at hlD920 hcp920 hjk920
 refine bV (d := 920) (by exact rfl) (iB (k := i) hi) ?_
 have hA920 := iQ (f := (aC aS aa)) (e := 1) (xs := s.act) (k := i) (fun _ => rfl) (Nat.le_of_lt hi)
 refine sO [(2, _), (3, _), (4, _), (5, _), (6, _), (7, _), (8, _), (9, _), (2920, _)] [(2, _), (3, _), (4, _), (6, (26, [val _, val _])), (920, (139, _ ++ ([sl _ _] ++ _)))] ?_
 refine ju (d := 920) (t := 139) (D := 921) (G := 2921) (E := 184) (e := 4) (L := (Lw w0.heap.size)) (A := _) (B := [] ++ _) (es := (s.act[i]).map (cX aa)) (by exact rfl) (iC hk) (by exact rfl) (by exact rfl) rfl (by exact rfl) (fun x hx => hx) (by exact lq) (by exact lq) (by exact lc) (by exact lc) (ai.map fun x => (ai.cons lcl_val (ai.cons (lcl_own (ai.map fun x => (ai.cons lcl_val ai.nil))) (ai.cons lcl_val (ai.cons lcl_val ai.nil))))) fun uu921 cp921 jk921 hlD921 hcp921 hjk921 => ?_
 rw [aq] at hlD921 hcp921 hjk921
 refine bV (d := 921) (by exact rfl) (iB (k := k) hk) ?_
 have hA921 := iQ (f := (cX aa)) (e := 4) (xs := s.act[i]) (k := k) (fun _ => rfl) (Nat.le_of_lt hk)
 refine sO [(2, _), (3, _), (4, _), (5, _), (6, _), (7, _), (8, _), (9, _), (2920, _), (2921, _)] [(2, _), (3, _), (4, _), (6, _), (920, (139, _ ++ ([val _] ++ _))), (921, (184, _ ++ ([val _, sl _ _, val _, val _] ++ _)))] ?_
 refine dw dl ?_
 refine uI ?_
 refine Av ?_
 refine BZ ?_
 refine AT ?_
 refine AX ?_
 refine Ar ?_
 refine Ap ?_
 refine sO [(2, _), (3, _), (4, _), (5, _), (6, _), (7, _), (8, _), (9, _)] [(2, _), (3, _), (4, _), (6, (26, [sl _ _, val _]))] ?_
 refine bf ?_
 refine ur ?_
 refine Bm ?_
 refine rA ?_ (x := lE [sl (.lo _) _] gx)
 refine rM ?_
 refine AU ?_
 refine rA ?_ (x := lE [sl (.lo _) _] bv)
 refine rA ?_ (x := cL [(false, [sl (.lo _) _])] [(false, [sl .v _])] oN (hs := by exact oW (by omega)))
 refine rA ?_ (x := tA)
 exact Ir
 have hge : ¬ 0 ≤ cl s u.Row.Id := by omega
 obtain ⟨hu1, hu2⟩ := rz hge
 refine bm ?_
 exact Ir
def abI {p1 p2 : Fl} {s : Store} {u : acx}  (hb : cd s ≤ 68719000000) (hbu0 : hO u ≤ 68719000000) : aB prog 184 [(true, [sl .v (s.act.map (aC p1 p2)), val (vI s.Now)]), (true, [val (vI u.Kind), val (vI u.Row.Id), sl .v (u.Row.Values.map ak), val (vI u.Field), val (vI u.Value)])] (aA [(true, [sl bo ((dL s u).1.act.map (aC aS aa)), val (vI (dL s u).1.Now)]), (false, [val (.bool (dL s u).2)])]) := by
 refine kU (largs := fun L => [(true, [sl (.lo L) (s.act.map (aC (.lo L) (.lo L))), val (vI s.Now)]), (true, [val (vI u.Kind), val (vI u.Row.Id), sl (.lo L) (u.Row.Values.map ak), val (vI u.Field), val (vI u.Value)])]) (rs := [(true, [sl bo ((dL s u).1.act.map (aC aS aa)), val (vI (dL s u).1.Now)]), (false, [val (.bool (dL s u).2)])]) func184 rfl (nl rfl) (fun L => by exact (aI (aI rfl (ab.cons (aM (fun _ => nl rfl) (fun _ => (ab.cons (aM (fun _ => nl rfl) (fun _ => (ab.cons ao (ab.cons (aM (fun _ => nl rfl) (fun _ => (ab.cons ao ab.nil))) (ab.cons ao (ab.cons ao ab.nil)))))) ab.nil))) (ab.cons ao ab.nil))) (aI (aI rfl (ab.cons ao (ab.cons ao (ab.cons (aM (fun _ => nl rfl) (fun _ => (ab.cons ao ab.nil))) (ab.cons ao (ab.cons ao ab.nil)))))) tI))) (fun L => by exact lq) ?_
 intro w0 Fz0
 refine sn 0 0 fun hl0_0 => ?_
 refine sn 1 2 fun hl1_2 => ?_
 have hbu := hb
 simp only [cd, eO, bd] at hbu
 have hbv := hbu0
 simp only [hO, dv, ek, bd] at hbv
 have hvl2 := Qo s u
 have hul := DO s u
 refine Mb ?_
 refine KV ?_
 refine LV ?_
 refine od ?_
 refine Mj ?_
 refine LY ?_
 refine gp ?_
 refine cx 16 (fun ga sga => ?_) (fun ga sga => ?_)
 refine kG ?_
 refine ar.cases (s := 21) rfl (fun g2 => ?_) (fun g2 => nomatch g2)
 exact Io
 refine rB ga ?_ (x := lD [val _, val _, sl (.lo _) _, val _, val _] mo)
 refine rB ga ?_ (x := cL [(true, [val _, val _, sl (.lo _) _, val _, val _])] [(true, [val _, val _, sl .v _, val _, val _])] Na (hs := by exact Pe))
 refine mP ?_
 refine rM ?_
 refine cx 21 (fun gb sgb => ?_) (fun gb sgb => ?_)
 exact Ip
 refine rB gb ?_ (x := lF fV)
 refine rB gb ?_ (x := lD [val _] au)
 refine rB gb ?_ (x := iD)
 refine rA ?_ (x := aK gb)
 refine sc (fun hba => ?_) (fun hba => ?_)
 exact wg
 have hos : dI s = true := by simp_all
 have hou : jD u = true := by simp_all
 obtain ⟨hs8, hs1, hn0, hn1, hs4, hver⟩ := nq hos
 have hnw : s.Now < 100000 := by first | omega | (simp_all; omega)
 refine xn ?_
 refine rA ?_ (x := lD [sl (.lo _) _, val _] dV)
 refine si ?_
 refine rA ?_ (x := lD [val _] au)
 refine rA ?_ (x := cL [(true, [sl (.lo _) _, val _]), (false, [val _])] [(true, [sl .v _, val _]), (false, [val _])] Xh (hs := by exact (abF (by omega))))
 refine rA ?_ (x := tM)
 refine Kg ?_
 refine rS ?_
 refine rS ?_
 refine sS [2, 3, 4, 5, 6, 7, 8] [2, 3, 4, 6] ?_
 refine rA ?_ (x := lD [sl (.lo _) _, val _] dV)
 refine rA ?_ (x := cL [(true, [sl (.lo _) _, val _])] [(true, [sl .v _, val _])] Xi (hs := by exact (abG (by omega))))
 refine eZ ?_
 refine sS [2, 3, 4, 5, 6, 7, 8, 9] [2, 3, 4, 6] ?_
 refine pC ?_
 refine iU ?_
 refine rA ?_ (x := Ry (by decide) Qu (by exact tI) (by exact tI))
 refine rM ?_
 refine cx 43 (fun gc sgc => ?_) (fun gc sgc => ?_)
 refine sy ?_
 refine dr ?_
 exact Is
 refine rB gc ?_ (x := lF lj)
 refine rB gc ?_ (x := lD [val _] au)
 refine Ce ?_
 refine cx 47 (fun gd sgd => ?_) (fun gd sgd => ?_)
 refine rB gd ?_ (x := sM)
 refine rB gd ?_ (x := cu)
 refine Ca ?_
 refine sc (fun hbb => ?_) (fun hbb => ?_)
 exact Is
 have hkr : (0 ≤ cl s u.Row.Id ↔ ¬ u.Kind = 1) ∧ (u.Kind = 2 ∨ 0 ≤ il s.act) := by by_cases h1 : 0 ≤ cl s u.Row.Id <;> by_cases h2 : u.Kind = 1 <;> by_cases h3 : u.Kind = 2 <;> by_cases h4 : 0 ≤ il s.act <;> by_cases h6 : cl s u.Row.Id < 0 <;> (first | omega | (simp_all; done) | (simp_all; omega))
 obtain ⟨hkd, hrr⟩ := hkr
 have hok := yO hos hou hnw hkd hrr
 refine bm ?_
 refine sS [2, 3, 4, 5, 6, 7, 8, 9] [2, 3, 4, 6] ?_
 refine rA ?_ (x := lF fV)
 refine mO ?_
 refine xA ?_
 refine LF ?_
 refine dA 0 ?_ (x := lF hZ)
 refine dA 1 ?_ (x := lF kk)
 refine KY ?_
 refine dA 0 ?_ (x := lF hZ)
 refine dA 16 ?_ (x := lF iw)
 refine Js ?_
 refine BJ ?_
 refine Ln ?_
 refine wI ?_
 refine oG ?_
 refine rA ?_ (x := iD)
 refine sc (fun hbc => ?_) (fun hbc => ?_)
 have hge : 0 ≤ cl s u.Row.Id := by omega
 obtain ⟨i, k, hi, hk, hfi, hfk, hal⟩ := rx hge
 obtain ⟨hu1, hu2⟩ := ry hi hk hfi hfk
 have hwm := cT (f := bX) hi
 have hws : bX s.act[i] = s.act[i].length + (s.act[i].map bW).sum := rfl
 have hwm2 := cT (f := bW) hk
 have hwv : bW s.act[i][k] = s.act[i][k].Values.length := by simp only [bW, ek, bd]; omega
 refine KF ?_
 refine rV ?_
 refine Bm ?_
 refine rA ?_ (x := lE [sl .v _] gx)
 refine rM ?_
 refine AU ?_
 refine Aq ?_
 refine rA ?_ (x := lF jE)
 refine JS ?_
 refine ju (d := 6) (t := 26) (D := 920) (G := 2920) (E := 139) (e := 1) (L := (Lw w0.heap.size)) (A := []) (B := [val _]) (es := (s.act).map (aC aS aa)) (by exact rfl) (iC hi) (by exact rfl) (by exact rfl) rfl (by exact rfl) (fun x hx => hx) (by exact lq) (by exact lq) (by exact ai.nil) (by exact lc) (ai.map fun x => (ai.cons (lcl_own (ai.map fun x => (ai.cons lcl_val (ai.cons (lcl_own (ai.map fun x => (ai.cons lcl_val ai.nil))) (ai.cons lcl_val (ai.cons lcl_val ai.nil)))))) ai.nil)) fun uu920 cp920 jk920 hlD920 hcp920 hjk920 => ?_
 rw [aq] at hlD920 hcp920 hjk920
 refine bV (d := 920) (by exact rfl) (iB (k := i) hi) ?_
 have hA920 := iQ (f := (aC aS aa)) (e := 1) (xs := s.act) (k := i) (fun _ => rfl) (Nat.le_of_lt hi)
 refine sO [(2, _), (3, _), (4, _), (5, _), (6, _), (7, _), (8, _), (9, _), (10, _), (2920, _)] [(2, _), (3, _), (4, _), (6, (26, [val _, val _])), (10, _), (920, (139, _ ++ ([sl _ _] ++ _)))] ?_
 refine ju (d := 920) (t := 139) (D := 921) (G := 2921) (E := 184) (e := 4) (L := (Lw w0.heap.size)) (A := _) (B := [] ++ _) (es := (s.act[i]).map (cX aa)) (by exact rfl) (iC hk) (by exact rfl) (by exact rfl) rfl (by exact rfl) (fun x hx => hx) (by exact lq) (by exact lq) (by exact lc) (by exact lc) (ai.map fun x => (ai.cons lcl_val (ai.cons (lcl_own (ai.map fun x => (ai.cons lcl_val ai.nil))) (ai.cons lcl_val (ai.cons lcl_val ai.nil))))) fun uu921 cp921 jk921 hlD921 hcp921 hjk921 => ?_
 rw [aq] at hlD921 hcp921 hjk921
 refine bV (d := 921) (by exact rfl) (iB (k := k) hk) ?_
 have hA921 := iQ (f := (cX aa)) (e := 4) (xs := s.act[i]) (k := k) (fun _ => rfl) (Nat.le_of_lt hk)
 refine JV ?_
 refine uI ?_
 refine Av ?_
 refine BZ ?_
 refine AT ?_
 refine AX ?_
 refine Ar ?_
 refine Ap ?_
 refine Lk ?_
 exact Ix
 have hge : ¬ 0 ≤ cl s u.Row.Id := by omega
 obtain ⟨hu1, hu2⟩ := rz hge
 refine dt ?_
 refine xj ?_
 exact Ix
 refine zf gd ?_
 refine Cb ?_
 refine fT ?_
 have hkr : (0 ≤ cl s u.Row.Id ↔ ¬ u.Kind = 1) ∧ (u.Kind = 2 ∨ 0 ≤ il s.act) := by by_cases h1 : 0 ≤ cl s u.Row.Id <;> by_cases h2 : u.Kind = 1 <;> by_cases h3 : u.Kind = 2 <;> by_cases h4 : 0 ≤ il s.act <;> by_cases h6 : cl s u.Row.Id < 0 <;> (first | omega | (simp_all; done) | (simp_all; omega))
 obtain ⟨hkd, hrr⟩ := hkr
 have hok := yO hos hou hnw hkd hrr
 refine bm ?_
 refine sS [2, 3, 4, 5, 6, 7, 8, 9] [2, 3, 4, 6] ?_
 refine rA ?_ (x := lF fV)
 refine mO ?_
 refine xA ?_
 refine LF ?_
 refine dA 0 ?_ (x := lF hZ)
 refine dA 1 ?_ (x := lF kk)
 refine KY ?_
 refine dA 0 ?_ (x := lF hZ)
 refine dA 16 ?_ (x := lF iw)
 refine Js ?_
 refine BJ ?_
 refine Ln ?_
 refine wI ?_
 refine oG ?_
 refine rA ?_ (x := iD)
 refine sc (fun hbb => ?_) (fun hbb => ?_)
 have hge : 0 ≤ cl s u.Row.Id := by omega
 obtain ⟨i, k, hi, hk, hfi, hfk, hal⟩ := rx hge
 obtain ⟨hu1, hu2⟩ := ry hi hk hfi hfk
 have hwm := cT (f := bX) hi
 have hws : bX s.act[i] = s.act[i].length + (s.act[i].map bW).sum := rfl
 have hwm2 := cT (f := bW) hk
 have hwv : bW s.act[i][k] = s.act[i][k].Values.length := by simp only [bW, ek, bd]; omega
 refine KF ?_
 refine rV ?_
 refine Bm ?_
 refine rA ?_ (x := lE [sl .v _] gx)
 refine rM ?_
 refine AU ?_
 refine Aq ?_
 refine rA ?_ (x := lF jE)
 refine JS ?_
 refine ju (d := 6) (t := 26) (D := 920) (G := 2920) (E := 139) (e := 1) (L := (Lw w0.heap.size)) (A := []) (B := [val _]) (es := (s.act).map (aC aS aa)) (by exact rfl) (iC hi) (by exact rfl) (by exact rfl) rfl (by exact rfl) (fun x hx => hx) (by exact lq) (by exact lq) (by exact ai.nil) (by exact lc) (ai.map fun x => (ai.cons (lcl_own (ai.map fun x => (ai.cons lcl_val (ai.cons (lcl_own (ai.map fun x => (ai.cons lcl_val ai.nil))) (ai.cons lcl_val (ai.cons lcl_val ai.nil)))))) ai.nil)) fun uu920 cp920 jk920 hlD920 hcp920 hjk920 => ?_
 rw [aq] at hlD920 hcp920 hjk920
 refine bV (d := 920) (by exact rfl) (iB (k := i) hi) ?_
 have hA920 := iQ (f := (aC aS aa)) (e := 1) (xs := s.act) (k := i) (fun _ => rfl) (Nat.le_of_lt hi)
 refine sO [(2, _), (3, _), (4, _), (5, _), (6, _), (7, _), (8, _), (9, _), (10, _), (2920, _)] [(2, _), (3, _), (4, _), (6, (26, [val _, val _])), (10, _), (920, (139, _ ++ ([sl _ _] ++ _)))] ?_
 refine ju (d := 920) (t := 139) (D := 921) (G := 2921) (E := 184) (e := 4) (L := (Lw w0.heap.size)) (A := _) (B := [] ++ _) (es := (s.act[i]).map (cX aa)) (by exact rfl) (iC hk) (by exact rfl) (by exact rfl) rfl (by exact rfl) (fun x hx => hx) (by exact lq) (by exact lq) (by exact lc) (by exact lc) (ai.map fun x => (ai.cons lcl_val (ai.cons (lcl_own (ai.map fun x => (ai.cons lcl_val ai.nil))) (ai.cons lcl_val (ai.cons lcl_val ai.nil))))) fun uu921 cp921 jk921 hlD921 hcp921 hjk921 => ?_
 rw [aq] at hlD921 hcp921 hjk921
 refine bV (d := 921) (by exact rfl) (iB (k := k) hk) ?_
 have hA921 := iQ (f := (cX aa)) (e := 4) (xs := s.act[i]) (k := k) (fun _ => rfl) (Nat.le_of_lt hk)
 refine JV ?_
 refine uI ?_
 refine Av ?_
 refine BZ ?_
 refine AT ?_
 refine AX ?_
 refine Ar ?_
 refine Ap ?_
 refine Lk ?_
 exact Iz
 have hge : ¬ 0 ≤ cl s u.Row.Id := by omega
 obtain ⟨hu1, hu2⟩ := rz hge
 refine dt ?_
 refine xj ?_
 exact Iz
end Go.Proofs.YtmekkgdboplbjaaGreat
