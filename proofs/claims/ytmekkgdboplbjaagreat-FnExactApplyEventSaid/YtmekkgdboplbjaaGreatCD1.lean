/- What functions of the program compute. No condition. -/
import Derived.Test.YtmekkgdboplbjaaGreatCY0
import Derived.Test.YtmekkgdboplbjaaGreatCZ0
set_option linter.all false
namespace Go.Proofs.YtmekkgdboplbjaaGreat
open Go Go.RowKit M PV Tryz
set_option maxRecDepth 10000
attribute [local irreducible] PV.Lcl PV.LclR RV.Lcl
set_option maxHeartbeats 8000000
def Mb : fO prog 184 = some [(0, 1), (1, 1), (2, 1), (3, 1)] := by kernel_rfl
def Mc : prog.underlying 4 = some .bool := by kernel_rfl
def VH {p1 p2 : Fl} {s : Store} {id : Int}  (hb : b4 s ≤ 68719476736) : aC prog 258 [(true, [sl .v (s.Wr.map (aD p1 p2)), val (vI s.Now)]), (false, [val (vI id)])] (az [(false, [val (vI (ca s id))]), (false, [val (vI (kq s id))])]) := by
 refine sF func258 fun h0 w0 Fz0 => ?_
 refine sn 0 0 fun hl0_0 => ?_
 have hbu := hb
 simp only [b4, eh, a9] at hbu
 refine iU ?_
 refine rK ?_
 refine dz ?_
 refine sT [1, 2, 4, 5] [2] ?_
 refine kC ?_
 refine dI ?_
 refine sP [1, 2, 4, 5, 11, 12, 13] [2] ?_
 refine sL [1, 2, 11, 12] [2] (fun i : Nat => i ≤ s.Wr.length ∧ (s.Wr.take i).any (gM id) = false) (fun i : Nat => [(13, RV.int (i : Int))]) (fun i : Nat => []) (fun i : Nat => s.Wr.length - i) 0 (by exact ⟨by omega, rfl⟩) (by exact aI (by exact rfl) tI) (by exact tI) ?_
 rintro i ⟨hi, ha⟩
 refine ct ?_
 refine sc (fun hba => ?_) (fun hba => ?_)
 have hlt : i < s.Wr.length := by omega
 have hwm := cR (f := bU) hlt
 have hws : bU s.Wr[i] = s.Wr[i].length + (s.Wr[i].map bT).sum := rfl
 refine bB ?_
 refine sT [1, 2, 11, 12, 13] [2] ?_
 refine rM ?_
 refine qC ?_
 refine rS ?_
 refine rA ?_ (x := vA false [sl .v _])
 refine sS [1, 2, 6, 7, 11, 12, 13] [2] ?_
 refine rk ?_
 refine sP [1, 2, 6, 7, 11, 12, 13, 18, 19, 20] [2] ?_
 refine sL [1, 2, 6, 7, 11, 12, 13, 18, 19] [2] (fun j : Nat => j ≤ s.Wr[i].length ∧ (s.Wr[i].take j).any (fW id) = false) (fun j : Nat => [(20, RV.int (j : Int))]) (fun j : Nat => []) (fun j : Nat => s.Wr[i].length - j) 0 (by exact ⟨by omega, rfl⟩) (by exact aI (by exact rfl) tI) (by exact tI) ?_
 rintro j ⟨hj, hc⟩
 refine ct ?_
 refine sc (fun hbb => ?_) (fun hbb => ?_)
 have hlt2 : j < s.Wr[i].length := by omega
 refine bB ?_
 refine sT [1, 2, 6, 7, 11, 12, 13, 18, 19, 20] [2] ?_
 refine rM ?_
 refine uM ?_
 refine rX ?_ (x := (bR (by decide) eT kh))
 refine rS ?_
 refine rA ?_ (x := bd (ag := true) (vs := [val _, sl _ _, val _, val _]) dO (by exact tI) (by exact rfl) (by exact nl rfl))
 refine aP ?_
 refine sO [(1, _), (2, _), (6, _), (7, _), (8, _), (9, _), (11, _), (12, _), (13, _), (18, _), (19, _), (20, _)] [(2, _), (9, (184, [val _, sl _ _, val _, val _]))] ?_
 refine ba ?_
 refine ze ?_
 refine rM ?_
 refine rA ?_ (x := d4)
 refine rM ?_
 refine cx 29 (fun ga sga => ?_) (fun ga sga => ?_)
 refine rB ga ?_ (x := lF fR)
 refine nK ?_
 refine rA ?_ (x := aR ga)
 refine sc (fun hbc => ?_) (fun hbc => ?_)
 have hyy : fW id s.Wr[i][j] = true := by first | (simp_all [fW]; done) | (unfold fW; simp_all)
 have hfa := LZ hlt ha hlt2 hc hyy
 refine sS [1, 2, 6, 7, 8, 9, 11, 12, 13, 18, 19, 20] [2, 9] ?_
 exact Fh
 exact Fk
 refine py ?_
 exact Fk
 have hno1 : gM id s.Wr[i] = false := by unfold gM; rw [show j = s.Wr[i].length by omega, cb] at hc; exact hc
 refine bF ?_
 refine sH [1, 2, 6, 7, 11, 12, 13, 18, 19, 20] [2] ?_
 refine c0 ?_
 exact Fm
 have hend : i = s.Wr.length := by omega
 have hfn := L0 (s := s) (id := id) (by rw [hend, cb] at ha; exact ha)
 refine bF ?_
 refine sT [1, 2, 11, 12, 13] [2] ?_
 exact Fo
def VI {p1 p2 : Fl} {s : Store} {id : Int}  (hb : b4 s ≤ 68719476736) : aC prog 253 [(true, [sl .v (s.Wr.map (aD p1 p2)), val (vI s.Now)]), (false, [val (vI id)])] (az [(false, [val (vI (ca s id))]), (false, [val (vI (kq s id))])]) := by
 refine sF func253 fun h0 w0 Fz0 => ?_
 refine sn 0 0 fun hl0_0 => ?_
 have hbu := hb
 simp only [b4, eh, a9] at hbu
 refine iU ?_
 refine rK ?_
 refine dz ?_
 refine sT [1, 2, 4, 5] [2] ?_
 refine cz ?_
 refine sP [1, 2, 4, 5, 6] [2] ?_
 refine sL [1, 2] [2] (fun i : Nat => i ≤ s.Wr.length ∧ (s.Wr.take i).any (gM id) = false) (fun i : Nat => [(6, RV.int (i : Int))]) (fun i : Nat => []) (fun i : Nat => s.Wr.length - i) 0 (by exact ⟨by omega, rfl⟩) (by exact aI (by exact rfl) tI) (by exact tI) ?_
 rintro i ⟨hi, ha⟩
 refine d6 ?_
 refine qY ?_
 refine sc (fun hba => ?_) (fun hba => ?_)
 have hlt : i < s.Wr.length := by omega
 have hwm := cR (f := bU) hlt
 have hws : bU s.Wr[i] = s.Wr[i].length + (s.Wr[i].map bT).sum := rfl
 refine bB ?_
 refine sT [1, 2, 6] [2] ?_
 refine cz ?_
 refine sP [1, 2, 6, 7] [2] ?_
 refine sL [1, 2, 6] [2] (fun j : Nat => j ≤ s.Wr[i].length ∧ (s.Wr[i].take j).any (fW id) = false) (fun j : Nat => [(7, RV.int (j : Int))]) (fun j : Nat => []) (fun j : Nat => s.Wr[i].length - j) 0 (by exact ⟨by omega, rfl⟩) (by exact aI (by exact rfl) tI) (by exact tI) ?_
 rintro j ⟨hj, hc⟩
 refine d6 ?_
 refine pz ?_
 refine qC ?_
 refine mA ?_
 refine sc (fun hbb => ?_) (fun hbb => ?_)
 have hlt2 : j < s.Wr[i].length := by omega
 refine bB ?_
 refine sT [1, 2, 6, 7] [2] ?_
 refine pz ?_
 refine qC ?_
 refine rM ?_
 refine rA ?_ (x := aY (by decide) ck (by exact tI) (by exact rfl) (by exact be (by omega) rfl) (by exact rfl))
 refine rA ?_ (x := bE (by decide) lQ (by exact nl rfl))
 refine rA ?_ (x := lE [val _] au)
 refine rM ?_
 refine rA ?_ (x := d4)
 refine rM ?_
 refine cx 36 (fun ga sga => ?_) (fun ga sga => ?_)
 refine zF ?_
 refine rB ga ?_ (x := sM)
 refine rB ga ?_ (x := aY (by decide) cV (by exact tI) (by exact rfl) (by exact be (by omega) rfl) (by exact rfl))
 refine rB ga ?_ (x := lE [sl .v _] fH)
 refine rB ga ?_ (x := sM)
 refine rB ga ?_ (x := aY (by decide) ck (by exact tI) (by exact rfl) (by exact be (by omega) rfl) (by exact rfl))
 refine rB ga ?_ (x := bE (by decide) fR (by exact nl rfl))
 refine rB ga ?_ (x := lE [val _] au)
 refine rB ga ?_ (x := d4)
 refine rA ?_ (x := aR ga)
 refine sc (fun hbc => ?_) (fun hbc => ?_)
 have hyy : fW id s.Wr[i][j] = true := by first | (simp_all [fW]; done) | (unfold fW; simp_all)
 have hfa := LZ hlt ha hlt2 hc hyy
 refine sS [1, 2, 6, 7] [2] ?_
 exact Fh
 exact Fq
 refine py ?_
 exact Fq
 have hno1 : gM id s.Wr[i] = false := by unfold gM; rw [show j = s.Wr[i].length by omega, cb] at hc; exact hc
 refine bF ?_
 refine sH [1, 2, 6, 7] [2] ?_
 refine cZ ?_
 exact Fm
 have hend : i = s.Wr.length := by omega
 have hfn := L0 (s := s) (id := id) (by rw [hend, cb] at ha; exact ha)
 refine bF ?_
 refine sT [1, 2, 6] [2] ?_
 exact Fo
def VJ {p1 p2 : Fl} {s : Store}  (hb : b4 s ≤ 68719476736) : aC prog 254 [(true, [sl .v (s.Wr.map (aD p1 p2)), val (vI s.Now)])] (az [(false, [val (vI (gN s.Wr))])]) := by
 refine sF func254 fun h0 w0 Fz0 => ?_
 refine sn 0 0 fun hl0_0 => ?_
 have hbu := hb
 simp only [b4, eh, a9] at hbu
 refine iU ?_
 refine kD ?_
 refine s8 ?_
 refine sL [1] [1] (fun k : Nat => k ≤ s.Wr.length ∧ (s.Wr.take k).any gr = false) (fun k : Nat => [(3, RV.int (k : Int))]) (fun k : Nat => []) (fun k : Nat => s.Wr.length - k) 0 (by exact ⟨by omega, rfl⟩) (by exact aI (by exact rfl) tI) (by exact tI) ?_
 rintro k ⟨hk, ha⟩
 refine d6 ?_
 refine qY ?_
 refine sc (fun hba => ?_) (fun hba => ?_)
 have hlt : k < s.Wr.length := by omega
 have hwm := cR (f := bU) hlt
 have hws : bU s.Wr[k] = s.Wr[k].length + (s.Wr[k].map bT).sum := rfl
 refine bB ?_
 refine sT [1, 3] [1] ?_
 refine pz ?_
 refine qC ?_
 refine mA ?_
 refine sc (fun hbb => ?_) (fun hbb => ?_)
 have hy : gr s.Wr[k] = true := by unfold gr; simpa using hbb
 have hra := L1 hlt ha hy
 refine sS [1, 3] [1] ?_
 refine lz ?_
 exact (aI (by refine bg ?_; rw [hra]) tI)
 have hno1 : gr s.Wr[k] = false := by unfold gr; simpa using hbb
 refine s9 ?_
 refine cZ ?_
 refine nx (k + 1) (by exact ⟨by omega, pC ha hlt hno1⟩)
 have hend : k = s.Wr.length := by omega
 have hrn := L2 (by rw [hend, cb] at ha; exact ha)
 refine vS ?_
 refine cm ?_
 exact (aI (by refine bg ?_; rw [hrn]) tI)
def VK {p1 p2 : Fl} {s : Store} {u : Wv}  (hb : b4 s ≤ 68719000000) (hbu0 : gC u ≤ 68719000000) : aC prog 191 [(true, [sl .v (s.Wr.map (aD p1 p2)), val (vI s.Now)]), (true, [val (vI u.Kind), val (vI u.Row.Id), sl .v (u.Row.Values.map ak), val (vI u.Field), val (vI u.Value)])] (az [(true, [sl bo ((dq s u).1.Wr.map (aD aS aa)), val (vI (dq s u).1.Now)]), (false, [val (.bool (dq s u).2)])]) := by
 refine j3 (largs := fun L => [(true, [sl (.lo L) (s.Wr.map (aD (.lo L) (.lo L))), val (vI s.Now)]), (true, [val (vI u.Kind), val (vI u.Row.Id), sl (.lo L) (u.Row.Values.map ak), val (vI u.Field), val (vI u.Value)])]) (rs := [(true, [sl bo ((dq s u).1.Wr.map (aD aS aa)), val (vI (dq s u).1.Now)]), (false, [val (.bool (dq s u).2)])]) func191 rfl (nl rfl) (fun L => by exact (aI (aI rfl (ab.cons (aM (fun _ => nl rfl) (fun _ => (ab.cons (aM (fun _ => nl rfl) (fun _ => (ab.cons ap (ab.cons (aM (fun _ => nl rfl) (fun _ => (ab.cons ap ab.nil))) (ab.cons ap (ab.cons ap ab.nil)))))) ab.nil))) (ab.cons ap ab.nil))) (aI (aI rfl (ab.cons ap (ab.cons ap (ab.cons (aM (fun _ => nl rfl) (fun _ => (ab.cons ap ab.nil))) (ab.cons ap (ab.cons ap ab.nil)))))) tI))) (fun L => by exact lq) ?_
 intro w0 Fz0
 refine sn 0 0 fun hl0_0 => ?_
 refine sn 1 2 fun hl1_2 => ?_
 have hbu := hb
 simp only [b4, eh, a9] at hbu
 have hbv := hbu0
 simp only [gC, de, dM, a9] at hbv
 have hvl2 := L8 s u
 have hul := BJ s u
 refine IG ?_
 refine HQ ?_
 refine zg ?_
 refine mu ?_
 refine IN ?_
 refine IC ?_
 refine fB ?_
 refine cx 17 (fun ga sga => ?_) (fun ga sga => ?_)
 refine jN ?_
 refine aq.cases (s := 22) rfl (fun g2 => ?_) (fun g2 => nomatch g2)
 exact Ft
 refine rB ga ?_ (x := lD [val _, val _, sl (.lo _) _, val _, val _] kg)
 refine rB ga ?_ (x := cL [(true, [val _, val _, sl (.lo _) _, val _, val _])] [(true, [val _, val _, sl .v _, val _, val _])] Jv (hs := by exact Lb))
 refine ly ?_
 refine rM ?_
 refine cx 22 (fun gb sgb => ?_) (fun gb sgb => ?_)
 exact Fu
 refine rB gb ?_ (x := lF fi)
 refine pe ?_
 refine rA ?_ (x := aK gb)
 refine sc (fun hba => ?_) (fun hba => ?_)
 exact ur
 have hos : dm s = true := by simp_all
 have hou : i1 u = true := by simp_all
 obtain ⟨hs8, hs1, hn0, hn1, hs4, hver⟩ := l6 hos
 have hnw : s.Now < 100000 := by first | omega | (simp_all; omega)
 refine vo ?_
 refine rA ?_ (x := lD [sl (.lo _) _, val _] dv)
 refine sY ?_
 refine rA ?_ (x := lD [val _] au)
 refine rA ?_ (x := cL [(true, [sl (.lo _) _, val _]), (false, [val _])] [(true, [sl .v _, val _]), (false, [val _])] R2 (hs := by exact (VH (by omega))))
 refine rA ?_ (x := tM)
 refine G9 ?_
 refine rS ?_
 refine fA ?_
 refine sS [2, 3, 4, 5, 6, 7, 8] [2, 3, 4, 6] ?_
 refine rM ?_
 refine rA ?_ (x := hR)
 refine nQ ?_
 refine rA ?_ (x := M5 (by decide) Mc (by exact tI) (by exact tI))
 refine sc (fun hbb => ?_) (fun hbb => ?_)
 have hno : je s u = false := by rw [← Bool.not_eq_true]; intro hc_; obtain ⟨h1_, h2_, h3_, h4_, h5_⟩ := rF hc_; have hh_ := hbb; by_cases h1 : 0 ≤ ca s u.Row.Id <;> by_cases h2 : u.Kind = 1 <;> simp_all [GE.ge]
 refine sS [2, 3, 4, 5, 6, 7, 8] [2, 3, 4, 6] ?_
 exact yh
 have hkd : 0 ≤ ca s u.Row.Id ↔ ¬ u.Kind = 1 := by have h_ := hbb; by_cases h1 : 0 ≤ ca s u.Row.Id <;> by_cases h2 : u.Kind = 1 <;> simp_all [GE.ge]
 refine bl ?_
 refine sS [2, 3, 4, 5, 6, 7, 8] [2, 3, 4, 6] ?_
 refine rA ?_ (x := lF fi)
 refine lx ?_
 refine vG ?_
 refine sO [(2, _), (3, _), (4, _), (5, _), (6, _), (7, _), (8, _)] [(2, _), (3, _), (4, _), (6, (26, [sl _ _, val _]))] ?_
 refine ba ?_
 refine rA ?_ (x := lF gF)
 refine rA ?_ (x := lF gY)
 refine rA ?_ (x := lD [sl (.lo _) _] bq)
 refine rA ?_ (x := cL [(false, [sl (.lo _) _])] [(false, [sl .v _])] mO (hs := by exact m8 (by omega)))
 refine qP ?_
 refine sS [2, 3, 4, 5, 6, 7, 8, 9] [2, 3, 4, 6] ?_
 refine rM ?_
 refine rA ?_ (x := hR)
 refine sc (fun hbc => ?_) (fun hbc => ?_)
 have hge : 0 ≤ ca s u.Row.Id := by omega
 obtain ⟨i, k, hi, hk, hfi, hfk, hal⟩ := qa hge
 obtain ⟨hu1, hu2⟩ := qb hi hk hfi hfk
 have hwm := cR (f := bU) hi
 have hws : bU s.Wr[i] = s.Wr[i].length + (s.Wr[i].map bT).sum := rfl
 have hwm2 := cR (f := bT) hk
 have hwv : bT s.Wr[i][k] = s.Wr[i][k].Values.length := by simp only [bT, dM, a9]; omega
 refine aP ?_
 refine sP [2, 3, 4, 5, 6, 7, 8, 9] [2, 3, 4, 6] ?_
 refine iO (d := 6) (t := 26) (D := 920) (G := 2920) (E := 139) (e := 1) (L := (Lw w0.heap.size)) (A := []) (B := [val _]) (es := (s.Wr).map (aD aS aa)) (by exact rfl) (hP hi) (by exact rfl) (by exact rfl) rfl (by exact rfl) (fun x hx => hx) (by exact lq) (by exact lq) (by exact ai.nil) (by exact lc) (ai.map fun x => (ai.cons (lcl_own (ai.map fun x => (ai.cons lcl_val (ai.cons (lcl_own (ai.map fun x => (ai.cons lcl_val ai.nil))) (ai.cons lcl_val (ai.cons lcl_val ai.nil)))))) ai.nil)) fun uu920 cp920 jk920 hlD920 hcp920 hjk920 => ?_
 rw [ar] at hlD920 hcp920 hjk920
 refine bV (d := 920) (by exact rfl) (hO (k := i) hi) ?_
 have hA920 := iq (f := (aD aS aa)) (e := 1) (xs := s.Wr) (k := i) (fun _ => rfl) (Nat.le_of_lt hi)
 refine sO [(2, _), (3, _), (4, _), (5, _), (6, _), (7, _), (8, _), (9, _), (2920, _)] [(2, _), (3, _), (4, _), (6, (26, [val _, val _])), (920, (139, _ ++ ([sl _ _] ++ _)))] ?_
 refine iO (d := 920) (t := 139) (D := 921) (G := 2921) (E := 184) (e := 4) (L := (Lw w0.heap.size)) (A := _) (B := [] ++ _) (es := (s.Wr[i]).map (cG aa)) (by exact rfl) (hP hk) (by exact rfl) (by exact rfl) rfl (by exact rfl) (fun x hx => hx) (by exact lq) (by exact lq) (by exact lc) (by exact lc) (ai.map fun x => (ai.cons lcl_val (ai.cons (lcl_own (ai.map fun x => (ai.cons lcl_val ai.nil))) (ai.cons lcl_val (ai.cons lcl_val ai.nil))))) fun uu921 cp921 jk921 hlD921 hcp921 hjk921 => ?_
 rw [ar] at hlD921 hcp921 hjk921
 refine bV (d := 921) (by exact rfl) (hO (k := k) hk) ?_
 have hA921 := iq (f := (cG aa)) (e := 4) (xs := s.Wr[i]) (k := k) (fun _ => rfl) (Nat.le_of_lt hk)
 refine sO [(2, _), (3, _), (4, _), (5, _), (6, _), (7, _), (8, _), (9, _), (2920, _), (2921, _)] [(2, _), (3, _), (4, _), (6, _), (920, (139, _ ++ ([val _] ++ _))), (921, (184, _ ++ ([val _, sl _ _, val _, val _] ++ _)))] ?_
 refine db cJ ?_
 refine td ?_
 refine yv ?_
 refine z9 ?_
 refine yS ?_
 refine yW ?_
 refine yq ?_
 refine yo ?_
 refine sO [(2, _), (3, _), (4, _), (5, _), (6, _), (7, _), (8, _), (9, _)] [(2, _), (3, _), (4, _), (6, (26, [sl _ _, val _]))] ?_
 refine ba ?_
 refine sU ?_
 refine zk ?_
 refine rA ?_ (x := lE [sl (.lo _) _] fH)
 refine rM ?_
 refine yT ?_
 refine rA ?_ (x := lE [sl (.lo _) _] bq)
 refine rA ?_ (x := cL [(false, [sl (.lo _) _])] [(false, [sl .v _])] mO (hs := by exact m8 (by omega)))
 refine rA ?_ (x := tA)
 exact Fw
 have hge : ¬ 0 ≤ ca s u.Row.Id := by omega
 obtain ⟨hu1, hu2⟩ := qc hge
 refine bl ?_
 exact Fw
def VL {p1 p2 : Fl} {s : Store} {u : Wv}  (hb : b4 s ≤ 68719000000) (hbu0 : gC u ≤ 68719000000) : aC prog 184 [(true, [sl .v (s.Wr.map (aD p1 p2)), val (vI s.Now)]), (true, [val (vI u.Kind), val (vI u.Row.Id), sl .v (u.Row.Values.map ak), val (vI u.Field), val (vI u.Value)])] (az [(true, [sl bo ((dq s u).1.Wr.map (aD aS aa)), val (vI (dq s u).1.Now)]), (false, [val (.bool (dq s u).2)])]) := by
 refine j3 (largs := fun L => [(true, [sl (.lo L) (s.Wr.map (aD (.lo L) (.lo L))), val (vI s.Now)]), (true, [val (vI u.Kind), val (vI u.Row.Id), sl (.lo L) (u.Row.Values.map ak), val (vI u.Field), val (vI u.Value)])]) (rs := [(true, [sl bo ((dq s u).1.Wr.map (aD aS aa)), val (vI (dq s u).1.Now)]), (false, [val (.bool (dq s u).2)])]) func184 rfl (nl rfl) (fun L => by exact (aI (aI rfl (ab.cons (aM (fun _ => nl rfl) (fun _ => (ab.cons (aM (fun _ => nl rfl) (fun _ => (ab.cons ap (ab.cons (aM (fun _ => nl rfl) (fun _ => (ab.cons ap ab.nil))) (ab.cons ap (ab.cons ap ab.nil)))))) ab.nil))) (ab.cons ap ab.nil))) (aI (aI rfl (ab.cons ap (ab.cons ap (ab.cons (aM (fun _ => nl rfl) (fun _ => (ab.cons ap ab.nil))) (ab.cons ap (ab.cons ap ab.nil)))))) tI))) (fun L => by exact lq) ?_
 intro w0 Fz0
 refine sn 0 0 fun hl0_0 => ?_
 refine sn 1 2 fun hl1_2 => ?_
 have hbu := hb
 simp only [b4, eh, a9] at hbu
 have hbv := hbu0
 simp only [gC, de, dM, a9] at hbv
 have hvl2 := L8 s u
 have hul := BJ s u
 refine IG ?_
 refine HQ ?_
 refine IA ?_
 refine mu ?_
 refine IN ?_
 refine ID ?_
 refine fB ?_
 refine cx 16 (fun ga sga => ?_) (fun ga sga => ?_)
 refine jN ?_
 refine aq.cases (s := 21) rfl (fun g2 => ?_) (fun g2 => nomatch g2)
 exact Ft
 refine rB ga ?_ (x := lD [val _, val _, sl (.lo _) _, val _, val _] kg)
 refine rB ga ?_ (x := cL [(true, [val _, val _, sl (.lo _) _, val _, val _])] [(true, [val _, val _, sl .v _, val _, val _])] Jw (hs := by exact Lc))
 refine ly ?_
 refine rM ?_
 refine cx 21 (fun gb sgb => ?_) (fun gb sgb => ?_)
 exact Fu
 refine rB gb ?_ (x := lF fi)
 refine rB gb ?_ (x := lD [val _] au)
 refine rB gb ?_ (x := hR)
 refine rA ?_ (x := aK gb)
 refine sc (fun hba => ?_) (fun hba => ?_)
 exact ur
 have hos : dm s = true := by simp_all
 have hou : i1 u = true := by simp_all
 obtain ⟨hs8, hs1, hn0, hn1, hs4, hver⟩ := l6 hos
 have hnw : s.Now < 100000 := by first | omega | (simp_all; omega)
 refine vo ?_
 refine rA ?_ (x := lD [sl (.lo _) _, val _] dv)
 refine sY ?_
 refine rA ?_ (x := lD [val _] au)
 refine rA ?_ (x := cL [(true, [sl (.lo _) _, val _]), (false, [val _])] [(true, [sl .v _, val _]), (false, [val _])] RZ (hs := by exact (VI (by omega))))
 refine rA ?_ (x := tM)
 refine G9 ?_
 refine rS ?_
 refine rS ?_
 refine sS [2, 3, 4, 5, 6, 7, 8] [2, 3, 4, 6] ?_
 refine rA ?_ (x := lD [sl (.lo _) _, val _] dv)
 refine rA ?_ (x := cL [(true, [sl (.lo _) _, val _])] [(true, [sl .v _, val _])] R1 (hs := by exact (VJ (by omega))))
 refine fA ?_
 refine sS [2, 3, 4, 5, 6, 7, 8, 9] [2, 3, 4, 6] ?_
 refine nQ ?_
 refine iv ?_
 refine rA ?_ (x := tX (by decide) Mc (by exact tI) (by exact tI))
 refine rM ?_
 refine cx 43 (fun gc sgc => ?_) (fun gc sgc => ?_)
 refine qU ?_
 refine dc ?_
 exact Fy
 refine rB gc ?_ (x := lF kT)
 refine rB gc ?_ (x := lD [val _] au)
 refine Ae ?_
 refine cx 47 (fun gd sgd => ?_) (fun gd sgd => ?_)
 refine rB gd ?_ (x := sM)
 refine rB gd ?_ (x := cy)
 refine Aa ?_
 refine sc (fun hbb => ?_) (fun hbb => ?_)
 exact Fy
 have hkr : (0 ≤ ca s u.Row.Id ↔ ¬ u.Kind = 1) ∧ (u.Kind = 2 ∨ 0 ≤ gN s.Wr) := by by_cases h1 : 0 ≤ ca s u.Row.Id <;> by_cases h2 : u.Kind = 1 <;> by_cases h3 : u.Kind = 2 <;> by_cases h4 : 0 ≤ gN s.Wr <;> by_cases h6 : ca s u.Row.Id < 0 <;> (first | omega | (simp_all; done) | (simp_all; omega))
 obtain ⟨hkd, hrr⟩ := hkr
 have hok := wZ hos hou hnw hkd hrr
 refine bl ?_
 refine sS [2, 3, 4, 5, 6, 7, 8, 9] [2, 3, 4, 6] ?_
 refine rA ?_ (x := lF fi)
 refine lx ?_
 refine vG ?_
 refine Il ?_
 refine dA 0 ?_ (x := lF gF)
 refine dA 1 ?_ (x := lF jw)
 refine HT ?_
 refine dA 0 ?_ (x := lF gF)
 refine dA 16 ?_ (x := lF gY)
 refine Gu ?_
 refine zL ?_
 refine H9 ?_
 refine uP ?_
 refine px ?_
 refine rA ?_ (x := hR)
 refine sc (fun hbc => ?_) (fun hbc => ?_)
 have hge : 0 ≤ ca s u.Row.Id := by omega
 obtain ⟨i, k, hi, hk, hfi, hfk, hal⟩ := qa hge
 obtain ⟨hu1, hu2⟩ := qb hi hk hfi hfk
 have hwm := cR (f := bU) hi
 have hws : bU s.Wr[i] = s.Wr[i].length + (s.Wr[i].map bT).sum := rfl
 have hwm2 := cR (f := bT) hk
 have hwv : bT s.Wr[i][k] = s.Wr[i][k].Values.length := by simp only [bT, dM, a9]; omega
 refine HA ?_
 refine qz ?_
 refine zk ?_
 refine rA ?_ (x := lE [sl .v _] fH)
 refine rM ?_
 refine yT ?_
 refine yp ?_
 refine rA ?_ (x := lF i2)
 refine GT ?_
 refine iO (d := 6) (t := 26) (D := 920) (G := 2920) (E := 139) (e := 1) (L := (Lw w0.heap.size)) (A := []) (B := [val _]) (es := (s.Wr).map (aD aS aa)) (by exact rfl) (hP hi) (by exact rfl) (by exact rfl) rfl (by exact rfl) (fun x hx => hx) (by exact lq) (by exact lq) (by exact ai.nil) (by exact lc) (ai.map fun x => (ai.cons (lcl_own (ai.map fun x => (ai.cons lcl_val (ai.cons (lcl_own (ai.map fun x => (ai.cons lcl_val ai.nil))) (ai.cons lcl_val (ai.cons lcl_val ai.nil)))))) ai.nil)) fun uu920 cp920 jk920 hlD920 hcp920 hjk920 => ?_
 rw [ar] at hlD920 hcp920 hjk920
 refine bV (d := 920) (by exact rfl) (hO (k := i) hi) ?_
 have hA920 := iq (f := (aD aS aa)) (e := 1) (xs := s.Wr) (k := i) (fun _ => rfl) (Nat.le_of_lt hi)
 refine sO [(2, _), (3, _), (4, _), (5, _), (6, _), (7, _), (8, _), (9, _), (10, _), (2920, _)] [(2, _), (3, _), (4, _), (6, (26, [val _, val _])), (10, _), (920, (139, _ ++ ([sl _ _] ++ _)))] ?_
 refine iO (d := 920) (t := 139) (D := 921) (G := 2921) (E := 184) (e := 4) (L := (Lw w0.heap.size)) (A := _) (B := [] ++ _) (es := (s.Wr[i]).map (cG aa)) (by exact rfl) (hP hk) (by exact rfl) (by exact rfl) rfl (by exact rfl) (fun x hx => hx) (by exact lq) (by exact lq) (by exact lc) (by exact lc) (ai.map fun x => (ai.cons lcl_val (ai.cons (lcl_own (ai.map fun x => (ai.cons lcl_val ai.nil))) (ai.cons lcl_val (ai.cons lcl_val ai.nil))))) fun uu921 cp921 jk921 hlD921 hcp921 hjk921 => ?_
 rw [ar] at hlD921 hcp921 hjk921
 refine bV (d := 921) (by exact rfl) (hO (k := k) hk) ?_
 have hA921 := iq (f := (cG aa)) (e := 4) (xs := s.Wr[i]) (k := k) (fun _ => rfl) (Nat.le_of_lt hk)
 refine GW ?_
 refine td ?_
 refine yv ?_
 refine z9 ?_
 refine yS ?_
 refine yW ?_
 refine yq ?_
 refine yo ?_
 refine H5 ?_
 exact FG
 have hge : ¬ 0 ≤ ca s u.Row.Id := by omega
 obtain ⟨hu1, hu2⟩ := qc hge
 refine cO ?_
 refine vj ?_
 exact FG
 refine zf gd ?_
 refine Ab ?_
 refine fh ?_
 have hkr : (0 ≤ ca s u.Row.Id ↔ ¬ u.Kind = 1) ∧ (u.Kind = 2 ∨ 0 ≤ gN s.Wr) := by by_cases h1 : 0 ≤ ca s u.Row.Id <;> by_cases h2 : u.Kind = 1 <;> by_cases h3 : u.Kind = 2 <;> by_cases h4 : 0 ≤ gN s.Wr <;> by_cases h6 : ca s u.Row.Id < 0 <;> (first | omega | (simp_all; done) | (simp_all; omega))
 obtain ⟨hkd, hrr⟩ := hkr
 have hok := wZ hos hou hnw hkd hrr
 refine bl ?_
 refine sS [2, 3, 4, 5, 6, 7, 8, 9] [2, 3, 4, 6] ?_
 refine rA ?_ (x := lF fi)
 refine lx ?_
 refine vG ?_
 refine Il ?_
 refine dA 0 ?_ (x := lF gF)
 refine dA 1 ?_ (x := lF jw)
 refine HT ?_
 refine dA 0 ?_ (x := lF gF)
 refine dA 16 ?_ (x := lF gY)
 refine Gu ?_
 refine zL ?_
 refine H9 ?_
 refine uP ?_
 refine px ?_
 refine rA ?_ (x := hR)
 refine sc (fun hbb => ?_) (fun hbb => ?_)
 have hge : 0 ≤ ca s u.Row.Id := by omega
 obtain ⟨i, k, hi, hk, hfi, hfk, hal⟩ := qa hge
 obtain ⟨hu1, hu2⟩ := qb hi hk hfi hfk
 have hwm := cR (f := bU) hi
 have hws : bU s.Wr[i] = s.Wr[i].length + (s.Wr[i].map bT).sum := rfl
 have hwm2 := cR (f := bT) hk
 have hwv : bT s.Wr[i][k] = s.Wr[i][k].Values.length := by simp only [bT, dM, a9]; omega
 refine HA ?_
 refine qz ?_
 refine zk ?_
 refine rA ?_ (x := lE [sl .v _] fH)
 refine rM ?_
 refine yT ?_
 refine yp ?_
 refine rA ?_ (x := lF i2)
 refine GT ?_
 refine iO (d := 6) (t := 26) (D := 920) (G := 2920) (E := 139) (e := 1) (L := (Lw w0.heap.size)) (A := []) (B := [val _]) (es := (s.Wr).map (aD aS aa)) (by exact rfl) (hP hi) (by exact rfl) (by exact rfl) rfl (by exact rfl) (fun x hx => hx) (by exact lq) (by exact lq) (by exact ai.nil) (by exact lc) (ai.map fun x => (ai.cons (lcl_own (ai.map fun x => (ai.cons lcl_val (ai.cons (lcl_own (ai.map fun x => (ai.cons lcl_val ai.nil))) (ai.cons lcl_val (ai.cons lcl_val ai.nil)))))) ai.nil)) fun uu920 cp920 jk920 hlD920 hcp920 hjk920 => ?_
 rw [ar] at hlD920 hcp920 hjk920
 refine bV (d := 920) (by exact rfl) (hO (k := i) hi) ?_
 have hA920 := iq (f := (aD aS aa)) (e := 1) (xs := s.Wr) (k := i) (fun _ => rfl) (Nat.le_of_lt hi)
 refine sO [(2, _), (3, _), (4, _), (5, _), (6, _), (7, _), (8, _), (9, _), (10, _), (2920, _)] [(2, _), (3, _), (4, _), (6, (26, [val _, val _])), (10, _), (920, (139, _ ++ ([sl _ _] ++ _)))] ?_
 refine iO (d := 920) (t := 139) (D := 921) (G := 2921) (E := 184) (e := 4) (L := (Lw w0.heap.size)) (A := _) (B := [] ++ _) (es := (s.Wr[i]).map (cG aa)) (by exact rfl) (hP hk) (by exact rfl) (by exact rfl) rfl (by exact rfl) (fun x hx => hx) (by exact lq) (by exact lq) (by exact lc) (by exact lc) (ai.map fun x => (ai.cons lcl_val (ai.cons (lcl_own (ai.map fun x => (ai.cons lcl_val ai.nil))) (ai.cons lcl_val (ai.cons lcl_val ai.nil))))) fun uu921 cp921 jk921 hlD921 hcp921 hjk921 => ?_
 rw [ar] at hlD921 hcp921 hjk921
 refine bV (d := 921) (by exact rfl) (hO (k := k) hk) ?_
 have hA921 := iq (f := (cG aa)) (e := 4) (xs := s.Wr[i]) (k := k) (fun _ => rfl) (Nat.le_of_lt hk)
 refine GW ?_
 refine td ?_
 refine yv ?_
 refine z9 ?_
 refine yS ?_
 refine yW ?_
 refine yq ?_
 refine yo ?_
 refine H5 ?_
 exact FI
 have hge : ¬ 0 ≤ ca s u.Row.Id := by omega
 obtain ⟨hu1, hu2⟩ := qc hge
 refine cO ?_
 refine vj ?_
 exact FI
end Go.Proofs.YtmekkgdboplbjaaGreat
