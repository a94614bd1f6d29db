/- What functions of the program compute. No condition. -/
import Derived.Test.YtmekkgdboplbjaaGreatDoorCX0
set_option linter.all false
namespace Go.Proofs.YtmekkgdboplbjaaGreatDoor
open Go Go.RowKit M PV Tryz
set_option maxRecDepth 10000
attribute [local irreducible] PV.Lcl PV.LclR RV.Lcl
set_option maxHeartbeats 8000000
def Vh : dL prog 116 = some [(0, 1), (1, 1), (2, 1), (3, 1)] := by kernel_rfl
def Vi : prog.underlying 4 = some .bool := by kernel_rfl
def Vj {p1 p2 : Fl} {s : Store} {id : Int}  (hb : cq s ≤ 68719476736) : aN prog 255 [(true, [sl .v (s.ZE.map (aO p1 p2)), val (vI s.Now)]), (false, [val (vI id)])] (aF [(false, [val (vI (cf s id))]), (false, [val (vI (lZ s id))])]) := by
 refine sF func255 fun h0 w0 Fz0 => ?_
 refine sn 0 0 fun hl0_0 => ?_
 have hbu := hb
 simp only [cq, gN, bh] at hbu
 refine kt ?_
 refine rK ?_
 refine eD ?_
 refine sT [1, 2, 4, 5] [2] ?_
 refine de ?_
 refine sP [1, 2, 4, 5, 6] [2] ?_
 refine sL [1, 2] [2] (fun i : Nat => i ≤ s.ZE.length ∧ (s.ZE.take i).any (ii id) = false) (fun i : Nat => [(6, RV.int (i : Int))]) (fun i : Nat => []) (fun i : Nat => s.ZE.length - i) 0 (by exact ⟨by omega, rfl⟩) (by exact aI (by exact rfl) tI) (by exact tI) ?_
 rintro i ⟨hi, ha⟩
 refine cI ?_
 refine rj ?_
 refine sc (fun hba => ?_) (fun hba => ?_)
 have hlt : i < s.ZE.length := by omega
 have hwm := fe (f := cb) hlt
 have hws : cb s.ZE[i] = s.ZE[i].length + (s.ZE[i].map cw).sum := rfl
 refine bw ?_
 refine sT [1, 2, 6] [2] ?_
 refine de ?_
 refine sP [1, 2, 6, 7] [2] ?_
 refine sL [1, 2, 6] [2] (fun j : Nat => j ≤ s.ZE[i].length ∧ (s.ZE[i].take j).any (iJ id) = false) (fun j : Nat => [(7, RV.int (j : Int))]) (fun j : Nat => []) (fun j : Nat => s.ZE[i].length - j) 0 (by exact ⟨by omega, rfl⟩) (by exact aI (by exact rfl) tI) (by exact tI) ?_
 rintro j ⟨hj, hc⟩
 refine cI ?_
 refine mA ?_
 refine qW ?_
 refine pV ?_
 refine sc (fun hbb => ?_) (fun hbb => ?_)
 have hlt2 : j < s.ZE[i].length := by omega
 refine bw ?_
 refine sT [1, 2, 6, 7] [2] ?_
 refine mA ?_
 refine qW ?_
 refine rM ?_
 refine rA ?_ (x := aU (by decide) cX (by exact tI) (by exact rfl) (by exact aV (by omega) rfl) (by exact rfl))
 refine JC ?_
 refine pZ ?_
 refine rM ?_
 refine cx 36 (fun ga sga => ?_) (fun ga sga => ?_)
 refine tk ?_
 refine rB ga ?_ (x := sM)
 refine rB ga ?_ (x := aU (by decide) fj (by exact tI) (by exact rfl) (by exact aV (by omega) rfl) (by exact rfl))
 refine rB ga ?_ (x := lE [sl .v _] iP)
 refine rB ga ?_ (x := sM)
 refine rB ga ?_ (x := aU (by decide) cX (by exact tI) (by exact rfl) (by exact aV (by omega) rfl) (by exact rfl))
 refine rB ga ?_ (x := cB (by decide) kL (by exact nl rfl))
 refine rB ga ?_ (x := lE [val _] aw)
 refine rB ga ?_ (x := fb)
 refine rA ?_ (x := aK ga)
 refine sc (fun hbc => ?_) (fun hbc => ?_)
 have hyy : iJ id s.ZE[i][j] = true := by first | (simp_all [iJ]; done) | (unfold iJ; simp_all)
 have hfa := RN hlt ha hlt2 hc hyy
 refine sS [1, 2, 6, 7] [2] ?_
 refine rM ?_
 refine rM ?_
 refine rS ?_
 refine df ?_
 exact (aI (by refine bA ?_; rw [hfa.1]) (aI (by refine bA ?_; rw [hfa.2]) tI))
 exact Gd
 refine qd ?_
 exact Gd
 have hno1 : ii id s.ZE[i] = false := by unfold ii; rw [show j = s.ZE[i].length by omega, bY] at hc; exact hc
 refine bE ?_
 refine sH [1, 2, 6, 7] [2] ?_
 refine ca ?_
 refine nx (i + 1) (by exact ⟨by omega, tN ha hlt hno1⟩) (e := (by exact aI (by exact bA (by omega)) tI))
 have hend : i = s.ZE.length := by omega
 have hfn := RO (s := s) (id := id) (by rw [hend, bY] at ha; exact ha)
 refine bE ?_
 refine sT [1, 2, 6] [2] ?_
 refine rK ?_
 refine cC ?_
 exact (aI (by refine bA ?_; rw [hfn.1]) (aI (by refine bA ?_; rw [hfn.2]) tI))
def Vk {p1 p2 : Fl} {s : Store}  (hb : cq s ≤ 68719476736) : aN prog 256 [(true, [sl .v (s.ZE.map (aO p1 p2)), val (vI s.Now)])] (aF [(false, [val (vI (gE s.ZE))])]) := by
 refine sF func256 fun h0 w0 Fz0 => ?_
 refine sn 0 0 fun hl0_0 => ?_
 have hbu := hb
 simp only [cq, gN, bh] at hbu
 refine kt ?_
 refine iY ?_
 refine tF ?_
 refine sL [1] [1] (fun k : Nat => k ≤ s.ZE.length ∧ (s.ZE.take k).any jf = false) (fun k : Nat => [(3, RV.int (k : Int))]) (fun k : Nat => []) (fun k : Nat => s.ZE.length - k) 0 (by exact ⟨by omega, rfl⟩) (by exact aI (by exact rfl) tI) (by exact tI) ?_
 rintro k ⟨hk, ha⟩
 refine cI ?_
 refine rj ?_
 refine sc (fun hba => ?_) (fun hba => ?_)
 have hlt : k < s.ZE.length := by omega
 have hwm := fe (f := cb) hlt
 have hws : cb s.ZE[k] = s.ZE[k].length + (s.ZE[k].map cw).sum := rfl
 refine bw ?_
 refine sT [1, 3] [1] ?_
 refine mA ?_
 refine qW ?_
 refine pV ?_
 refine sc (fun hbb => ?_) (fun hbb => ?_)
 have hy : jf s.ZE[k] = true := by unfold jf; simpa using hbb
 have hra := RP hlt ha hy
 refine sS [1, 3] [1] ?_
 refine rM ?_
 refine df ?_
 exact (aI (by refine bA ?_; rw [hra]) tI)
 have hno1 : jf s.ZE[k] = false := by unfold jf; simpa using hbb
 refine tG ?_
 refine ca ?_
 refine nx (k + 1) (by exact ⟨by omega, tN ha hlt hno1⟩)
 have hend : k = s.ZE.length := by omega
 have hrn := RQ (by rw [hend, bY] at ha; exact ha)
 refine wC ?_
 refine cC ?_
 exact (aI (by refine bA ?_; rw [hrn]) tI)
def LM {p1 p2 : Fl} {s : Store} {u : ZI}  (hb : cq s ≤ 68719000000) (hbu0 : oO u ≤ 68719000000) : aN prog 204 [(true, [sl .v (s.ZE.map (aO p1 p2)), val (vI s.Now)]), (true, [val (vI u.Kind), val (vI u.Row.Id), sl .v (u.Row.Values.map an), val (vI u.Field), val (vI u.Value)])] (aF [(true, [sl bQ ((eh s u).1.ZE.map (aO be ae)), val (vI (eh s u).1.Now)]), (false, [val (.bool (eh s u).2)])]) := by
 refine qN (largs := fun L => [(true, [sl (.lo L) (s.ZE.map (aO (.lo L) (.lo L))), val (vI s.Now)]), (true, [val (vI u.Kind), val (vI u.Row.Id), sl (.lo L) (u.Row.Values.map an), val (vI u.Field), val (vI u.Value)])]) (rs := [(true, [sl bQ ((eh s u).1.ZE.map (aO be ae)), val (vI (eh s u).1.Now)]), (false, [val (.bool (eh s u).2)])]) func204 rfl (nl rfl) (fun L => by exact (aI (aI rfl (aj.cons (bn (fun _ => nl rfl) (fun _ => (aj.cons (bn (fun _ => nl rfl) (fun _ => (aj.cons aC (aj.cons (bn (fun _ => nl rfl) (fun _ => (aj.cons aC aj.nil))) (aj.cons aC (aj.cons aC aj.nil)))))) aj.nil))) (aj.cons aC aj.nil))) (aI (aI rfl (aj.cons aC (aj.cons aC (aj.cons (bn (fun _ => nl rfl) (fun _ => (aj.cons aC aj.nil))) (aj.cons aC (aj.cons aC aj.nil)))))) tI))) (fun L => by exact lq) ?_
 intro w0 Fz0
 refine sn 0 0 fun hl0_0 => ?_
 refine sn 1 2 fun hl1_2 => ?_
 have hbu := hb
 simp only [cq, gN, bh] at hbu
 have hbv := hbu0
 simp only [oO, iZ, dP, bh] at hbv
 have hvl2 := RS s u
 have hul := ui s u
 refine JA ?_
 refine rX ?_ (x := (fY (ag := true) (cs := [val _, val _, sl (.lo _) _, val _, val _]) (by decide) (by exact tI)))
 refine rX ?_ (x := (db (by decide) og oi))
 refine eD ?_
 refine sO [(2, _), (3, _), (4, _), (5, _)] [(2, (41, [sl (.lo _) _, val _])), (3, (29, [val _, val _, sl (.lo _) _, val _, val _])), (4, (41, [sl _ _, val _]))] ?_
 refine bi ?_
 refine IM ?_
 refine mx ?_
 refine dO ?_
 refine sO [(2, _), (3, _), (4, _), (5, _), (6, _)] [(2, _), (3, _), (4, _), (6, (41, [sl _ _, val _]))] ?_
 refine bi ?_
 refine IP ?_
 refine gk ?_
 refine cx 16 (fun ga sga => ?_) (fun ga sga => ?_)
 refine lO ?_
 refine az.cases (s := 21) rfl (fun g2 => ?_) (fun g2 => nomatch g2)
 refine my ?_
 refine cO ?_
 exact yY
 refine rB ga ?_ (x := lD [val _, val _, sl (.lo _) _, val _, val _] qj)
 refine rB ga ?_ (x := cL [(true, [val _, val _, sl (.lo _) _, val _, val _])] [(true, [val _, val _, sl .v _, val _, val _])] PZ (hs := by exact Uj))
 refine rB ga ?_ (x := nT)
 refine lf ?_
 refine cx 21 (fun gb sgb => ?_) (fun gb sgb => ?_)
 refine tC ?_
 refine cO ?_
 exact yY
 refine rB gb ?_ (x := lF fG)
 refine rB gb ?_ (x := lD [val _] aw)
 refine rB gb ?_ (x := jD)
 refine rA ?_ (x := aH gb)
 refine sc (fun hba => ?_) (fun hba => ?_)
 exact yY
 have hos : bL s = true := by simp_all
 have hou : gO u = true := by simp_all
 obtain ⟨hs8, hs1, hn0, hn1, hs4, hver⟩ := jd hos
 have hnw : s.Now < 100000 := by first | omega | (simp_all; omega)
 refine bc ?_
 refine sS [2, 3, 4, 5, 6] [2, 3, 4, 6] ?_
 refine rA ?_ (x := lD [sl (.lo _) _, val _] cF)
 refine Al ?_
 refine rA ?_ (x := lD [val _] aw)
 refine rA ?_ (x := cL [(true, [sl (.lo _) _, val _]), (false, [val _])] [(true, [sl .v _, val _]), (false, [val _])] SQ (hs := by exact (Vj (by omega))))
 refine rA ?_ (x := tM)
 refine rA ?_ (x := jB (cs := [val _]) (by decide) (by exact rfl) (by exact (ab.cons (bor_val _) ab.nil)))
 refine rA ?_ (x := jB (cs := [val _]) (by decide) (by exact rfl) (by exact (ab.cons (bor_val _) ab.nil)))
 refine rS ?_
 refine rS ?_
 refine sS [2, 3, 4, 5, 6, 7, 8] [2, 3, 4, 6] ?_
 refine rA ?_ (x := lD [sl (.lo _) _, val _] cF)
 refine rA ?_ (x := cL [(true, [sl (.lo _) _, val _])] [(true, [sl .v _, val _])] SR (hs := by exact (Vk (by omega))))
 refine gA ?_
 refine sS [2, 3, 4, 5, 6, 7, 8, 9] [2, 3, 4, 6] ?_
 refine ra ?_
 refine rA ?_ (x := fb)
 refine oJ ?_
 refine rA ?_ (x := Dm (by decide) Vi (by exact tI) (by exact tI))
 refine rM ?_
 refine cx 43 (fun gc sgc => ?_) (fun gc sgc => ?_)
 refine ny ?_
 refine cO ?_
 exact Gf
 refine rB gc ?_ (x := lF JU)
 refine rB gc ?_ (x := lD [val _] aw)
 refine Aw ?_
 refine cx 47 (fun gd sgd => ?_) (fun gd sgd => ?_)
 refine rB gd ?_ (x := sM)
 refine rB gd ?_ (x := dZ)
 refine Aq ?_
 refine sc (fun hbb => ?_) (fun hbb => ?_)
 exact Gf
 have hkr : (0 ≤ cf s u.Row.Id ↔ ¬ u.Kind = 1) ∧ (u.Kind = 2 ∨ 0 ≤ gE s.ZE) := by by_cases h1 : 0 ≤ cf s u.Row.Id <;> by_cases h2 : u.Kind = 1 <;> by_cases h3 : u.Kind = 2 <;> by_cases h4 : 0 ≤ gE s.ZE <;> by_cases h6 : cf s u.Row.Id < 0 <;> (first | omega | (simp_all; done) | (simp_all; omega))
 obtain ⟨hkd, hrr⟩ := hkr
 have hok := KM hos hou hnw hkd hrr
 refine bc ?_
 refine sS [2, 3, 4, 5, 6, 7, 8, 9] [2, 3, 4, 6] ?_
 refine rA ?_ (x := lF fG)
 refine ti ?_
 refine rA ?_ (x := lF fG)
 refine vW ?_
 refine Ji ?_
 refine dA 0 ?_ (x := lF oU)
 refine dA 1 ?_ (x := lF jO)
 refine IR ?_
 refine dA 0 ?_ (x := lF oU)
 refine dA 16 ?_ (x := lF ia)
 refine Hx ?_
 refine dA 0 ?_ (x := lF fG)
 refine dA 256 ?_ (x := lD [val _] aw)
 refine Ja ?_
 refine vP ?_
 refine ku ?_
 refine rA ?_ (x := jD)
 refine sc (fun hbc => ?_) (fun hbc => ?_)
 have hge : 0 ≤ cf s u.Row.Id := by omega
 obtain ⟨i, k, hi, hk, hfi, hfk, hal⟩ := pf hge
 obtain ⟨hu1, hu2⟩ := mK hi hk hfi hfk
 have hwm := fe (f := cb) hi
 have hws : cb s.ZE[i] = s.ZE[i].length + (s.ZE[i].map cw).sum := rfl
 have hwm2 := fe (f := cw) hk
 have hwv : cw s.ZE[i][k] = s.ZE[i][k].Values.length := by simp only [cw, dP, bh]; omega
 refine ID ?_
 refine mA ?_
 refine IU ?_
 refine rM ?_
 refine IC ?_
 refine vu ?_
 refine rA ?_ (x := lF mL)
 refine HX ?_
 refine jC (d := 6) (t := 41) (D := 920) (G := 2920) (E := 114) (e := 1) (L := (Lw w0.heap.size)) (A := []) (B := [val _]) (es := (s.ZE).map (aO be ae)) (by exact rfl) (iq hi) (by exact rfl) (by exact rfl) rfl (by exact rfl) (fun x hx => hx) (by exact lq) (by exact lq) (by exact ar.nil) (by exact lc) (ar.map fun x => (ar.cons (lcl_own (ar.map fun x => (ar.cons lcl_val (ar.cons (lcl_own (ar.map fun x => (ar.cons lcl_val ar.nil))) (ar.cons lcl_val (ar.cons lcl_val ar.nil)))))) ar.nil)) fun uu920 cp920 jk920 hlD920 hcp920 hjk920 => ?_
 rw [am] at hlD920 hcp920 hjk920
 refine cK (d := 920) (by exact rfl) (hI (k := i) hi) ?_
 have hA920 := hJ (f := (aO be ae)) (e := 1) (xs := s.ZE) (k := i) (fun _ => rfl) (Nat.le_of_lt hi)
 refine sO [(2, _), (3, _), (4, _), (5, _), (6, _), (7, _), (8, _), (9, _), (10, _), (2920, _)] [(2, _), (3, _), (4, _), (6, (41, [val _, val _])), (10, _), (920, (114, _ ++ ([sl _ _] ++ _)))] ?_
 refine jC (d := 920) (t := 114) (D := 921) (G := 2921) (E := 116) (e := 4) (L := (Lw w0.heap.size)) (A := _) (B := [] ++ _) (es := (s.ZE[i]).map (ff ae)) (by exact rfl) (iq hk) (by exact rfl) (by exact rfl) rfl (by exact rfl) (fun x hx => hx) (by exact lq) (by exact lq) (by exact lc) (by exact lc) (ar.map fun x => (ar.cons lcl_val (ar.cons (lcl_own (ar.map fun x => (ar.cons lcl_val ar.nil))) (ar.cons lcl_val (ar.cons lcl_val ar.nil))))) fun uu921 cp921 jk921 hlD921 hcp921 hjk921 => ?_
 rw [am] at hlD921 hcp921 hjk921
 refine cK (d := 921) (by exact rfl) (hI (k := k) hk) ?_
 have hA921 := hJ (f := (ff ae)) (e := 4) (xs := s.ZE[i]) (k := k) (fun _ => rfl) (Nat.le_of_lt hk)
 refine Ib ?_
 refine tm ?_
 refine dA 0 ?_ (x := sM)
 refine HK ?_
 refine dA 0 ?_ (x := sM)
 refine dA 0 ?_ (x := lF fG)
 refine IB ?_
 refine IQ ?_
 refine HA ?_
 refine Hv ?_
 refine IV ?_
 exact Gk
 have hge : ¬ 0 ≤ cf s u.Row.Id := by omega
 obtain ⟨hu1, hu2⟩ := pg hge
 refine eA ?_
 refine vY ?_
 exact Gk
 refine zf gd ?_
 refine Ar ?_
 refine eJ ?_
 have hkr : (0 ≤ cf s u.Row.Id ↔ ¬ u.Kind = 1) ∧ (u.Kind = 2 ∨ 0 ≤ gE s.ZE) := by by_cases h1 : 0 ≤ cf s u.Row.Id <;> by_cases h2 : u.Kind = 1 <;> by_cases h3 : u.Kind = 2 <;> by_cases h4 : 0 ≤ gE s.ZE <;> by_cases h6 : cf s u.Row.Id < 0 <;> (first | omega | (simp_all; done) | (simp_all; omega))
 obtain ⟨hkd, hrr⟩ := hkr
 have hok := KM hos hou hnw hkd hrr
 refine bc ?_
 refine sS [2, 3, 4, 5, 6, 7, 8, 9] [2, 3, 4, 6] ?_
 refine rA ?_ (x := lF fG)
 refine ti ?_
 refine rA ?_ (x := lF fG)
 refine vW ?_
 refine Ji ?_
 refine dA 0 ?_ (x := lF oU)
 refine dA 1 ?_ (x := lF jO)
 refine IR ?_
 refine dA 0 ?_ (x := lF oU)
 refine dA 16 ?_ (x := lF ia)
 refine Hx ?_
 refine dA 0 ?_ (x := lF fG)
 refine dA 256 ?_ (x := lD [val _] aw)
 refine Ja ?_
 refine vP ?_
 refine ku ?_
 refine rA ?_ (x := jD)
 refine sc (fun hbb => ?_) (fun hbb => ?_)
 have hge : 0 ≤ cf s u.Row.Id := by omega
 obtain ⟨i, k, hi, hk, hfi, hfk, hal⟩ := pf hge
 obtain ⟨hu1, hu2⟩ := mK hi hk hfi hfk
 have hwm := fe (f := cb) hi
 have hws : cb s.ZE[i] = s.ZE[i].length + (s.ZE[i].map cw).sum := rfl
 have hwm2 := fe (f := cw) hk
 have hwv : cw s.ZE[i][k] = s.ZE[i][k].Values.length := by simp only [cw, dP, bh]; omega
 refine ID ?_
 refine mA ?_
 refine IU ?_
 refine rM ?_
 refine IC ?_
 refine vu ?_
 refine rA ?_ (x := lF mL)
 refine HX ?_
 refine jC (d := 6) (t := 41) (D := 920) (G := 2920) (E := 114) (e := 1) (L := (Lw w0.heap.size)) (A := []) (B := [val _]) (es := (s.ZE).map (aO be ae)) (by exact rfl) (iq hi) (by exact rfl) (by exact rfl) rfl (by exact rfl) (fun x hx => hx) (by exact lq) (by exact lq) (by exact ar.nil) (by exact lc) (ar.map fun x => (ar.cons (lcl_own (ar.map fun x => (ar.cons lcl_val (ar.cons (lcl_own (ar.map fun x => (ar.cons lcl_val ar.nil))) (ar.cons lcl_val (ar.cons lcl_val ar.nil)))))) ar.nil)) fun uu920 cp920 jk920 hlD920 hcp920 hjk920 => ?_
 rw [am] at hlD920 hcp920 hjk920
 refine cK (d := 920) (by exact rfl) (hI (k := i) hi) ?_
 have hA920 := hJ (f := (aO be ae)) (e := 1) (xs := s.ZE) (k := i) (fun _ => rfl) (Nat.le_of_lt hi)
 refine sO [(2, _), (3, _), (4, _), (5, _), (6, _), (7, _), (8, _), (9, _), (10, _), (2920, _)] [(2, _), (3, _), (4, _), (6, (41, [val _, val _])), (10, _), (920, (114, _ ++ ([sl _ _] ++ _)))] ?_
 refine jC (d := 920) (t := 114) (D := 921) (G := 2921) (E := 116) (e := 4) (L := (Lw w0.heap.size)) (A := _) (B := [] ++ _) (es := (s.ZE[i]).map (ff ae)) (by exact rfl) (iq hk) (by exact rfl) (by exact rfl) rfl (by exact rfl) (fun x hx => hx) (by exact lq) (by exact lq) (by exact lc) (by exact lc) (ar.map fun x => (ar.cons lcl_val (ar.cons (lcl_own (ar.map fun x => (ar.cons lcl_val ar.nil))) (ar.cons lcl_val (ar.cons lcl_val ar.nil))))) fun uu921 cp921 jk921 hlD921 hcp921 hjk921 => ?_
 rw [am] at hlD921 hcp921 hjk921
 refine cK (d := 921) (by exact rfl) (hI (k := k) hk) ?_
 have hA921 := hJ (f := (ff ae)) (e := 4) (xs := s.ZE[i]) (k := k) (fun _ => rfl) (Nat.le_of_lt hk)
 refine Ib ?_
 refine tm ?_
 refine dA 0 ?_ (x := sM)
 refine HK ?_
 refine dA 0 ?_ (x := sM)
 refine dA 0 ?_ (x := lF fG)
 refine IB ?_
 refine IQ ?_
 refine HA ?_
 refine Hv ?_
 refine IV ?_
 exact Gm
 have hge : ¬ 0 ≤ cf s u.Row.Id := by omega
 obtain ⟨hu1, hu2⟩ := pg hge
 refine eA ?_
 refine vY ?_
 exact Gm
end Go.Proofs.YtmekkgdboplbjaaGreatDoor
