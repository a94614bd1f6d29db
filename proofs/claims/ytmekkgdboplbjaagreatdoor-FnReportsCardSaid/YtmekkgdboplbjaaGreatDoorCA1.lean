/- What functions of the program compute. No condition. -/
import Derived.Test.YtmekkgdboplbjaaGreatDoorCH0
import Derived.Test.YtmekkgdboplbjaaGreatDoorCY0
import Derived.Test.YtmekkgdboplbjaaGreatDoorCZ0
set_option linter.all false
namespace Go.Proofs.YtmekkgdboplbjaaGreatDoor
open Go Go.RowKit M PV Tryz
set_option maxRecDepth 10000
attribute [local irreducible] PV.Lcl PV.LclR RV.Lcl
set_option maxHeartbeats 8000000
attribute [local irreducible] ak gn
def Xq : dL prog 116 = some [(0, 1), (1, 1), (2, 1), (3, 1)] := by kernel_rfl
def Xr : dL prog 27 = some [(0, 1), (1, 1)] := by kernel_rfl
def Nc : dL prog 29 = some [(0, 1), (1, 2), (3, 1), (4, 1)] := by kernel_rfl
def Xs : dL prog 41 = some [(0, 1), (1, 1)] := by kernel_rfl
def Xt : dL prog 46 = some [(0, 2), (2, 1), (3, 1), (4, 1), (5, 1), (6, 1), (7, 1)] := by kernel_rfl
def Xu {p1 : Fl} {l : List Row}  : aN prog 253 [(false, [sl .v (l.map (dt p1))])] (aF [(false, [val (.bool (gF l))])]) := by
 refine sF func253 fun h0 w0 Fz0 => ?_
 refine sj 0 fun hl0 => ?_
 refine rr ?_
 refine sL [0] [] (fun k : Nat => k ≤ l.length ∧ jM pp bp pq l k = true) (fun k : Nat => [(3, RV.int (k : Int))]) (fun k : Nat => []) (fun k : Nat => l.length - k) 0 (by exact ⟨by omega, rfl⟩) (by exact aI (by exact rfl) tI) (by exact tI) ?_
 rintro k ⟨hk, ha⟩
 refine iv ?_
 refine tt ?_
 refine sc (fun hba => ?_) (fun hba => ?_)
 have hlt : k < l.length := by omega
 have hgk : l.getD k pp = l[k] := et hlt
 have hgp : 0 < k → l.getD (k - 1) pp = l[k - 1] := fun h => et (by omega)
 refine er ?_
 refine sP [0, 3] [] ?_
 refine nC ?_
 refine dA 3 ?_ (x := aU (by decide) fQ (by exact tI) (by exact rfl) (by exact aV (by omega) rfl) (by exact rfl))
 refine dA 7 ?_ (x := lE [val _, sl .v _] gB)
 refine dA 15 ?_ (x := cL [(true, [val _, sl _ _])] [(true, [val _, sl .v _])] tS (hs := by exact uk))
 refine dA 31 ?_ (x := nT)
 refine dA 63 ?_ (x := sM)
 refine dx 16 (fun ga sga => ?_) (fun ga sga => ?_)
 refine dT 127 ga ?_
 refine dT 255 ga ?_
 refine dT 511 ga ?_
 refine ro ?_
 refine tL ?_
 refine dU 16383 ?_
 refine ro ?_
 refine dU 66559 ?_
 refine dU 230399 ?_
 refine dU 492543 ?_
 refine dU 1016831 ?_
 refine dU 2097151 ?_
 refine An ?_
 refine cO ?_
 exact Gn
 refine Ak ?_
 refine dB 511 ga ?_ (x := sM)
 refine dx 19 (fun gb sgb => ?_) (fun gb sgb => ?_)
 refine qZ ?_
 refine dB 4095 gb ?_ (x := aU (by decide) fQ (by exact tI) (by exact rfl) (by exact aV (by omega) rfl) (by exact rfl))
 refine dB 8191 gb ?_ (x := cB (by decide) jO (by exact nl rfl))
 refine dB 16383 gb ?_ (x := lE [val _] aw)
 refine qZ ?_
 refine dB 66559 gb ?_ (x := gw)
 refine dB 230399 gb ?_ (x := aU (k := k - 1) (by decide) fQ (by exact tI) (by omega) (by exact aV (by omega) rfl) (by exact rfl))
 refine dB 492543 gb ?_ (x := cB (by decide) jO (by exact nl rfl))
 refine dB 1016831 gb ?_ (x := lE [val _] aw)
 refine zV ?_
 refine dA 8388607 ?_ (x := aH ga)
 refine sc (fun hbb => ?_) (fun hbb => ?_)
 exact Gn
 exact Gp
 refine rf ?_
 refine dF 4095 gb ?_
 refine dF 8191 gb ?_
 refine dF 16383 gb ?_
 refine rf ?_
 refine dF 66559 gb ?_
 refine dF 230399 gb ?_
 refine dF 492543 gb ?_
 refine dF 1016831 gb ?_
 refine dF 2097151 gb ?_
 refine zZ ?_
 refine eJ ?_
 exact Gp
 have hend : k = l.length := by omega
 have hall : dE pp bp pq l = true := oS ha hend
 refine Ay ?_
 refine Au ?_
 refine df ?_
 exact rb (by first | (simp_all [gF]; done) | (simp_all [gF]; rfl) | (simp_all [gF]; omega) | (simp_all [gF]; intros; omega))
def Xv {p1 : Fl} {rows : List Row} {n : Int}  : aN prog 203 [(false, [sl .v (rows.map (dt p1))]), (false, [val (vI n)])] (aF [(true, [sl bQ ((qA rows n).1.ZE.map (aO be ae)), val (vI (qA rows n).1.Now)]), (false, [val (.bool (qA rows n).2)])]) := by
 refine sF func203 fun h0 w0 Fz0 => ?_
 refine sj 0 fun hl0 => ?_
 refine we ?_
 refine eD ?_
 refine sT [0, 1, 4, 5] [4] ?_
 refine rA ?_ (x := vM false [sl .v _])
 refine rA ?_ (x := cL [(false, [sl _ _])] [(false, [sl .v _])] SP (hs := by exact Xu))
 refine gk ?_
 refine cx 13 (fun ga sga => ?_) (fun ga sga => ?_)
 refine lO ?_
 refine az.cases (s := 18) rfl (fun g2 => ?_) (fun g2 => nomatch g2)
 refine my ?_
 refine cO ?_
 exact yZ
 refine rB ga ?_ (x := sM)
 refine zq ?_
 refine lf ?_
 refine cx 18 (fun gb sgb => ?_) (fun gb sgb => ?_)
 refine tC ?_
 refine cO ?_
 exact yZ
 refine rB gb ?_ (x := vM false [sl .v _])
 refine rB gb ?_ (x := lN fQ)
 refine rB gb ?_ (x := sM)
 refine rB gb ?_ (x := Ob (by decide) (by exact tI) (aJ rfl) (by have h1_ : gF rows = true ∧ aB n 1 8 = true := (by first | (simp_all; done) | exact ⟨by simp_all, by simp_all⟩); have h2_ := h1_.2; simp only [aB, aL, decide_eq_true_eq] at h2_; unfold aQ; omega))
 refine rB gb ?_ (x := dC)
 refine rA ?_ (x := aH gb)
 refine sc (fun hba => ?_) (fun hba => ?_)
 exact yZ
 have hok : md rows n = true := by unfold md; first | (simp_all; done) | (simp_all; omega)
 obtain ⟨har, hn18, hl4⟩ := Cg hok
 have hn0 : 0 < n.toNat := by omega
 have hr32 := We har
 have hnn : (n.toNat : Int) = n := by omega
 refine bc ?_
 refine IN ?_
 refine mx ?_
 refine dO ?_
 refine sO [(0, _), (1, _), (4, _), (5, _), (6, _)] [(4, _), (6, (41, [sl _ _, val _]))] ?_
 refine rq ?_
 refine sP [0, 1, 4, 5, 6, 7] [4, 6] ?_
 refine sL [0, 1, 4, 5, 6] [4] (fun k : Nat => k ≤ n.toNat) (fun k : Nat => [(7, RV.int (k : Int))]) (fun k : Nat => [(6, (41, [sl bQ ((lv rows n.toNat k).map (aO be ae)), val (vI 0)]))]) (fun k : Nat => n.toNat - k) 0 (by omega) (by exact aI (by exact rfl) tI) (by exact aI (by exact rfl) tI) ?_
 rintro k hk
 have hsl := Cj (rows := rows) (n := n.toNat) (k := k)
 refine cI ?_
 refine oJ ?_
 refine sc (fun hbb => ?_) (fun hbb => ?_)
 have hlt : k < n.toNat := by omega
 refine bw ?_
 refine sT [0, 1, 4, 5, 6, 7] [4, 6] ?_
 refine td ?_
 refine sS [0, 1, 4, 5, 6, 7, 8] [4, 6] ?_
 refine rM ?_
 refine rS ?_
 refine fM ?_
 refine sP [0, 1, 4, 5, 6, 7, 8, 9] [4, 6] ?_
 refine sL [0, 1, 4, 5, 6, 7] [4, 6] (fun j : Nat => j ≤ mS rows.length n.toNat k) (fun j : Nat => [(8, RV.slc be ((mR rows n.toNat k j).map (ff ae))), (9, RV.int ((k + j * n.toNat : Nat) : Int))]) (fun j : Nat => []) (fun j : Nat => mS rows.length n.toNat k - j) 0 (by omega) (by exact aI (by exact rfl) (aI (by exact bA (by omega)) tI)) (by exact tI) ?_
 rintro j hj
 have htl := Ci (rows := rows) (n := n.toNat) (i := k) (k := j)
 have hj4 : j ≤ 4 := by have h_ := Mo (i := k) hn0 (rows := rows) (by omega); unfold mT at h_; rw [Ci] at h_; omega
 refine iv ?_
 refine tt ?_
 refine sc (fun hbc => ?_) (fun hbc => ?_)
 have hlt2 : k + j * n.toNat < rows.length := by omega
 have hv3 : rows[k + j * n.toNat].Values.length = 3 := (xB.1 (Mm har hlt2)).2.1
 have hjs : j < mS rows.length n.toNat k := (up hn0 (by omega)).1 hlt2
 refine bw ?_
 refine sQ [0, 1, 4, 5, 6, 7, 8, 9] [4, 6] ?_
 refine tw ?_
 refine gy ?_
 refine dA 6 ?_ (x := aU (k := k + j * n.toNat) (by decide) fQ (by exact tI) (by rfl) (by exact aV hlt2 rfl) (by exact rfl))
 refine dA 14 ?_ (x := cB (by decide) jO (by exact nl rfl))
 refine dA 30 ?_ (x := lE [val _] aw)
 refine dA 0 ?_ (x := bm (qs := []) (by decide) aW bX (by decide) rfl rfl rfl rfl rfl (by exact nl rfl) (by exact tI) rfl)
 refine gy ?_
 refine dA 384 ?_ (x := aU (k := k + j * n.toNat) (by decide) fQ (by exact tI) (by rfl) (by exact aV hlt2 rfl) (by exact rfl))
 refine dA 896 ?_ (x := cB (by decide) ia (by exact nl rfl))
 refine dA 1920 ?_ (x := lE [sl .v _] bz)
 refine dA 4032 ?_ (x := iW (by decide) aW bX rfl rfl (by decide) (by first | (intro cs hcs; obtain ⟨x, _, rfl⟩ := List.mem_map.1 hcs; exact rfl) | simp) (by first | (intro cs hcs; obtain ⟨x, _, rfl⟩ := List.mem_map.1 hcs; exact (ab.cons (bor_val _) ab.nil)) | simp) (by simp only [am, aD, List.length_cons, List.length_nil]; omega) (by simp only [am, aD, List.length_cons, List.length_nil]; omega))
 refine dA 8190 ?_ (x := dM (qs := [(false, [val _]), (false, [sl _ _]), (false, [val _])]) (cs := [val _, sl _ _, val _, val _]) (by decide) fU pm Xq (by exact rfl) (by exact (aI (by exact tI) (aI (by exact tI) (aI (aJ rfl) tI)))) rfl (by exact rfl))
 refine dA 16382 ?_ (x := bm (qs := [(true, [val _, sl _ _, val _, val _])]) (by decide) cX fU (by decide) rfl rfl rfl rfl rfl (by exact nl rfl) (by exact (aI (by exact tI) tI)) rfl)
 refine dA 32767 ?_ (x := dy (by decide) cX fU rfl rfl (by decide) rfl (by simp only [am, aD, List.length_cons, List.length_nil]; omega) (by simp only [am, aD, List.length_cons, List.length_nil]; omega))
 refine dA 65535 ?_ (x := tA)
 refine sG [0, 1, 4, 5, 6, 7, 8, 9] [4, 6] ?_
 refine rM ?_
 refine ca ?_
 refine nx (j + 1) (by omega) (e := (by exact aI (by exact bI (by rw [Wc, bb, ← cU hlt2]; rfl)) (aI (by exact bA (by rw [Nat.succ_mul]; omega)) tI)))
 have hend2 : j = mS rows.length n.toNat k := by
  by_cases hkl : k ≤ rows.length
  ·have h_ := up (k := j) hn0 hkl; omega
  ·have h_ := Ch (n := n.toNat) hn0 (show rows.length ≤ k by omega); omega
 refine bE ?_
 refine sH [0, 1, 4, 5, 6, 7, 8, 9] [4, 6] ?_
 refine rA ?_ (x := lF jW)
 refine rA ?_ (x := dH (ms := [sl _ _]) (qs := [sl .v _]) (by decide) jX (fun _ => rfl) (by exact nl rfl) (by exact rfl) (by exact (aA ao.nil)) (by exact (ab.cons (bor_sl _) ab.nil)))
 refine rA ?_ (x := tM)
 refine rA ?_ (x := bm (qs := [(false, [sl _ _])]) (by decide) fj xj (by decide) rfl rfl rfl rfl rfl (by exact nl rfl) (by exact (aI (by exact tI) tI)) rfl)
 refine rA ?_ (x := dy (by decide) fj xj rfl rfl (by decide) rfl (by simp only [am, aD, List.length_cons, List.length_nil]; omega) (by simp only [am, aD, List.length_cons, List.length_nil]; omega))
 refine rA ?_ (x := lF jW)
 refine rA ?_ (x := bf (ag := false) (vs := [sl _ _]) jX (by exact tI) (by exact rfl) (by exact nl rfl))
 refine sO [(0, _), (1, _), (4, _), (5, _), (6, _), (7, _), (9, _)] [(4, _), (6, (41, [sl _ _, val _]))] ?_
 refine rp ?_
 refine nx (k + 1) (by omega) (e := (by exact aI (by exact bA (by omega)) tI)) (f := (by exact aI (by rw [Wd, bb]; unfold mT; rw [← hend2]; exact rfl) tI))
 have hend : k = n.toNat := by omega
 subst hend
 refine bE ?_
 refine sT [0, 1, 4, 5, 6, 7] [4, 6] ?_
 refine oD ?_
 refine cC ?_
 exact (bj 4 (bj _ (aI (by exact rfl) (aI (by refine dW ?_; rw [Cf hok]; exact rfl) (aI cF (aI (fun h => nomatch h) (aI (by refine gZ ?_; rw [Cf hok]) tI)))))))
def Nd {o : Fl} {c : au} (hbo : ∀ es, (sl o es).Bor) {p1 p2 : Fl} {s : Store}  (hs : bL s = true) : fa prog 205 176 (ce o c) (ce o (eC c s).2) [(true, [sl .v (s.ZE.map (aO p1 p2)), val (vI s.Now)])] (aF [(true, [val (vI (eC c s).1.Kind), val (vI (eC c s).1.Row.Id), sl ae ((eC c s).1.Row.Values.map an), val (vI (eC c s).1.Field), val (vI (eC c s).1.Value)])]) := by
 refine fO (rs := [(true, [val (vI (eC c s).1.Kind), val (vI (eC c s).1.Row.Id), sl ae ((eC c s).1.Row.Values.map an), val (vI (eC c s).1.Field), val (vI (eC c s).1.Value)])]) func205 rfl (nl rfl) (nl rfl) ?_
 intro g_ h0 w0 Fz0
 refine sn 1 0 fun hl1_0 => ?_
 have hsw := rY hs
 have hal := nM s
 have hb11 := dh c 12
 have hb12 := di c (n := 12) (by decide)
 have hb21 := dh (ak c 12).2 4
 have hb22 := di (ak c 12).2 (n := 4) (by decide)
 have hbs := hsw
 simp only [cq, gN, bh] at hbs
 refine kt ?_
 refine rX ?_ (x := (db (by decide) AM AN))
 refine ba ?_
 refine sO [(0, _), (3, _), (4, _), (5000, _)] [(0, (176, [sl o _, val _, val _])), (3, (41, [sl _ _, val _])), (4, (29, [val _, val _, sl _ _, val _, val _]))] ?_
 refine bi ?_
 refine zO ?_
 refine rA ?_ (x := tA)
 refine sS [0, 3, 4, 5, 5000] [0, 3, 4] ?_
 refine jG ?_
 refine gA ?_
 refine sS [0, 3, 4, 5, 6, 5000] [0, 3, 4] ?_
 refine pQ ?_
 refine rA ?_ (x := dC)
 refine rM ?_
 refine cx 15 (fun ga sga => ?_) (fun ga sga => ?_)
 refine rB ga ?_ (x := cM Cp.ptr)
 refine rB ga ?_ (x := bR (bx := 0) (qs := [(false, [val _])]) (as_ := [(false, [val _])]) (by decide) xe rfl (by exact (aI (aJ rfl) tI)) (by exact (aI (aI rfl (aq ao.nil)) tI)) (by exact (ab.cons (hbo _) (ab.cons (bor_val _) (ab.cons (bor_val _) ab.nil)))) (by exact (bV (ab.cons (bor_val _) ab.nil) bH)) (by exact (xp hbo (by omega))))
 refine rB ga ?_ (x := nT)
 refine rA ?_ (x := aK ga)
 refine sc (fun hba => ?_) (fun hba => ?_)
 have hl0 : ¬ (aY s).length = 0 := by first | omega | (simp_all; omega)
 have ho0 : ¬ (ak (ak c 12).2 4).1 = 0 := by first | (simpa using hba) | (simp_all; done)
 have hge := dh (ak (ak c 12).2 4).2 (aY s).length
 have hlt_ := di (ak (ak c 12).2 4).2 (n := (aY s).length) (by omega)
 have hu := Wi hl0 ho0; have huk : cl c s = ak (ak (ak (ak c 12).2 4).2 (aY s).length).2 3 := (by unfold cl; rw [hu]); have hk1 := dh (cl c s).2 20; have hk2 := di (cl c s).2 (n := 20) (by decide)
 refine sG [0, 3, 4, 5, 6, 5000] [0, 3, 4] ?_
 refine rA ?_ (x := vM false [sl .v _])
 refine rA ?_ (x := cM Cp.ptr)
 refine pQ ?_
 refine rA ?_ (x := bR (bx := 0) (qs := [(false, [val _])]) (as_ := [(false, [val _])]) (by decide) jV rfl (by exact (aI (by exact tI) tI)) (by exact (aI (aI rfl (aq ao.nil)) tI)) (by exact (ab.cons (hbo _) (ab.cons (bor_val _) (ab.cons (bor_val _) ab.nil)))) (by exact (bV (ab.cons (bor_val _) ab.nil) bH)) (by exact (jZ hbo (by omega))))
 refine rA ?_ (x := aU (k := (ak (ak (ak c 12).2 4).2 (aY s).length).1.toNat) (by decide) cX (by exact tI) (by omega) (by exact aV (by omega) (by rw [cU (d := v0) (by omega)])) (by exact rfl))
 refine JC ?_
 refine rS ?_
 exact Gt
 have ho1 : (ak (ak c 12).2 4).1 = 0 := (by first | (simpa using hba) | (simp_all; done)); have hl0 : ¬ (aY s).length = 0 := (by first | omega | (simp_all; omega)); have hu := Wh hl0 ho1; have huk : cl c s = ak (ak (ak c 12).2 4).2 3 := (by unfold cl; rw [hu]); have hk1 := dh (cl c s).2 20; have hk2 := di (cl c s).2 (n := 20) (by decide)
 refine bc ?_
 exact Gt
 have hl0 : (aY s).length = 0 := (by first | (simp at ga; omega) | (simp at ga; simp_all; done)); have hu := Wg (c := c) hl0; have huk : cl c s = ak (ak c 12).2 3 := (by unfold cl; rw [hu]); have hk1 := dh (cl c s).2 20; have hk2 := di (cl c s).2 (n := 20) (by decide)
 have sga := ga
 try simp only [qq] at sga
 refine qd ?_
 refine eA ?_
 refine sS [0, 3, 4, 5, 6, 5000] [0, 3, 4] ?_
 refine jG ?_
 refine fM ?_
 refine wi ?_
 refine sc (fun hba => ?_) (fun hba => ?_)
 have h0_ : (cl c s).1 = 0 := by rw [huk]; first | exact hba | simpa using hba
 exact Gq
 have h0_ : ¬ (cl c s).1 = 0 := by rw [huk]; first | exact hba | simpa using hba
 refine wi ?_
 refine sc (fun hbb => ?_) (fun hbb => ?_)
 have h1_ : (cl c s).1 = 1 := by rw [huk]; first | exact hbb | simpa using hbb
 exact Gr
 have h1_ : ¬ (cl c s).1 = 1 := by rw [huk]; first | exact hbb | simpa using hbb
 exact Gs
def Nf {o : Fl} {c : au} (hbo : ∀ es, (sl o es).Bor)  : fa prog 121 176 (ce o c) (ce o (br c).c) [] (aF [(true, [sl bQ ((br c).s.ZE.map (aO be ae)), val (vI (br c).s.Now)])]) := by
 refine fO (rs := [(true, [sl bQ ((br c).s.ZE.map (aO be ae)), val (vI (br c).s.Now)])]) func121 rfl (nl rfl) (nl rfl) ?_
 intro g_ h0 w0 Fz0
 have hrw := JZ c (most := 7) (by decide)
 have hN1 : 0 ≤ oq c := dh _ _
 have hN2 : oq c < 6 := di _ (by decide)
 have hb11 := dh (eN c 7).2 3
 have hb12 := di (eN c 7).2 (n := 3) (by decide)
 refine we ?_
 refine ba ?_
 refine sO [(0, _), (2, _), (5000, _)] [(0, (176, [sl o _, val _, val _])), (2, (41, [sl _ _, val _]))] ?_
 refine lL ?_
 refine rA ?_ (x := bR (bx := 0) (qs := [(false, [val _])]) (as_ := [(false, [val _])]) (by decide) KV rfl (by exact (aI (aJ rfl) tI)) (by exact (aI (aI rfl (aq ao.nil)) tI)) (by exact (ab.cons (hbo _) (ab.cons (bor_val _) (ab.cons (bor_val _) ab.nil)))) (by exact (bV (ab.cons (bor_val _) ab.nil) bH)) (by exact (Lu hbo (by omega))))
 refine jG ?_
 refine rA ?_ (x := iX)
 refine rA ?_ (x := cL [(false, [sl _ _]), (false, [val _])] [(false, [sl .v _]), (false, [val _])] SG (hs := by exact (Xv (rows := (lx c).1) (n := 2 + (ak (lx c).2 3).1))))
 refine rA ?_ (x := tM)
 refine vz ?_
 refine mx ?_
 refine rS ?_
 refine dO ?_
 refine sO [(0, _), (2, _), (3, _), (4, _), (5000, _)] [(0, _), (2, _), (3, (41, [sl _ _, val _]))] ?_
 refine bi ?_
 refine jG ?_
 refine rS ?_
 refine fM ?_
 refine sP [0, 2, 3, 4, 5, 5000] [0, 2, 3] ?_
 refine sL [0, 2, 3, 4, 5000] [2] (fun k : Nat => (k : Int) ≤ oq c) (fun k : Nat => [(5, RV.int (oq c - (k : Int)))]) (fun k : Nat => [(0, (176, ce o (me (mf c) k).c)), (3, (41, [sl bQ ((me (mf c) k).s.ZE.map (aO be ae)), val (vI (me (mf c) k).s.Now)]))]) (fun k : Nat => (oq c - (k : Int)).toNat) 0 (by omega) (by exact aI (by exact bA (by first | omega | (show oq c = _; omega))) tI) (by exact aI (by exact rfl) (aI (by exact rfl) tI)) ?_
 rintro k hk
 have hso := Cl (x := mf c) (Mu c) k
 have hsw := rY hso
 have huw := Ms (me (mf c) k).c (me (mf c) k).s
 refine ri ?_
 refine sc (fun hba => ?_) (fun hba => ?_)
 have hlt : (k : Int) < oq c := by omega
 refine er ?_
 refine sO [(0, _), (2, _), (3, _), (4, _), (5, _), (5000, _)] [(0, (176, [sl o _, val _, val _])), (2, (41, [sl _ _, val _])), (3, (41, [sl _ _, val _]))] ?_
 refine sB (c := 4) (AI := [(8, ⟨[], [], [(6, some (RV.ptr 6 0))], [(6, some (41, [sl bQ [], val (.int .i64 0)]))], some 6⟩)]) cd rfl rfl rfl rfl (by kernel_rfl) (fun j L h o ho => by have h := kh h; simp only [iV, List.not_mem_nil, or_false, Prod.mk.injEq] at h; obtain ⟨rfl, rfl⟩ := h; (· cases (show some ⟨some 6, .alloc 41, _, _, _, none⟩ = some o from ho); apply bK.of rfl; exact db (d := 6) (by decide) og oi)) (fun j L h d hd => by have h := kh h; simp only [iV, List.not_mem_nil, or_false, Prod.mk.injEq] at h; obtain ⟨rfl, rfl⟩ := h; (· cases (show some _ = some d from hd); exact cJ.of_ rfl)) ?_
 refine dX 0 ?_ (x := (gH (qs := [sl .v _, val _]) (by decide) cF (fun h => nomatch h) (by exact nl rfl) (by exact (aA (aq ao.nil))) (by exact (ab.cons (bor_sl _) (ab.cons (bor_val _) ab.nil)))))
 refine dX 0 ?_ (x := (gY (.inl rfl) (by decide) (by exact Cp.ptr)))
 refine dX 0 ?_ (x := (gH (qs := [sl .v _, val _]) (by decide) cF (fun h => nomatch h) (by exact nl rfl) (by exact (aA (aq ao.nil))) (by exact (ab.cons (bor_sl _) (ab.cons (bor_val _) ab.nil)))))
 refine dX 6 ?_ (x := (bR (bx := 0) (qs := [(true, [sl _ _, val _])]) (as_ := [(true, [sl .v _, val _])]) (by decide) KX rfl (by exact (aI (by exact tI) tI)) (by exact (aI (aI rfl (aA (aq ao.nil))) tI)) (by exact (ab.cons (hbo _) (ab.cons (bor_val _) (ab.cons (bor_val _) ab.nil)))) (by exact (bV (ab.cons (bor_sl _) (ab.cons (bor_val _) ab.nil)) bH)) (by exact (Nd hbo (by assumption)))))
 refine oB (G := 2000) (qs := [(true, [sl _ _, val _]), (true, [val _, val _, sl _ _, val _, val _])]) (as_ := [(true, [sl .v _, val _]), (true, [val _, val _, sl .v _, val _, val _])]) (by decide) KW (by exact ⟨rfl, rfl, ⟨⟩⟩) (by exact (aI (by exact tI) (aI (by exact tI) tI))) (by exact (aI (aI rfl (aA (aq ao.nil))) (aI (aI rfl (aq (aq (aA (aq (aq ao.nil)))))) tI))) (by exact (LM (s := (me (mf c) k).s) (u := (eC (me (mf c) k).c (me (mf c) k).s).1) (by omega) (by omega))) (by kernel_rfl) (by kernel_rfl) fun uss hU0 => ?_
 obtain ⟨us0, r0, rfl, hl0, hR0, hU1⟩ := dY.cons hU0
 obtain ⟨u2_0_0, u2_0_1, rfl⟩ := PM hl0
 obtain rfl := eZ hR0 (j := 1) rfl rfl
 obtain ⟨us1, r1, rfl, hl1, hR1, hU2⟩ := dY.cons hU1
 obtain ⟨u2_1_0, rfl⟩ := nG hl1
 obtain rfl := eZ hR1 (j := 0) rfl rfl
 obtain rfl := dY.nil hU2
 clear hR0 hU0 hR1 hU1 hU2
 refine bv.stepC 31 (by exact ⟨rfl, ⟨⟩⟩) (by exact tI) (bK.of rfl (pv (.inl rfl) (by decide))) eo (by kernel_rfl) (by intro L' h; exact nomatch (show (none : Option ax) = some L' from h)) ?_
 refine bv.stepC 63 (by exact ⟨rfl, ⟨⟩⟩) (by exact tI) (bK.of rfl (jB (cs := [val _, val _]) (by decide) (by exact rfl) (by exact (ab.cons (bor_val _) (ab.cons (bor_val _) ab.nil))))) eo (by kernel_rfl) (by intro L' h; exact nomatch (show (none : Option ax) = some L' from h)) ?_
 refine bv.stepC 63 (by exact ⟨rfl, ⟨⟩⟩) (by exact tI) (bK.of rfl (jB (cs := [val _]) (by decide) (by exact rfl) (by exact (ab.cons (bor_val _) ab.nil)))) eo (by kernel_rfl) (by intro L' h; exact nomatch (show (none : Option ax) = some L' from h)) ?_
 refine bv.stepC 0 (by exact tI) (by exact tI) (bK.of rfl (db (by decide) og oi)) (pB (cJ.wr (cJ.app (cJ.app (cJ.app (cJ.app (cJ.of_ rfl) rfl) rfl) rfl) rfl) rfl)) (by kernel_rfl) (by intro L' h; exact Option.some.inj (show some _ = some L' from h)) ?_
 refine bv.stepC 383 (by exact ⟨rfl, rfl, ⟨⟩⟩) (by exact ⟨rfl, ⟨⟩⟩) (bK.of rfl (bf (ag := true) (vs := [val _, val _]) cF (by exact tI) (by exact rfl) (by exact nl rfl))) eo (by kernel_rfl) (by intro L' h; exact nomatch (show (none : Option ax) = some L' from h)) ?_
 refine bv.stepC 1023 (by exact ⟨rfl, ⟨⟩⟩) (by exact tI) (bK.of rfl (gY (.inr rfl) (by decide) (by exact Cp.sc))) eo (by kernel_rfl) (by intro L' h; exact nomatch (show (none : Option ax) = some L' from h)) ?_
 refine Dp (d := 6) (G := 2000) (by exact rfl) (by exact (Nm.val (Nm.val Nm.nil))) (by exact rfl) ?_
 refine yl (s := 7) (G := 2001) (by exact rfl) (by exact (Nm.val Nm.nil)) rfl (by decide) (by exact rfl) ?_
 refine sO [(0, _), (2, _), (3, _), (4, _), (5, _), (6, _), (7, _), (5000, _)] [(0, _), (2, _), (3, _), (6, (41, [sl _ _, val _]))] ?_
 refine bi ?_
 refine oD ?_
 refine sO [(0, _), (2, _), (3, _), (4, _), (5, _), (6, _), (7, _), (5000, _)] [(0, _), (2, _), (3, (41, [sl _ _, val _])), (6, (41, [sl _ _, val _]))] ?_
 refine ku ?_
 refine rm ?_
 refine nx (k + 1) (by omega) (e := (by exact aI (by exact bA (by omega)) tI))
 have hend : k = (oq c).toNat := by omega
 refine gM ?_
 refine sO [(0, _), (2, _), (3, _), (4, _), (5, _), (5000, _)] [(0, (176, [sl o _, val _, val _])), (2, (41, [sl _ _, val _])), (3, (41, [sl _ _, val _]))] ?_
 refine bi ?_
 refine oD ?_
 refine dc ?_
 exact ⟨(by unfold br; rw [← hend]; exact rfl), rfl, (bj 2 (bj _ (aI (by exact rfl) (aI (by refine dW ?_; unfold br; rw [← hend]; exact rfl) (aI cF (aI (fun h => nomatch h) tI))))))⟩
def Xw {p1 p2 : Fl} {s : Store}  (hs : bL s = true) : aN prog 209 [(true, [sl .v (s.ZE.map (aO p1 p2)), val (vI s.Now)])] (aF [(true, [sl bQ ((mX s).Store.ZE.map (aO be ae)), val (vI (mX s).Store.Now), val (vI (mX s).ZJ), sl ae ((mX s).Order.map an), sl dr ((mX s).ZF.map (bq aP ae ae aR ae)), sl cQ ((mX s).Done.map (bN aP ae aR ae)), sl cH ((mX s).ZR.map (bF ae ae ae)), val (vI (mX s).Steps)]), (false, [val (.bool true)])]) := by
 refine sF func209 fun h0 w0 Fz0 => ?_
 refine sn 0 0 fun hl0_0 => ?_
 have hb := rY hs
 have hbu := hb
 simp only [cq, gN, bh] at hbu
 refine kt ?_
 refine wd ?_
 refine sT [1, 2, 3] [1, 2] ?_
 refine zN ?_
 refine rA ?_ (x := nT)
 refine sc (fun hba => ?_) (fun hba => ?_)
 exact absurd hba (by simp [hs])
 refine bc ?_
 refine sS [1, 2, 3] [1, 2] ?_
 refine rA ?_ (x := lD [sl .v _, val _] cF)
 refine rA ?_ (x := cL [(true, [sl _ _, val _])] [(true, [sl .v _, val _])] Bq (hs := by exact (BM (by omega))))
 refine rA ?_ (x := bm (qs := [(false, [val _]), (false, [val _]), (false, [val _])]) (by decide) aW bX (by decide) rfl rfl rfl rfl rfl (by exact nl rfl) (by exact (aI (aJ rfl) (aI (aJ rfl) (aI (aJ rfl) tI)))) rfl)
 refine rA ?_ (x := dM (qs := [(true, [sl _ _, val _]), (false, [sl _ _])]) (cs := [sl _ _, val _, val _, sl _ _, sl _ _, sl _ _, sl _ _, val _]) (by decide) pj pn Xt (by exact rfl) (by exact (aI (by exact tI) (aI (by exact tI) tI))) rfl (by exact rfl))
 refine rA ?_ (x := bf (ag := true) (vs := [sl _ _, val _, val _, sl _ _, sl _ _, sl _ _, sl _ _, val _]) co (by exact tI) (by exact rfl) (by exact nl rfl))
 refine cC ?_
 exact (bj 2 (bj _ (aI (by exact rfl) (aI (by exact rfl) (aI co (aI (fun h => nomatch h) (aI (by exact rfl) tI)))))))
end Go.Proofs.YtmekkgdboplbjaaGreatDoor
