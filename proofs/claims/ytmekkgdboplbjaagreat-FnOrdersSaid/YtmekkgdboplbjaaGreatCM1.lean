/- What functions of the program compute. No condition. -/
import Derived.Test.YtmekkgdboplbjaaGreatCK1
import Derived.Test.YtmekkgdboplbjaaGreatCE1
import Derived.Test.YtmekkgdboplbjaaGreatCL1
set_option linter.unusedVariables false
set_option linter.unusedSimpArgs false
namespace Go.Proofs.YtmekkgdboplbjaaGreat
open Go Go.RowKit M PV
set_option maxRecDepth 10000
attribute [local irreducible] PV.Lcl PV.LclR RV.Lcl
set_option maxHeartbeats 8000000
attribute [local irreducible] aj fM
theorem T4 : cU Tryz.prog 184 = some [(0, 1), (1, 1), (2, 1), (3, 1)] := by kernel_rfl
theorem T5 : cU Tryz.prog 26 = some [(0, 1), (1, 1)] := by kernel_rfl
theorem T6 : cU Tryz.prog 32 = some [(0, 2), (2, 1), (3, 1), (4, 1), (5, 1), (6, 1), (7, 1)] := by kernel_rfl
theorem T7 : cU Tryz.prog 54 = some [(0, 1), (1, 1)] := by kernel_rfl
theorem LW : cU Tryz.prog 56 = some [(0, 1), (1, 2), (3, 1), (4, 1)] := by kernel_rfl
theorem T8 {p1 : Fl} {l : List Row}  : aw Tryz.prog 251 [(false, [sl .v (l.map (bn p1))])] (av [(false, [val (.bool (fA l))])]) := by
 refine sF Tryz.func251 fun h0 w0 Fz0 => ?_
 refine sj 0 fun hl0 => ?_
 refine o6 ?_
 refine sL [0] [] (fun k : Nat => k ≤ l.length ∧ gM mF bm mG l k = true) (fun k : Nat => [(3, RV.int (k : Int))]) (fun k : Nat => []) (fun k : Nat => l.length - k) 0 (by exact ⟨by omega, rfl⟩) (by exact aI (by exact rfl) (tI)) (by exact ⟨⟩) ?_
 rintro k ⟨hk, ha⟩
 refine bu ?_
 refine rh ?_
 refine sc (fun hba => ?_) (fun hba => ?_)
 have hlt : k < l.length := by omega
 have hgk : l.getD k mF = l[k] := cY hlt
 have hgp : 0 < k → l.getD (k - 1) mF = l[k - 1] := fun h => cY (by omega)
 refine cE ?_
 refine sP [0, 3] [] ?_
 refine md ?_
 refine Hi ?_
 refine dA 15 ?_ (x := cL [(true, [val _, sl _ _])] [(true, [val _, sl .v _])] uB (hs := by exact u6))
 refine dA 31 ?_ (x := nT)
 refine dA 63 ?_ (x := sM)
 refine dx 16 (fun ga sga => ?_) (fun ga sga => ?_)
 refine dT 127 ga ?_
 refine dT 255 ga ?_
 refine dT 511 ga ?_
 refine oW ?_
 refine rq ?_
 refine dU 16383 ?_
 refine oW ?_
 refine dU 66559 ?_
 refine dU 230399 ?_
 refine dU 492543 ?_
 refine dU 1016831 ?_
 refine dU 2097151 ?_
 refine qU ?_
 refine bC ?_
 exact EM
 refine ym ?_
 refine dB 511 ga ?_ (x := sM)
 refine dx 19 (fun gb sgb => ?_) (fun gb sgb => ?_)
 refine oK ?_
 refine dB 4095 gb ?_ (x := aD (by decide) fu (by exact ⟨⟩) (by exact rfl) (by exact aE (by omega) rfl) (by exact rfl))
 refine dB 8191 gb ?_ (x := bl (by decide) je (by exact nl rfl))
 refine dB 16383 gb ?_ (x := lE [val _] aq)
 refine oK ?_
 refine dB 66559 gb ?_ (x := er)
 refine dB 230399 gb ?_ (x := aD (k := k - 1) (by decide) fu (by exact ⟨⟩) (by omega) (by exact aE (by omega) rfl) (by exact rfl))
 refine dB 492543 gb ?_ (x := bl (by decide) je (by exact nl rfl))
 refine dB 1016831 gb ?_ (x := lE [val _] aq)
 refine xZ ?_
 refine dA 8388607 ?_ (x := ay ga)
 refine sc (fun hbb => ?_) (fun hbb => ?_)
 exact EM
 exact EN
 refine oT ?_
 refine dF 4095 gb ?_
 refine dF 8191 gb ?_
 refine dF 16383 gb ?_
 refine oT ?_
 refine dF 66559 gb ?_
 refine dF 230399 gb ?_
 refine dF 492543 gb ?_
 refine dF 1016831 gb ?_
 refine dF 2097151 gb ?_
 refine ya ?_
 refine dk ?_
 exact EN
 have hend : k = l.length := by omega
 have hall : cw mF bm mG l = true := lu ha hend
 refine ng ?_
 refine ki ?_
 refine rA ?_ (x := eR)
 refine cK ?_
 exact rb (by first | (simp_all [fA]; done) | (simp_all [fA]; rfl) | (simp_all [fA]; omega) | (simp_all [fA]; intros; omega))
theorem T9 {p1 : Fl} {rows : List Row} {n : Int}  : aw Tryz.prog 182 [(false, [sl .v (rows.map (bn p1))]), (false, [val (vI n)])] (av [(true, [sl (.own 139 1) ((nZ rows n).1.Segments.map (ax (.own 184 4) (.own 3 1))), val (vI (nZ rows n).1.Now)]), (false, [val (.bool (nZ rows n).2)])]) := by
 refine sF Tryz.func182 fun h0 w0 Fz0 => ?_
 refine sj 0 fun hl0 => ?_
 refine sR ?_
 refine xL ?_
 refine sT [0, 1, 4, 5] [4] ?_
 refine rA ?_ (x := vM false [sl .v _])
 refine rA ?_ (x := cL [(false, [sl _ _])] [(false, [sl .v _])] PI (hs := by exact T8))
 refine dI ?_
 refine cx 13 (fun ga sga => ?_) (fun ga sga => ?_)
 refine ij ?_
 refine an.cases (s := 18) rfl (fun g2 => ?_) (fun g2 => nomatch g2)
 refine qI ?_
 refine bC ?_
 exact xb
 refine rB ga ?_ (x := sM)
 refine qA ?_
 refine gJ ?_
 refine cx 18 (fun gb sgb => ?_) (fun gb sgb => ?_)
 refine oQ ?_
 refine bC ?_
 exact xb
 refine rB gb ?_ (x := vM false [sl .v _])
 refine rB gb ?_ (x := lN fu)
 refine rB gb ?_ (x := sM)
 refine rB gb ?_ (x := Mw (by decide) (by exact ⟨⟩) (aY rfl) (by have h1_ : fA rows = true ∧ aB n 1 8 = true := (by first | (simp_all; done) | exact ⟨by simp_all, by simp_all⟩); have h2_ := h1_.2; simp only [aB, Bool.and_eq_true, decide_eq_true_eq] at h2_; unfold kb; omega))
 refine rB gb ?_ (x := dD)
 refine rA ?_ (x := ay gb)
 refine sc (fun hba => ?_) (fun hba => ?_)
 exact xb
 have hok : jZ rows n = true := by unfold jZ; first | (simp_all; done) | (simp_all; omega)
 obtain ⟨har, hn18, hl4⟩ := Ag hok
 have hn0 : 0 < n.toNat := by omega
 have hr32 := Sr har
 have hnn : (n.toNat : Int) = n := by omega
 refine aN ?_
 refine Hf ?_
 refine lf ?_
 refine dH ?_
 refine sO [(0, _), (1, _), (4, _), (5, _), (6, _)] [(4, _), (6, (26, [sl _ _, val _]))] ?_
 refine oX ?_
 refine sP [0, 1, 4, 5, 6, 7] [4, 6] ?_
 refine sL [0, 1, 4, 5, 6] [4] (fun k : Nat => k ≤ n.toNat) (fun k : Nat => [(7, RV.int (k : Int))]) (fun k : Nat => [(6, (26, [sl (.own 139 1) ((js rows n.toNat k).map (ax (.own 184 4) (.own 3 1))), val (vI 0)]))]) (fun k : Nat => n.toNat - k) 0 (by omega) (by exact aI (by exact rfl) (tI)) (by exact aI (by exact rfl) (tI)) ?_
 rintro k hk
 have hsl := Aj (rows := rows) (n := n.toNat) (k := k)
 refine bu ?_
 refine rM ?_
 refine rA ?_ (x := cb)
 refine sc (fun hbb => ?_) (fun hbb => ?_)
 have hlt : k < n.toNat := by omega
 refine aT ?_
 refine sT [0, 1, 4, 5, 6, 7] [4, 6] ?_
 refine mZ ?_
 refine aJ ?_
 refine sS [0, 1, 4, 5, 6, 7, 8] [4, 6] ?_
 refine rM ?_
 refine rS ?_
 refine iE ?_
 refine sP [0, 1, 4, 5, 6, 7, 8, 9] [4, 6] ?_
 refine sL [0, 1, 4, 5, 6, 7] [4, 6] (fun j : Nat => j ≤ kO rows.length n.toNat k) (fun j : Nat => [(8, RV.slc (.own 184 4) ((kN rows n.toNat k j).map (dO (.own 3 1)))), (9, RV.int ((k + j * n.toNat : Nat) : Int))]) (fun j : Nat => []) (fun j : Nat => kO rows.length n.toNat k - j) 0 (by omega) (by exact aI (by exact rfl) (aI (by exact bf (by omega)) (tI))) (by exact ⟨⟩) ?_
 rintro j hj
 have htl := Ai (rows := rows) (n := n.toNat) (i := k) (k := j)
 have hj4 : j ≤ 4 := by have h_ := Li (i := k) hn0 (rows := rows) (by omega); unfold kP at h_; rw [Ai] at h_; omega
 refine bu ?_
 refine rh ?_
 refine sc (fun hbc => ?_) (fun hbc => ?_)
 have hlt2 : k + j * n.toNat < rows.length := by omega
 have hv3 : rows[k + j * n.toNat].Values.length = 3 := (vD.1 (Lg har hlt2)).2.1
 have hjs : j < kO rows.length n.toNat k := (r8 hn0 (by omega)).1 hlt2
 refine aT ?_
 refine sQ [0, 1, 4, 5, 6, 7, 8, 9] [4, 6] ?_
 refine nc ?_
 refine dG ?_
 refine dA 6 ?_ (x := aD (k := k + j * n.toNat) (by decide) fu (by exact ⟨⟩) (by rfl) (by exact aE hlt2 rfl) (by exact rfl))
 refine dA 14 ?_ (x := bl (by decide) je (by exact nl rfl))
 refine dA 30 ?_ (x := lE [val _] aq)
 refine dA 0 ?_ (x := bd (qs := []) (by decide) a3 ce (by decide) rfl rfl rfl rfl rfl (by exact nl rfl) (by exact ⟨⟩) rfl)
 refine dG ?_
 refine dA 384 ?_ (x := aD (k := k + j * n.toNat) (by decide) fu (by exact ⟨⟩) (by rfl) (by exact aE hlt2 rfl) (by exact rfl))
 refine dA 896 ?_ (x := bl (by decide) ip (by exact nl rfl))
 refine dA 1920 ?_ (x := lE [sl .v _] aZ)
 refine dA 4032 ?_ (x := gp (by decide) a3 ce rfl rfl (by decide) (by first | (intro cs hcs; obtain ⟨x, _, rfl⟩ := List.mem_map.1 hcs; exact rfl) | simp) (by first | (intro cs hcs; obtain ⟨x, _, rfl⟩ := List.mem_map.1 hcs; exact (ae.cons (bor_val _) ae.nil)) | simp) (by simp only [List.length_map, List.length_append, List.length_cons, List.length_nil]; omega) (by simp only [List.length_map, List.length_append, List.length_cons, List.length_nil]; omega))
 refine dA 8190 ?_ (x := cv (qs := [(false, [val _]), (false, [sl _ _]), (false, [val _])]) (cs := [val _, sl _ _, val _, val _]) (by decide) eV mp T4 (by exact rfl) (by exact (aI (by exact ⟨⟩) (aI (by exact ⟨⟩) (aI (aY rfl) tI)))) rfl (by exact rfl))
 refine dA 16382 ?_ (x := bd (qs := [(true, [val _, sl _ _, val _, val _])]) (by decide) bT eV (by decide) rfl rfl rfl rfl rfl (by exact nl rfl) (by exact (aI (by exact ⟨⟩) tI)) rfl)
 refine dA 32767 ?_ (x := c8 (by decide) bT eV rfl rfl (by decide) rfl (by simp only [List.length_map, List.length_append, List.length_cons, List.length_nil]; omega) (by simp only [List.length_map, List.length_append, List.length_cons, List.length_nil]; omega))
 refine dA 65535 ?_ (x := tA)
 refine sG [0, 1, 4, 5, 6, 7, 8, 9] [4, 6] ?_
 refine rM ?_
 refine bF ?_
 refine nx (j + 1) (by omega) (e := (by exact aI (by exact bg (by rw [Sp, List.map_append, ← cX hlt2]; rfl)) (aI (by exact bf (by rw [Nat.succ_mul]; omega)) (tI))))
 have hend2 : j = kO rows.length n.toNat k := by
  by_cases hkl : k ≤ rows.length
  ·have h_ := r8 (k := j) hn0 hkl; omega
  ·have h_ := Ah (n := n.toNat) hn0 (show rows.length ≤ k by omega); omega
 refine aX ?_
 refine sH [0, 1, 4, 5, 6, 7, 8, 9] [4, 6] ?_
 refine Gp ?_
 refine rA ?_ (x := tM)
 refine FE ?_
 refine HI ?_
 refine sO [(0, _), (1, _), (4, _), (5, _), (6, _), (7, _), (9, _)] [(4, _), (6, (26, [sl _ _, val _]))] ?_
 refine nr ?_
 refine nx (k + 1) (by omega) (e := (by exact aI (by exact bf (by omega)) (tI))) (f := (by exact aI (by rw [Sq, List.map_append]; unfold kP; rw [← hend2]; exact rfl) (tI)))
 have hend : k = n.toNat := by omega
 subst hend
 refine aX ?_
 refine sT [0, 1, 4, 5, 6, 7] [4, 6] ?_
 refine l5 ?_
 refine bD ?_
 exact (Exists.intro 4 (Exists.intro _ (aI (by exact rfl) (aI (by refine cW ?_; rw [Af hok]; exact rfl) (aI cq (aI (fun h => nomatch h) (aI (by refine fD ?_; rw [Af hok]) tI)))))))
theorem LX {o : Fl} {c : aC} (hbo : ∀ es, (sl o es).Bor) {p1 p2 : Fl} {s : Store}  (hs : bA s = true) : fE Tryz.prog 185 192 (cO o c) (cO o (dy c s).2) [(true, [sl .v (s.Segments.map (ax p1 p2)), val (vI s.Now)])] (av [(true, [val (vI (dy c s).1.Kind), val (vI (dy c s).1.Row.Id), sl (.own 3 1) ((dy c s).1.Row.Values.map ai), val (vI (dy c s).1.Field), val (vI (dy c s).1.Value)])]) := by
 refine gG (rs := [(true, [val (vI (dy c s).1.Kind), val (vI (dy c s).1.Row.Id), sl (.own 3 1) ((dy c s).1.Row.Values.map ai), val (vI (dy c s).1.Field), val (vI (dy c s).1.Value)])]) Tryz.func185 rfl (nl rfl) (nl rfl) ?_
 intro g_ h0 w0 Fz0
 refine sn 1 0 fun hl1_0 => ?_
 have hsw := vE hs
 have hal := mq s
 have hb11 := di c 12
 have hb12 := dw c (n := 12) (by decide)
 have hb21 := di (aj c 12).2 4
 have hb22 := dw (aj c 12).2 (n := 4) (by decide)
 have hbs := hsw
 simp only [cc, fa, aV] at hbs
 refine iJ ?_
 refine rX ?_ (x := (bB (by decide) yO yQ))
 refine aJ ?_
 refine sO [(0, _), (3, _), (4, _), (5000, _)] [(0, (192, [sl o _, val _, val _])), (3, (26, [sl _ _, val _])), (4, (56, [val _, val _, sl _ _, val _, val _]))] ?_
 refine aM ?_
 refine Hq ?_
 refine rA ?_ (x := tA)
 refine sS [0, 3, 4, 5, 5000] [0, 3, 4] ?_
 refine ic ?_
 refine ig ?_
 refine sS [0, 3, 4, 5, 6, 5000] [0, 3, 4] ?_
 refine i3 ?_
 refine rm ?_
 refine cx 15 (fun ga sga => ?_) (fun ga sga => ?_)
 refine rB ga ?_ (x := cM Cp.ptr)
 refine rB ga ?_ (x := c9 (bx := 0) (qs := [(false, [val _])]) (as_ := [(false, [val _])]) (by decide) ze rfl (by exact (aI (aY rfl) tI)) (by exact (aI (aI rfl (ab.cons (PV.To.refl _) ab.nil)) tI)) (by exact (ae.cons (hbo _) (ae.cons (bor_val _) (ae.cons (bor_val _) ae.nil)))) (by exact (cI (ae.cons (bor_val _) ae.nil) cr)) (by exact (Ar hbo (by omega))))
 refine rB ga ?_ (x := nT)
 refine rA ?_ (x := aA ga)
 refine sc (fun hba => ?_) (fun hba => ?_)
 have hl0 : ¬ (aS s).length = 0 := by first | omega | (simp_all; omega)
 have ho0 : ¬ (aj (aj c 12).2 4).1 = 0 := by first | (simpa using hba) | (simp_all; done)
 have hge := di (aj (aj c 12).2 4).2 (aS s).length
 have hlt_ := dw (aj (aj c 12).2 4).2 (n := (aS s).length) (by omega)
 have hu := Sw hl0 ho0; have huk : bV c s = aj (aj (aj (aj c 12).2 4).2 (aS s).length).2 3 := (by unfold bV; rw [hu]); have hk1 := di (bV c s).2 20; have hk2 := dw (bV c s).2 (n := 20) (by decide)
 refine sG [0, 3, 4, 5, 6, 5000] [0, 3, 4] ?_
 refine rA ?_ (x := vM false [sl .v _])
 refine rA ?_ (x := cM Cp.ptr)
 refine i3 ?_
 refine rA ?_ (x := c9 (bx := 0) (qs := [(false, [val _])]) (as_ := [(false, [val _])]) (by decide) lM rfl (by exact (aI (by exact ⟨⟩) tI)) (by exact (aI (aI rfl (ab.cons (PV.To.refl _) ab.nil)) tI)) (by exact (ae.cons (hbo _) (ae.cons (bor_val _) (ae.cons (bor_val _) ae.nil)))) (by exact (cI (ae.cons (bor_val _) ae.nil) cr)) (by exact (lU hbo (by omega))))
 refine rA ?_ (x := aD (k := (aj (aj (aj c 12).2 4).2 (aS s).length).1.toNat) (by decide) bT (by exact ⟨⟩) (by omega) (by exact aE (by omega) (by rw [cX (d := v0) (by omega)])) (by exact rfl))
 refine Ic ?_
 refine rS ?_
 exact ER
 have ho1 : (aj (aj c 12).2 4).1 = 0 := (by first | (simpa using hba) | (simp_all; done)); have hl0 : ¬ (aS s).length = 0 := (by first | omega | (simp_all; omega)); have hu := Sv hl0 ho1; have huk : bV c s = aj (aj (aj c 12).2 4).2 3 := (by unfold bV; rw [hu]); have hk1 := di (bV c s).2 20; have hk2 := dw (bV c s).2 (n := 20) (by decide)
 refine aN ?_
 exact ER
 have hl0 : (aS s).length = 0 := (by first | (simp at ga; omega) | (simp at ga; simp_all; done)); have hu := Su (c := c) hl0; have huk : bV c s = aj (aj c 12).2 3 := (by unfold bV; rw [hu]); have hk1 := di (bV c s).2 20; have hk2 := dw (bV c s).2 (n := 20) (by decide)
 have sga := ga
 try simp only [qq] at sga
 refine jJ ?_
 refine dE ?_
 refine sS [0, 3, 4, 5, 6, 5000] [0, 3, 4] ?_
 refine ic ?_
 refine iE ?_
 refine t4 ?_
 refine sc (fun hba => ?_) (fun hba => ?_)
 have h0_ : (bV c s).1 = 0 := by rw [huk]; first | exact hba | simpa using hba
 exact EO
 have h0_ : ¬ (bV c s).1 = 0 := by rw [huk]; first | exact hba | simpa using hba
 refine t4 ?_
 refine sc (fun hbb => ?_) (fun hbb => ?_)
 have h1_ : (bV c s).1 = 1 := by rw [huk]; first | exact hbb | simpa using hbb
 exact EP
 have h1_ : ¬ (bV c s).1 = 1 := by rw [huk]; first | exact hbb | simpa using hbb
 exact EQ
theorem Ua {o : Fl} {c : aC} (hbo : ∀ es, (sl o es).Bor)  : fE Tryz.prog 80 192 (cO o c) (cO o (gD c).c) [] (av [(true, [sl (.own 139 1) ((gD c).s.Segments.map (ax (.own 184 4) (.own 3 1))), val (vI (gD c).s.Now)])]) := by
 refine gG (rs := [(true, [sl (.own 139 1) ((gD c).s.Segments.map (ax (.own 184 4) (.own 3 1))), val (vI (gD c).s.Now)])]) Tryz.func80 rfl (nl rfl) (nl rfl) ?_
 intro g_ h0 w0 Fz0
 have hrw := R5 c (most := 7) (by decide)
 have hN1 : 0 ≤ lT c := di _ _
 have hN2 : lT c < 6 := dw _ (by decide)
 have hb11 := di (jY c 7).2 3
 have hb12 := dw (jY c 7).2 (n := 3) (by decide)
 refine sR ?_
 refine rX ?_ (x := (bB (by decide) lz lA))
 refine aJ ?_
 refine sO [(0, _), (2, _), (5000, _)] [(0, (192, [sl o _, val _, val _])), (2, (26, [sl _ _, val _]))] ?_
 refine jE ?_
 refine rA ?_ (x := c9 (bx := 0) (qs := [(false, [val _])]) (as_ := [(false, [val _])]) (by decide) Pp rfl (by exact (aI (aY rfl) tI)) (by exact (aI (aI rfl (ab.cons (PV.To.refl _) ab.nil)) tI)) (by exact (ae.cons (hbo _) (ae.cons (bor_val _) (ae.cons (bor_val _) ae.nil)))) (by exact (cI (ae.cons (bor_val _) ae.nil) cr)) (by exact (Th hbo (by omega))))
 refine ic ?_
 refine rA ?_ (x := gI)
 refine rA ?_ (x := cL [(false, [sl _ _]), (false, [val _])] [(false, [sl .v _]), (false, [val _])] Po (hs := by exact (T9 (rows := (jt c).1) (n := 2 + (aj (jt c).2 3).1))))
 refine rA ?_ (x := tM)
 refine tm ?_
 refine lf ?_
 refine rS ?_
 refine dH ?_
 refine sO [(0, _), (2, _), (3, _), (4, _), (5000, _)] [(0, _), (2, _), (3, (26, [sl _ _, val _]))] ?_
 refine aM ?_
 refine ic ?_
 refine rS ?_
 refine iE ?_
 refine sP [0, 2, 3, 4, 5, 5000] [0, 2, 3] ?_
 refine sL [0, 2, 3, 4, 5000] [2] (fun k : Nat => (k : Int) ≤ lT c) (fun k : Nat => [(5, RV.int (lT c - (k : Int)))]) (fun k : Nat => [(0, (192, cO o (j0 (j2 c) k).c)), (3, (26, [sl (.own 139 1) ((j0 (j2 c) k).s.Segments.map (ax (.own 184 4) (.own 3 1))), val (vI (j0 (j2 c) k).s.Now)]))]) (fun k : Nat => (lT c - (k : Int)).toNat) 0 (by omega) (by exact aI (by exact bf (by first | omega | (show lT c = _; omega))) (tI)) (by exact aI (by exact rfl) (aI (by exact rfl) (tI))) ?_
 rintro k hk
 have hso := Al (x := j2 c) (Lo c) k
 have hsw := vE hso
 have huw := Lm (j0 (j2 c) k).c (j0 (j2 c) k).s
 refine uw ?_
 refine sc (fun hba => ?_) (fun hba => ?_)
 have hlt : (k : Int) < lT c := by omega
 refine cE ?_
 refine sO [(0, _), (2, _), (3, _), (4, _), (5, _), (5000, _)] [(0, (192, [sl o _, val _, val _])), (2, (26, [sl _ _, val _])), (3, (26, [sl _ _, val _]))] ?_
 refine om (c := 4) (AI := [(8, ⟨[], [], [(6, some (RV.ptr 6 0))], [(6, some (26, [sl (.own 139 1) [], val (.int .i64 0)]))], some 6⟩)]) bP rfl rfl rfl rfl (by kernel_rfl) (fun j L h o ho => by have h := fQ h; simp only [List.mem_cons, List.not_mem_nil, or_false, Prod.mk.injEq] at h; obtain ⟨rfl, rfl⟩ := h; (· cases (show some ⟨some 6, .alloc 26, _, _, _, none⟩ = some o from ho); apply be.of rfl; exact bB (d := 6) (by decide) lz lA)) (fun j L h d hd => by have h := fQ h; simp only [List.mem_cons, List.not_mem_nil, or_false, Prod.mk.injEq] at h; obtain ⟨rfl, rfl⟩ := h; (· cases (show some _ = some d from hd); exact bO.of_ rfl)) ?_
 refine dX 0 ?_ (x := (eH (qs := [sl .v _, val _]) (by decide) cq (fun h => nomatch h) (by exact nl rfl) (by exact (ab.cons PV.to_none (ab.cons (PV.To.refl _) ab.nil))) (by exact (ae.cons (bor_sl _) (ae.cons (bor_val _) ae.nil)))))
 refine dX 0 ?_ (x := (eG (.inl rfl) (by decide) (by exact Cp.ptr)))
 refine dX 0 ?_ (x := (eH (qs := [sl .v _, val _]) (by decide) cq (fun h => nomatch h) (by exact nl rfl) (by exact (ab.cons PV.to_none (ab.cons (PV.To.refl _) ab.nil))) (by exact (ae.cons (bor_sl _) (ae.cons (bor_val _) ae.nil)))))
 refine dX 6 ?_ (x := (c9 (bx := 0) (qs := [(true, [sl _ _, val _])]) (as_ := [(true, [sl .v _, val _])]) (by decide) JK rfl (by exact (aI (by exact ⟨⟩) tI)) (by exact (aI (aI rfl (ab.cons PV.to_none (ab.cons (PV.To.refl _) ab.nil))) tI)) (by exact (ae.cons (hbo _) (ae.cons (bor_val _) (ae.cons (bor_val _) ae.nil)))) (by exact (cI (ae.cons (bor_sl _) (ae.cons (bor_val _) ae.nil)) cr)) (by exact (LX hbo (by assumption)))))
 refine jy (G := 2000) (qs := [(true, [sl _ _, val _]), (true, [val _, val _, sl _ _, val _, val _])]) (as_ := [(true, [sl .v _, val _]), (true, [val _, val _, sl .v _, val _, val _])]) (by decide) JJ (by exact ⟨rfl, rfl, ⟨⟩⟩) (by exact (aI (by exact ⟨⟩) (aI (by exact ⟨⟩) tI))) (by exact (aI (aI rfl (ab.cons PV.to_none (ab.cons (PV.To.refl _) ab.nil))) (aI (aI rfl (ab.cons (PV.To.refl _) (ab.cons (PV.To.refl _) (ab.cons PV.to_none (ab.cons (PV.To.refl _) (ab.cons (PV.To.refl _) ab.nil)))))) tI))) (by exact (LA (s := (j0 (j2 c) k).s) (u := (dy (j0 (j2 c) k).c (j0 (j2 c) k).s).1) (by omega) (by omega))) (by kernel_rfl) (by kernel_rfl) fun uss hU0 => ?_
 obtain ⟨us0, r0, rfl, hl0, hR0, hU1⟩ := ct.cons hU0
 obtain ⟨u2_0_0, u2_0_1, rfl⟩ := Io hl0
 obtain rfl := dc hR0 (j := 1) rfl rfl
 obtain ⟨us1, r1, rfl, hl1, hR1, hU2⟩ := ct.cons hU1
 obtain ⟨u2_1_0, rfl⟩ := i9 hl1
 obtain rfl := dc hR1 (j := 0) rfl rfl
 obtain rfl := ct.nil hU2
 clear hR0 hU0 hR1 hU1 hU2
 refine a4.stepC 31 (by exact ⟨rfl, ⟨⟩⟩) (by exact ⟨⟩) (be.of rfl (mH (.inl rfl) (by decide))) cV (by kernel_rfl) (by intro L' h; exact nomatch (show (none : Option ar) = some L' from h)) ?_
 refine a4.stepC 63 (by exact ⟨rfl, ⟨⟩⟩) (by exact ⟨⟩) (be.of rfl (gF (cs := [val _, val _]) (by decide) (by exact rfl) (by exact (ae.cons (bor_val _) (ae.cons (bor_val _) ae.nil))))) cV (by kernel_rfl) (by intro L' h; exact nomatch (show (none : Option ar) = some L' from h)) ?_
 refine a4.stepC 63 (by exact ⟨rfl, ⟨⟩⟩) (by exact ⟨⟩) (be.of rfl (gF (cs := [val _]) (by decide) (by exact rfl) (by exact (ae.cons (bor_val _) ae.nil)))) cV (by kernel_rfl) (by intro L' h; exact nomatch (show (none : Option ar) = some L' from h)) ?_
 refine a4.stepC 0 (by exact ⟨⟩) (by exact ⟨⟩) (be.of rfl (bB (by decide) lz lA)) (kW (bO.wr (bO.app (bO.app (bO.app (bO.app (bO.of_ rfl) rfl) rfl) rfl) rfl) rfl)) (by kernel_rfl) (by intro L' h; exact Option.some.inj (show some _ = some L' from h)) ?_
 refine a4.stepC 383 (by exact ⟨rfl, rfl, ⟨⟩⟩) (by exact ⟨rfl, ⟨⟩⟩) (be.of rfl (aQ (ag := true) (vs := [val _, val _]) cq (by exact ⟨⟩) (by exact rfl) (by exact nl rfl))) cV (by kernel_rfl) (by intro L' h; exact nomatch (show (none : Option ar) = some L' from h)) ?_
 refine a4.stepC 1023 (by exact ⟨rfl, ⟨⟩⟩) (by exact ⟨⟩) (be.of rfl (eG (.inr rfl) (by decide) (by exact Cp.sc))) cV (by kernel_rfl) (by intro L' h; exact nomatch (show (none : Option ar) = some L' from h)) ?_
 refine sE (d := 6) (G := 2000) (by exact rfl) (by exact (Nm.val (Nm.val Nm.nil))) (by exact rfl) ?_
 refine oj (s := 7) (G := 2001) (by exact rfl) (by exact (Nm.val Nm.nil)) rfl (by decide) (by exact rfl) ?_
 refine sO [(0, _), (2, _), (3, _), (4, _), (5, _), (6, _), (7, _), (5000, _)] [(0, _), (2, _), (3, _), (6, (26, [sl _ _, val _]))] ?_
 refine aM ?_
 refine l5 ?_
 refine sO [(0, _), (2, _), (3, _), (4, _), (5, _), (6, _), (7, _), (5000, _)] [(0, _), (2, _), (3, (26, [sl _ _, val _])), (6, (26, [sl _ _, val _]))] ?_
 refine iL ?_
 refine rA ?_ (x := er)
 exact Ek
 have hend : k = (lT c).toNat := by omega
 refine et ?_
 refine sO [(0, _), (2, _), (3, _), (4, _), (5, _), (5000, _)] [(0, (192, [sl o _, val _, val _])), (2, (26, [sl _ _, val _])), (3, (26, [sl _ _, val _]))] ?_
 refine aM ?_
 refine l5 ?_
 refine bY ?_
 exact ⟨(by unfold gD; rw [← hend]; exact rfl), rfl, (Exists.intro 2 (Exists.intro _ (aI (by exact rfl) (aI (by refine cW ?_; unfold gD; rw [← hend]; exact rfl) (aI cq (aI (fun h => nomatch h) tI))))))⟩
theorem Ub {p1 p2 : Fl} {s : Store}  (hs : bA s = true) : aw Tryz.prog 79 [(true, [sl .v (s.Segments.map (ax p1 p2)), val (vI s.Now)])] (av [(true, [sl (.own 139 1) ((kR s).Store.Segments.map (ax (.own 184 4) (.own 3 1))), val (vI (kR s).Store.Now), val (vI (kR s).Cursor), sl (.own 3 1) ((kR s).Order.map ai), sl (.own 108 10) ((kR s).Active.map (aG (.own 178 3) (.own 3 1) (.own 3 1) (.own 54 2) (.own 3 1))), sl (.own 63 7) ((kR s).Done.map (aP (.own 178 3) (.own 3 1) (.own 54 2) (.own 3 1))), sl (.own 70 5) ((kR s).Ledger.map (aR (.own 3 1) (.own 3 1) (.own 3 1))), val (vI (kR s).Steps)]), (false, [val (.bool true)])]) := by
 refine sF Tryz.func79 fun h0 w0 Fz0 => ?_
 refine sn 0 0 fun hl0_0 => ?_
 have hb := vE hs
 have hbu := hb
 simp only [cc, fa, aV] at hbu
 refine iJ ?_
 refine tQ ?_
 refine sT [1, 2, 3] [1, 2] ?_
 refine rA ?_ (x := lD [sl .v _, val _] cq)
 refine rA ?_ (x := cL [(true, [sl _ _, val _])] [(true, [sl .v _, val _])] zi (hs := by exact zu (by omega)))
 refine rA ?_ (x := nT)
 refine sc (fun hba => ?_) (fun hba => ?_)
 exact absurd hba (by simp [hs])
 refine aN ?_
 refine sS [1, 2, 3] [1, 2] ?_
 refine rA ?_ (x := lD [sl .v _, val _] cq)
 refine rA ?_ (x := cL [(true, [sl _ _, val _])] [(true, [sl .v _, val _])] y8 (hs := by exact (zy (by omega))))
 refine rA ?_ (x := bd (qs := [(false, [val _]), (false, [val _]), (false, [val _])]) (by decide) a3 ce (by decide) rfl rfl rfl rfl rfl (by exact nl rfl) (by exact (aI (aY rfl) (aI (aY rfl) (aI (aY rfl) tI)))) rfl)
 refine rA ?_ (x := cv (qs := [(true, [sl _ _, val _]), (false, [sl _ _])]) (cs := [sl _ _, val _, val _, sl _ _, sl _ _, sl _ _, sl _ _, val _]) (by decide) jf jg T6 (by exact rfl) (by exact (aI (by exact ⟨⟩) (aI (by exact ⟨⟩) tI))) rfl (by exact rfl))
 refine rA ?_ (x := aQ (ag := true) (vs := [sl _ _, val _, val _, sl _ _, sl _ _, sl _ _, sl _ _, val _]) a7 (by exact ⟨⟩) (by exact rfl) (by exact nl rfl))
 refine rK ?_
 exact xc
end Go.Proofs.YtmekkgdboplbjaaGreat
