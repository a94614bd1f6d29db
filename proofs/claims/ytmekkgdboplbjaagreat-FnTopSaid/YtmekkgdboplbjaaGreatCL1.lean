/- What functions of the program compute. No condition. -/
import Derived.Test.YtmekkgdboplbjaaGreatCK1
import Derived.Test.YtmekkgdboplbjaaGreatCC1
import Derived.Test.YtmekkgdboplbjaaGreatCJ0
set_option linter.all false
namespace Go.Proofs.YtmekkgdboplbjaaGreat
open Go Go.RowKit M PV Tryz
set_option maxRecDepth 10000
attribute [local irreducible] PV.Lcl PV.LclR RV.Lcl
set_option maxHeartbeats 8000000
attribute [local irreducible] au jc
def aed : dY prog 184 = some [(0, 1), (1, 1), (2, 1), (3, 1)] := by kernel_rfl
def aee : dY prog 26 = some [(0, 1), (1, 1)] := by kernel_rfl
def aef : dY prog 32 = some [(0, 2), (2, 1), (3, 1), (4, 1), (5, 1), (6, 1), (7, 1)] := by kernel_rfl
def aeg : dY prog 54 = some [(0, 1), (1, 1)] := by kernel_rfl
def Ui : dY prog 56 = some [(0, 1), (1, 2), (3, 1), (4, 1)] := by kernel_rfl
def GR : dY prog 58 = some [(0, 1), (1, 4), (5, 1), (6, 1), (7, 5), (12, 1)] := by kernel_rfl
def aeh {p1 : Fl} {l : List Row}  : aN prog 251 [(false, [sl .v (l.map (bI p1))])] (aJ [(false, [val (.bool (io l))])]) := by
 refine sF func251 fun h0 w0 Fz0 => ?_
 refine sj 0 fun hl0 => ?_
 refine tE ?_
 refine sL [0] [] (fun k : Nat => k ≤ l.length ∧ jV pY cf pZ l k = true) (fun k : Nat => [(3, RV.int (k : Int))]) (fun k : Nat => []) (fun k : Nat => l.length - k) 0 (by exact ⟨by omega, rfl⟩) (by exact aI (by exact rfl) tI) (by exact tI) ?_
 rintro k ⟨hk, ha⟩
 refine qV ?_
 refine sc ?_ ?_ <;> intro hba
 have hlt : k < l.length := by omega
 have hgk : l.getD k pY = l[k] := eO hlt
 have hgp : 0 < k → l.getD (k - 1) pY = l[k - 1] := fun h => eO (by omega)
 refine dh ?_
 refine sP [0, 3] [] ?_
 refine pu ?_
 refine OE ?_
 refine dA 15 ?_ (x := cL [(true, [val _, sl _ _])] [(true, [val _, sl .v _])] wu (hs := by exact wG))
 refine dA 31 ?_ (x := nT)
 refine dA 63 ?_ (x := sM)
 refine dx 16 (fun ga sga => ?_) (fun ga sga => ?_)
 refine dT 127 ga ?_
 refine dT 255 ga ?_
 refine dT 511 ga ?_
 refine tv ?_
 refine wk ?_
 refine dU 16383 ?_
 refine tv ?_
 refine dU 66559 ?_
 refine dU 230399 ?_
 refine dU 492543 ?_
 refine dU 1016831 ?_
 refine dU 2097151 ?_
 refine yR ?_
 refine cv ?_
 exact Ma
 refine DU ?_
 refine dB 511 ga ?_ (x := sM)
 refine dx 19 (fun gb sgb => ?_) (fun gb sgb => ?_)
 refine sN ?_
 refine dB 4095 gb ?_ (x := aU (by decide) fD (by exact tI) (by exact rfl) (by exact aW (by omega) rfl) (by exact rfl))
 refine dB 8191 gb ?_ (x := cd (by decide) jZ (by exact nl rfl))
 refine dB 16383 gb ?_ (x := lE [val _] az)
 refine sN ?_
 refine dB 66559 gb ?_ (x := fI)
 refine dB 230399 gb ?_ (x := aU (k := k - 1) (by decide) fD (by exact tI) (by omega) (by exact aW (by omega) rfl) (by exact rfl))
 refine dB 492543 gb ?_ (x := cd (by decide) jZ (by exact nl rfl))
 refine dB 1016831 gb ?_ (x := lE [val _] az)
 refine Dz ?_
 refine dA 8388607 ?_ (x := aF ga)
 refine sc ?_ ?_ <;> intro hbb
 exact Ma
 exact Mb
 refine tf ?_
 refine dF 4095 gb ?_
 refine dF 8191 gb ?_
 refine dF 16383 gb ?_
 refine tf ?_
 refine dF 66559 gb ?_
 refine dF 230399 gb ?_
 refine dF 492543 gb ?_
 refine dF 1016831 gb ?_
 refine dF 2097151 gb ?_
 refine DG ?_
 refine eX ?_
 exact Mb
 have hend : k = l.length := by omega
 have hall : dG pY cf pZ l = true := pH ha hend
 refine qQ ?_
 refine oi ?_
 refine rA ?_ (x := ix)
 refine db ?_
 exact rb (by first | (simp_all [io]; done) | (simp_all [io]; rfl) | (simp_all [io]; omega) | (simp_all [io]; intros; omega))
def aei {p1 : Fl} {rows : List Row} {n : Int}  : aN prog 182 [(false, [sl .v (rows.map (bI p1))]), (false, [val (vI n)])] (aJ [(true, [sl bz ((rI rows n).1.aey.map (aG aV ab)), val (vI (rI rows n).1.Now)]), (false, [val (.bool (rI rows n).2)])]) := by
 refine sF func182 fun h0 w0 Fz0 => ?_
 refine sj 0 fun hl0 => ?_
 refine sR ?_
 refine Dk ?_
 refine sT [0, 1, 4, 5] [4] ?_
 refine rA ?_ (x := vM false [sl .v _])
 refine rA ?_ (x := cL [(false, [sl _ _])] [(false, [sl .v _])] YO (hs := by exact aeh))
 refine fz ?_
 refine cx 13 (fun ga sga => ?_) (fun ga sga => ?_)
 refine jq ?_
 refine aq.cases (s := 18) rfl (fun g2 => ?_) (fun g2 => nomatch g2)
 refine vq ?_
 refine cv ?_
 exact Cq
 refine rB ga ?_ (x := sM)
 refine yt ?_
 refine rM ?_
 refine cx 18 (fun gb sgb => ?_) (fun gb sgb => ?_)
 refine vY ?_
 refine cv ?_
 exact Cq
 refine rB gb ?_ (x := vM false [sl .v _])
 refine rB gb ?_ (x := lN fD)
 refine rB gb ?_ (x := sM)
 refine rB gb ?_ (x := xj (by decide) (by exact tI) (bM rfl) (by have h1_ : io rows = true ∧ aK n 1 8 = true := (by first | (simp_all; done) | exact ⟨by simp_all, by simp_all⟩); have h2_ := h1_.2; simp only [aK, aS, decide_eq_true_eq] at h2_; unfold jI; omega))
 refine rB gb ?_ (x := dI)
 refine rA ?_ (x := aF gb)
 refine sc ?_ ?_ <;> intro hba
 exact Cq
 have hok : mR rows n = true := by unfold mR; first | (simp_all; done) | (simp_all; omega)
 obtain ⟨har, hn18, hl4⟩ := Ga hok
 have hn0 : 0 < n.toNat := by omega
 have hr32 := aaX har
 have hnn : (n.toNat : Int) = n := by omega
 refine bb ?_
 refine OB ?_
 refine mw ?_
 refine dJ ?_
 refine sO [(0, _), (1, _), (4, _), (5, _), (6, _)] [(4, _), (6, (26, [sl _ _, val _]))] ?_
 refine bd ?_
 refine ca ?_
 refine sP [0, 1, 4, 5, 6, 7] [4, 6] ?_
 refine sL [0, 1, 4, 5, 6] [4] (fun k : Nat => k ≤ n.toNat) (fun k : Nat => [(7, RV.int (k : Int))]) (fun k : Nat => [(6, (26, [sl bz ((mh rows n.toNat k).map (aG aV ab)), val (vI 0)]))]) (fun k : Nat => n.toNat - k) 0 (by omega) (by exact aI (by exact rfl) tI) (by exact aI (by exact rfl) tI) ?_
 rintro k hk
 have hsl := Gd (rows := rows) (n := n.toNat) (k := k)
 refine tG ?_
 refine sc ?_ ?_ <;> intro hbb
 have hlt : k < n.toNat := by omega
 refine bi ?_
 refine sT [0, 1, 4, 5, 6, 7] [4, 6] ?_
 refine tx ?_
 refine sS [0, 1, 4, 5, 6, 7, 8] [4, 6] ?_
 refine rM ?_
 refine tC ?_
 refine sP [0, 1, 4, 5, 6, 7, 8, 9] [4, 6] ?_
 refine sL [0, 1, 4, 5, 6, 7] [4, 6] (fun j : Nat => j ≤ nH rows.length n.toNat k) (fun j : Nat => [(8, RV.slc aV ((nG rows n.toNat k j).map (eN ab))), (9, RV.int ((k + j * n.toNat : Nat) : Int))]) (fun j : Nat => []) (fun j : Nat => nH rows.length n.toNat k - j) 0 (by omega) (by exact aI (by exact rfl) (aI (by exact bk (by omega)) tI)) (by exact tI) ?_
 rintro j hj
 have htl := Gc (rows := rows) (n := n.toNat) (i := k) (k := j)
 have hj4 : j ≤ 4 := by have h_ := Sr (i := k) hn0 (rows := rows) (by omega); unfold nI at h_; rw [Gc] at h_; omega
 refine qV ?_
 refine sc ?_ ?_ <;> intro hbc
 have hlt2 : k + j * n.toNat < rows.length := by omega
 have hv3 : rows[k + j * n.toNat].Values.length = 3 := (AA.1 (Sp har hlt2)).2.1
 have hjs : j < nH rows.length n.toNat k := (wL hn0 (by omega)).1 hlt2
 refine bi ?_
 refine sQ [0, 1, 4, 5, 6, 7, 8, 9] [4, 6] ?_
 refine ta ?_
 refine eY ?_
 refine dA 6 ?_ (x := aU (k := k + j * n.toNat) (by decide) fD (by exact tI) (by rfl) (by exact aW hlt2 rfl) (by exact rfl))
 refine dA 14 ?_ (x := cd (by decide) jZ (by exact nl rfl))
 refine OG ?_
 refine eY ?_
 refine dA 384 ?_ (x := aU (k := k + j * n.toNat) (by decide) fD (by exact tI) (by rfl) (by exact aW hlt2 rfl) (by exact rfl))
 refine dA 896 ?_ (x := cd (by decide) jv (by exact nl rfl))
 refine MJ ?_
 refine dA 8190 ?_ (x := dp (qs := [(false, [val _]), (false, [sl _ _]), (false, [val _])]) (cs := [val _, sl _ _, val _, val _]) (by decide) fE ny aed (by exact rfl) (by exact (aI (by exact tI) (aI (by exact tI) (aI (bM rfl) tI)))) rfl (by exact rfl))
 refine dA 16382 ?_ (x := bP (qs := [(true, [val _, sl _ _, val _, val _])]) (by decide) cy fE (by decide) rfl rfl rfl rfl rfl (by exact nl rfl) (by exact (aI (by exact tI) tI)) rfl)
 refine dA 32767 ?_ (x := en (by decide) cy fE rfl rfl (by decide) rfl (by simp only [aw, aM, List.length_cons, List.length_nil]; omega) (by simp only [aw, aM, List.length_cons, List.length_nil]; omega))
 refine dA 65535 ?_ (x := tA)
 refine sG [0, 1, 4, 5, 6, 7, 8, 9] [4, 6] ?_
 refine rM ?_
 refine cb ?_
 refine nx (j + 1) (by omega) (e := (by exact aI (by exact bG (by rw [aaV, bj, ← df hlt2]; rfl)) (aI (by exact bk (by rw [Nat.succ_mul]; omega)) tI)))
 have hend2 : j = nH rows.length n.toNat k := by
  by_cases hkl : k ≤ rows.length
  ·have h_ := wL (k := j) hn0 hkl; omega
  ·have h_ := Gb (n := n.toNat) hn0 (show rows.length ≤ k by omega); omega
 refine bq ?_
 refine sH [0, 1, 4, 5, 6, 7, 8, 9] [4, 6] ?_
 refine NA ?_
 refine rA ?_ (x := tM)
 refine MS ?_
 refine Pi ?_
 refine sO [(0, _), (1, _), (4, _), (5, _), (6, _), (7, _), (9, _)] [(4, _), (6, (26, [sl _ _, val _]))] ?_
 refine pE ?_
 refine nx (k + 1) (by omega) (e := (by exact aI (by exact bk (by omega)) tI)) (f := (by exact aI (by rw [aaW, bj]; unfold nI; rw [← hend2]; exact rfl) tI))
 have hend : k = n.toNat := by omega
 subst hend
 refine bq ?_
 refine sT [0, 1, 4, 5, 6, 7] [4, 6] ?_
 refine tJ ?_
 exact (bw 4 (bw _ (aI (by exact rfl) (aI (by refine dZ ?_; rw [FZ hok]; exact rfl) (aI cW (aI (fun h => nomatch h) (aI (by refine fS ?_; rw [FZ hok]) tI)))))))
def Uj {o : Fl} {c : ba} (hbo : ∀ es, (sl o es).Bor) {p1 p2 : Fl} {s : Store}  (hs : bQ s = true) : iO prog 185 192 (ez o c) (ez o (fG c s).2) [(true, [sl .v (s.aey.map (aG p1 p2)), val (vI s.Now)])] (aJ [(true, [val (vI (fG c s).1.Kind), val (vI (fG c s).1.Row.Id), sl ab ((fG c s).1.Row.Values.map am), val (vI (fG c s).1.Field), val (vI (fG c s).1.Value)])]) := by
 refine kC (rs := [(true, [val (vI (fG c s).1.Kind), val (vI (fG c s).1.Row.Id), sl ab ((fG c s).1.Row.Values.map am), val (vI (fG c s).1.Field), val (vI (fG c s).1.Value)])]) func185 rfl (nl rfl) (nl rfl) ?_
 intro g_ h0 w0 Fz0
 refine sn 1 0 fun hl1_0 => ?_
 have hsw := rL hs
 have hal := pS s
 have hb11 := dS c 12
 have hb12 := eA c (n := 12) (by decide)
 have hb21 := dS (au c 12).2 4
 have hb22 := eA (au c 12).2 (n := 4) (by decide)
 have hbs := hsw
 simp only [cB, fW, bf] at hbs
 refine jo ?_
 refine rX ?_ (x := (cr (by decide) zI zJ))
 refine be ?_
 refine sO [(0, _), (3, _), (4, _), (5000, _)] [(0, (192, [sl o _, val _, val _])), (3, (26, [sl _ _, val _])), (4, (56, [val _, val _, sl _ _, val _, val _]))] ?_
 refine bd ?_
 refine Da ?_
 refine rA ?_ (x := tA)
 refine sS [0, 3, 4, 5, 5000] [0, 3, 4] ?_
 refine iT ?_
 refine hZ ?_
 refine sS [0, 3, 4, 5, 6, 5000] [0, 3, 4] ?_
 refine pp ?_
 refine rA ?_ (x := dI)
 refine rM ?_
 refine cx 15 (fun ga sga => ?_) (fun ga sga => ?_)
 refine rB ga ?_ (x := cM Cp.ptr)
 refine rB ga ?_ (x := hO (bx := 0) (qs := [(false, [val _])]) (as_ := [(false, [val _])]) (by decide) Ry rfl (by exact (aI (bM rfl) tI)) (by exact (aI (aI rfl (ak ao.nil)) tI)) (by exact (aj.cons (hbo _) (aj.cons (bor_val _) (aj.cons (bor_val _) aj.nil)))) (by exact (gR (aj.cons (bor_val _) aj.nil) gr)) (by exact (Ug hbo (by omega))))
 refine rB ga ?_ (x := nT)
 refine rA ?_ (x := aO ga)
 refine sc ?_ ?_ <;> intro hba
 have hl0 : ¬ (bg s).length = 0 := by first | omega | (simp_all; omega)
 have ho0 : ¬ (au (au c 12).2 4).1 = 0 := by first | (simpa using hba) | (simp_all; done)
 have hge := dS (au (au c 12).2 4).2 (bg s).length
 have hlt_ := eA (au (au c 12).2 4).2 (n := (bg s).length) (by omega)
 have hu := aa1 hl0 ho0; have huk : cI c s = au (au (au (au c 12).2 4).2 (bg s).length).2 3 := (by unfold cI; rw [hu]); have hk1 := dS (cI c s).2 20; have hk2 := eA (cI c s).2 (n := 20) (by decide)
 refine sG [0, 3, 4, 5, 6, 5000] [0, 3, 4] ?_
 refine rA ?_ (x := vM false [sl .v _])
 refine rA ?_ (x := cM Cp.ptr)
 refine pp ?_
 refine rA ?_ (x := hO (bx := 0) (qs := [(false, [val _])]) (as_ := [(false, [val _])]) (by decide) wF rfl (by exact (aI (by exact tI) tI)) (by exact (aI (aI rfl (ak ao.nil)) tI)) (by exact (aj.cons (hbo _) (aj.cons (bor_val _) (aj.cons (bor_val _) aj.nil)))) (by exact (gR (aj.cons (bor_val _) aj.nil) gr)) (by exact (xb hbo (by omega))))
 refine rA ?_ (x := aU (k := (au (au (au c 12).2 4).2 (bg s).length).1.toNat) (by decide) cy (by exact tI) (by omega) (by exact aW (by omega) (by rw [df (d := v0) (by omega)])) (by exact rfl))
 refine PS ?_
 refine rS ?_
 exact Mf
 have ho1 : (au (au c 12).2 4).1 = 0 := (by first | (simpa using hba) | (simp_all; done)); have hl0 : ¬ (bg s).length = 0 := (by first | omega | (simp_all; omega)); have hu := aa0 hl0 ho1; have huk : cI c s = au (au (au c 12).2 4).2 3 := (by unfold cI; rw [hu]); have hk1 := dS (cI c s).2 20; have hk2 := eA (cI c s).2 (n := 20) (by decide)
 refine bb ?_
 exact Mf
 have hl0 : (bg s).length = 0 := (by first | (simp at ga; omega) | (simp at ga; simp_all; done)); have hu := aaZ (c := c) hl0; have huk : cI c s = au (au c 12).2 3 := (by unfold cI; rw [hu]); have hk1 := dS (cI c s).2 20; have hk2 := eA (cI c s).2 (n := 20) (by decide)
 have sga := ga
 try simp only [qq] at sga
 refine mD ?_
 refine eG ?_
 refine sS [0, 3, 4, 5, 6, 5000] [0, 3, 4] ?_
 refine iT ?_
 refine mp ?_
 refine yO ?_
 refine sc ?_ ?_ <;> intro hba
 have h0_ : (cI c s).1 = 0 := by rw [huk]; first | exact hba | simpa using hba
 exact Mc
 have h0_ : ¬ (cI c s).1 = 0 := by rw [huk]; first | exact hba | simpa using hba
 refine yO ?_
 refine sc ?_ ?_ <;> intro hbb
 have h1_ : (cI c s).1 = 1 := by rw [huk]; first | exact hbb | simpa using hbb
 exact Md
 have h1_ : ¬ (cI c s).1 = 1 := by rw [huk]; first | exact hbb | simpa using hbb
 exact Me
def aej {o : Fl} {c : ba} (hbo : ∀ es, (sl o es).Bor)  : iO prog 80 192 (ez o c) (ez o (jC c).c) [] (aJ [(true, [sl bz ((jC c).s.aey.map (aG aV ab)), val (vI (jC c).s.Now)])]) := by
 refine kC (rs := [(true, [sl bz ((jC c).s.aey.map (aG aV ab)), val (vI (jC c).s.Now)])]) func80 rfl (nl rfl) (nl rfl) ?_
 intro g_ h0 w0 Fz0
 have hrw := aaO c (most := 7) (by decide)
 have hN1 : 0 ≤ oY c := dS _ _
 have hN2 : oY c < 6 := eA _ (by decide)
 have hb11 := dS (mQ c 7).2 3
 have hb12 := eA (mQ c 7).2 (n := 3) (by decide)
 refine sR ?_
 refine rX ?_ (x := (cr (by decide) oI oJ))
 refine be ?_
 refine sO [(0, _), (2, _), (5000, _)] [(0, (192, [sl o _, val _, val _])), (2, (26, [sl _ _, val _]))] ?_
 refine qF ?_
 refine rA ?_ (x := hO (bx := 0) (qs := [(false, [val _])]) (as_ := [(false, [val _])]) (by decide) Ys rfl (by exact (aI (bM rfl) tI)) (by exact (aI (aI rfl (ak ao.nil)) tI)) (by exact (aj.cons (hbo _) (aj.cons (bor_val _) (aj.cons (bor_val _) aj.nil)))) (by exact (gR (aj.cons (bor_val _) aj.nil) gr)) (by exact (ad9 hbo (by omega))))
 refine iT ?_
 refine rA ?_ (x := jm)
 refine rA ?_ (x := cL [(false, [sl _ _]), (false, [val _])] [(false, [sl .v _]), (false, [val _])] Yr (hs := by exact (aei (rows := (mj c).1) (n := 2 + (au (mj c).2 3).1))))
 refine wj ?_
 refine mw ?_
 refine rS ?_
 refine dJ ?_
 refine sO [(0, _), (2, _), (3, _), (4, _), (5000, _)] [(0, _), (2, _), (3, (26, [sl _ _, val _]))] ?_
 refine bd ?_
 refine iT ?_
 refine tC ?_
 refine sP [0, 2, 3, 4, 5, 5000] [0, 2, 3] ?_
 refine sL [0, 2, 3, 4, 5000] [2] (fun k : Nat => (k : Int) ≤ oY c) (fun k : Nat => [(5, RV.int (oY c - (k : Int)))]) (fun k : Nat => [(0, (192, ez o (mS (mT c) k).c)), (3, (26, [sl bz ((mS (mT c) k).s.aey.map (aG aV ab)), val (vI (mS (mT c) k).s.Now)]))]) (fun k : Nat => (oY c - (k : Int)).toNat) 0 (by omega) (by exact aI (by exact bk (by first | omega | (show oY c = _; omega))) tI) (by exact aI (by exact rfl) (aI (by exact rfl) tI)) ?_
 rintro k hk
 have hso := Gf (x := mT c) (Sy c) k
 have hsw := rL hso
 have huw := Sw (mS (mT c) k).c (mS (mT c) k).s
 refine zv ?_
 refine sc ?_ ?_ <;> intro hba
 have hlt : (k : Int) < oY c := by omega
 refine dh ?_
 refine sO [(0, _), (2, _), (3, _), (4, _), (5, _), (5000, _)] [(0, (192, [sl o _, val _, val _])), (2, (26, [sl _ _, val _])), (3, (26, [sl _ _, val _]))] ?_
 refine xz (c := 4) (AI := [(8, ⟨[], [], [(6, some (RV.ptr 6 0))], [(6, some (26, [sl bz [], val (.int .i64 0)]))], some 6⟩)]) cG rfl rfl rfl rfl (by kernel_rfl) (fun j L h o ho => by have h := hI h; simp only [iq, List.not_mem_nil, or_false, Prod.mk.injEq] at h; obtain ⟨rfl, rfl⟩ := h; (· cases (show some ⟨some 6, .alloc 26, _, _, _, none⟩ = some o from ho); apply bX.of rfl; exact cr (d := 6) (by decide) oI oJ)) (fun j L h d hd => by have h := hI h; simp only [iq, List.not_mem_nil, or_false, Prod.mk.injEq] at h; obtain ⟨rfl, rfl⟩ := h; (· cases (show some _ = some d from hd); exact cu.of_ rfl)) ?_
 refine dX 0 ?_ (x := (gp (qs := [sl .v _, val _]) (by decide) cW (fun h => nomatch h) (by exact nl rfl) (by exact (aB (ak ao.nil))) (by exact (aj.cons (bor_sl _) (aj.cons (bor_val _) aj.nil)))))
 refine dX 0 ?_ (x := (iL (.inl rfl) (by decide) (by exact Cp.ptr)))
 refine dX 0 ?_ (x := (gp (qs := [sl .v _, val _]) (by decide) cW (fun h => nomatch h) (by exact nl rfl) (by exact (aB (ak ao.nil))) (by exact (aj.cons (bor_sl _) (aj.cons (bor_val _) aj.nil)))))
 refine dX 6 ?_ (x := (hO (bx := 0) (qs := [(true, [sl _ _, val _])]) (as_ := [(true, [sl .v _, val _])]) (by decide) Rv rfl (by exact (aI (by exact tI) tI)) (by exact (aI (aI rfl (aB (ak ao.nil))) tI)) (by exact (aj.cons (hbo _) (aj.cons (bor_val _) (aj.cons (bor_val _) aj.nil)))) (by exact (gR (aj.cons (bor_sl _) (aj.cons (bor_val _) aj.nil)) gr)) (by exact (Uj hbo (by assumption)))))
 refine xA (G := 2000) (qs := [(true, [sl _ _, val _]), (true, [val _, val _, sl _ _, val _, val _])]) (as_ := [(true, [sl .v _, val _]), (true, [val _, val _, sl .v _, val _, val _])]) (by decide) Ru (by exact ⟨rfl, rfl, ⟨⟩⟩) (by exact (aI (by exact tI) (aI (by exact tI) tI))) (by exact (aI (aI rfl (aB (ak ao.nil))) (aI (aI rfl (ak (ak (aB (ak (ak ao.nil)))))) tI))) (by exact (Ub (s := (mS (mT c) k).s) (u := (fG (mS (mT c) k).c (mS (mT c) k).s).1) (by omega) (by omega))) (by kernel_rfl) (by kernel_rfl) fun uss hU0 => ?_
 obtain ⟨us0, r0, rfl, hl0, hR0, hU1⟩ := gE.cons hU0
 obtain ⟨u2_0_0, u2_0_1, rfl⟩ := PZ hl0
 obtain rfl := mr hR0 (j := 1) rfl rfl
 obtain ⟨us1, r1, rfl, hl1, hR1, hU2⟩ := gE.cons hU1
 obtain ⟨u2_1_0, rfl⟩ := wm hl1
 obtain rfl := mr hR1 (j := 0) rfl rfl
 obtain rfl := gE.nil hU2
 clear hR0 hU0 hR1 hU1 hU2
 refine bJ.stepC 31 (by exact ⟨rfl, ⟨⟩⟩) (by exact tI) (bX.of rfl (uy (.inl rfl) (by decide))) gq (by kernel_rfl) (by intro L' h; exact nomatch (show (none : Option aC) = some L' from h)) ?_
 refine bJ.stepC 63 (by exact ⟨rfl, ⟨⟩⟩) (by exact tI) (bX.of rfl (nf (cs := [val _, val _]) (by decide) (by exact rfl) (by exact (aj.cons (bor_val _) (aj.cons (bor_val _) aj.nil))))) gq (by kernel_rfl) (by intro L' h; exact nomatch (show (none : Option aC) = some L' from h)) ?_
 refine bJ.stepC 63 (by exact ⟨rfl, ⟨⟩⟩) (by exact tI) (bX.of rfl (nf (cs := [val _]) (by decide) (by exact rfl) (by exact (aj.cons (bor_val _) aj.nil)))) gq (by kernel_rfl) (by intro L' h; exact nomatch (show (none : Option aC) = some L' from h)) ?_
 refine bJ.stepC 0 (by exact tI) (by exact tI) (bX.of rfl (cr (by decide) oI oJ)) (nV (cu.wr (cu.app (cu.app (cu.app (cu.app (cu.of_ rfl) rfl) rfl) rfl) rfl) rfl)) (by kernel_rfl) (by intro L' h; exact Option.some.inj (show some _ = some L' from h)) ?_
 refine bJ.stepC 383 (by exact ⟨rfl, rfl, ⟨⟩⟩) (by exact ⟨rfl, ⟨⟩⟩) (bX.of rfl (bh (ag := true) (vs := [val _, val _]) cW (by exact tI) (by exact rfl) (by exact nl rfl))) gq (by kernel_rfl) (by intro L' h; exact nomatch (show (none : Option aC) = some L' from h)) ?_
 refine bJ.stepC 1023 (by exact ⟨rfl, ⟨⟩⟩) (by exact tI) (bX.of rfl (iL (.inr rfl) (by decide) (by exact Cp.sc))) gq (by kernel_rfl) (by intro L' h; exact nomatch (show (none : Option aC) = some L' from h)) ?_
 refine uG (d := 6) (G := 2000) (by exact rfl) (by exact (Nm.val (Nm.val Nm.nil))) (by exact rfl) ?_
 refine sd (s := 7) (G := 2001) (by exact rfl) (by exact (Nm.val Nm.nil)) rfl (by decide) (by exact rfl) ?_
 refine sO [(0, _), (2, _), (3, _), (4, _), (5, _), (6, _), (7, _), (5000, _)] [(0, _), (2, _), (3, _), (6, (26, [sl _ _, val _]))] ?_
 refine bd ?_
 refine yh ?_
 refine sO [(0, _), (2, _), (3, _), (4, _), (5, _), (6, _), (7, _), (5000, _)] [(0, _), (2, _), (3, (26, [sl _ _, val _])), (6, (26, [sl _ _, val _]))] ?_
 refine lP ?_
 refine rA ?_ (x := fI)
 exact Ck
 have hend : k = (oY c).toNat := by omega
 refine er ?_
 refine sO [(0, _), (2, _), (3, _), (4, _), (5, _), (5000, _)] [(0, (192, [sl o _, val _, val _])), (2, (26, [sl _ _, val _])), (3, (26, [sl _ _, val _]))] ?_
 refine bd ?_
 refine yh ?_
 refine cT ?_
 exact ⟨(by unfold jC; rw [← hend]; exact rfl), rfl, (bw 2 (bw _ (aI (by exact rfl) (aI (by refine dZ ?_; unfold jC; rw [← hend]; exact rfl) (aI cW (aI (fun h => nomatch h) tI))))))⟩
def aek {p1 p2 : Fl} {s : Store}  (hs : bQ s = true) : aN prog 79 [(true, [sl .v (s.aey.map (aG p1 p2)), val (vI s.Now)])] (aJ [(true, [sl bz ((nL s).Store.aey.map (aG aV ab)), val (vI (nL s).Store.Now), val (vI (nL s).aeD), sl ab ((nL s).Order.map am), sl ce ((nL s).aez.map (aT aD ab ab aE ab)), sl bT ((nL s).Done.map (bn aD ab aE ab)), sl bY ((nL s).aeL.map (bl ab ab ab)), val (vI (nL s).Steps)]), (false, [val (.bool true)])]) := by
 refine sF func79 fun h0 w0 Fz0 => ?_
 refine sn 0 0 fun hl0_0 => ?_
 have hb := rL hs
 have hbu := hb
 simp only [cB, fW, bf] at hbu
 refine jo ?_
 refine vo ?_
 refine sT [1, 2, 3] [1, 2] ?_
 refine OM ?_
 refine rA ?_ (x := nT)
 refine sc ?_ ?_ <;> intro hba
 exact absurd hba (by simp [hs])
 refine bb ?_
 refine sS [1, 2, 3] [1, 2] ?_
 refine rA ?_ (x := lD [sl .v _, val _] cW)
 refine rA ?_ (x := cL [(true, [sl _ _, val _])] [(true, [sl .v _, val _])] ET (hs := by exact (GO (by omega))))
 refine rA ?_ (x := bP (qs := [(false, [val _]), (false, [val _]), (false, [val _])]) (by decide) bC eg (by decide) rfl rfl rfl rfl rfl (by exact nl rfl) (by exact (aI (bM rfl) (aI (bM rfl) (aI (bM rfl) tI)))) rfl)
 refine rA ?_ (x := dp (qs := [(true, [sl _ _, val _]), (false, [sl _ _])]) (cs := [sl _ _, val _, val _, sl _ _, sl _ _, sl _ _, sl _ _, val _]) (by decide) kI kK aef (by exact rfl) (by exact (aI (by exact tI) (aI (by exact tI) tI))) rfl (by exact rfl))
 refine Oz ?_
 exact Mg
def ael {o : Fl} {c : ba} (hbo : ∀ es, (sl o es).Bor) {p1 p2 : Fl} {s : Store}  (hs : bQ s = true) : iO prog 186 192 (ez o c) (ez o (cZ c s).2) [(true, [sl .v (s.aey.map (aG p1 p2)), val (vI s.Now)])] (aJ [(true, [val (vI (cZ c s).1.Kind), val (vI (cZ c s).1.aeA.Id), val (vI (cZ c s).1.aeA.aeE), sl aD ((cZ c s).1.aeA.aeB.map bH), sl ab ((cZ c s).1.aeA.Out.map am), val (vI (cZ c s).1.Limit), val (vI (cZ c s).1.Id), val (vI (cZ c s).1.aeC.Kind), val (vI (cZ c s).1.aeC.Row.Id), sl ab ((cZ c s).1.aeC.Row.Values.map am), val (vI (cZ c s).1.aeC.Field), val (vI (cZ c s).1.aeC.Value), val (vI (cZ c s).1.Steps)])]) := by
 refine kC (rs := [(true, [val (vI (cZ c s).1.Kind), val (vI (cZ c s).1.aeA.Id), val (vI (cZ c s).1.aeA.aeE), sl aD ((cZ c s).1.aeA.aeB.map bH), sl ab ((cZ c s).1.aeA.Out.map am), val (vI (cZ c s).1.Limit), val (vI (cZ c s).1.Id), val (vI (cZ c s).1.aeC.Kind), val (vI (cZ c s).1.aeC.Row.Id), sl ab ((cZ c s).1.aeC.Row.Values.map am), val (vI (cZ c s).1.aeC.Field), val (vI (cZ c s).1.aeC.Value), val (vI (cZ c s).1.Steps)])]) func186 rfl (nl rfl) (nl rfl) ?_
 intro g_ h0 w0 Fz0
 refine sn 1 0 fun hl1_0 => ?_
 have hsw := rL hs
 have hbs := hsw
 simp only [cB, fW, bf] at hbs
 have hqw := Sl (au (cq c).2 6).2 (au (cq c).2 6).1
 have hb11 := dS (au c 6).2 6
 have hb12 := eA (au c 6).2 (n := 6) (by decide)
 have hb21 := dS (au c 6).2 3
 have hb22 := eA (au c 6).2 (n := 3) (by decide)
 refine jo ?_
 refine rX ?_ (x := (cr (by decide) rp zK))
 refine dJ ?_
 refine sO [(0, _), (3, _), (4, _), (5000, _)] [(0, (192, [sl o _, val _, val _])), (3, (26, [sl _ _, val _])), (4, (58, [val _, val _, val _, sl _ _, sl _ _, val _, val _, val _, val _, sl _ _, val _, val _, val _]))] ?_
 refine bd ?_
 refine iT ?_
 refine mp ?_
 refine be ?_
 refine Ea ?_
 refine sc ?_ ?_ <;> intro hba
 have hk0 : (cq c).1 = 0 ∨ (cq c).1 = 1 := .inl hba
 refine bb ?_
 exact Mk
 have hk00 := hba
 refine sG [0, 3, 4, 7, 5000] [0, 3, 4] ?_
 refine lK ?_
 exact Mk
def aem {o : Fl} {c : ba} (hbo : ∀ es, (sl o es).Bor) {p1 p2 : Fl} {s : Store} {most : Int}  (hs : bQ s = true) (hm : 0 < most ∧ most ≤ 100) : iO prog 81 192 (ez o c) (ez o (qc c s most).c) [(true, [sl .v (s.aey.map (aG p1 p2)), val (vI s.Now)]), (false, [val (vI most)])] (aJ [(false, [sl (.own 58 13) ((qc c s most).l.map (zx aD ab ab))])]) := by
 refine kC (rs := [(false, [sl (.own 58 13) ((qc c s most).l.map (zx aD ab ab))])]) func81 rfl (nl rfl) (nl rfl) ?_
 intro g_ h0 w0 Fz0
 refine sn 1 0 fun hl1_0 => ?_
 have hsw := rL hs
 have hbs := hsw
 simp only [cB, fW, bf] at hbs
 have hb1 := dS c most
 have hb2 := eA c (n := most) hm.1
 refine jo ?_
 refine rA ?_ (x := kx (.inr rfl) (by decide) (lG (t := 58) (e := 13)))
 refine be ?_
 refine sO [(0, _), (2, _), (4, _), (6, _), (5000, _)] [(0, (192, [sl o _, val _, val _])), (4, (26, [sl _ _, val _]))] ?_
 refine bd ?_
 refine rA ?_ (x := bP (qs := []) (by decide) pM rp (by decide) rfl rfl rfl rfl rfl (by exact nl rfl) (by exact tI) rfl)
 refine qI ?_
 refine sS [0, 2, 4, 6, 7, 5000] [0, 4] ?_
 refine zi ?_
 refine tC ?_
 refine sP [0, 2, 4, 6, 7, 8, 5000] [0, 4] ?_
 refine sL [0, 2, 4, 6, 5000] [4] (fun k : Nat => (k : Int) ≤ (au c most).1) (fun k : Nat => [(7, RV.slc (.own 58 13) ((kW s (au c most).2 k).l.map (zx aD ab ab))), (8, RV.int ((au c most).1 - (k : Int)))]) (fun k : Nat => [(0, (192, ez o (kW s (au c most).2 k).c))]) (fun k : Nat => ((au c most).1 - (k : Int)).toNat) 0 (by omega) (by exact aI (by exact rfl) (aI (by exact bk (by omega)) tI)) (by exact aI (by exact rfl) tI) ?_
 rintro k hk
 have hel := AM (s := s) (c := (au c most).2) k
 refine zv ?_
 refine sc ?_ ?_ <;> intro hba
 have hlt : (k : Int) < (au c most).1 := by omega
 refine bi ?_
 refine OY ?_
 refine rA ?_ (x := tM)
 refine rA ?_ (x := cM Cp.ptr)
 refine rA ?_ (x := lD [sl .v _, val _] cW)
 refine rA ?_ (x := hO (bx := 0) (qs := [(true, [sl _ _, val _])]) (as_ := [(true, [sl .v _, val _])]) (by decide) Yt rfl (by exact (aI (by exact tI) tI)) (by exact (aI (aI rfl (aB (ak ao.nil))) tI)) (by exact (aj.cons (hbo _) (aj.cons (bor_val _) (aj.cons (bor_val _) aj.nil)))) (by exact (gR (aj.cons (bor_sl _) (aj.cons (bor_val _) aj.nil)) gr)) (by exact (ael hbo (by assumption))))
 refine rA ?_ (x := bP (qs := [(true, [val _, val _, val _, sl _ _, sl _ _, val _, val _, val _, val _, sl _ _, val _, val _, val _])]) (by decide) pM rp (by decide) rfl rfl rfl rfl rfl (by exact nl rfl) (by exact (aI (by exact tI) tI)) rfl)
 refine rA ?_ (x := en (by decide) pM rp rfl rfl (by decide) rfl (by simp only [aw, aM, List.length_cons, List.length_nil]; omega) (by simp only [aw, aM, List.length_cons, List.length_nil]; omega))
 refine rA ?_ (x := tA)
 refine sG [0, 2, 4, 6, 7, 8, 5000] [0, 4] ?_
 refine rM ?_
 refine rA ?_ (x := fI)
 refine rS ?_
 refine nx (k + 1) (by omega) (e := (by exact aI (by exact bG (by rw [kW]; unfold SS; rw [bj]; rfl)) (aI (by exact bk (by omega)) tI)))
 have hend : pb c most = k := by unfold pb; omega
 refine er ?_
 refine OY ?_
 refine jQ ?_
 exact ⟨(by unfold qc; rw [hend]; exact rfl), rfl, (aI (by refine bG ?_; unfold qc; rw [hend]) tI)⟩
def aen {code : List Int}  (hb : code.length ≤ 9223372036854775807) (hb2 : code.length ≤ 4611686018427387904) : aN prog 22 [(false, [sl .v (code.map re)])] (aJ [(true, [sl bz ((aZ (ax code hb)).Store.aey.map (aG aV ab)), val (vI (aZ (ax code hb)).Store.Now), val (vI (aZ (ax code hb)).aeD), sl ab ((aZ (ax code hb)).Order.map am), sl ce ((aZ (ax code hb)).aez.map (aT aD ab ab aE ab)), sl bT ((aZ (ax code hb)).Done.map (bn aD ab aE ab)), sl bY ((aZ (ax code hb)).aeL.map (bl ab ab ab)), val (vI (aZ (ax code hb)).Steps)]), (false, [sl (.own 58 13) ((aQ (ax code hb)).map (zx aD ab ab))])]) := by
 refine sF func22 fun h0 w0 Fz0 => ?_
 refine sj 0 fun hl0 => ?_
 have hso := Gg (ax code hb)
 have hsw := rL hso
 refine sR ?_
 refine rX ?_ (x := (cr (by decide) kI kK))
 refine rA ?_ (x := kx (.inr rfl) (by decide) (lG (t := 58) (e := 13)))
 refine sT [0, 2, 3] [2] ?_
 refine rA ?_ (x := vM false [sl .v _])
 refine rX ?_ (x := (Vx (qs := [(false, [sl _ _])]) (as_ := [(false, [sl .v _])]) (by decide) Zn (by exact (aI (by exact tI) tI)) (by exact (aI (aI rfl (aB ao.nil)) tI)) (by exact (ad7 hb hb2))))
 refine rA ?_ (x := cA Cp.ptr)
 refine be ?_
 refine sO [(0, _), (2, _), (3, _), (4, _)] [(2, _), (8, (192, [sl _ _, val _, val _]))] ?_
 refine qF ?_
 refine rA ?_ (x := hO (bx := 8) (qs := []) (as_ := []) (by decide) Zp rfl (by exact tI) (by exact tI) (by exact (aj.cons (bor_sl _) (aj.cons (bor_val _) (aj.cons (bor_val _) aj.nil)))) (by exact gr) (by exact (aej (fun es => bor_sl es))))
 refine rA ?_ (x := cL [(true, [sl _ _, val _])] [(true, [sl .v _, val _])] Zo (hs := by exact (aek (s := (jC (ax code hb)).s) hso)))
 refine rA ?_ (x := tM)
 refine yk ?_
 refine ob ?_
 refine hZ ?_
 refine sO [(0, _), (2, _), (3, _), (4, _), (5, _), (6, _)] [(2, _), (5, (32, [sl _ _, val _, val _, sl _ _, sl _ _, sl _ _, sl _ _, val _])), (8, _)] ?_
 refine uN (d := 5) (G := 1005) (by exact rfl) (by exact rfl) (aB (ak (ak (aB (aB (aB (aB (ak ao.nil)))))))) (by exact lq) fun us hRN => ?_
 obtain ⟨_, _, hRN⟩ := hRN
 obtain ⟨u1_0, u1_1, u1_2, u1_3, u1_4, u1_5, u1_6, u1_7, rfl⟩ := Ej hRN.len
 clear hRN
 refine sO [(0, _), (2, _), (3, _), (4, _), (5, _), (6, _), (1005, _)] [(2, _), (5, (32, [nv _ (sl _ _), nv _ (val _), nv _ (val _), nv _ (sl _ _), nv _ (sl _ _), nv _ (sl _ _), nv _ (sl _ _), nv _ (val _)])), (8, _)] ?_
 refine da cG ?_
 refine dA 0 ?_ (x := gp (qs := [nv _ (sl .v _), nv _ (val _), nv _ (val _), nv _ (sl .v _), nv _ (sl .v _), nv _ (sl .v _), nv _ (sl .v _), nv _ (val _)]) (by decide) bU (fun h => nomatch h) (by exact nl rfl) (by exact (ak (ak (ak (ak (ak (ak (ak (ak ao.nil))))))))) (by exact lq))
 refine dA 0 ?_ (x := cM Cp.ptr)
 refine dA 0 ?_ (x := lF gG)
 refine dA 4 ?_ (x := gp (qs := [nv _ (sl .v _), nv _ (val _)]) (by decide) cW (fun h => nomatch h) (by exact nl rfl) (by exact (ak (ak ao.nil))) (by exact (aj.cons (bor_nv (bor_sl _)) (aj.cons (bor_nv (bor_val _)) aj.nil))))
 refine dA 14 ?_ (x := hO (bx := 8) (qs := [(true, [nv _ (sl _ _), nv _ (val _)]), (false, [val _])]) (as_ := [(true, [sl .v _, val _]), (false, [val _])]) (by decide) Zq rfl (by exact (aI (by exact tI) (aI (bM rfl) tI))) (by exact (aI (aI rfl (ao.cons (PV.nv_to nh) (ao.cons (PV.nv_to (la _)) ao.nil))) (aI (aI rfl (ak ao.nil)) tI))) (by exact (aj.cons (bor_sl _) (aj.cons (bor_val _) (aj.cons (bor_val _) aj.nil)))) (by exact lq) (by exact (aem (s := (jC (ax code hb)).s) (most := 14) (fun es => bor_sl es) hso (by decide))))
 refine dA 31 ?_ (x := bh (ag := true) (vs := [nv _ (sl _ _), nv _ (val _), nv _ (val _), nv _ (sl _ _), nv _ (sl _ _), nv _ (sl _ _), nv _ (sl _ _), nv _ (val _)]) bU (by exact tI) (by exact rfl) (by exact nl rfl))
 refine dA 63 ?_ (x := tA)
 refine uG (d := 2) (G := 1005) (by exact rfl) (by exact (Nm.nv (Nm.nv (Nm.nv (Nm.nv (Nm.nv (Nm.nv (Nm.nv (Nm.nv Nm.nil))))))))) (by exact rfl) ?_
 exact Mg
end Go.Proofs.YtmekkgdboplbjaaGreat
