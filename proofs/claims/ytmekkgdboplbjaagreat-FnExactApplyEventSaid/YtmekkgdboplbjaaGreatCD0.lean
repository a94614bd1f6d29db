/- Short names for what the printed proofs say often. No condition. -/
import Derived.Test.YtmekkgdboplbjaaGreatCC0
set_option linter.all false
namespace Go.Proofs.YtmekkgdboplbjaaGreat.M
open Go Go.RowKit
variable {G H : Prop}
def gT (h : G := by
 refine sS [1, 2, 4] [2] ?_
 refine cm ?_
 exact (aI (by refine bg ?_; exact (iX (by omega)).symm) tI)) : G := h
def Do (h : G := by
 have hn0 := eZ (w := b6 x.Values) (l := l) (by omega) hba
 exact gT) : G := h
def xQ (h : G := by
 have hn0 := eZ (w := ce x.Wt) (l := l) (by omega) hba
 exact gT) : G := h
def uh (h : G := by
 refine dR ?_
 exact (aI (by exact rfl) tI)) : G := h
def ml (h : G := by
 refine rA ?_ (x := tA)
 exact uh) : G := h
def Dp (h : G := by
 refine dR ?_
 exact (bj 2 (bj _ (aI (by exact rfl) (aI (by exact rfl) (aI i8 (aI (fun h => nomatch h) tI))))))) : G := h
def Dq (h : G := by
 refine ba ?_
 refine rA ?_ (x := cl (ms := [val _, val _, sl _ _, sl _ _, sl _ _]) (qs := [val _, val _, sl .v _, sl .v _, sl .v _]) (by decide) i8 (fun h => nomatch h) (by exact nl rfl) (by exact rfl) (by exact (an (an (aF (aF (aF am.nil)))))) (by exact lq))
 refine rA ?_ (x := bd (ag := true) (vs := [val _, val _, sl _ _, sl _ _, sl _ _]) i8 (by exact tI) (by exact rfl) (by exact nl rfl))
 exact Dp) : G := h
def xR (h : G := by
 refine dR ?_
 exact (bj 2 (bj _ (aI (by exact rfl) (aI (by exact rfl) (aI eS (aI (fun h => nomatch h) tI))))))) : G := h
def Dr (h : G := by
 refine dR ?_
 exact (bj 2 (bj _ (aI (by exact rfl) (aI (by exact rfl) (aI eK (aI (fun h => nomatch h) tI))))))) : G := h
def Ds (h : G := by
 refine ba ?_
 refine rA ?_ (x := cl (ms := [val _, val _, sl _ _, sl _ _]) (qs := [val _, val _, sl .v _, sl .v _]) (by decide) eK (fun h => nomatch h) (by exact nl rfl) (by exact rfl) (by exact (an (an (aF (aF am.nil))))) (by exact lq))
 refine rA ?_ (x := bd (ag := true) (vs := [val _, val _, sl _ _, sl _ _]) eK (by exact tI) (by exact rfl) (by exact nl rfl))
 exact Dr) : G := h
def Dt (h : G := by
 refine ba ?_
 refine rA ?_ (x := cl (ms := [val _, val _, sl _ _, sl _ _, val _, sl _ _, val _, val _, val _, sl _ _]) (qs := [val _, val _, sl .v _, sl .v _, val _, sl .v _, val _, val _, val _, sl .v _]) (by decide) fj (fun h => nomatch h) (by exact nl rfl) (by exact rfl) (by exact (an (an (aF (aF (an (aF (an (an (an (aF am.nil))))))))))) (by exact lq))
 refine rA ?_ (x := bd (ag := true) (vs := [val _, val _, sl _ _, sl _ _, val _, sl _ _, val _, val _, val _, sl _ _]) fj (by exact tI) (by exact rfl) (by exact nl rfl))
 refine dR ?_
 exact (bj 2 (bj _ (aI (by exact rfl) (aI (by exact rfl) (aI fj (aI (fun h => nomatch h) tI))))))) : G := h
def Du (h : G := by
 refine ba ?_
 refine rA ?_ (x := cl (ms := [val _, val _, sl _ _, sl _ _, val _, val _, sl _ _]) (qs := [val _, val _, sl .v _, sl .v _, val _, val _, sl .v _]) (by decide) lY (fun h => nomatch h) (by exact nl rfl) (by exact rfl) (by exact (an (an (aF (aF (an (an (aF am.nil)))))))) (by exact lq))
 refine rA ?_ (x := bd (ag := true) (vs := [val _, val _, sl _ _, sl _ _, val _, val _, sl _ _]) lY (by exact tI) (by exact rfl) (by exact nl rfl))
 refine dR ?_
 exact (bj 2 (bj _ (aI (by exact rfl) (aI (by exact rfl) (aI lY (aI (fun h => nomatch h) tI))))))) : G := h
def Dv (h : G := by
 refine rg ?_
 refine dR ?_
 exact (bj 2 (bj _ (aI (by exact rfl) (aI (by exact rfl) (aI bZ (aI (fun h => nomatch h) tI))))))) : G := h
def nD (h : G := by
 refine lG ?_
 exact rb (by exact (rm (fun e => by subst e; omega)).symm)) : G := h
def Dw (h : G := by
 refine nU ?_
 exact rb ((rm (I0 hlt hlt2 hne)).symm)) : G := h
def Dx (h : G := by
 refine kF ?_
 refine nx (k + 1) (by exact ⟨by omega, Al ha hlt hlt2 heq⟩)) : G := h
def Dy (h : G := by
 refine cm ?_
 exact rb (by exact (iW (NO hl (by rw [show x.length = k by omega]; exact ha))).symm)) : G := h
def mm (h : G := by
 refine ve ?_
 exact Dy) : G := h
def cd (h : G := by
 refine sS [2, 3, 4] [2, 3] ?_
 refine cm ?_
 exact rb (by exact (rm (fun e => by subst e; simp_all [ix])).symm)) : G := h
def oL (h : G := by
 refine dA 511 ?_ (x := nT)
 refine sc (fun hbc => ?_) (fun hbc => ?_)
 have hne : x[k] ≠ y[k] := by intro hxy; rw [hxy, ix] at hbc; simp at hbc
 exact Dw
 have heq : x[k] = y[k] := by exact fC.1 (by simpa using hbc)
 exact Dx) : G := h
def nE (h : G := by
 refine rA ?_ (x := cy)
 refine sc (fun hba => ?_) (fun hba => ?_)
 simp at hba
 refine bF ?_
 refine sS [0, 1, 4, 5] [] ?_
 refine lz ?_
 exact aI (by exact rfl) (bj _ (aI (.inl (by exact rfl)) (aI (by exact (Nm.nv Nm.nil)) (by exact (aA.nv aA.nil)))))) : G := h
def oM (h : G := by
 refine bF ?_
 refine sS [0, 1, 4, 5] [] ?_
 refine lz ?_
 exact aI (by exact bg (by first | rfl | rw [hend, cb])) (bj _ (aI (.inl (by exact rfl)) (aI (by exact (Nm.nv Nm.nil)) (by exact (aA.nv aA.nil)))))) : G := h
def Dz (h : G := by
 have hend : i = x.length := by omega
 refine bV (d := 999) (by exact rfl) (oE hend) ?_
 refine oD (s := 0) (D := 999) (e := 1) (by exact rfl) (by exact rfl) (by rw [ar, gw, ar]) (by intro c hc; obtain ⟨y, _, rfl⟩ := List.mem_map.1 hc; exact rfl) hjk ?_
 exact oM) : G := h
def DA (h : G := by
 refine aN (by exact ⟨rfl, ⟨⟩⟩) (by exact tI) (ax.of rfl (bc (.inr rfl) (by decide) (by exact Cp.sc))) aH ?_
 refine dg ?_
 refine s7 ?_
 exact aI (by exact rfl) (bj _ (aI (.inr (bj 2 (bj _ (by exact rfl)))) (aI (by exact (Nm.nv (Nm.nv Nm.nil))) (by exact (aA.nv (aA.nv aA.nil))))))) : G := h
def nF (h : G := by
 first | exact absurd rfl hbb | omega) : G := h
def DB (h : G := by
 refine sG [0, 1, 5] [] ?_
 refine cZ ?_
 refine nx (i + 1) (by omega) (e := (by exact aI (by exact bg (by rw [et hlt]; rfl)) (aI (by exact rfl) tI)))) : G := h
def xS (h : G := by
 refine kF ?_
 exact DB) : G := h
def nG (h : G := by
 have hend : i = x.length := by omega
 refine pu ?_
 exact (aI (by refine bg ?_; first | rfl | rw [hend, cb]) tI)) : G := h
def qu (h : G := by
 first | exact absurd rfl hbc | omega) : G := h
def r8 (h : G := by
 first | exact absurd rfl hbd | omega) : G := h
def ui (h : G := by
 first | exact absurd rfl hbe | omega) : G := h
def xT (h : G := by
 first | exact absurd rfl hbf | omega) : G := h
def r9 (h : G := by
 refine bl ?_
 exact DB) : G := h
def DC (h : G := by
 refine gU ?_
 refine rM ?_
 refine rS ?_
 exact uh) : G := h
def xU (h : G := by
 refine d5 ?_
 exact rb (by simp [aV, *])) : G := h
def DD (h : G := by
 refine sR ?_
 refine rK ?_
 refine sS [0, 1, 2, 6] [] ?_
 refine j8 ?_
 refine rA ?_ (x := hR)
 refine rM ?_
 refine cx 10 (fun ga sga => ?_) (fun ga sga => ?_)
 refine rB ga ?_ (x := sM)
 refine rB ga ?_ (x := sM)
 refine rB ga ?_ (x := ir)
 refine rA ?_ (x := aR ga)
 exact xU
 refine lu ?_
 exact xU) : G := h
def DE (h : G := by
 refine cm ?_
 exact rb ((pD (P := fun y => y == x) hlt (by simpa using ‹_ = x›)).symm)) : G := h
def DF (h : G := by
 refine nx (k + 1) (by exact ⟨by omega, pC ha ‹_› (by simpa using ‹¬ _›)⟩)) : G := h
def DG (h : G := by
 refine cm ?_
 exact rb (by exact (IZ (by rw [show xs.length = k by omega]; exact ha)).symm)) : G := h
def DH (h : G := by
 refine cm ?_
 exact rb (by simp [dt, Jk, kI (P := jn) hlt hno])) : G := h
def DI (h : G := by
 refine nx (k + 1) (by exact ⟨by omega, Ak ha hlt hyes⟩)) : G := h
def sa (h : G := by
 refine c0 ?_
 exact DI) : G := h
def xV (h : G := by
 refine d5 ?_
 exact rb (by simp [dt, Jk, hall, *])) : G := h
def DJ (h : G := by
 refine qJ ?_
 refine vn ?_
 refine rA ?_ (x := aR ga)
 exact xV) : G := h
def oN (h : G := by
 refine cZ ?_
 exact DI) : G := h
def DK (h : G := by
 refine d5 ?_
 exact rb (by simp [oj, *])) : G := h
def DL (h : G := by
 refine dA 63 ?_ (x := bd (ag := true) (vs := [val _, sl _ _]) eS (by exact tI) (by exact rfl) (by exact nl rfl))
 exact xR) : G := h
def DM (h : G := by
 refine nx (k + 1) (by omega) (e := (by exact aI (by exact cr (by rw [ti hlt, bN]; rfl)) (aI (by exact rfl) tI)))) : G := h
def sb (h : G := by
 refine mC ?_
 exact (aI (by refine cr ?_; rw [hend, cb]) tI)) : G := h
def xW (h : G := by
 refine cZ ?_
 exact DM) : G := h
def DN (h : G := by
 refine bF ?_
 refine sS [0, 2, 3, 4] [] ?_
 exact sb) : G := h
def xX (h : G := by
 have hend : k = x.length := by omega
 exact DN) : G := h
def oO (h : G := by
 refine d5 ?_
 exact rb (by first | (simp_all [j9, aV]; done) | (simp_all [j9, aV]; omega))) : G := h
def DO (h : G := by
 have hbad : ew ⟨0, 0, 0⟩ j9 lO x.Wu = false := pK hlt (Bool.eq_false_iff.2 fun hx => by
  have hx := kL.1 hx
  rw [hgk] at hx
  obtain ⟨hx1, hx2⟩ := hx
  first
  | (simp_all; done)
  | (simp only [decide_eq_true_eq, lO] at *; by_cases h0 : k = 0 <;> (try rw [hgp (by omega)] at hx2) <;> omega))
 refine sS [1, 3] [1] ?_
 refine cm ?_
 exact rb (by simp [cv, ka, hbad])) : G := h
def DP (h : G := by
 refine nx (k + 1) (by exact ⟨by omega, by rw [we, ha, Bool.true_and]; refine kL.2 ⟨by rw [hgk]; first | assumption | simp_all, ?_⟩; rcases Nat.eq_zero_or_pos k with h0 | h0; (· exact .inl h0); (· right; rw [hgk, hgp h0]; first | (simp only [decide_eq_true_eq, lO] at *; omega) | (simp_all; done))⟩)) : G := h
def DQ (h : G := by
 refine s9 ?_
 refine cZ ?_
 exact DP) : G := h
def uj (h : G := by
 refine d5 ?_
 exact rb (by first | (simp_all [cv, ka]; done) | (simp_all [cv, ka]; rfl) | (simp_all [cv, ka]; omega) | (simp_all [cv, ka]; intros; omega))) : G := h
def uk (h : G := by
 refine dR ?_
 exact rb (by first | exact hbad0.symm | (simp [cv, ka, hbad]; done) | (simp [cv, kN, hn3]; done) | (simp_all [cv, ka, kN]; done) | (simp_all [cv, ka, kN]; rfl) | (simp_all [cv, ka, kN]; omega) | (simp_all [cv, ka, kN]; intros; omega))) : G := h
def xY (h : G := by
 have hbad0 : cv x = false := by first | (simp_all [cv]; done) | (simp_all [cv]; rfl) | (simp_all [cv]; omega) | (simp_all [cv]; intros; omega)
 refine sS [1, 2] [1] ?_
 refine rK ?_
 exact uk) : G := h
def DR (h : G := by
 have hbad : ew ⟨0, 0, 0⟩ j9 lO x.Wu = false := pK hlt (Bool.eq_false_iff.2 fun hx => by
  have hx := kL.1 hx
  rw [hgk] at hx
  obtain ⟨hx1, hx2⟩ := hx
  first
  | (simp_all; done)
  | (simp only [decide_eq_true_eq, lO] at *; by_cases h0 : k = 0 <;> (try rw [hgp (by omega)] at hx2) <;> omega))
 refine sS [1, 3, 4, 24, 25, 26] [1, 4] ?_
 refine rK ?_
 exact uk) : G := h
def DS (h : G := by
 refine bl ?_
 refine sG [1, 3, 4, 24, 25, 26] [1, 4] ?_
 refine c0 ?_
 exact DP) : G := h
def xZ (h : G := by
 refine dR ?_
 exact rb (by first | (simp_all [i1, ro]; done) | (simp_all [i1, ro]; rfl) | (simp_all [i1, ro]; omega) | (simp_all [i1, ro]; intros; omega))) : G := h
def iR (h : G := by
 refine rS ?_
 exact xZ) : G := h
def x0 (h : G := by
 refine rA ?_ (x := aR gc)
 exact iR) : G := h
def zip (h : G := by
 refine rB gc ?_ (x := lF mP)
 refine u6 ?_
 exact x0) : G := h
def sd (h : G := by
 refine nL ?_
 exact iR) : G := h
def DT (h : G := by
 refine vz ?_
 refine gj ?_
 refine cx 27 (fun gc sgc => ?_) (fun gc sgc => ?_)
 exact zip
 exact sd) : G := h
def DU (h : G := by
 refine bl ?_
 refine sS [1, 2, 3, 16] [1] ?_
 refine rK ?_
 exact xZ) : G := h
def x4 (h : G := by
 refine d5 ?_
 exact rb (by first | (simp_all [ea]; done) | (simp_all [ea]; rfl) | (simp_all [ea]; omega) | (simp_all [ea]; intros; omega))) : G := h
def DV (h : G := by
 refine sn 0 1 fun hl0_1 => ?_
 refine oX ?_
 refine jj ?_
 refine zT ?_
 refine rM ?_
 refine rA ?_ (x := ir)
 refine rM ?_
 refine cx 9 (fun ga sga => ?_) (fun ga sga => ?_)
 refine rB ga ?_ (x := lF fR)
 refine nK ?_
 refine rB ga ?_ (x := sM)
 refine cx 13 (fun gb sgb => ?_) (fun gb sgb => ?_)
 refine zt gb ?_
 refine rB ga ?_ (x := aR gb)
 refine rA ?_ (x := aR ga)
 exact x4
 refine rB gb ?_ (x := lF fR)
 refine rB gb ?_ (x := lD [val _] au)
 refine Af ?_
 refine rB ga ?_ (x := aK gb)
 refine rA ?_ (x := aR ga)
 exact x4
 refine lu ?_
 exact x4) : G := h
def DW (h : G := by
 refine d5 ?_
 exact rb (by first | (simp_all [pR]; done) | (simp_all [pR]; rfl) | (simp_all [pR]; omega) | (simp_all [pR]; intros; omega))) : G := h
def qv (h : G := by
 refine d5 ?_
 exact rb (by first | (simp_all [jA]; done) | (simp_all [jA]; omega) | (rw [Bool.eq_iff_iff]; simp_all [jA]; done) | (rw [Bool.eq_iff_iff]; simp_all [jA]; omega))) : G := h
def ul (h : G := by
 refine d5 ?_
 exact rb (by first | (simp_all [ek]; done) | (simp_all [ek]; rfl) | (simp_all [ek]; omega) | (simp_all [ek]; intros; omega))) : G := h
def j5 (h : G := by
 refine cm ?_
 exact rb (hbad.symm)) : G := h
def x5 (h : G := by
 have hbad : dm s = false := by first | (simp_all [dm, l5]; done) | (simp_all [dm, l5]; omega)
 refine sS [1, 2] [1] ?_
 exact j5) : G := h
def DX (h : G := by
 refine mH ?_
 exact x5) : G := h
def DY (h : G := by
 refine nx (m + 1) (by refine ⟨by omega, ?_⟩; rw [QG, hfr, Bool.true_and]; exact hap)) : G := h
def x6 (h : G := by
 have hvo : ek s.Now s.Wr[k][j] = false := by first | (simp_all [ek, fk]; done) | (simp_all [ek, fk]; omega)
 have hbad := wl hag.1 (J6 (by rw [hag.2]; exact hvo))
 refine sS [1, 3, 5, 7, 23, 24, 25, 32, 33, 34] [1, 7] ?_
 exact j5) : G := h
def DZ (h : G := by
 have hap : jA ((cf s).getD ((c7 s k).length + j) v0) ((cf s).getD m v0) = false := by
  rw [hag.2] at hma ⊢
  by_cases hid : s.Wr[k][j].Id = ((cf s).getD m v0).Id
  ·rw [beq_iff_eq.2 hid, Bool.true_and] at hma; simp_all
  ·simp_all
 have hbad := wl hag.1 (J7 hlt3 hap)
 refine sS [1, 3, 5, 7, 9, 23, 24, 25, 32, 33, 34, 66, 67, 68] [1, 7, 9] ?_
 exact j5) : G := h
def x7 (h : G := by
 have hap : jA ((cf s).getD ((c7 s k).length + j) v0) ((cf s).getD m v0) = true := by
  rw [hag.2] at hma ⊢
  by_cases hid : s.Wr[k][j].Id = ((cf s).getD m v0).Id
  ·rw [beq_iff_eq.2 hid, Bool.true_and] at hma; simp_all
  ·rw [beq_false_of_ne hid, Bool.false_and] at hma; simpa using hma.symm
 refine bl ?_
 refine sG [1, 3, 5, 7, 9, 23, 24, 25, 32, 33, 34, 66, 67, 68] [1, 7, 9] ?_
 refine c0 ?_
 exact DY) : G := h
def D0 (h : G := by
 refine vR ?_
 refine fh ?_
 exact x7) : G := h
def D1 (h : G := by
 have hend3 : m = (c7 s k).length + j := by omega
 refine bF ?_
 refine sH [1, 3, 5, 7, 23, 24, 25, 32, 33, 34, 66, 67, 68] [1, 7] ?_
 refine rA ?_ (x := tM)
 refine rA ?_ (x := lD [val _, sl .v _, val _, val _] dO)
 refine rA ?_ (x := b9 (qs := [(true, [val _, sl _ _, val _, val _])]) (by decide) ck eT (by decide) rfl rfl rfl rfl rfl (by exact nl rfl) (by exact (aI (by exact tI) tI)) rfl)
 refine yA ?_
 refine sG [1, 3, 5, 7, 23, 24, 25, 32, 33, 34, 66, 67, 68] [1, 7] ?_
 refine c0 ?_
 refine nx (j + 1) (by refine ⟨by omega, ?_⟩; rw [← Nat.add_assoc, J5, hg, Bool.true_and]; unfold l4; rw [hag.2, hvo, Bool.true_and, ← hend3]; rw [hend3] at hfr ⊢; exact hfr) (e := (by exact aI (by exact cr (by rw [cn hlt2]; simp only [bN, br]; rfl)) (aI (by exact rfl) tI)))) : G := h
def um (h : G := by
 refine cm ?_
 exact rb (by exact (Ou hlt (Bool.eq_false_iff.2 fun hx => by have hx := wd.1 hx; rw [hgk] at hx; (try simp only [aV, Bool.and_eq_false_iff, decide_eq_false_iff_not] at *); omega)).symm)) : G := h
def D2 (h : G := by
 refine dc ?_
 refine sS [0, 3, 4, 5, 6, 7] [] ?_
 exact um) : G := h
def D3 (h : G := by
 refine nx (k + 1) (by exact ⟨by omega, by rw [Ot, ha, Bool.true_and]; exact wd.2 (by rw [hgk]; (try simp only [aV, bn, decide_eq_true_eq] at *); omega)⟩)) : G := h
def D4 (h : G := by
 refine bl ?_
 refine sG [0, 3, 4, 5, 6, 7] [] ?_
 refine c0 ?_
 exact D3) : G := h
def D5 (h : G := by
 refine cm ?_
 exact rb (by subst hend; exact ha.symm)) : G := h
def D6 (h : G := by
 refine qW ?_
 refine cZ ?_
 exact D3) : G := h
def D7 (h : G := by
 refine sG [0, 1, 4, 5, 6] [] ?_
 refine cZ ?_
 refine nx (k + 1) (by exact ⟨by omega, fun _ => hok2⟩) (e := (by exact aI (by exact cr (by rw [ti hlt, eU, bN]; simp [hc, ak])) (aI (by exact rfl) tI)))) : G := h
def x8 (h : G := by
 have hfin : (k = a.length ∧ (du a && du b) = true) ∨ (k = 0 ∧ (a.length = 0 ∨ (du a && du b) = false)) := by
  by_cases h0k : 0 < k
  ·left
   have := ha h0k
   refine ⟨?_, this⟩
   rw [bn] at this
   by_cases hka : k = a.length
   ·exact hka
   ·have : k < a.length := by omega
    simp_all
  ·right
   refine ⟨by omega, ?_⟩
   by_cases hka : a.length = 0
   ·exact .inl hka
   ·right
    have : k < a.length := by omega
    cases h1 : du a <;> cases h2 : du b <;> simp_all
 refine bF ?_
 refine sS [0, 1, 4, 5, 6] [] ?_
 refine mC ?_
 exact (aI (by refine cr ?_; rw [Oy ha hfin]) tI)) : G := h
def x9 (h : G := by
 refine lG ?_
 exact rb (by exact (rm (fun e => by subst e; simp at *)).symm)) : G := h
def ya (h : G := by
 refine cm ?_
 exact rb (by exact (rm (I0 hlt hlt2 (by intro e; simp [e, ix] at *))).symm)) : G := h
def D8 (h : G := by
 refine nx (k + 1) (by exact ⟨by omega, Al ha hlt hlt2 (by simp_all)⟩)) : G := h
def D9 (h : G := by
 refine bF ?_
 refine sS [0, 1, 12, 13] [] ?_
 exact Dy) : G := h
def Ea (h : G := by
 refine d5 ?_
 exact rb (by rw [Bool.eq_iff_iff]; simp only [fC, Oq]; simp_all [fC])) : G := h
def Eb (h : G := by
 have hbad : ew rt cv pT l = false := pK hlt (Bool.eq_false_iff.2 fun hx => by
  have hx := kL.1 hx
  rw [hgk] at hx
  obtain ⟨hx1, hx2⟩ := hx
  first
  | (simp_all; done)
  | (simp only [decide_eq_true_eq, pT] at *; by_cases h0 : k = 0 <;> (try rw [hgp (by omega)] at hx2) <;> omega))
 refine tf ?_
 exact rb (by simp [di, hbad])) : G := h
def Ec (h : G := by
 refine qW ?_
 refine cZ ?_
 refine nx (k + 1) (by exact ⟨by omega, by rw [we, ha, Bool.true_and]; refine kL.2 ⟨by rw [hgk]; first | assumption | simp_all, ?_⟩; rcases Nat.eq_zero_or_pos k with h0 | h0; (· exact .inl h0); (· right; rw [hgk, hgp h0]; first | (simp only [decide_eq_true_eq, pT] at *; omega) | (simp_all; done))⟩)) : G := h
def Ed (h : G := by
 refine cm ?_
 exact rb (by simp [ie, kI (P := (gX f v)) hlt hno])) : G := h
def Ee (h : G := by
 have hyes : gX f v q.Wu[k] = true := by simp_all [gX]
 refine bl ?_
 refine sG [1, 2, 3, 7] [3] ?_
 exact oN) : G := h
def Ef (h : G := by
 refine cm ?_
 exact rb (by simp [ie, hall, *])) : G := h
def Eg (h : G := by
 refine sG [0, 1, 2, 6, 7, 8] [] ?_
 refine cZ ?_
 refine nx (k + 1) (by exact ⟨by omega, fun _ => hok⟩) (e := (by exact aI (by first | exact cr (by rw [QJ hlt hc, bN]; rfl) | exact cr (by rw [QK hlt hc])) (aI (by exact rfl) tI)))) : G := h
def un (h : G := by
 have hfin : (k = l.length ∧ (di l && (aV f 0 2 && aV v 0 99)) = true) ∨ (k = 0 ∧ (l.length = 0 ∨ (di l && (aV f 0 2 && aV v 0 99)) = false)) := by
  by_cases h0k : 0 < k
  ·left
   have h1 := ha h0k
   refine ⟨?_, h1⟩
   by_cases hka : k = l.length
   ·exact hka
   ·exfalso
    have hlt_ : k < l.length := by omega
    have hlt2_ : (k : Int) < (l.length : Int) := by omega
    first | omega | simp_all
  ·right
   refine ⟨by omega, ?_⟩
   by_cases hka : l.length = 0
   ·exact .inl hka
   ·right
    have hlt_ : k < l.length := by omega
    have hlt2_ : (k : Int) < (l.length : Int) := by omega
    rw [← Bool.not_eq_true]; intro hc_; simp_all
 refine bF ?_
 refine sS [0, 1, 2, 6, 7, 8] [] ?_
 refine mC ?_
 exact (aI (by refine cr ?_; rw [QL hfin]) tI)) : G := h
def Eh (h : G := by
 have hok : (di l && aV f 0 2) = false := by simp_all
 refine sS [0, 1, 4, 5] [] ?_
 refine mC ?_
 exact (aI (by refine cr ?_; unfold fS; rw [if_neg (by rw [hok]; simp)]; rfl) tI)) : G := h
def Ei (h : G := by
 refine cZ ?_
 refine nx (k + 1) (by omega) (e := (by exact aI (by first | exact cr (by rw [cW, QO hls, bN, ← hse]; exact rfl) | exact cr (by rw [cW, QN hls])) (aI (by exact rfl) tI)))) : G := h
def Ej (h : G := by
 have hls : kW (cW l f k) (fm l f (k : Int)) = false := by
  by_cases h0 : (cW l f k).length = 0
  ·simp [kW, h0]
  ·simp_all [kW]
 refine sG [0, 1, 4, 5, 6, 7, 8] [] ?_
 refine rA ?_ (x := tM)
 refine j8 ?_
 refine rA ?_ (x := tM)
 refine rA ?_ (x := eV (qs := [(false, [val _]), (false, [val _]), (false, [sl _ _])]) (cs := [val _, val _, sl _ _]) (by decide) wz Sx TZ (by exact rfl) (by exact (aI (by exact tI) (aI (by exact tI) (aI (by exact tI) tI)))) rfl (by exact rfl))
 refine rA ?_ (x := b9 (qs := [(true, [val _, val _, sl _ _])]) (by decide) ma wz (by decide) rfl rfl rfl rfl rfl (by exact nl rfl) (by exact (aI (by exact tI) tI)) rfl)
 refine rA ?_ (x := eC (by decide) ma wz rfl rfl (by decide) rfl (by simp only [ar, aU, List.length_cons, List.length_nil]; omega) (by simp only [ar, aU, List.length_cons, List.length_nil]; omega))
 refine rA ?_ (x := tA)
 refine sG [0, 1, 4, 5, 6, 8] [] ?_
 exact Ei) : G := h
def Ek (h : G := by
 refine nx (k + 1) (by exact ⟨by omega, pC ha hlt hno⟩)) : G := h
def El (h : G := by
 refine cZ ?_
 exact Ek) : G := h
def Em (h : G := by
 have hno : (aV (o.getD k 0) 0 2 && !b8 (o.take k) (o.getD k 0)) = false := by rw [← hgk]; simp_all
 refine tf ?_
 exact rb ((QX hl3 (by omega) hno).symm)) : G := h
def En (h : G := by
 have hfin : k = o.length ∨ (eL x r o k).1 = [] := by
  by_cases hka : k = o.length
  ·exact .inl hka
  ·right
   have hlt_ : k < o.length := by omega
   have hlt2_ : (k : Int) < (o.length : Int) := by omega
   first | omega | (rw [← List.length_eq_zero_iff]; first | omega | (simp_all; done))
 have hpe := QY (x := x) (r := r) hfin
 refine bF ?_
 refine sT [2, 3, 4, 6, 7, 8, 9, 10] [3, 4] ?_
 refine rA ?_ (x := tM)
 refine rM ?_
 refine rA ?_ (x := tA)
 refine d5 ?_
 exact (aI (by refine cr ?_; rw [hpe]) (aI (by refine bg ?_; rw [hpe]) tI))) : G := h
def yb (h : G := by
 have hbad : fp x = false := by first | (simp_all [fp, kZ, aV]; done) | (simp_all [fp, kZ, aV]; rfl) | (simp_all [fp, kZ, aV]; omega) | (simp_all [fp, kZ, aV]; intros; omega)
 refine sS [1, 2, 3] [1] ?_
 exact j5) : G := h
def mn (h : G := by
 refine dc ?_
 exact yb) : G := h
def Eo (h : G := by
 refine cm ?_
 exact rb ((Q5 hlt hno).symm)) : G := h
def Ep (h : G := by
 have hno : kY x k = false := by simp_all [kY]
 refine sS [1, 3, 4, 33, 34] [1] ?_
 exact Eo) : G := h
def Er (h : G := by
 refine nx (k + 1) (by exact ⟨by omega, by rw [Q4, ha, hyes]; rfl⟩)) : G := h
def Es (h : G := by
 refine d5 ?_
 exact rb (by simp_all [fp])) : G := h
def Et (h : G := by
 have hno : kY x k = false := by simp_all [kY]
 refine sS [1, 3, 4] [1] ?_
 exact Eo) : G := h
def Eu (h : G := by
 have hbad : ew 0 (l7 s.Wr.length) l8 a.WB = false := pK hlt (Bool.eq_false_iff.2 fun hx => by
  have hx := kL.1 hx
  rw [hgk] at hx
  obtain ⟨hx1, hx2⟩ := hx
  first
  | (simp_all; done)
  | (simp only [decide_eq_true_eq, l8, l7, aV, bn, Bool.and_eq_false_iff, decide_eq_false_iff_not] at *; by_cases h0 : k = 0 <;> (try rw [hgp (by omega)] at hx2) <;> omega))
 refine sS [2, 3, 5, 6, 8, 9, 10] [2, 3] ?_
 refine cm ?_
 exact rb (by simp [fq, kl, hbad])) : G := h
def Ev (h : G := by
 refine nx (k + 1) (by exact ⟨by omega, by rw [we, ha, Bool.true_and]; refine kL.2 ⟨by rw [hgk]; first | assumption | simp_all, ?_⟩; rcases Nat.eq_zero_or_pos k with h0 | h0; (· exact .inl h0); (· right; rw [hgk, hgp h0]; first | (simp only [decide_eq_true_eq, l8, l7, aV, bn, Bool.and_eq_false_iff, decide_eq_false_iff_not] at *; omega) | (simp_all; done))⟩)) : G := h
def Ew (h : G := by
 refine bl ?_
 refine sG [2, 3, 5, 6, 8, 9, 10] [2, 3] ?_
 refine c0 ?_
 exact Ev) : G := h
def oP (h : G := by
 refine d5 ?_
 exact rb (by first | (simp_all [fq, kl]; done) | (simp_all [fq, kl]; rfl) | (simp_all [fq, kl]; omega) | (simp_all [fq, kl]; intros; omega))) : G := h
def Ex (h : G := by
 have hbad : ew 0 (l7 n) l8 l = false := pK hlt (Bool.eq_false_iff.2 fun hx => by
  have hx := kL.1 hx
  rw [hgk] at hx
  obtain ⟨hx1, hx2⟩ := hx
  first
  | (simp_all; done)
  | (simp only [decide_eq_true_eq, l8, l7, aV, bn, Bool.and_eq_false_iff, decide_eq_false_iff_not] at *; by_cases h0 : k = 0 <;> (try rw [hgp (by omega)] at hx2) <;> omega))
 refine nU ?_
 exact rb (by simp [kl, hbad])) : G := h
def Ey (h : G := by
 refine kF ?_
 exact Ev) : G := h
def oQ (h : G := by
 refine d5 ?_
 exact rb (by first | (simp_all [fq]; done) | (simp_all [fq]; rfl) | (simp_all [fq]; omega) | (simp_all [fq]; intros; omega))) : G := h
def Ez (h : G := by
 have hbad := Q6 hpr
 refine sS [1, 2] [1] ?_
 exact j5) : G := h
def yc (h : G := by
 have hpr : iD e = false := by first | (simp_all [iD]; done) | (simp_all [iD]; omega) | (rw [← Bool.not_eq_true]; intro hc_; simp [iD] at hc_; simp_all; done) | (rw [← Bool.not_eq_true]; intro hc_; simp [iD] at hc_; omega)
 exact Ez) : G := h
def mo (h : G := by
 refine dc ?_
 exact yc) : G := h
def yd (h : G := by
 have hpr : iD e = false := by unfold iD; rw [hp1]; first | (simp_all; done) | (simp_all; omega)
 exact Ez) : G := h
def qw (h : G := by
 refine cm ?_
 exact rb (hbad2.symm)) : G := h
def EA (h : G := by
 have hbad : ew gH (fq e.Store) kk e.Ws = false := pK hlt (Bool.eq_false_iff.2 fun hx => by
  have hx := kL.1 hx
  rw [hgk] at hx
  obtain ⟨hx1, hx2⟩ := hx
  first
  | (simp_all; done)
  | (simp only [decide_eq_true_eq, kk] at *; by_cases h0 : k = 0 <;> (try rw [hgp (by omega)] at hx2) <;> omega))
 have hbad2 := Kj hbad
 refine sS [1, 3, 4, 53, 54, 55] [1, 4] ?_
 exact qw) : G := h
def EB (h : G := by
 refine nx (k + 1) (by exact ⟨by omega, by rw [we, ha, Bool.true_and]; refine kL.2 ⟨by rw [hgk]; first | assumption | simp_all, ?_⟩; rcases Nat.eq_zero_or_pos k with h0 | h0; (· exact .inl h0); (· right; rw [hgk, hgp h0]; first | (simp only [decide_eq_true_eq, kk] at *; omega) | (simp_all; done))⟩)) : G := h
def EC (h : G := by
 refine bl ?_
 refine sG [1, 3, 4, 53, 54, 55] [1, 4] ?_
 refine c0 ?_
 exact EB) : G := h
def uo (h : G := by
 have hno : (gp e.Store.Now) e.Done[k] = false := by first | (simp_all [gp]; done) | (simp_all [gp]; omega)
 have hbad2 := Kk (kI hlt hno)
 refine sS [1, 6, 53, 54, 55, 85, 86, 87] [1, 6] ?_
 exact qw) : G := h
def ED (h : G := by
 refine cm ?_
 exact rb ((Q7 hpr hall hfa hla).symm)) : G := h
def EE (h : G := by
 have hbad : ew gH (fq e.Store) kk e.Ws = false := pK hlt (Bool.eq_false_iff.2 fun hx => by
  have hx := kL.1 hx
  rw [hgk] at hx
  obtain ⟨hx1, hx2⟩ := hx
  first
  | (simp_all; done)
  | (simp only [decide_eq_true_eq, kk] at *; by_cases h0 : k = 0 <;> (try rw [hgp (by omega)] at hx2) <;> omega))
 have hbad2 := Kj hbad
 refine sS [1, 3] [1] ?_
 exact qw) : G := h
def EF (h : G := by
 refine s9 ?_
 refine cZ ?_
 exact EB) : G := h
def up (h : G := by
 have hno : (gp e.Store.Now) e.Done[k] = false := by first | (simp_all [gp]; done) | (simp_all [gp]; omega)
 have hbad2 := Kk (kI hlt hno)
 refine sS [1, 3, 4, 5] [1, 5] ?_
 exact qw) : G := h
def EG (h : G := by
 have hyes : gX f v q.Wu[k] = true := by simp_all [gX]
 refine bl ?_
 refine sG [1, 2, 3, 8, 10, 11, 12] [3, 8] ?_
 exact sa) : G := h
def EH (h : G := by
 refine oT ?_
 refine dR ?_
 exact (bj 2 (bj _ (aI (by exact rfl) (aI (by refine ff ?_; rw [hend, cb]; exact rfl) (aI dv (aI (fun h => nomatch h) tI))))))) : G := h
def EI (h : G := by
 refine nx (k + 1) (by omega) (f := (by exact aI (by rw [ti hlt]; simp only [bN]; exact rfl) tI))) : G := h
def uq (h : G := by
 refine eP ?_
 exact EI) : G := h
def ye (h : G := by
 refine ba ?_
 refine c0 ?_
 exact EI) : G := h
def EJ (h : G := by
 refine oR ?_
 refine dR ?_
 exact (bj 2 (bj _ (aI (by exact rfl) (aI (by refine ff ?_; rw [hend2, cb]; exact rfl) (aI bZ (aI (fun h => nomatch h) tI))))))) : G := h
def EK (h : G := by
 refine d5 ?_
 exact rb (by first | (simp_all [l9]; done) | (simp_all [l9]; rfl) | (simp_all [l9]; omega) | (simp_all [l9]; intros; omega))) : G := h
def EL (h : G := by
 have hbad : pX e i = false := by first | (simp_all [pX]; done) | (simp_all [pX]; omega)
 refine sS [1, 2, 4] [2] ?_
 exact j5) : G := h
def EM (h : G := by
 refine d5 ?_
 exact rb (by unfold pX; rw [hok.1, hok.2, ← hgd]; first | (simp_all [l9]; done) | (simp_all [l9]; omega))) : G := h
def EN (h : G := by
 refine sG [1, 2, 3, 4] [1] ?_
 refine cZ ?_
 refine nx (k + 1) (by exact ⟨by omega, fun _ => hok⟩) (e := (by exact aI (by first | exact cr (by rw [Kn hlt hc, bN]; rfl) | exact cr (by rw [Ko hlt hc])) (aI (by exact rfl) tI)))) : G := h
def EO (h : G := by
 have hc : i9 e e.Ws[k] = false := by simp_all [i9]
 refine bl ?_
 exact EN) : G := h
def EP (h : G := by
 have hfin : (k = e.Ws.length ∧ bh e = true) ∨ (k = 0 ∧ (e.Ws.length = 0 ∨ bh e = false)) := by
  by_cases h0k : 0 < k
  ·left
   have h1 := ha h0k
   refine ⟨?_, h1⟩
   by_cases hka : k = e.Ws.length
   ·exact hka
   ·exfalso
    have hlt_ : k < e.Ws.length := by omega
    have hlt2_ : (k : Int) < (e.Ws.length : Int) := by omega
    first | omega | simp_all
  ·right
   refine ⟨by omega, ?_⟩
   by_cases hka : e.Ws.length = 0
   ·exact .inl hka
   ·right
    have hlt_ : k < e.Ws.length := by omega
    have hlt2_ : (k : Int) < (e.Ws.length : Int) := by omega
    rw [← Bool.not_eq_true]; intro hc_; simp_all
 refine bF ?_
 refine sT [1, 2, 3, 4] [1] ?_
 refine mC ?_
 exact (aI (by refine cr ?_; rw [Ra hfin]) tI)) : G := h
def EQ (h : G := by
 refine sG [1, 2, 3, 5, 12, 13, 14] [1, 5] ?_
 refine c0 ?_
 refine nx (k + 1) (by omega) (e := (by exact aI (by first | exact cr (by rw [Kn hlt hc, bN]; rfl) | exact cr (by rw [Ko hlt hc])) (aI (by exact rfl) tI)))) : G := h
def ER (h : G := by
 have hc : i9 e e.Ws[k] = false := by simp_all [i9]
 refine bl ?_
 exact EQ) : G := h
def ES (h : G := by
 refine lz ?_
 exact (aI (by refine bg ?_; rw [AV hlt ha hy]) tI)) : G := h
def ET (h : G := by
 refine cm ?_
 exact (aI (by refine bg ?_; rw [Rb ha]) tI)) : G := h
def EU (h : G := by
 refine sG [1, 2, 4, 5, 6, 7, 8, 9, 11, 19, 20, 21, 27, 28, 29, 2900, 6000] [2, 4, 6, 11, 900] ?_
 refine c0 ?_
 refine nx (j + 1) (by omega) (e := (by exact aI (by first | exact cr (by rw [Ky hlj (by rw [hz3]; exact hnd), bN]; exact rfl) | exact cr (by rw [Kz hlj (by rw [hz3]; exact hnd)])) (aI (by exact bg (by omega)) tI)))) : G := h
def EV (h : G := by
 refine dA 511 ?_ (x := sA)
 refine zy ?_
 refine nx (m + 1) (by omega) (e := (by exact aI (by exact gu (by rw [Rg hlm, hg]; rfl)) (aI (by exact bg (by omega)) tI)))) : G := h
def EW (h : G := by
 refine zy ?_
 refine nx (j + 1) (by omega) (e := (by exact aI (by first | exact bg (by rw [Rk hls hlj2 hnd]) | exact bg (by rw [Rl hls hlj2 hnd]; omega)) (aI (by first | exact cr (by rw [Ky hlj (by rw [hz3]; exact hnd), bN]; exact rfl) | exact cr (by rw [Kz hlj (by rw [hz3]; exact hnd)])) (aI (by exact bg (by omega)) tI))))) : G := h
def EX (h : G := by
 refine nx (k + 1) (by omega) (e := (by exact aI (by first | exact cr (by rw [UR hlt hne, bN]; rfl) | exact cr (by rw [US hlt hne])) (aI (by exact rfl) tI)))) : G := h
def EY (h : G := by
 refine sG [0, 1, 4, 5, 7, 9, 10, 11] [] ?_
 refine c0 ?_
 exact EX) : G := h
def EZ (h : G := by
 refine sG [0, 1, 4, 5, 6] [] ?_
 refine cZ ?_
 exact EX) : G := h
def E0 (h : G := by
 refine sG [1, 2, 3, 6, 7, 9, 15, 16, 17] [3, 9] ?_
 refine c0 ?_
 refine nx (k + 1) (by omega) (e := (by exact aI (by first | exact cr (by rw [Bv hlt hv, bN]; rfl) | exact cr (by rw [LI hlt hv])) (aI (by exact rfl) tI)))) : G := h
def E3 (h : G := by
 refine nx (k + 1) (by omega) (e := (by exact aI (by exact cr (by rw [hts, bN]; rfl)) (aI (by exact rfl) tI)))) : G := h
def qx (h : G := by
 have hno : jW e q l = false := by first | (simp_all [jW]; done) | (simp_all [jW]; omega) | (rw [← Bool.not_eq_true]; intro hc_; obtain ⟨h1_, h2_, h3_, h4_, h5_⟩ := tC hc_; first | omega | (simp_all; done) | (simp_all [aV]; omega))
 refine sS [2, 3, 4, 6, 7, 8] [3, 4, 6, 8] ?_
 refine oR ?_
 refine cm ?_
 exact (bj 6 (bj _ (aI (by exact rfl) (aI (by refine ff ?_; rw [BA hno]; exact rfl) (aI bZ (aI (fun h => nomatch h) (aI (by refine gu ?_; rw [BA hno]) tI)))))))) : G := h
def E4 (h : G := by
 refine zt g4 ?_
 refine rA ?_ (x := aR g4)
 refine dc ?_
 exact qx) : G := h
def E5 (h : G := by
 refine zt g8 ?_
 refine rA ?_ (x := aR g8)
 refine dc ?_
 exact qx) : G := h
def E6 (h : G := by
 refine zt g11 ?_
 refine rA ?_ (x := aR g11)
 refine dc ?_
 exact qx) : G := h
def E7 (h : G := by
 refine zt gd ?_
 refine rA ?_ (x := aR gd)
 refine dc ?_
 exact qx) : G := h
def E8 (h : G := by
 refine nx (k + 1) (by omega) (f := (by exact aI (by rw [Vc, bN]; exact rfl) tI))) : G := h
def E9 (h : G := by
 refine sG [2, 3, 4, 6, 7, 8, 9, 11, 13, 54, 55, 67, 68, 69, 6200, 6300] [3, 4, 6, 8, 9, 13] ?_
 refine c0 ?_
 refine nx (m + 1) (by omega) (e := (by exact aI (by first | exact cr (by rw [Vd hmz hlz, bN]; rfl) | exact cr (by rw [Ve hmz hlz])) (aI (by exact bg (by omega)) tI)))) : G := h
def Fc (h : G := by
 refine rg ?_
 refine cm ?_
 exact (bj 6 (bj _ (aI (by exact rfl) (aI (by refine ff ?_; rw [LQ hok]; exact rfl) (aI bZ (aI (fun h => nomatch h) (aI (by refine gu ?_; rw [LQ hok]) tI)))))))) : G := h
def yf (h : G := by
 refine sP [2, 3, 4, 6, 7, 8, 9, 10, 11, 12, 13, 6200, 6300] [3, 4, 6, 8, 9] ?_
 refine db cJ ?_
 refine GZ ?_
 refine eE ?_
 refine dA 12 ?_ (x := aY (by decide) bI (by exact tI) (by exact rfl) (by exact be (by omega) rfl) (by exact rfl))
 refine dA 28 ?_ (x := nb (qs := [nv _ (val _), nv _ (val _), nv _ (sl .v _), nv _ (sl .v _), nv _ (val _), nv _ (sl .v _), nv _ (val _), nv _ (val _), nv _ (val _), nv _ (sl .v _)]) (by decide) fj (fun h => nomatch h) (by exact nl rfl) (by exact (an (an (an (an (an (an (an (an (an (an am.nil))))))))))) (by exact lq))
 refine dA 60 ?_ (x := b9 (qs := [(true, [nv _ (val _), nv _ (val _), nv _ (sl _ _), nv _ (sl _ _), nv _ (val _), nv _ (sl _ _), nv _ (val _), nv _ (val _), nv _ (val _), nv _ (sl _ _)])]) (by decide) bI fa (by decide) rfl rfl rfl rfl rfl (by exact nl rfl) (by exact (aI (by exact tI) tI)) rfl)
 refine dA 127 ?_ (x := eC (by decide) bI fa rfl rfl (by decide) rfl (by simp only [ar, aU, List.length_cons, List.length_nil]; omega) (by simp only [ar, aU, List.length_cons, List.length_nil]; omega))
 refine dA 255 ?_ (x := lF dN)
 refine dA 511 ?_ (x := bd (ag := false) (vs := [sl _ _]) dC (by exact tI) (by exact rfl) (by exact nl rfl))
 refine sO [(2, _), (3, _), (4, _), (6, _), (7, _), (8, _), (9, _), (10, _), (11, _), (12, _), (13, _), (6200, _), (6300, _)] [(3, _), (4, _), (6, _), (8, (32, [sl _ _, val _, val _, sl _ _, sl _ _, sl _ _, sl _ _, val _])), (9, _)] ?_
 refine eP ?_
 refine nx (m + 1) (by omega) (e := (by exact aI (by exact gu (by first | (rw [decide_eq_decide]; omega) | (rw [decide_eq_true (show (dG e.Ws q.Id) < m + 1 by omega)]; done))) (aI (by exact bg (by omega)) tI))) (f := (by exact aI (by first | (rw [Vl hmz hpm]; simp only [bN]; exact rfl) | (rw [Vk hmz hpm]; simp only [bN]; exact rfl)) tI))) : G := h
def Fe (h : G := by
 refine bV (d := 8) (by exact rfl) (show _ = [sl bo (e.Store.Wr.map (aD aS aa)), val (vI e.Store.Now), val (vI e.Ww), sl aa (e.Order.map ak), sl bS ((za.take (dG e.Ws q.Id) ++ (dE e q l, kNew) :: za.drop (dG e.Ws q.Id)).map en), sl bM (e.Done.map (aZ ay aa aB aa)), sl bP (e.WE.map (a7 aa aa aa)), val (vI e.Steps)] from by first | (rw [← Vm hpl]; first | done | exact rfl) | (rw [← Vn hpl]; simp only [bN]; exact rfl)) ?_
 refine sP [2, 3, 4, 6, 7, 8, 9, 10, 11, 12, 13, 6200, 6300] [3, 4, 6, 8, 9] ?_
 refine CZ (G := 6300) (H := 6200) (e := 10) (f := (aO ay aa aa aB aa)) (by exact rfl) (by exact rfl) (by exact rfl) ?_
 refine sP [2, 3, 4, 6, 7, 8, 9, 10, 11, 12, 13, 6300] [3, 4, 6, 8, 9] ?_
 refine xM (d := 8) (t := 108) (e := 10) (G := 6300) (A := [sl _ _, val _, val _, sl _ _]) (B := [sl _ _, sl _ _, val _]) (f := (aO ay aa aa aB aa)) (g := (fun z : Ws => [val (vI z.Wt.Id), val (vI z.Wt.Wx), sl .v (z.Wt.Wu.map bf), sl .v (z.Wt.Out.map ak), val (vI z.Time), sl .v (z.WB.map ak), val (vI z.Age), val (vI z.Sent), val (vI z.Cap), sl .v (z.Rows.map (bu aa))])) (fN := en) (ys := (za.take (dG e.Ws q.Id) ++ (dE e q l, kNew) :: za.drop (dG e.Ws q.Id))) [] (mb e q l) (by exact rfl) (by exact rfl) (fun _ _ => rfl) (fun _ => rfl) (fun _ => rfl) (LW) (LX hoe hza) ?_
 refine sO [(2, _), (3, _), (4, _), (6, _), (7, _), (8, _), (9, _), (10, _), (11, _), (12, _), (13, _)] [(3, _), (4, _), (6, _), (8, (32, [sl _ _, val _, val _, sl _ _, sl _ _, sl _ _, sl _ _, val _])), (9, _)] ?_
 exact Fc) : G := h
def yg (h : G := by
 have hno : jG e id = false := by first | (simp_all [jG]; done) | (simp_all [jG]; omega) | (rw [← Bool.not_eq_true]; intro hc_; unfold jG at hc_; simp only [bn, decide_eq_true_eq] at hc_; obtain ⟨h1_, h2_⟩ := hc_; first | omega | (simp_all; done) | (simp_all; omega))
 refine sS [1, 2, 4, 5, 6, 7] [2, 4, 6] ?_
 refine oR ?_
 refine cm ?_
 exact (bj 4 (bj _ (aI (by exact rfl) (aI (by refine ff ?_; rw [BB hno]; exact rfl) (aI bZ (aI (fun h => nomatch h) (aI (by refine gu ?_; rw [BB hno]) tI)))))))) : G := h
def Ff (h : G := by
 refine mH ?_
 exact yg) : G := h
def Fg (h : G := by
 refine dR ?_
 exact (bj 4 (bj _ (aI (by exact rfl) (aI (by refine ff ?_; rw [BC hok hf]; exact rfl) (aI bZ (aI (fun h => nomatch h) (aI (by refine gu ?_; rw [BC hok hf]) tI)))))))) : G := h
def Fh (h : G := by
 refine j8 ?_
 refine rS ?_
 refine d5 ?_
 exact (aI (by refine bg ?_; rw [hfa.1]) (aI (by refine bg ?_; rw [hfa.2]) tI))) : G := h
def Fj (h : G := by
 refine nx (j + 1) (by exact ⟨by omega, pC hc hlt2 hno2⟩) (e := (by exact aI (by exact bg (by omega)) tI))) : G := h
def Fk (h : G := by
 have hno2 : fW id s.Wr[i][j] = false := by first | (simp_all [fW]; done) | (unfold fW; simp_all)
 refine bl ?_
 refine sG [1, 2, 6, 7, 8, 9, 11, 12, 13, 18, 19, 20] [2, 9] ?_
 refine c0 ?_
 exact Fj) : G := h
def Fm (h : G := by
 refine nx (i + 1) (by exact ⟨by omega, pC ha hlt hno1⟩) (e := (by exact aI (by exact bg (by omega)) tI))) : G := h
def Fo (h : G := by
 refine rK ?_
 refine cm ?_
 exact (aI (by refine bg ?_; rw [hfn.1]) (aI (by refine bg ?_; rw [hfn.2]) tI))) : G := h
def Fq (h : G := by
 have hno2 : fW id s.Wr[i][j] = false := by first | (simp_all [fW]; done) | (unfold fW; simp_all)
 refine bl ?_
 refine sG [1, 2, 6, 7] [2] ?_
 refine cZ ?_
 exact Fj) : G := h
def Fr (h : G := by
 refine rA ?_ (x := bd (ag := true) (vs := [sl _ _, val _]) dv (by exact tI) (by exact rfl) (by exact nl rfl))
 refine cm ?_
 exact (bj 4 (bj _ (aI (by exact rfl) (aI (by refine ff ?_; rw [BI hno]; exact rfl) (aI dv (aI (fun h => nomatch h) (aI (by refine gu ?_; rw [BI hno]) tI)))))))) : G := h
def yh (h : G := by
 refine rA ?_ (x := cl (ms := [sl _ _, val _]) (qs := [sl .v _, val _]) (by decide) dv (fun h => nomatch h) (by exact nl rfl) (by exact rfl) (by exact (aF (an am.nil))) (by exact (ao.cons (bor_sl _) (ao.cons (bor_val _) ao.nil))))
 exact Fr) : G := h
def ur (h : G := by
 have hno : je s u = false := by rw [← Bool.not_eq_true]; intro hc_; obtain ⟨h1_, h2_, h3_, h4_, h5_⟩ := rF hc_; first | omega | (simp_all; done) | (simp_all; omega)
 refine sS [2, 3, 4, 5, 6] [2, 3, 4, 6] ?_
 exact yh) : G := h
def Ft (h : G := by
 refine va ?_
 refine dc ?_
 exact ur) : G := h
def Fu (h : G := by
 refine vQ ?_
 refine dc ?_
 exact ur) : G := h
def Fv (h : G := by
 refine eO ?_
 refine sP [2, 3, 4, 5, 6, 7, 8, 9] [2, 3, 4, 6] ?_
 refine Dl (s := 9) (by exact rfl) (show _ = RV.slc aa ((iH s u).map ak) from by first | (rw [hv2]; done) | (rw [hv2]; exact rfl)) ?_
 refine sG [2, 3, 4, 5, 6, 7, 8, 9] [2, 3, 4, 6] ?_
 refine nQ ?_
 refine sc (fun hbe => ?_) (fun hbe => ?_)
 have hk2 : u.Kind = 2 := by first | exact hbe | simpa using hbe
 have hok := wZ hos hou hnw hkd (.inl hk2)
 refine sS [2, 3, 4, 5, 6, 7, 8, 9] [2, 3, 4, 6] ?_
 refine oT ?_
 refine cm ?_
 exact (bj 4 (bj _ (aI (by exact rfl) (aI (by refine ff ?_; rw [tD hok hk2]; exact rfl) (aI dv (aI (fun h => nomatch h) (aI (by refine gu ?_; rw [tD hok hk2]) tI)))))))
 have hk2 : ¬ u.Kind = 2 := by first | exact hbe | simpa using hbe
 have hu0 : 0 < (c9 s u).length := by omega
 refine cO ?_
 refine aP ?_
 refine sP [2, 3, 4, 5, 6, 7, 8, 9] [2, 3, 4, 6] ?_
 refine iO (d := 6) (t := 26) (D := 910) (G := 2910) (E := 139) (e := 1) (L := (Lw w0.heap.size)) (A := []) (B := [val _]) (es := ((c9 s u)).map (aD aS aa)) (by exact rfl) (hP hu0) (by exact rfl) (by exact rfl) rfl (by exact rfl) (fun x hx => hx) (by exact lq) (by exact lq) (by exact ai.nil) (by exact lc) (ai.map fun x => (ai.cons (lcl_own (ai.map fun x => (ai.cons lcl_val (ai.cons (lcl_own (ai.map fun x => (ai.cons lcl_val ai.nil))) (ai.cons lcl_val (ai.cons lcl_val ai.nil)))))) ai.nil)) fun uu910 cp910 jk910 hlD910 hcp910 hjk910 => ?_
 rw [ar] at hlD910 hcp910 hjk910
 refine bV (d := 910) (by exact rfl) (show _ = bA (aD aS aa) ((c9 s u)) jk910 from rfl) ?_
 refine sO [(2, _), (3, _), (4, _), (5, _), (6, _), (7, _), (8, _), (9, _), (2910, _)] [(2, _), (3, _), (4, _), (6, (26, [val _, val _])), (910, (139, bA (aD aS aa) _ _))] ?_
 refine ba ?_
 refine qL ?_
 refine rA ?_ (x := CJ (G := 2910) (by decide) cV)
 refine dI ?_
 refine sP [2, 3, 4, 5, 6, 7, 8, 9, 87, 88, 89, 2910] [2, 3, 4, 6, 910] ?_
 refine sL [2, 3, 4, 6, 7, 8, 9, 87, 88, 2910] [2, 3, 4, 6, 910] (fun m : Nat => m ≤ s.Wr.length ∧ (s.Wr.take m).any gr = false) (fun m : Nat => [(89, RV.int (m : Int))]) (fun m : Nat => []) (fun m : Nat => s.Wr.length - m) 0 (by exact ⟨by omega, rfl⟩) (by exact aI (by exact rfl) tI) (by exact tI) ?_
 rintro m ⟨hm, ha⟩
 refine ct ?_
 refine sc (fun hbf => ?_) (fun hbf => ?_)
 try simp only [ar] at hbf
 have hlt : m < s.Wr.length := by omega
 have hum : m < (c9 s u).length := by omega
 have hua := L6 s u hum hlt
 have hs4m := hs4 _ (List.getElem_mem hlt)
 refine cF ?_
 refine sO [(2, _), (3, _), (4, _), (6, _), (7, _), (8, _), (9, _), (87, _), (88, _), (89, _), (2910, _)] [(2, (26, [sl (.lo _) _, val _])), (3, (56, [val _, val _, sl (.lo _) _, val _, val _])), (4, (26, [sl _ _, val _])), (6, (26, [val _, val _])), (910, (139, bA (aD aS aa) _ _))] ?_
 refine bV (d := 910) (by exact rfl) (hO (f := (aD aS aa)) (xs := (c9 s u)) (k := m) hum) ?_
 have hA910 := iq (f := (aD aS aa)) (e := 1) (xs := (c9 s u)) (k := m) (fun _ => rfl) (Nat.le_of_lt hum)
 refine sO [(2, _), (3, _), (4, _), (6, _), (7, _), (8, _), (9, _), (87, _), (88, _), (89, _), (2910, _)] [(2, _), (3, _), (4, _), (6, _), (910, (139, _ ++ ([sl _ _] ++ _)))] ?_
 refine NI (d := 910) (A := _) (B := [] ++ _) (by exact rfl) fun vN => ?_
 refine sO [(2, _), (3, _), (4, _), (6, _), (7, _), (8, _), (9, _), (87, _), (88, _), (89, _), (2910, _)] [(2, _), (3, _), (4, _), (6, _), (910, (139, _ ++ ([nv _ (sl _ _)] ++ _)))] ?_
 refine px ?_
 refine rA ?_ (x := gR (k := m) (G := 2910) (by decide) cV (by exact tI) (by omega) (by first | (rw [ar]; exact hum) | exact hum))
 refine rA ?_ (x := fZ (o := 0) (qs := [nv _ (sl .v _)]) (by omega) (by decide) fH (fun _ => rfl) (by exact nl rfl) (by exact (an am.nil)) (by exact (ao.cons (bor_nv (bor_sl _)) ao.nil)))
 refine rS ?_
 refine rA ?_ (x := bc (r' := RV.sv false [nv _ (sl .v _)]) (.inr rfl) (by decide) (by exact Cp.sv (an am.nil) (ao.cons (bor_nv (bor_sl _)) ao.nil)))
 refine sS [2, 3, 4, 6, 7, 8, 9, 10, 11, 87, 88, 89, 2910] [2, 3, 4, 6, 910] ?_
 refine rA ?_ (x := bc (r' := RV.sv false [sl .v _]) (.inl rfl) (by decide) (by exact Cp.sv (am.cons (PV.nv_to iQ) am.nil) (ao.cons (bor_sl _) ao.nil)))
 refine mA ?_
 refine sc (fun hbg => ?_) (fun hbg => ?_)
 have hsm : gr s.Wr[m] = true := by unfold gr; rw [decide_eq_true_eq]; omega
 have hrm := L1 hlt ha hsm
 have hok := wZ hos hou hnw hkd (.inr (by omega))
 have hpv := BL (v := jX s u) hum
 refine aP ?_
 refine sP [2, 3, 4, 6, 7, 8, 9, 10, 11, 87, 88, 89, 2910] [2, 3, 4, 6, 910] ?_
 refine NK (d := 910) (G := 6400) (A := _) (B := [] ++ _) (by exact rfl) (by exact rfl) iQ (bor_sl _) ?_
 refine sO [(2, _), (3, _), (4, _), (6, _), (7, _), (8, _), (9, _), (10, _), (11, _), (87, _), (88, _), (89, _), (2910, _), (6400, _)] [(2, _), (3, _), (4, _), (6, _), (910, (139, _ ++ ([sl _ _] ++ _)))] ?_
 refine rR (s := 11) (G := 6400) (by exact rfl) (by exact (Nm.nv Nm.nil)) rfl (by decide) (by exact rfl) ?_
 refine sP [2, 3, 4, 6, 7, 8, 9, 10, 11, 87, 88, 89, 2910] [2, 3, 4, 6, 910] ?_
 refine db cJ ?_
 refine td ?_
 refine dA 0 ?_ (x := tM)
 refine dA 0 ?_ (x := lF gF)
 refine dA 16 ?_ (x := lF jw)
 refine dA 48 ?_ (x := lD [val _] au)
 refine dA 0 ?_ (x := tM)
 refine zL ?_
 refine dA 1008 ?_ (x := eV (qs := [(false, [val _]), (false, [sl _ _]), (false, [val _]), (false, [val _])]) (cs := [val _, sl _ _, val _, val _]) (by decide) eT kh Mb (by exact rfl) (by exact (aI (by exact tI) (aI (by exact tI) (aI (by exact tI) (aI (eB rfl) tI))))) rfl (by exact rfl))
 refine dA 2032 ?_ (x := b9 (qs := [(true, [val _, sl _ _, val _, val _])]) (by decide) ck eT (by decide) rfl rfl rfl rfl rfl (by exact nl rfl) (by exact (aI (by exact tI) tI)) rfl)
 refine dA 4088 ?_ (x := eC (by decide) ck eT rfl rfl (by decide) rfl (by simp only [ar, aU, List.length_cons, List.length_nil]; omega) (by simp only [ar, aU, List.length_cons, List.length_nil]; omega))
 refine dA 8191 ?_ (x := gR (k := m) (G := 2910) (by decide) cV (by exact tI) (by omega) (by first | (rw [ar]; exact hum) | exact hum))
 refine dA 16383 ?_ (x := fP (o := 0) (ag := false) (vs := [sl _ _]) (by omega) fH (by exact tI) (by exact rfl) (by exact nl rfl))
 refine bV (d := 910) (by exact rfl) (lr ((c9 s u)[m] ++ [jX s u]) hum (by simp only [aD, bN]; exact rfl)) ?_
 refine mi (d := 6) (D := 910) (G := 2910) (e := 1) (A := []) (B := [val _]) (es := (((c9 s u)).set m ((c9 s u)[m] ++ [jX s u])).map (aD aS aa)) (by exact rfl) (by exact rfl) (by exact rfl) rfl (by rw [ar, List.length_set, ar]) (by intro c hc; obtain ⟨y, _, rfl⟩ := List.mem_map.1 hc; exact rfl) (by rw [ar]; exact hjk910) ?_
 refine aP ?_
 refine sO [(2, _), (3, _), (4, _), (6, _), (7, _), (8, _), (10, _), (87, _), (88, _), (89, _)] [(2, _), (3, _), (4, _), (6, (26, [sl _ _, val _]))] ?_
 refine ba ?_
 refine oT ?_
 refine cm ?_
 exact (bj 4 (bj _ (aI (by exact rfl) (aI (by refine ff ?_; rw [tE hok hk2 hrm, hpv]; exact rfl) (aI dv (aI (fun h => nomatch h) (aI (by refine gu ?_; rw [tE hok hk2 hrm]) tI)))))))
 have hns : gr s.Wr[m] = false := by unfold gr; rw [decide_eq_false_iff_not]; omega
 refine bl ?_
 refine sP [2, 3, 4, 6, 7, 8, 9, 10, 11, 87, 88, 89, 2910] [2, 3, 4, 6, 910] ?_
 refine NJ (d := 910) (A := _) (B := [] ++ _) (by exact rfl) ?_
 refine sO [(2, _), (3, _), (4, _), (6, _), (7, _), (8, _), (9, _), (10, _), (11, _), (87, _), (88, _), (89, _), (2910, _)] [(2, _), (3, _), (4, _), (6, _), (910, (139, _ ++ ([sl _ _] ++ _)))] ?_
 refine bV (d := 910) (by exact rfl) (show _ = bA (aD aS aa) (c9 s u) jk910 from (hO (f := (aD aS aa)) (xs := (c9 s u)) (k := m) hum).symm) ?_
 refine sO [(2, _), (3, _), (4, _), (6, _), (7, _), (8, _), (9, _), (10, _), (11, _), (87, _), (88, _), (89, _), (2910, _)] [(2, _), (3, _), (4, _), (6, _), (910, (139, bA (aD aS aa) _ _))] ?_
 refine ba ?_
 refine c0 ?_
 refine nx (m + 1) (by exact ⟨by omega, pC ha hlt hns⟩) (e := (by exact aI (by exact bg (by omega)) tI))
 try simp only [ar] at hbf
 have hend : m = s.Wr.length := by omega
 have hrn := L2 (by rw [hend, cb] at ha; exact ha)
 have hno : je s u = false := by rw [← Bool.not_eq_true]; intro hc_; obtain ⟨h1_, h2_, h3_, h4_, h5_⟩ := rF hc_; first | omega | (simp_all; done) | (simp_all; omega)
 refine gV ?_
 refine sO [(2, _), (3, _), (4, _), (6, _), (7, _), (8, _), (9, _), (87, _), (88, _), (89, _), (2910, _)] [(2, (26, [sl (.lo _) _, val _])), (3, (56, [val _, val _, sl (.lo _) _, val _, val _])), (4, (26, [sl _ _, val _])), (6, (26, [val _, val _])), (910, (139, bA (aD aS aa) _ _))] ?_
 refine zg ?_
 exact Fr) : G := h
def Fw (h : G := by
 refine eO ?_
 refine sP [2, 3, 4, 5, 6, 7, 8, 9] [2, 3, 4, 6] ?_
 refine bV (d := 6) (by exact rfl) (show _ = [sl bo ((c9 s u).map (aD aS aa)), val (vI (s.Now + 1))] from by first | (rw [hu1]; done) | (rw [hu1]; exact rfl)) ?_
 refine sP [2, 3, 4, 5, 6, 7, 8, 9] [2, 3, 4, 6] ?_
 refine Dl (s := 9) (by exact rfl) (show _ = RV.slc aa ((eo s u).map ak) from by first | (rw [hu2]; done) | (rw [hu2]; exact rfl)) ?_
 refine sG [2, 3, 4, 5, 6, 7, 8, 9] [2, 3, 4, 6] ?_
 refine nQ ?_
 refine sc (fun hbd => ?_) (fun hbd => ?_)
 have hk3 : u.Kind = 3 := by first | exact hbd | simpa using hbd
 have hge3 : 0 ≤ ca s u.Row.Id := by omega
 have hv3 := wY (u := u) hos hge3
 have hf3 := BK hou hk3
 have hfl : u.Field.toNat < (eo s u).length := by omega
 have hv2 : iH s u = (eo s u).set u.Field.toNat u.Value := if_pos hk3
 refine sP [2, 3, 4, 5, 6, 7, 8, 9] [2, 3, 4, 6] ?_
 refine CH (s := 9) (D := 930) (G := 2930) (E := 3) (e := 1) (L := (Lw w0.heap.size)) (es := ((eo s u)).map ak) (by exact rfl) (hP hfl) (by exact rfl) (by exact rfl) rfl (by exact rfl) (fun x hx => hx) (by exact lq) (by exact lq) (ai.map fun x => (ai.cons lcl_val ai.nil)) fun uu930 cp930 jk930 hlD930 hcp930 hjk930 => ?_
 rw [ar] at hlD930 hcp930 hjk930
 refine bV (d := 930) (by exact rfl) (hO (k := u.Field.toNat) hfl) ?_
 have hA930 := iq (f := ak) (e := 1) (xs := (eo s u)) (k := u.Field.toNat) (fun _ => rfl) (Nat.le_of_lt hfl)
 refine sO [(2, _), (3, _), (4, _), (5, _), (6, _), (7, _), (8, _), (9, _), (2930, _)] [(2, _), (3, _), (4, _), (6, _), (930, (3, _ ++ ([val _] ++ _)))] ?_
 refine ba ?_
 refine rA ?_ (x := vM false [val _])
 refine rA ?_ (x := lF lS)
 refine sW ?_
 refine rA ?_ (x := lD [val _] au)
 refine yz ?_
 refine bV (d := 930) (by exact rfl) (lr u.Value hfl (by exact rfl)) ?_
 refine CI (s := 9) (D := 930) (G := 2930) (e := 1) (es := (((eo s u)).set u.Field.toNat u.Value).map ak) (by exact rfl) (by exact rfl) (by exact rfl) rfl (by decide) (by rw [ar, List.length_set, ar]) (by intro c hc; obtain ⟨y, _, rfl⟩ := List.mem_map.1 hc; exact rfl) (by rw [ar]; exact hjk930) ?_
 exact Fv
 have hk3n : ¬ u.Kind = 3 := by first | exact hbd | simpa using hbd
 have hv2 : iH s u = eo s u := if_neg hk3n
 refine bl ?_
 exact Fv) : G := h
def Fy (h : G := by
 have hno : je s u = false := by rw [← Bool.not_eq_true]; intro hc_; obtain ⟨h1_, h2_, h3_, h4_, h5_⟩ := rF hc_; by_cases h1 : 0 ≤ ca s u.Row.Id <;> by_cases h2 : u.Kind = 1 <;> by_cases h3 : u.Kind = 2 <;> by_cases h4 : 0 ≤ gN s.Wr <;> by_cases h6 : ca s u.Row.Id < 0 <;> (first | omega | (simp_all; done) | (simp_all; omega))
 refine sS [2, 3, 4, 5, 6, 7, 8, 9] [2, 3, 4, 6] ?_
 exact yh) : G := h
def FC (h : G := by
 refine oT ?_
 refine cm ?_
 exact (bj 4 (bj _ (aI (by exact rfl) (aI (by refine ff ?_; first | (rw [tE hok hk2 hrm, hpv]; exact rfl) | (rw [tD hok hk2]; exact rfl)) (aI dv (aI (fun h => nomatch h) (aI (by refine gu ?_; first | (rw [tE hok hk2 hrm]; done) | (rw [tD hok hk2]; done)) tI)))))))) : G := h
def FD (h : G := by
 obtain ⟨r, hr, hrm, hr4⟩ := L3 (hrr.resolve_left hk2)
 have hru : r < (c9 s u).length := by omega
 have hua := L6 s u hru hr
 have hpv := BL (v := jX s u) hru
 refine sP [2, 3, 4, 5, 6, 7, 8, 9, 10] [2, 3, 4, 6, 10] ?_
 refine iO (d := 6) (t := 26) (D := 940) (G := 2940) (E := 139) (e := 1) (L := (Lw w0.heap.size)) (A := []) (B := [val _]) (es := ((c9 s u)).map (aD aS aa)) (by exact rfl) (hP hru) (by exact rfl) (by exact rfl) rfl (by exact rfl) (fun x hx => hx) (by exact lq) (by exact lq) (by exact ai.nil) (by exact lc) (ai.map fun x => (ai.cons (lcl_own (ai.map fun x => (ai.cons lcl_val (ai.cons (lcl_own (ai.map fun x => (ai.cons lcl_val ai.nil))) (ai.cons lcl_val (ai.cons lcl_val ai.nil)))))) ai.nil)) fun uu940 cp940 jk940 hlD940 hcp940 hjk940 => ?_
 rw [ar] at hlD940 hcp940 hjk940
 refine bV (d := 940) (by exact rfl) (hO (k := r) hru) ?_
 have hA940 := iq (f := (aD aS aa)) (e := 1) (xs := (c9 s u)) (k := r) (fun _ => rfl) (Nat.le_of_lt hru)
 refine sO [(2, _), (3, _), (4, _), (5, _), (6, _), (7, _), (8, _), (9, _), (10, _), (2940, _)] [(2, _), (3, _), (4, _), (6, (26, [val _, val _])), (10, _), (940, (139, _ ++ ([sl _ _] ++ _)))] ?_
 refine db cJ ?_
 refine td ?_
 refine dA 0 ?_ (x := lF jr)
 refine dA 8 ?_ (x := lD [val _] jy)
 refine dA 0 ?_ (x := sM)
 refine dA 56 ?_ (x := gR (k := r) (G := 2940) (by decide) cV (by exact tI) (by omega) (by first | (rw [ar]; exact hru) | exact hru))
 refine dA 120 ?_ (x := xy (o := 0) (ms := [sl _ _]) (qs := [sl .v _]) (by omega) (by decide) fH (fun _ => rfl) (by exact nl rfl) (by exact rfl) (by exact (aF am.nil)) (by exact (ao.cons (bor_sl _) ao.nil)))
 refine dA 0 ?_ (x := cl (ms := [val _, sl _ _, val _, val _]) (qs := [val _, sl .v _, val _, val _]) (by decide) dO (fun h => nomatch h) (by exact nl rfl) (by exact rfl) (by exact (an (aF (an (an am.nil))))) (by exact lq))
 refine dA 256 ?_ (x := b9 (qs := [(true, [val _, sl _ _, val _, val _])]) (by decide) ck eT (by decide) rfl rfl rfl rfl rfl (by exact nl rfl) (by exact (aI (by exact tI) tI)) rfl)
 refine dA 1016 ?_ (x := eC (by decide) ck eT rfl rfl (by decide) rfl (by simp only [ar, aU, List.length_cons, List.length_nil]; omega) (by simp only [ar, aU, List.length_cons, List.length_nil]; omega))
 refine dA 2047 ?_ (x := gR (k := r) (G := 2940) (by decide) cV (by exact tI) (by omega) (by first | (rw [ar]; exact hru) | exact hru))
 refine dA 4095 ?_ (x := fP (o := 0) (ag := false) (vs := [sl _ _]) (by omega) fH (by exact tI) (by exact rfl) (by exact nl rfl))
 refine bV (d := 940) (by exact rfl) (lr ((c9 s u)[r] ++ [jX s u]) hru (by simp only [aD, bN]; exact rfl)) ?_
 refine mi (d := 6) (D := 940) (G := 2940) (e := 1) (A := []) (B := [val _]) (es := (((c9 s u)).set r ((c9 s u)[r] ++ [jX s u])).map (aD aS aa)) (by exact rfl) (by exact rfl) (by exact rfl) rfl (by rw [ar, List.length_set, ar]) (by intro c hc; obtain ⟨y, _, rfl⟩ := List.mem_map.1 hc; exact rfl) (by rw [ar]; exact hjk940) ?_
 refine aP ?_
 refine sO [(2, _), (3, _), (4, _), (5, _), (6, _), (7, _), (8, _), (9, _), (10, _)] [(2, _), (3, _), (4, _), (6, (26, [sl _ _, val _])), (10, (184, [val _, sl _ _, val _, val _]))] ?_
 refine ba ?_
 exact FC) : G := h
def FE (h : G := by
 refine bl ?_
 refine sS [2, 3, 4, 5, 6, 7, 8, 9, 10] [2, 3, 4, 6, 10] ?_
 exact FC) : G := h
def FF (h : G := by
 refine GU ?_
 refine rA ?_ (x := lF kT)
 refine dV ?_
 refine sc (fun hbe => ?_) (fun hbe => ?_)
 have hk2 : ¬ u.Kind = 2 := by first | exact hbe | simpa using hbe
 exact FD
 have hk2 : u.Kind = 2 := by first | exact hbe | simpa using hbe
 exact FE) : G := h
def FG (h : G := by
 refine Hk ?_
 refine sG [2, 3, 4, 5, 6, 7, 8, 9, 10] [2, 3, 4, 6, 10] ?_
 refine nQ ?_
 refine sc (fun hbd => ?_) (fun hbd => ?_)
 have hk3 : u.Kind = 3 := by first | exact hbd | simpa using hbd
 have hge3 : 0 ≤ ca s u.Row.Id := by omega
 have hv3 := wY (u := u) hos hge3
 have hf3 := BK hou hk3
 have hfl : u.Field.toNat < (eo s u).length := by omega
 have hv2 : iH s u = (eo s u).set u.Field.toNat u.Value := if_pos hk3
 refine sP [2, 3, 4, 5, 6, 7, 8, 9, 10] [2, 3, 4, 6, 10] ?_
 refine iO (d := 10) (t := 184) (D := 930) (G := 2930) (E := 3) (e := 1) (L := (Lw w0.heap.size)) (A := [val _]) (B := [val _, val _]) (es := ((eo s u)).map ak) (by exact rfl) (hP hfl) (by exact rfl) (by exact rfl) rfl (by exact rfl) (fun x hx => hx) (by exact lq) (by exact lq) (by exact lc) (by exact lc) (ai.map fun x => (ai.cons lcl_val ai.nil)) fun uu930 cp930 jk930 hlD930 hcp930 hjk930 => ?_
 rw [ar] at hlD930 hcp930 hjk930
 refine bV (d := 930) (by exact rfl) (hO (k := u.Field.toNat) hfl) ?_
 have hA930 := iq (f := ak) (e := 1) (xs := (eo s u)) (k := u.Field.toNat) (fun _ => rfl) (Nat.le_of_lt hfl)
 refine Hh ?_
 refine rA ?_ (x := lF i2)
 refine rA ?_ (x := lD [val _] bq)
 refine rA ?_ (x := lF lS)
 refine sW ?_
 refine rA ?_ (x := lD [val _] au)
 refine yz ?_
 refine GA ?_
 refine uP ?_
 exact FF
 have hk3n : ¬ u.Kind = 3 := by first | exact hbd | simpa using hbd
 have hv2 : iH s u = eo s u := if_neg hk3n
 refine cO ?_
 refine vj ?_
 exact FF) : G := h
def FH (h : G := by
 refine GU ?_
 refine rA ?_ (x := lF kT)
 refine dV ?_
 refine sc (fun hbd => ?_) (fun hbd => ?_)
 have hk2 : ¬ u.Kind = 2 := by first | exact hbd | simpa using hbd
 exact FD
 have hk2 : u.Kind = 2 := by first | exact hbd | simpa using hbd
 exact FE) : G := h
def FI (h : G := by
 refine Hk ?_
 refine sG [2, 3, 4, 5, 6, 7, 8, 9, 10] [2, 3, 4, 6, 10] ?_
 refine nQ ?_
 refine sc (fun hbc => ?_) (fun hbc => ?_)
 have hk3 : u.Kind = 3 := by first | exact hbc | simpa using hbc
 have hge3 : 0 ≤ ca s u.Row.Id := by omega
 have hv3 := wY (u := u) hos hge3
 have hf3 := BK hou hk3
 have hfl : u.Field.toNat < (eo s u).length := by omega
 have hv2 : iH s u = (eo s u).set u.Field.toNat u.Value := if_pos hk3
 refine sP [2, 3, 4, 5, 6, 7, 8, 9, 10] [2, 3, 4, 6, 10] ?_
 refine iO (d := 10) (t := 184) (D := 930) (G := 2930) (E := 3) (e := 1) (L := (Lw w0.heap.size)) (A := [val _]) (B := [val _, val _]) (es := ((eo s u)).map ak) (by exact rfl) (hP hfl) (by exact rfl) (by exact rfl) rfl (by exact rfl) (fun x hx => hx) (by exact lq) (by exact lq) (by exact lc) (by exact lc) (ai.map fun x => (ai.cons lcl_val ai.nil)) fun uu930 cp930 jk930 hlD930 hcp930 hjk930 => ?_
 rw [ar] at hlD930 hcp930 hjk930
 refine bV (d := 930) (by exact rfl) (hO (k := u.Field.toNat) hfl) ?_
 have hA930 := iq (f := ak) (e := 1) (xs := (eo s u)) (k := u.Field.toNat) (fun _ => rfl) (Nat.le_of_lt hfl)
 refine Hh ?_
 refine rA ?_ (x := lF i2)
 refine rA ?_ (x := lD [val _] bq)
 refine rA ?_ (x := lF lS)
 refine sW ?_
 refine rA ?_ (x := lD [val _] au)
 refine yz ?_
 refine GA ?_
 refine uP ?_
 exact FH
 have hk3n : ¬ u.Kind = 3 := by first | exact hbc | simpa using hbc
 have hv2 : iH s u = eo s u := if_neg hk3n
 refine cO ?_
 refine vj ?_
 exact FH) : G := h
def FJ (h : G := by
 have hbad : e7 q r = false := by simp_all [e7]
 refine sS [2, 3, 4] [2, 3] ?_
 exact j5) : G := h
def se (h : G := by
 have hno : iF e = false := by first | (simp_all [iF]; done) | (simp_all [iF]; omega) | (rw [← Bool.not_eq_true]; intro hc_; obtain ⟨h1_, h2_, h3_, h4_⟩ := wK hc_; first | omega | (simp_all; done) | (simp_all; omega))
 refine sS [1, 2, 3, 4] [1, 2, 4] ?_
 refine oR ?_
 refine cm ?_
 exact (bj 2 (bj _ (aI (by exact rfl) (aI (by refine ff ?_; rw [UI hno]; exact rfl) (aI bZ (aI (fun h => nomatch h) (aI (by refine gu ?_; rw [hno]) tI)))))))) : G := h
def FK (h : G := by
 refine nS ?_
 refine dc ?_
 exact se) : G := h
def FL (h : G := by
 refine s6 ?_
 refine dc ?_
 exact se) : G := h
def FN (h : G := by
 refine qU ?_
 refine dc ?_
 exact se) : G := h
def FO (h : G := by
 refine sG [1, 2, 3, 4, 5, 6, 8, 9, 10, 11, 13, 57, 58, 59, 77, 78, 79, 2900, 6100] [1, 2, 4, 6, 10, 13, 900] ?_
 refine c0 ?_
 refine nx (j + 1) (by omega) (e := (by exact aI (by first | exact bg (by rw [LG hjv hm, aU]; simp only [List.length_cons, List.length_nil]; omega) | exact bg (by rw [LH hjv hm])) (aI (by exact bg (by omega)) (aI (by exact rfl) tI)))) (f := (by exact aI (by first | (rw [LG hjv hm, ← hz3]; simp only [bN, br]; exact rfl) | (rw [LH hjv hm]; exact rfl)) tI))) : G := h
def FP (h : G := by
 refine nx (m + 1) (by omega) (e := (by exact aI (by first | exact cr (by rw [UN hm1 hep, hga, bN]; exact rfl) | exact cr (by rw [UO hm1 hep])) (aI (by exact bg (by omega)) (aI (by exact rfl) tI)))) (f := (by exact aI (by first | (rw [UP hm1 hep, hga]; simp only [bN, br]; exact rfl) | (rw [UQ hm1 hep]; exact rfl)) tI))) : G := h
def FQ (h : G := by
 refine ba ?_
 refine c0 ?_
 exact FP) : G := h
def FR (h : G := by
 refine sZ ?_
 refine rA ?_ (x := d4)
 refine sc (fun hbf => ?_) (fun hbf => ?_)
 have hep : el (cH e (parts e).length)[m] = true := by rw [hga]; simpa [el] using hbf
 refine sG [1, 2, 3, 4, 5, 6, 14, 16, 57, 58, 59, 145, 146, 147, 6200] [1, 2, 4, 6, 16] ?_
 refine G4 ?_
 refine rA ?_ (x := lF eR)
 refine rA ?_ (x := cl (ms := [val _, val _, sl _ _, sl _ _]) (qs := [val _, val _, sl .v _, sl .v _]) (by decide) eK (fun h => nomatch h) (by exact nl rfl) (by exact rfl) (by exact (an (an (aF (aF am.nil))))) (by exact lq))
 refine vm ?_
 refine sV ?_
 refine G3 ?_
 refine rA ?_ (x := eV (qs := [(true, [val _, val _, sl _ _, sl _ _]), (false, [val _]), (false, [val _]), (false, [sl _ _])]) (cs := [val _, val _, sl _ _, sl _ _, val _, val _, sl _ _]) (by decide) jS pQ VM (by exact rfl) (by exact (aI (by exact tI) (aI (by exact tI) (aI (by exact tI) (aI (by exact tI) tI))))) rfl (by exact rfl))
 refine Gy ?_
 refine zd ?_
 refine sO [(1, _), (2, _), (3, _), (4, _), (5, _), (6, _), (14, _), (16, _), (57, _), (58, _), (59, _), (145, _), (146, _), (147, _), (6200, _)] [(1, _), (2, _), (4, (32, [sl _ _, val _, val _, sl _ _, sl _ _, sl _ _, sl _ _, val _])), (6, _), (16, (108, [val _, val _, sl _ _, sl _ _, val _, sl _ _, val _, val _, val _, sl _ _]))] ?_
 exact FQ
 have hep : el (cH e (parts e).length)[m] = false := by rw [hga]; simpa [el] using hbf
 refine sG [1, 2, 3, 4, 5, 6, 14, 16, 57, 58, 59, 145, 146, 147, 6200] [1, 2, 4, 6, 16] ?_
 refine rA ?_ (x := tM)
 refine uA ?_
 refine sg ?_
 refine sO [(1, _), (2, _), (3, _), (4, _), (5, _), (6, _), (14, _), (16, _), (57, _), (58, _), (59, _), (145, _), (146, _), (147, _), (6200, _)] [(1, _), (2, _), (4, _), (6, _), (16, (108, [val _, val _, sl _ _, sl _ _, val _, sl _ _, val _, val _, val _, sl _ _]))] ?_
 exact FQ) : G := h
def FS (h : G := by
 refine ba ?_
 refine uC ?_
 refine uG ?_
 refine sO [(1, _), (2, _), (3, _), (4, _), (5, _), (6, _), (14, _), (16, _), (57, _), (58, _), (59, _), (145, _), (146, _), (147, _), (6200, _)] [(1, _), (2, _), (4, _), (6, _), (16, (108, [nv _ (val _), nv _ (val _), nv _ (sl _ _), nv _ (sl _ _), nv _ (val _), nv _ (sl _ _), nv _ (val _), nv _ (val _), nv _ (val _), nv _ (sl _ _)]))] ?_
 refine xK (d := 16) (G := 6200) (e := 10) (f := (aO ay aa aa aB aa)) (z := za[m]) (zs := (za.drop (m + 1))) (by exact rfl) (by exact (Nm.nv (Nm.nv (Nm.nv (Nm.nv (Nm.nv (Nm.nv (Nm.nv (Nm.nv (Nm.nv (Nm.nv Nm.nil))))))))))) (fun _ => rfl) (by rw [← List.drop_eq_getElem_cons hltz]; exact rfl) ?_
 refine yB ?_
 refine ba ?_
 refine rA ?_ (x := lF kP)
 refine lx ?_
 refine vE ?_
 refine yB ?_
 refine ba ?_
 refine sV ?_
 refine rA ?_ (x := lF gE)
 refine sU ?_
 refine rA ?_ (x := lN cV)
 refine zp ?_
 refine sc (fun hbe => ?_) (fun hbe => ?_)
 have hga : (cH e (parts e).length)[m] = (⟨za[m].1.Wt, za[m].1.Time, za[m].1.WB, za[m].1.Age + 1, 0, za[m].1.Cap, za[m].1.Rows⟩ : Ws) := by rw [rE hm1 hm2, ← hz3]; exact Br hbe
 refine sG [1, 2, 3, 4, 5, 6, 14, 16, 57, 58, 59, 145, 146, 147, 6200] [1, 2, 4, 6, 16] ?_
 refine zh ?_
 refine yB ?_
 refine ba ?_
 exact FR
 have hga : (cH e (parts e).length)[m] = (⟨za[m].1.Wt, za[m].1.Time, za[m].1.WB, za[m].1.Age + 1, za[m].1.Sent, za[m].1.Cap, za[m].1.Rows⟩ : Ws) := by rw [rE hm1 hm2, ← hz3]; exact Bs hbe
 refine bl ?_
 refine sS [1, 2, 3, 4, 5, 6, 14, 16, 57, 58, 59, 145, 146, 147, 6200] [1, 2, 4, 6, 16] ?_
 exact FR) : G := h
def FT (h : G := by
 refine dR ?_
 exact (bj 2 (bj _ (aI (by exact rfl) (aI (by refine ff ?_; rw [UJ hok]; exact rfl) (aI bZ (aI (fun h => nomatch h) (aI (by refine gu ?_; rw [hok]) tI)))))))) : G := h
def FU (h : G := by
 refine ba ?_
 refine rA ?_ (x := tM)
 refine oU ?_
 refine aP ?_
 refine G5 ?_
 refine rA ?_ (x := lF i4)
 refine lx ?_
 refine rA ?_ (x := lF gE)
 refine sU ?_
 refine rA ?_ (x := lN cV)
 refine rA ?_ (x := xx (by decide) (by exact tI) (by exact tI) (by omega))
 refine rA ?_ (x := lF i4)
 refine dS ?_
 refine G5 ?_
 refine rA ?_ (x := lF ju)
 refine lx ?_
 refine rA ?_ (x := lF ju)
 refine dS ?_
 refine sO [(1, _), (2, _), (3, _), (4, _), (5, _), (6, _), (57, _), (58, _), (59, _), (146, _), (147, _)] [(1, _), (2, _), (4, (32, [sl _ _, val _, val _, sl _ _, sl _ _, sl _ _, sl _ _, val _])), (6, _)] ?_
 refine gv ?_
 refine wA ?_ (x := cl (ms := [sl _ _, val _, val _, sl _ _, sl _ _, sl _ _, sl _ _, val _]) (qs := [any, val _, val _, any, any, any, any, val _]) (by decide) bZ (fun h => nomatch h) (by exact nl rfl) (by exact rfl) (by exact (am.cons PV.to_any (an (an (am.cons PV.to_any (am.cons PV.to_any (am.cons PV.to_any (am.cons PV.to_any (an am.nil))))))))) (by exact lq))
 refine wO [(1, _), (2, _), (3, _), (4, _), (5, _), (6, _), (57, _), (58, _), (59, _), (146, _), (147, _), (202, _)] [(1, _), (2, _), (4, (32, [any, val _, val _, any, any, any, any, val _])), (6, _)] ?_
 refine xG (L := (Lw w0.heap.size)) (qs := [(true, [sl _ _, val _, val _, sl _ _, sl _ _, sl _ _, sl _ _, val _])]) (as_ := [(true, [sl _ _, val _, val _, sl _ _, sl _ _, sl _ _, sl _ _, val _])]) (by decide) AY (by exact ⟨rfl, ⟨⟩⟩) (by exact (aI (by exact tI) tI)) (by decide) (by exact lq) (by exact (BU (e := ja e) (by omega))) (fun x hx => hx) (by exact lq) (by exact lq) ?_
 refine wA ?_ (x := bd (ag := true) (vs := [sl _ _, val _, val _, sl _ _, sl _ _, sl _ _, sl _ _, val _]) bZ (by exact tI) (by exact rfl) (by exact nl rfl))
 refine wA ?_ (x := kA)
 refine dg ?_
 exact FT) : G := h
def yi (h : G := by
 refine sG [0, 1, 5, 6, 7, 8, 9, 10, 11, 12, 13, 14, 15, 2900, 5000] [0, 6, 8, 13, 900] ?_
 refine cZ ?_
 refine nx (j + 1) (by omega) (e := (by exact aI (by first | exact bg (by rw [LP hj2 hvv hmm, aU]; simp only [List.length_cons, List.length_nil]; omega) | exact bg (by rw [wT hj2 (.inl hvv)]) | exact bg (by rw [wT hj2 (.inr hmm)])) (aI (by exact bg (by omega)) tI))) (f := (by exact aI (by first | (rw [LP hj2 hvv hmm, ← hz4]; simp only [bN, br]; exact rfl) | (rw [wT hj2 (.inl hvv)]; exact rfl) | (rw [wT hj2 (.inr hmm)]; exact rfl)) tI))) : G := h
def ut (h : G := by
 refine cZ ?_
 exact FP) : G := h
def FV (h : G := by
 refine sZ ?_
 refine rA ?_ (x := d4)
 refine sc (fun hbd => ?_) (fun hbd => ?_)
 have hep : el (cH e (parts e).length)[m] = true := by rw [hga]; simpa [el] using hbd
 refine sP [0, 3, 4, 5, 6, 5000, 6200] [0, 6] ?_
 refine uc (d := 6) (G := 6300) (by exact rfl) (by exact rfl) (an (an (aF (aF (an (aF (an (an (an (aF am.nil)))))))))) (by exact lq) fun us hRN => ?_
 obtain ⟨_, _, hRN⟩ := hRN
 obtain ⟨uA_0, uA_1, uA_2, uA_3, uA_4, uA_5, uA_6, uA_7, uA_8, uA_9, rfl⟩ := Am hRN.len
 clear hRN
 refine sO [(0, _), (3, _), (4, _), (5, _), (6, _), (5000, _), (6200, _), (6300, _)] [(0, _), (6, (108, [nv _ (val _), nv _ (val _), nv _ (sl _ _), nv _ (sl _ _), nv _ (val _), nv _ (sl _ _), nv _ (val _), nv _ (val _), nv _ (val _), nv _ (sl _ _)]))] ?_
 refine u7 ?_
 refine vh ?_
 refine GY ?_
 refine GJ ?_
 refine Hb ?_
 refine Hc ?_
 refine G7 ?_
 refine Gq ?_
 refine GK ?_
 refine H7 ?_
 refine sO [(0, _), (3, _), (4, _), (5, _), (6, _), (5000, _), (6200, _), (6300, _)] [(0, (32, [sl _ _, val _, val _, sl _ _, sl _ _, sl _ _, sl _ _, val _])), (6, _)] ?_
 refine xL (d := 0) (G := 6300) (A := [sl _ _, val _, val _, sl _ _, sl _ _]) (B := [sl _ _, val _]) (p := sl bM (((e.Done ++ fK e (parts e).length m).map (aZ ay aa aB aa)) ++ [[val (vI (⟨za[m].1.Wt, za[m].1.Time, za[m].1.Age + 1, za[m].1.Rows⟩ : cu).Wt.Id), val (vI (⟨za[m].1.Wt, za[m].1.Time, za[m].1.Age + 1, za[m].1.Rows⟩ : cu).Wt.Wx), sl ay ((⟨za[m].1.Wt, za[m].1.Time, za[m].1.Age + 1, za[m].1.Rows⟩ : cu).Wt.Wu.map bf), sl aa ((⟨za[m].1.Wt, za[m].1.Time, za[m].1.Age + 1, za[m].1.Rows⟩ : cu).Wt.Out.map ak), val (vI (⟨za[m].1.Wt, za[m].1.Time, za[m].1.Age + 1, za[m].1.Rows⟩ : cu).Time), val (vI (⟨za[m].1.Wt, za[m].1.Time, za[m].1.Age + 1, za[m].1.Rows⟩ : cu).Steps), sl aB ((⟨za[m].1.Wt, za[m].1.Time, za[m].1.Age + 1, za[m].1.Rows⟩ : cu).Rows.map (bu aa))]])) (by exact rfl) (by exact rfl) (fun z k_ => Di (by exact (Nm.nv (Nm.nv (Nm.nv (Nm.nv (Nm.val (Nm.val (Nm.nv Nm.nil)))))))) (by exact (cN.keep (cN.keep (cN.keep (cN.keep (cN.lit rfl (cN.lit rfl (cN.drop (cN.drop (cN.drop (cN.drop (cN.drop (cN.keep cN.nil))))))))))))) z k_) ?_
 refine sG [0, 3, 4, 5, 6, 5000, 6200] [0, 6] ?_
 exact ut
 have hep : el (cH e (parts e).length)[m] = false := by rw [hga]; simpa [el] using hbd
 refine sG [0, 3, 4, 5, 6, 5000, 6200] [0, 6] ?_
 refine rA ?_ (x := tM)
 refine uA ?_
 refine sg ?_
 refine uN ?_
 exact ut) : G := h
def FW (h : G := by
 refine r5 (bx := 0) (L := da) (qs := []) (as_ := []) (by decide) AZ rfl (by exact rfl) (by exact rfl) (by exact tI) (by exact tI) (by decide) (by exact tI) (by exact (BV (e := ja e) (by omega))) (fun x hx => hx.elim) (by exact lq) (by exact (aI (.inl rfl) tI)) ?_
 refine dg ?_
 exact ⟨(by exact rfl), rfl, tI⟩) : G := h
def FX (h : G := by
 refine sZ ?_
 refine rA ?_ (x := d4)
 refine sc (fun hbd => ?_) (fun hbd => ?_)
 have hep : el (cH e (parts e).length)[m] = true := by rw [hga]; simpa [el] using hbd
 refine sP [0, 2, 3, 4, 5, 6, 5000, 6200] [0, 6] ?_
 refine uc (d := 6) (G := 6300) (by exact rfl) (by exact rfl) (an (an (aF (aF (an (aF (an (an (an (aF am.nil)))))))))) (by exact lq) fun us hRN => ?_
 obtain ⟨_, _, hRN⟩ := hRN
 obtain ⟨uA_0, uA_1, uA_2, uA_3, uA_4, uA_5, uA_6, uA_7, uA_8, uA_9, rfl⟩ := Am hRN.len
 clear hRN
 refine sO [(0, _), (2, _), (3, _), (4, _), (5, _), (6, _), (5000, _), (6200, _), (6300, _)] [(0, _), (6, (108, [nv _ (val _), nv _ (val _), nv _ (sl _ _), nv _ (sl _ _), nv _ (val _), nv _ (sl _ _), nv _ (val _), nv _ (val _), nv _ (val _), nv _ (sl _ _)]))] ?_
 refine u7 ?_
 refine vh ?_
 refine GY ?_
 refine GJ ?_
 refine Hb ?_
 refine Hc ?_
 refine G7 ?_
 refine Gq ?_
 refine GK ?_
 refine H7 ?_
 refine sO [(0, _), (2, _), (3, _), (4, _), (5, _), (6, _), (5000, _), (6200, _), (6300, _)] [(0, (32, [sl _ _, val _, val _, sl _ _, sl _ _, sl _ _, sl _ _, val _])), (6, _)] ?_
 refine xL (d := 0) (G := 6300) (A := [sl _ _, val _, val _, sl _ _, sl _ _]) (B := [sl _ _, val _]) (p := sl bM (((e.Done ++ fK e (parts e).length m).map (aZ ay aa aB aa)) ++ [[val (vI (⟨za[m].1.Wt, za[m].1.Time, za[m].1.Age + 1, za[m].1.Rows⟩ : cu).Wt.Id), val (vI (⟨za[m].1.Wt, za[m].1.Time, za[m].1.Age + 1, za[m].1.Rows⟩ : cu).Wt.Wx), sl ay ((⟨za[m].1.Wt, za[m].1.Time, za[m].1.Age + 1, za[m].1.Rows⟩ : cu).Wt.Wu.map bf), sl aa ((⟨za[m].1.Wt, za[m].1.Time, za[m].1.Age + 1, za[m].1.Rows⟩ : cu).Wt.Out.map ak), val (vI (⟨za[m].1.Wt, za[m].1.Time, za[m].1.Age + 1, za[m].1.Rows⟩ : cu).Time), val (vI (⟨za[m].1.Wt, za[m].1.Time, za[m].1.Age + 1, za[m].1.Rows⟩ : cu).Steps), sl aB ((⟨za[m].1.Wt, za[m].1.Time, za[m].1.Age + 1, za[m].1.Rows⟩ : cu).Rows.map (bu aa))]])) (by exact rfl) (by exact rfl) (fun z k_ => Di (by exact (Nm.nv (Nm.nv (Nm.nv (Nm.nv (Nm.val (Nm.val (Nm.nv Nm.nil)))))))) (by exact (cN.keep (cN.keep (cN.keep (cN.keep (cN.lit rfl (cN.lit rfl (cN.drop (cN.drop (cN.drop (cN.drop (cN.drop (cN.keep cN.nil))))))))))))) z k_) ?_
 refine sG [0, 2, 3, 4, 5, 6, 5000, 6200] [0, 6] ?_
 exact ut
 have hep : el (cH e (parts e).length)[m] = false := by rw [hga]; simpa [el] using hbd
 refine sG [0, 2, 3, 4, 5, 6, 5000, 6200] [0, 6] ?_
 refine rA ?_ (x := tM)
 refine uA ?_
 refine sg ?_
 refine uL ?_
 exact ut) : G := h
def uu (h : G := by
 refine d5 ?_
 exact rb (by rw [Bool.eq_iff_iff]; simp only [fC, OB]; simp_all [fC, Jq])) : G := h
def uv (h : G := by
 refine d5 ?_
 exact rb (by rw [Bool.eq_iff_iff]; simp only [fC, OC]; simp_all [fC, Jq])) : G := h
def uw (h : G := by
 refine d5 ?_
 exact rb (by first | (rw [Bool.eq_iff_iff]; simp_all [kb]; done) | (rw [Bool.eq_iff_iff]; simp_all [kb]; omega) | (simp_all [kb]; done) | (simp_all [kb]; rfl) | (simp_all [kb]; omega) | (simp_all [kb]; intros; omega))) : G := h
def sf (h : G := by
 refine d5 ?_
 exact rb (by first | (rw [Bool.eq_iff_iff]; simp_all [kc]; done) | (rw [Bool.eq_iff_iff]; simp_all [kc]; omega) | (simp_all [kc]; done) | (simp_all [kc]; rfl) | (simp_all [kc]; omega) | (simp_all [kc]; intros; omega))) : G := h
def FY (h : G := by
 refine dR ?_
 exact rb (by first | (simp_all [eQ]; done) | (simp_all [eQ]; rfl) | (simp_all [eQ]; omega) | (simp_all [eQ]; intros; omega))) : G := h
def iS (h : G := by
 refine rS ?_
 exact FY) : G := h
def yj (h : G := by
 refine rB gd ?_ (x := lF mQ)
 refine zW ?_
 refine rA ?_ (x := aR gd)
 exact iS) : G := h
def ux (h : G := by
 refine pn ?_
 exact iS) : G := h
def FZ (h : G := by
 refine dR ?_
 exact rb (by first | (simp_all [eQ, wf, wg]; done) | (simp_all [eQ, wf, wg]; rfl) | (simp_all [eQ, wf, wg]; omega) | (simp_all [eQ, wf, wg]; intros; omega))) : G := h
def eN (h : G := by
 refine rS ?_
 exact FZ) : G := h
def F0 (h : G := by
 refine rB gd ?_ (x := sM)
 refine rc ?_
 refine cx 38 (fun ge sge => ?_) (fun ge sge => ?_)
 refine rB ge ?_ (x := lF mQ)
 refine rB ge ?_ (x := lD [val _] au)
 refine rB ge ?_ (x := d4)
 refine rA ?_ (x := aR ge)
 exact eN
 refine vR ?_
 exact eN) : G := h
def F5 (h : G := by
 refine rB gd ?_ (x := lF mQ)
 refine zW ?_
 refine rA ?_ (x := aR gd)
 exact eN) : G := h
def F6 (h : G := by
 refine bl ?_
 refine sS [1, 2, 3, 4, 19] [1] ?_
 refine rK ?_
 exact FZ) : G := h
def F7 (h : G := by
 refine eP ?_
 refine nx (k + 1) (by omega) (e := (by exact aI (by exact bg (by omega)) tI))) : G := h
def yk (h : G := by
 have hend : k = kr n := by unfold kr at hk ⊢; first | omega | (simp_all; omega)
 refine bF ?_
 refine sT [1, 2, 4, 5, 6] [2, 4, 5] ?_
 refine oR ?_
 refine dR ?_
 exact (bj 4 (bj _ (aI (by exact rfl) (aI (by refine ff ?_; unfold fX; rw [← hend]; exact rfl) (aI bZ (aI (fun h => nomatch h) tI))))))) : G := h
def F8 (h : G := by
 refine py ?_
 exact yk) : G := h
def F9 (h : G := by
 refine oR ?_
 refine cm ?_
 exact (bj 4 (bj _ (aI (by exact rfl) (aI (by refine ff ?_; rw [L9 hno]; exact rfl) (aI bZ (aI (fun h => nomatch h) (aI (by refine gu ?_; rw [L9 hno]) tI)))))))) : G := h
def yl (h : G := by
 have hno : (bh e && (dq e.Store u).2) = false := by first | (simp_all; done) | (cases h1_ : bh e <;> cases h2_ : (dq e.Store u).2 <;> simp_all)
 refine sS [2, 3, 4, 5, 6, 7, 8] [2, 3, 4, 6, 7] ?_
 exact F9) : G := h
def Ga (h : G := by
 refine dR ?_
 exact (bj 4 (bj _ (aI (by exact rfl) (aI (by refine ff ?_; rw [Ma hok]; exact rfl) (aI bZ (aI (fun h => nomatch h) (aI (by refine gu ?_; rw [Ma hok]) tI)))))))) : G := h
def Gb (h : G := by
 refine rA ?_ (x := bd (ag := true) (vs := [sl _ _, val _, val _, sl _ _, sl _ _, sl _ _, sl _ _, val _]) bZ (by exact tI) (by exact rfl) (by exact nl rfl))
 refine cm ?_
 exact (bj 4 (bj _ (aI (by exact rfl) (aI (by refine ff ?_; rw [BP hno]; exact rfl) (aI bZ (aI (fun h => nomatch h) (aI (by refine gu ?_; rw [BP hno]) tI)))))))) : G := h
def Gc (h : G := by
 have hno : (bh e && eQ x) = false := by first | (simp_all; done) | (cases h1_ : bh e <;> cases h2_ : eQ x <;> simp_all)
 refine sS [2, 3, 4, 5] [2, 3, 4] ?_
 refine yw ?_
 exact Gb) : G := h
def Gd (h : G := by
 refine dR ?_
 exact (bj 4 (bj _ (aI (by exact rfl) (aI (by refine ff ?_; first | (rw [BQ hok hk1]; first | done | exact rfl) | (rw [BR hok hk2]; first | done | exact rfl) | (rw [BS hok hk3]; first | done | exact rfl) | (rw [BT hok hk1n hk2n hk3n]; first | done | exact rfl)) (aI bZ (aI (fun h => nomatch h) (aI (by refine gu ?_; first | (rw [BQ hok hk1]; first | done | exact rfl) | (rw [BR hok hk2]; first | done | exact rfl) | (rw [BS hok hk3]; first | done | exact rfl) | (rw [BT hok hk1n hk2n hk3n]; first | done | exact rfl)) tI)))))))) : G := h
def Ge (h : G := by
 refine rA ?_ (x := bd (ag := true) (vs := [sl _ _, val _, val _, sl _ _, sl _ _, sl _ _, sl _ _, val _]) bZ (by exact tI) (by exact rfl) (by exact nl rfl))
 refine rS ?_
 exact Gd) : G := h
def ym (h : G := by
 refine uB ?_
 exact Ge) : G := h
def Gf (h : G := by
 have hno : (bh e && eQ x) = false := by first | (simp_all; done) | (cases h1_ : bh e <;> cases h2_ : eQ x <;> simp_all)
 refine sS [2, 3, 4, 5, 6] [2, 3, 4, 6] ?_
 refine rA ?_ (x := cl (ms := [sl _ _, val _, val _, sl _ _, sl _ _, sl _ _, sl _ _, val _]) (qs := [sl .v _, val _, val _, sl .v _, sl .v _, sl .v _, sl .v _, val _]) (by decide) bZ (fun h => nomatch h) (by exact nl rfl) (by exact rfl) (by exact (aF (an (an (aF (aF (aF (aF (an am.nil))))))))) (by exact lq))
 exact Gb) : G := h
def Gg (h : G := by
 refine aP ?_
 refine sO [(2, _), (3, _), (4, _), (5, _), (6, _), (7, _), (20, _)] [(2, _), (3, _), (4, _), (6, (32, [sl _ _, val _, val _, sl _ _, sl _ _, sl _ _, sl _ _, val _]))] ?_
 refine ba ?_
 refine rA ?_ (x := cl (ms := [sl _ _, val _, val _, sl _ _, sl _ _, sl _ _, sl _ _, val _]) (qs := [sl .v _, val _, val _, sl .v _, sl .v _, sl .v _, sl .v _, val _]) (by decide) bZ (fun h => nomatch h) (by exact nl rfl) (by exact rfl) (by exact (aF (an (an (aF (aF (aF (aF (an am.nil))))))))) (by exact lq))
 refine rM ?_
 exact Ge) : G := h
def yn (h : G := by
 refine rA ?_ (x := tM)
 refine HI ?_
 refine rS ?_
 exact Gg) : G := h
def Gh (h : G := by
 refine sS [2, 3, 4, 5] [2, 3] ?_
 refine rK ?_
 exact uh) : G := h
def oR (h : H) (w : ae G H := by
 intro z
 refine rA ?_ (x := cl (ms := [sl _ _, val _, val _, sl _ _, sl _ _, sl _ _, sl _ _, val _]) (qs := [sl .v _, val _, val _, sl .v _, sl .v _, sl .v _, sl .v _, val _]) (by decide) bZ (fun h => nomatch h) (by exact nl rfl) (by exact rfl) (by exact (aF (an (an (aF (aF (aF (aF (an am.nil))))))))) (by exact lq))
 refine rA ?_ (x := bd (ag := true) (vs := [sl _ _, val _, val _, sl _ _, sl _ _, sl _ _, sl _ _, val _]) bZ (by exact tI) (by exact rfl) (by exact nl rfl))
 exact z.g) : G := ah w h
def oS (h : H) (w : ae G H := by
 intro z
 refine rA ?_ (x := b9 (qs := [(false, [val _])]) (by decide) bC ej (by decide) rfl rfl rfl rfl rfl (by exact nl rfl) (by exact (aI (by exact tI) tI)) rfl)
 refine rA ?_ (x := eC (by decide) bC ej rfl rfl (by decide) rfl (by simp only [ar, aU, List.length_cons, List.length_nil]; omega) (by simp only [ar, aU, List.length_cons, List.length_nil]; omega))
 exact z.g) : G := ah w h
def cO (h : H) (w : ae G H := by
 intro z
 refine bl ?_
 refine aP ?_
 exact z.g) : G := ah w h
def dS (h : H) (w : ae G H := by
 intro z
 refine rA ?_ (x := bd (ag := false) (vs := [val _]) au (by exact tI) (by exact rfl) (by exact nl rfl))
 refine aP ?_
 exact z.g) : G := ah w h
def iT (h : H) (w : ae G H := by
 intro z
 refine sR ?_
 refine rX ?_ (x := (cI (ag := true) (cs := [sl _ _, val _, val _, sl _ _, sl _ _, sl _ _, sl _ _, val _]) (by decide) (by exact tI)))
 exact z.g) : G := ah w h
def mp (h : H) (w : ae G H := by
 intro z
 refine rX ?_ (x := (bR (by decide) jR jT))
 refine rA ?_ (x := bd (ag := true) (vs := [sl _ _, val _, val _, sl _ _, sl _ _, sl _ _, sl _ _, val _]) bZ (by exact tI) (by exact rfl) (by exact nl rfl))
 exact z.g) : G := ah w h
def bB (h : H) (w : ae G H := by
 intro z
 refine cO ?_
 refine tU ?_
 exact z.g) : G := ah w h
def uy (h : H) (w : ae G H := by
 intro z
 refine rM ?_
 refine rA ?_ (x := vM false [sl .v _])
 exact z.g) : G := ah w h
def uz (h : H) (w : ae G H := by
 intro z
 refine rA ?_ (x := df (qs := [nv _ (val _), nv _ (val _), nv _ (sl .v _), nv _ (sl .v _), nv _ (val _), nv _ (sl .v _), nv _ (val _), nv _ (val _), nv _ (val _), nv _ (sl .v _)]) (by decide) fj (fun h => nomatch h) (by exact nl rfl) (by exact (an (an (an (an (an (an (an (an (an (an am.nil))))))))))) (by exact lq))
 refine rA ?_ (x := b9 (qs := [(true, [nv _ (val _), nv _ (val _), nv _ (sl _ _), nv _ (sl _ _), nv _ (val _), nv _ (sl _ _), nv _ (val _), nv _ (val _), nv _ (val _), nv _ (sl _ _)])]) (by decide) bI fa (by decide) rfl rfl rfl rfl rfl (by exact nl rfl) (by exact (aI (by exact tI) tI)) rfl)
 exact z.g) : G := ah w h
def mq (h : H) (w : ae G H := by
 intro z
 refine rA ?_ (x := aY (by decide) bC (by exact tI) (by exact rfl) (by exact be (by omega) rfl) (by exact rfl))
 refine rA ?_ (x := lE [val _] au)
 exact z.g) : G := ah w h
def oT (h : H) (w : ae G H := by
 intro z
 refine rA ?_ (x := cl (ms := [sl _ _, val _]) (qs := [sl .v _, val _]) (by decide) dv (fun h => nomatch h) (by exact nl rfl) (by exact rfl) (by exact (aF (an am.nil))) (by exact (ao.cons (bor_sl _) (ao.cons (bor_val _) ao.nil))))
 refine rA ?_ (x := bd (ag := true) (vs := [sl _ _, val _]) dv (by exact tI) (by exact rfl) (by exact nl rfl))
 exact z.g) : G := ah w h
def uA (h : H) (w : ae G H := by
 intro z
 refine rA ?_ (x := cl (ms := [val _, val _, sl _ _, sl _ _, val _, sl _ _, val _, val _, val _, sl _ _]) (qs := [val _, val _, sl .v _, sl .v _, val _, sl .v _, val _, val _, val _, sl .v _]) (by decide) fj (fun h => nomatch h) (by exact nl rfl) (by exact rfl) (by exact (an (an (aF (aF (an (aF (an (an (an (aF am.nil))))))))))) (by exact lq))
 refine rA ?_ (x := b9 (qs := [(true, [val _, val _, sl _ _, sl _ _, val _, sl _ _, val _, val _, val _, sl _ _])]) (by decide) bI fa (by decide) rfl rfl rfl rfl rfl (by exact nl rfl) (by exact (aI (by exact tI) tI)) rfl)
 exact z.g) : G := ah w h
def eE (h : H) (w : ae G H := by
 intro z
 refine dA 0 ?_ (x := vM false [sl .v _])
 refine dA 0 ?_ (x := sM)
 exact z.g) : G := ah w h
def uB (h : H) (w : ae G H := by
 intro z
 refine rA ?_ (x := Ci (cs := [sl _ _, val _, val _, sl _ _, sl _ _, sl _ _, sl _ _, val _]) (qs := [sl .v _, val _, val _, sl .v _, sl .v _, sl .v _, sl .v _, val _]) (by decide) (by exact rfl) (by exact (aF (an (an (aF (aF (aF (aF (an am.nil))))))))) (by exact lq))
 refine rA ?_ (x := nB (cs := [val _]) (by decide) (by exact rfl) (by exact (ao.cons (bor_val _) ao.nil)))
 exact z.g) : G := ah w h
def gz (h : H) (w : ae G H := by
 intro z
 refine sS [0, 1, 5] [] ?_
 refine rA ?_ (x := vM false [sl .v _])
 exact z.g) : G := ah w h
def uC (h : H) (w : ae G H := by
 intro z
 refine rA ?_ (x := aY (by decide) bI (by exact tI) (by exact rfl) (by exact be (by omega) rfl) (by exact rfl))
 refine rA ?_ (x := nb (qs := [nv _ (val _), nv _ (val _), nv _ (sl .v _), nv _ (sl .v _), nv _ (val _), nv _ (sl .v _), nv _ (val _), nv _ (val _), nv _ (val _), nv _ (sl .v _)]) (by decide) fj (fun h => nomatch h) (by exact nl rfl) (by exact (an (an (an (an (an (an (an (an (an (an am.nil))))))))))) (by exact lq))
 exact z.g) : G := ah w h
def cz (h : H) (w : ae G H := by
 intro z
 refine rK ?_
 refine tU ?_
 exact z.g) : G := ah w h
def iv (h : H) (w : ae G H := by
 intro z
 refine rM ?_
 refine rA ?_ (x := cy)
 exact z.g) : G := ah w h
def dz (h : H) (w : ae G H := by
 intro z
 refine rK ?_
 refine aP ?_
 exact z.g) : G := ah w h
def Gi (h : H) (w : ae G H := by
 intro z
 refine sP [1, 2, 3, 4, 5, 6, 14, 57, 58, 59, 145, 146, 147, 6200] [1, 2, 4, 6] ?_
 refine sL [1, 2, 3, 4, 5, 6, 57, 58, 59, 145, 146] [1, 2, 6] (fun m : Nat => m ≤ e.Ws.length) (fun m : Nat => [(14, RV.slc bS ((jD e (parts e).length m).map (aO ay aa aa aB aa))), (147, RV.int (m : Int)), (6200, RV.gh (bi 10 (za.drop m)) (bG (aO ay aa aa aB aa) (za.drop m)))]) (fun m : Nat => [(4, (32, [sl bo (e.Store.Wr.map (aD aS aa)), val (vI e.Store.Now), val (vI e.Ww), sl aa (e.Order.map ak), sl .v (za.map en), sl bM ((e.Done ++ fK e (parts e).length m).map (aZ ay aa aB aa)), sl bP ((gL e (parts e).length).map (a7 aa aa aa)), val (vI e.Steps)]))]) (fun m : Nat => e.Ws.length - m) 0 (by omega) (by exact aI (by exact rfl) (aI (by exact rfl) (aI (by exact rfl) tI))) (by exact aI (by show _ = some (32, [sl bo (e.Store.Wr.map (aD aS aa)), val (vI e.Store.Now), val (vI e.Ww), sl aa (e.Order.map ak), sl .v (za.map en), sl bM ((e.Done ++ fK e (parts e).length 0).map (aZ ay aa aB aa)), sl bP ((gL e (parts e).length).map (a7 aa aa aa)), val (vI e.Steps)]); rw [show fK e (parts e).length 0 = [] from rfl, dH]; first | (rw [hled]; simp only [bN]; exact rfl) | (rw [hled]; exact rfl)) tI) ?_
 exact z.g) : G := ah w h
def qy (h : H) (w : ae G H := by
 intro z
 refine aP ?_
 refine sR ?_
 exact z.g) : G := ah w h
def mr (h : H) (w : ae G H := by
 intro z
 refine ba ?_
 refine rA ?_ (x := lD [sl (.lo _) _, val _, val _, sl (.lo _) _, sl (.lo _) _, sl (.lo _) _, sl (.lo _) _, val _] bZ)
 exact z.g) : G := ah w h
def qz (h : H) (w : ae G H := by
 intro z
 refine rA ?_ (x := lF jr)
 refine rA ?_ (x := lD [sl .v _] jy)
 exact z.g) : G := ah w h
def ji (h : H) (w : ae G H := by
 intro z
 refine rA ?_ (x := lF dN)
 refine rA ?_ (x := lD [sl .v _] dC)
 exact z.g) : G := ah w h
def jM (h : H) (w : ae G H := by
 intro z
 refine rA ?_ (x := bd (ag := false) (vs := [sl _ _]) bq (by exact tI) (by exact rfl) (by exact nl rfl))
 refine aP ?_
 exact z.g) : G := ah w h
def cZ (h : H) (w : ae G H := by
 intro z
 refine rM ?_
 refine rA ?_ (x := j4)
 refine rS ?_
 exact z.g) : G := ah w h
def dV (h : H) (w : ae G H := by
 intro z
 refine rA ?_ (x := lD [val _] au)
 refine rA ?_ (x := eM)
 exact z.g) : G := ah w h
def iU (h : H) (w : ae G H := by
 intro z
 refine sR ?_
 refine rX ?_ (x := (cI (ag := true) (cs := [sl _ _, val _]) (by decide) (by exact tI)))
 exact z.g) : G := ah w h
def Gj (h : H) (w : ae G H := by
 intro z
 refine rA ?_ (x := lD [val _] au)
 refine rA ?_ (x := cL [(false, [val _]), (false, [val _]), (false, [val _])] [(false, [val _]), (false, [val _]), (false, [val _])] jo (hs := by exact jC))
 exact z.g) : G := ah w h
def mu (h : H) (w : ae G H := by
 intro z
 refine rX ?_ (x := (bR (by decide) rq rr))
 refine rA ?_ (x := bd (ag := true) (vs := [sl _ _, val _]) dv (by exact tI) (by exact rfl) (by exact nl rfl))
 exact z.g) : G := ah w h
def Gk (h : H) (w : ae G H := by
 intro z
 refine rA ?_ (x := b9 (qs := []) (by decide) bC ej (by decide) rfl rfl rfl rfl rfl (by exact nl rfl) (by exact tI) rfl)
 refine rA ?_ (x := tA)
 exact z.g) : G := ah w h
def uD (h : H) (w : ae G H := by
 intro z
 refine rA ?_ (x := b9 (qs := [(true, [val _, sl _ _])]) (by decide) fG iB (by decide) rfl rfl rfl rfl rfl (by exact nl rfl) (by exact (aI (by exact tI) tI)) rfl)
 refine rA ?_ (x := eC (by decide) fG iB rfl rfl (by decide) rfl (by simp only [ar, aU, List.length_cons, List.length_nil]; omega) (by simp only [ar, aU, List.length_cons, List.length_nil]; omega))
 exact z.g) : G := ah w h
def Gl (h : H) (w : ae G H := by
 intro z
 refine dX 0 ?_ (x := (df (qs := [val _, val _, val _, sl (.lo _) _, sl (.lo _) _, val _, val _, val _, val _, sl (.lo _) _, val _, val _, val _]) (by decide) tr (fun h => nomatch h) (by exact nl rfl) (by exact (an (an (an (an (an (an (an (an (an (an (an (an (an am.nil)))))))))))))) (by exact lq)))
 refine dX 7 ?_ (x := (oB (qs := [(true, [val _, val _, val _, sl (.lo _) _, sl (.lo _) _, val _, val _, val _, val _, sl (.lo _) _, val _, val _, val _])]) (as_ := [(true, [val _, val _, val _, sl .v _, sl .v _, val _, val _, val _, val _, sl .v _, val _, val _, val _])]) (by decide) AG (by exact (aI (by exact tI) tI)) (by exact (aI (aI rfl (an (an (an (aF (aF (an (an (an (an (aF (an (an (an am.nil)))))))))))))) tI)) (by exact A9 (by omega))))
 exact z.g) : G := ah w h
def Gm (h : H) (w : ae G H := by
 intro z
 refine rM ?_
 refine rA ?_ (x := cL [(false, [sl _ _]), (false, [val _])] [(false, [sl .v _]), (false, [val _])] O7 (hs := by exact TA (by omega) (by omega)))
 exact z.g) : G := ah w h
def mw (h : H) (w : ae G H := by
 intro z
 refine sR ?_
 refine rX ?_ (x := (cI (ag := true) (cs := [val _, val _, sl _ _, sl _ _]) (by decide) (by exact tI)))
 exact z.g) : G := ah w h
def cm (h : H) (w : ae G H := by
 intro z
 refine rK ?_
 refine dR ?_
 exact z.g) : G := ah w h
def dI (h : H) (w : ae G H := by
 intro z
 refine rA ?_ (x := kM)
 refine tU ?_
 exact z.g) : G := ah w h
def cP (h : H) (w : ae G H := by
 intro z
 refine cO ?_
 refine sS [2, 3, 4] [2, 3] ?_
 exact z.g) : G := ah w h
def qA (h : H) (w : ae G H := by
 intro z
 refine rX ?_ (x := (bR (by decide) fa l2))
 refine rA ?_ (x := bd (ag := true) (vs := [val _, val _, sl _ _, sl _ _, val _, sl _ _, val _, val _, val _, sl _ _]) fj (by exact tI) (by exact rfl) (by exact nl rfl))
 exact z.g) : G := ah w h
def qB (h : H) (w : ae G H := by
 intro z
 refine rA ?_ (x := aY (by decide) bI (by exact tI) (by exact rfl) (by exact be (by omega) rfl) (by exact rfl))
 refine rA ?_ (x := lE [val _, val _, sl .v _, sl .v _, val _, sl .v _, val _, val _, val _, sl .v _] fj)
 exact z.g) : G := ah w h
def sg (h : H) (w : ae G H := by
 intro z
 refine rA ?_ (x := eC (by decide) bI fa rfl rfl (by decide) rfl (by simp only [ar, aU, List.length_cons, List.length_nil]; omega) (by simp only [ar, aU, List.length_cons, List.length_nil]; omega))
 refine rA ?_ (x := tA)
 exact z.g) : G := ah w h
def yo (h : H) (w : ae G H := by
 intro z
 refine bV (d := 920) (by exact rfl) (lr (s.Wr[i].set k (ld (s.Now + 1) s.Wr[i][k])) hi (by exact rfl)) ?_
 refine mi (d := 6) (D := 920) (G := 2920) (e := 1) (A := []) (B := [val _]) (es := ((s.Wr).set i (s.Wr[i].set k (ld (s.Now + 1) s.Wr[i][k]))).map (aD aS aa)) (by exact rfl) (by exact rfl) (by exact rfl) rfl (by rw [ar, List.length_set, ar]) (by intro c hc; obtain ⟨y, _, rfl⟩ := List.mem_map.1 hc; exact rfl) (by rw [ar]; exact hjk920) ?_
 exact z.g) : G := ah w h
def oU (h : H) (w : ae G H := by
 intro z
 refine rA ?_ (x := lF dN)
 refine rA ?_ (x := bd (ag := false) (vs := [sl _ _]) dC (by exact tI) (by exact rfl) (by exact nl rfl))
 exact z.g) : G := ah w h
def qC (h : H) (w : ae G H := by
 intro z
 refine rA ?_ (x := aY (by decide) cV (by exact tI) (by exact rfl) (by exact be (by omega) rfl) (by exact rfl))
 refine rA ?_ (x := lE [sl .v _] fH)
 exact z.g) : G := ah w h
def mx (h : H) (w : ae G H := by
 intro z
 refine sO [(1, _), (2, _), (3, _)] [(1, _), (2, _), (3, (32, [sl _ _, val _, val _, sl _ _, sl _ _, sl _ _, sl _ _, val _]))] ?_
 refine ba ?_
 exact z.g) : G := ah w h
def uE (h : H) (w : ae G H := by
 intro z
 refine rA ?_ (x := Ci (cs := [sl _ _, val _]) (qs := [sl .v _, val _]) (by decide) (by exact rfl) (by exact (aF (an am.nil))) (by exact (ao.cons (bor_sl _) (ao.cons (bor_val _) ao.nil))))
 refine rA ?_ (x := nB (cs := [val _]) (by decide) (by exact rfl) (by exact (ao.cons (bor_val _) ao.nil)))
 exact z.g) : G := ah w h
def qD (h : H) (w : ae G H := by
 intro z
 refine sR ?_
 refine rX ?_ (x := (cI (ag := true) (cs := [sl (.lo _) _, val _, val _, sl (.lo _) _, sl (.lo _) _, sl (.lo _) _, sl (.lo _) _, val _]) (by decide) (by exact tI)))
 exact z.g) : G := ah w h
def fA (h : H) (w : ae G H := by
 intro z
 refine rS ?_
 refine aP ?_
 exact z.g) : G := ah w h
def yp (h : H) (w : ae G H := by
 intro z
 refine rA ?_ (x := lE [sl .v _] bq)
 refine rA ?_ (x := il (by decide) bC ej rfl rfl (by decide) (by first | (intro cs hcs; obtain ⟨x, _, rfl⟩ := List.mem_map.1 hcs; exact rfl) | simp) (by first | (intro cs hcs; obtain ⟨x, _, rfl⟩ := List.mem_map.1 hcs; exact (ao.cons (bor_val _) ao.nil)) | simp) (by simp only [ar, aU, List.length_cons, List.length_nil]; omega) (by simp only [ar, aU, List.length_cons, List.length_nil]; omega))
 exact z.g) : G := ah w h
def yq (h : H) (w : ae G H := by
 intro z
 refine bV (d := 921) (by exact rfl) (lr (ld (s.Now + 1) s.Wr[i][k]) hk (by exact rfl)) ?_
 refine mi (d := 920) (D := 921) (G := 2921) (e := 4) (A := _) (B := [] ++ _) (es := ((s.Wr[i]).set k (ld (s.Now + 1) s.Wr[i][k])).map (cG aa)) (by exact rfl) (by exact rfl) (by exact rfl) rfl (by rw [ar, List.length_set, ar]) (by intro c hc; obtain ⟨y, _, rfl⟩ := List.mem_map.1 hc; exact rfl) (by rw [ar]; exact hjk921) ?_
 exact z.g) : G := ah w h
def oV (h : H) (w : ae G H := by
 intro z
 refine sO [(1, _), (2, _), (3, _)] [(1, _), (2, _), (3, (58, [val _, val _, val _, sl _ _, sl _ _, val _, val _, val _, val _, sl _ _, val _, val _, val _]))] ?_
 refine ba ?_
 exact z.g) : G := ah w h
def lu (h : H) (w : ae G H := by
 intro z
 refine zf ga ?_
 refine rA ?_ (x := aK ga)
 exact z.g) : G := ah w h
def Gn (h : H) (w : ae G H := by
 intro z
 refine dX 0 ?_ (x := (df (qs := [sl (.lo _) _, val _, val _, sl (.lo _) _, sl (.lo _) _, sl (.lo _) _, sl (.lo _) _, val _]) (by decide) tz (fun h => nomatch h) (by exact nl rfl) (by exact (an (an (an (an (an (an (an (an am.nil))))))))) (by exact lq)))
 refine dX 1 ?_ (x := (oB (qs := [(true, [sl (.lo _) _, val _, val _, sl (.lo _) _, sl (.lo _) _, sl (.lo _) _, sl (.lo _) _, val _])]) (as_ := [(true, [sl .v _, val _, val _, sl .v _, sl .v _, sl .v _, sl .v _, val _])]) (by decide) A4 (by exact (aI (by exact tI) tI)) (by exact (aI (aI rfl (aF (an (an (aF (aF (aF (aF (an am.nil))))))))) tI)) (by exact Ba (by omega))))
 exact z.g) : G := ah w h
def oW (h : H) (w : ae G H := by
 intro z
 refine rA ?_ (x := aK gb)
 refine rM ?_
 exact z.g) : G := ah w h
def iV (h : H) (w : ae G H := by
 intro z
 refine rA ?_ (x := vM false [sl .v _])
 refine rA ?_ (x := lN bC)
 exact z.g) : G := ah w h
def nH (h : H) (w : ae G H := by
 intro z
 refine rA ?_ (x := lD [sl .v _] bq)
 refine rA ?_ (x := cL [(false, [sl _ _])] [(false, [sl .v _])] ON (hs := by exact SQ (by omega)))
 exact z.g) : G := ah w h
def uF (h : H) (w : ae G H := by
 intro z
 refine rA ?_ (x := lD [sl .v _, val _, val _, sl .v _, sl .v _, sl .v _, sl .v _, val _] bZ)
 refine rA ?_ (x := cL [(true, [sl _ _, val _, val _, sl _ _, sl _ _, sl _ _, sl _ _, val _])] [(true, [sl .v _, val _, val _, sl .v _, sl .v _, sl .v _, sl .v _, val _])] KR (hs := by exact (Lq (by omega))))
 exact z.g) : G := ah w h
def c0 (h : H) (w : ae G H := by
 intro z
 refine rA ?_ (x := j4)
 refine rM ?_
 exact z.g) : G := ah w h
def d5 (h : H) (w : ae G H := by
 intro z
 refine rS ?_
 refine dR ?_
 exact z.g) : G := ah w h
def uG (h : H) (w : ae G H := by
 intro z
 refine rX ?_ (x := (bR (by decide) fa l2))
 refine rA ?_ (x := bd (ag := true) (vs := [nv _ (val _), nv _ (val _), nv _ (sl _ _), nv _ (sl _ _), nv _ (val _), nv _ (sl _ _), nv _ (val _), nv _ (val _), nv _ (val _), nv _ (sl _ _)]) fj (by exact tI) (by exact rfl) (by exact nl rfl))
 exact z.g) : G := ah w h
def gj (h : H) (w : ae G H := by
 intro z
 refine rA ?_ (x := aR gb)
 refine rM ?_
 exact z.g) : G := ah w h
def oX (h : H) (w : ae G H := by
 intro z
 refine sR ?_
 refine rX ?_ (x := (cI (ag := true) (cs := [val _, sl _ _, val _, val _]) (by decide) (by exact tI)))
 exact z.g) : G := ah w h
def oY (h : H) (w : ae G H := by
 intro z
 refine sO [(1, _), (2, _), (3, _)] [(1, _), (2, _), (3, (108, [val _, val _, sl _ _, sl _ _, val _, sl _ _, val _, val _, val _, sl _ _]))] ?_
 refine ba ?_
 exact z.g) : G := ah w h
def cF (h : H) (w : ae G H := by
 intro z
 refine bB ?_
 refine aP ?_
 exact z.g) : G := ah w h
def sh (h : H) (w : ae G H := by
 intro z
 refine rA ?_ (x := cl (ms := [sl _ _]) (qs := [sl .v _]) (by decide) bq (fun _ => rfl) (by exact nl rfl) (by exact rfl) (by exact (aF am.nil)) (by exact (ao.cons (bor_sl _) ao.nil)))
 refine rM ?_
 exact z.g) : G := ah w h
def gU (h : H) (w : ae G H := by
 intro z
 refine bl ?_
 refine sS [1, 2, 4] [2] ?_
 exact z.g) : G := ah w h
def gk (h : H) (w : ae G H := by
 intro z
 refine rA ?_ (x := aR ga)
 refine rM ?_
 exact z.g) : G := ah w h
def cQ (h : H) (w : ae G H := by
 intro z
 refine qy ?_
 refine uy ?_
 exact z.g) : G := ah w h
def nI (h : H) (w : ae G H := by
 intro z
 refine rA ?_ (x := lF AH)
 refine rA ?_ (x := lD [val _, val _, sl .v _, sl .v _] eK)
 exact z.g) : G := ah w h
def Gp (h : H) (w : ae G H := by
 intro z
 refine sP [1, 2, 4, 5, 6] [2, 4, 5] ?_
 refine sL [1, 2, 4, 5] [2, 4] (fun k : Nat => k ≤ kr n) (fun k : Nat => [(6, RV.int (k : Int))]) (fun k : Nat => [(5, (32, [sl bo ((iI e k).Store.Wr.map (aD aS aa)), val (vI (iI e k).Store.Now), val (vI (iI e k).Ww), sl aa ((iI e k).Order.map ak), sl bS ((iI e k).Ws.map (aO ay aa aa aB aa)), sl bM ((iI e k).Done.map (aZ ay aa aB aa)), sl bP ((iI e k).WE.map (a7 aa aa aa)), val (vI (iI e k).Steps)]))]) (fun k : Nat => kr n - k) 0 (by omega) (by exact aI (by exact rfl) tI) (by exact aI (by exact rfl) tI) ?_
 exact z.g) : G := ah w h
def si (h : H) (w : ae G H := by
 intro z
 refine rB ga ?_ (x := lD [val _] au)
 refine rB ga ?_ (x := cL [(false, [val _]), (false, [val _]), (false, [val _])] [(false, [val _]), (false, [val _]), (false, [val _])] fF (hs := by exact fJ))
 exact z.g) : G := ah w h
def qE (h : H) (w : ae G H := by
 intro z
 refine dA 3 ?_ (x := aY (by decide) bC (by exact tI) (by exact rfl) (by exact be (by omega) rfl) (by exact rfl))
 refine dA 7 ?_ (x := lE [val _] au)
 exact z.g) : G := ah w h
def kz (h : H) (w : ae G H := by
 intro z
 refine rA ?_ (x := cM Cp.ptr)
 refine rA ?_ (x := iu (by decide))
 exact z.g) : G := ah w h
def sk (h : H) (w : ae G H := by
 intro z
 refine rA ?_ (x := lD [val _] au)
 refine rA ?_ (x := cL [(false, [val _]), (false, [val _]), (false, [val _])] [(false, [val _]), (false, [val _]), (false, [val _])] fF (hs := by exact fJ))
 exact z.g) : G := ah w h
def qF (h : H) (w : ae G H := by
 intro z
 refine rA ?_ (x := b9 (qs := []) (by decide) ck eT (by decide) rfl rfl rfl rfl rfl (by exact nl rfl) (by exact tI) rfl)
 refine rA ?_ (x := tA)
 exact z.g) : G := ah w h
def uH (h : H) (w : ae G H := by
 intro z
 refine rM ?_
 refine rA ?_ (x := aY (by decide) ez (by exact tI) (by exact rfl) (by exact nt hlt rfl) (by exact rfl))
 exact z.g) : G := ah w h
def yr (h : H) (w : ae G H := by
 intro z
 refine rB ga ?_ (x := cL [(false, [val _]), (false, [val _]), (false, [val _])] [(false, [val _]), (false, [val _]), (false, [val _])] jo (hs := by exact jC))
 refine rB ga ?_ (x := nT)
 exact z.g) : G := ah w h
def sm (h : H) (w : ae G H := by
 intro z
 refine rX ?_ (x := (bR (by decide) eT kh))
 refine rA ?_ (x := bd (ag := true) (vs := [val _, sl _ _, val _, val _]) dO (by exact tI) (by exact rfl) (by exact nl rfl))
 exact z.g) : G := ah w h
def yt (h : H) (w : ae G H := by
 intro z
 refine rA ?_ (x := gR (k := i) (G := 2900) (by decide) cV (by exact tI) (by first | rfl | omega) (by simp only [ar]; omega))
 refine rA ?_ (x := Nk (f := jU) (e := 1) (k := i) (qs := [sl .v _]) (fun _ => rfl) rfl (by omega) (by decide) fH (fun _ => rfl) (by exact (aF am.nil)) (by exact (ao.cons (bor_sl _) ao.nil)))
 exact z.g) : G := ah w h
def eO (h : H) (w : ae G H := by
 intro z
 refine aP ?_
 refine aP ?_
 exact z.g) : G := ah w h
def yu (h : H) (w : ae G H := by
 intro z
 refine rA ?_ (x := lD [val _] au)
 refine rA ?_ (x := d4)
 exact z.g) : G := ah w h
def oZ (h : H) (w : ae G H := by
 intro z
 refine sR ?_
 refine rX ?_ (x := (cI (ag := true) (cs := [val _, val _, sl _ _, sl _ _, sl _ _]) (by decide) (by exact tI)))
 exact z.g) : G := ah w h
def yv (h : H) (w : ae G H := by
 intro z
 refine dA 7 ?_ (x := gR (k := i) (G := 2920) (by decide) cV (by exact tI) (by omega) (by first | (rw [ar]; exact hi) | exact hi))
 refine dA 15 ?_ (x := fZ (o := 0) (qs := [val _]) (by omega) (by decide) fH (fun _ => rfl) (by exact nl rfl) (by exact (an am.nil)) (by exact (ao.cons (bor_val _) ao.nil)))
 exact z.g) : G := ah w h
def qG (h : H) (w : ae G H := by
 intro z
 refine sR ?_
 refine rX ?_ (x := (cI (ag := true) (cs := [val _, val _, sl _ _, val _, val _]) (by decide) (by exact tI)))
 exact z.g) : G := ah w h
def pb (h : H) (w : ae G H := by
 intro z
 refine rA ?_ (x := lD [sl .v _] bq)
 refine rA ?_ (x := lN bC)
 exact z.g) : G := ah w h
def so (h : H) (w : ae G H := by
 intro z
 refine sR ?_
 refine rX ?_ (x := (cI (ag := true) (cs := [val _, val _, val _, sl _ _, sl _ _, val _, val _, val _, val _, sl _ _, val _, val _, val _]) (by decide) (by exact tI)))
 exact z.g) : G := ah w h
def qH (h : H) (w : ae G H := by
 intro z
 refine rA ?_ (x := fP (o := 0) (ag := false) (vs := [val _]) (by omega) au (by exact tI) (by exact rfl) (by exact nl rfl))
 refine aP ?_
 exact z.g) : G := ah w h
def Gq (h : H) (w : ae G H := by
 intro z
 refine dA 8160 ?_ (x := eV (qs := [(true, [nv _ (val _), nv _ (val _), nv _ (sl _ _), nv _ (sl _ _)]), (false, [val _]), (false, [val _]), (false, [nv _ (sl _ _)])]) (cs := [nv _ (val _), nv _ (val _), nv _ (sl _ _), nv _ (sl _ _), val _, val _, nv _ (sl _ _)]) (by decide) jS pQ VT (by exact rfl) (by exact (aI (by exact tI) (aI (by exact tI) (aI (by exact tI) (aI (by exact tI) tI))))) rfl (by exact rfl))
 refine dA 16352 ?_ (x := b9 (qs := [(true, [nv _ (val _), nv _ (val _), nv _ (sl _ _), nv _ (sl _ _), val _, val _, nv _ (sl _ _)])]) (by decide) ez jS (by decide) rfl rfl rfl rfl rfl (by exact nl rfl) (by exact (aI (by exact tI) tI)) rfl)
 exact z.g) : G := ah w h
def pc (h : H) (w : ae G H := by
 intro z
 refine sR ?_
 refine rX ?_ (x := (cI (ag := true) (cs := [val _, sl _ _]) (by decide) (by exact tI)))
 exact z.g) : G := ah w h
def Gr (h : H) (w : ae G H := by
 intro z
 refine sO [(1, _), (2, _), (3, _), (4, _), (5, _), (6, _), (8, _), (9, _), (10, _), (11, _), (57, _), (58, _), (59, _), (77, _), (78, _), (79, _), (2900, _), (6100, _)] [(1, (32, [sl (.lo _) _, val _, val _, sl (.lo _) _, sl (.lo _) _, sl (.lo _) _, sl (.lo _) _, val _])), (2, (32, [sl _ _, val _, val _, sl _ _, sl _ _, sl _ _, sl _ _, val _])), (4, (32, [sl _ _, val _, val _, sl _ _, val _, sl _ _, sl _ _, val _])), (6, (70, [val _, val _, sl _ _, sl _ _, sl _ _])), (10, (108, [val _, val _, sl _ _, sl _ _, val _, sl _ _, val _, val _, val _, sl _ _])), (900, (108, _ ++ ([val _, val _, sl _ _, sl _ _, val _, sl _ _, val _, val _, val _, sl _ _] ++ _)))] ?_
 refine ba ?_
 exact z.g) : G := ah w h
def sq (h : H) (w : ae G H := by
 intro z
 refine rA ?_ (x := d4)
 refine rS ?_
 exact z.g) : G := ah w h
def sr (h : H) (w : ae G H := by
 intro z
 refine sR ?_
 refine rX ?_ (x := (cI (ag := true) (cs := [val _, val _, sl _ _, sl _ _, val _, sl _ _, val _, val _, val _, sl _ _]) (by decide) (by exact tI)))
 exact z.g) : G := ah w h
def yw (h : H) (w : ae G H := by
 intro z
 refine rA ?_ (x := lD [sl .v _, val _, val _, sl .v _, sl .v _, sl .v _, sl .v _, val _] bZ)
 refine rA ?_ (x := cL [(true, [sl _ _, val _, val _, sl _ _, sl _ _, sl _ _, sl _ _, val _])] [(true, [sl .v _, val _, val _, sl .v _, sl .v _, sl .v _, sl .v _, val _])] KQ (hs := by exact (Lp (by omega))))
 exact z.g) : G := ah w h
def uI (h : H) (w : ae G H := by
 intro z
 refine rX ?_ (x := (bR (by decide) jS pQ))
 refine rA ?_ (x := bd (ag := true) (vs := [val _, val _, sl _ _, sl _ _, val _, val _, sl _ _]) lY (by exact tI) (by exact rfl) (by exact nl rfl))
 exact z.g) : G := ah w h
def yx (h : H) (w : ae G H := by
 intro z
 refine rA ?_ (x := lD [sl .v _, val _, val _, sl .v _, sl .v _, sl .v _, sl .v _, val _] bZ)
 refine rA ?_ (x := cL [(true, [sl _ _, val _, val _, sl _ _, sl _ _, sl _ _, sl _ _, val _])] [(true, [sl .v _, val _, val _, sl .v _, sl .v _, sl .v _, sl .v _, val _])] wv (hs := by exact (wF (by omega))))
 exact z.g) : G := ah w h
def yy (h : H) (w : ae G H := by
 intro z
 refine rA ?_ (x := lD [sl .v _, val _, val _, sl .v _, sl .v _, sl .v _, sl .v _, val _] bZ)
 refine rA ?_ (x := cL [(true, [sl _ _, val _, val _, sl _ _, sl _ _, sl _ _, sl _ _, val _])] [(true, [sl .v _, val _, val _, sl .v _, sl .v _, sl .v _, sl .v _, val _])] KO (hs := by exact (Lj (by omega))))
 exact z.g) : G := ah w h
def uJ (h : H) (w : ae G H := by
 intro z
 refine rA ?_ (x := aY (by decide) ez (by exact tI) (by exact rfl) (by exact be (by omega) rfl) (by exact rfl))
 refine rA ?_ (x := lE [val _, val _, sl .v _, sl .v _, val _, val _, sl .v _] lY)
 exact z.g) : G := ah w h
def pd (h : H) (w : ae G H := by
 intro z
 refine rA ?_ (x := lF pN)
 refine rA ?_ (x := lD [val _, val _, sl .v _, val _, val _] kg)
 exact z.g) : G := ah w h
def ct (h : H) (w : ae G H := by
 intro z
 refine sR ?_
 refine rA ?_ (x := cy)
 refine aP ?_
 exact z.g) : G := ah w h
def st (h : H) (w : ae G H := by
 intro z
 refine rA ?_ (x := b9 (qs := []) (by decide) bI fa (by decide) rfl rfl rfl rfl rfl (by exact nl rfl) (by exact tI) rfl)
 refine rA ?_ (x := tA)
 exact z.g) : G := ah w h
def uK (h : H) (w : ae G H := by
 intro z
 refine rB gb ?_ (x := lD [val _] au)
 refine rB gb ?_ (x := cL [(false, [val _]), (false, [val _]), (false, [val _])] [(false, [val _]), (false, [val _]), (false, [val _])] jo (hs := by exact jC))
 exact z.g) : G := ah w h
def yz (h : H) (w : ae G H := by
 intro z
 refine rA ?_ (x := gR (k := u.Field.toNat) (G := 2930) (by decide) bC (by exact tI) (by omega) (by first | (rw [ar]; exact hfl) | exact hfl))
 refine rA ?_ (x := fP (o := 0) (ag := false) (vs := [val _]) (by omega) au (by exact tI) (by exact rfl) (by exact nl rfl))
 exact z.g) : G := ah w h
def eP (h : H) (w : ae G H := by
 intro z
 refine ba ?_
 refine cZ ?_
 exact z.g) : G := ah w h
def Gs (h : H) (w : ae G H := by
 intro z
 refine sO [(2, _), (3, _), (4, _), (6, _), (7, _), (8, _), (9, _), (11, _), (54, _), (55, _), (67, _), (68, _), (69, _), (6200, _), (6300, _)] [(3, (32, [sl _ _, val _, val _, sl _ _, sl _ _, sl _ _, sl _ _, val _])), (4, (52, [val _, val _, sl _ _, sl _ _])), (6, (32, [sl _ _, val _, val _, sl _ _, sl _ _, sl _ _, sl _ _, val _])), (8, (32, [sl _ _, val _, val _, sl _ _, sl _ _, sl _ _, sl _ _, val _])), (9, (108, [nv _ (val _), nv _ (val _), nv _ (sl _ _), nv _ (sl _ _), nv _ (val _), nv _ (sl _ _), nv _ (val _), nv _ (val _), nv _ (val _), nv _ (sl _ _)]))] ?_
 refine ba ?_
 exact z.g) : G := ah w h
def fB (h : H) (w : ae G H := by
 intro z
 refine rA ?_ (x := nT)
 refine rM ?_
 exact z.g) : G := ah w h
def sw (h : H) (w : ae G H := by
 intro z
 refine rA ?_ (x := bd (ag := true) (vs := [val _, val _, sl _ _, sl _ _]) eK (by exact tI) (by exact rfl) (by exact nl rfl))
 refine aP ?_
 exact z.g) : G := ah w h
def sx (h : H) (w : ae G H := by
 intro z
 refine rA ?_ (x := lF gE)
 refine rA ?_ (x := bd (ag := true) (vs := [sl _ _, val _]) dv (by exact tI) (by exact rfl) (by exact nl rfl))
 exact z.g) : G := ah w h
def Gt (h : H) (w : ae G H := by
 intro z
 refine bV (d := 900) (by exact rfl) (congrArg (fun z_ => bA (aD aS aa) z_ jk900) (show (gK zss keep i).map (List.map Prod.fst) = s.Wr.map (mX keep) from by rw [hend, AW]; exact Rh hzss)) ?_
 refine mi (d := 6) (D := 900) (G := 2900) (e := 1) (A := []) (B := [val _]) (es := ((s.Wr.map (mX keep))).map (aD aS aa)) (by exact rfl) (by exact rfl) (by exact rfl) rfl (by simp) (by intro c hc; obtain ⟨y, _, rfl⟩ := List.mem_map.1 hc; exact rfl) (by rw [ar]; exact hjk900) ?_
 exact z.g) : G := ah w h
def yA (h : H) (w : ae G H := by
 intro z
 refine rA ?_ (x := eC (by decide) ck eT rfl rfl (by decide) rfl (by simp only [ar, aU, List.length_cons, List.length_nil]; omega) (by simp only [ar, aU, List.length_cons, List.length_nil]; omega))
 refine rA ?_ (x := tA)
 exact z.g) : G := ah w h
def nJ (h : H) (w : ae G H := by
 intro z
 refine sR ?_
 refine rA ?_ (x := ik (.inr rfl) (by decide) (jf (t := 3) (e := 1)))
 exact z.g) : G := ah w h
def uL (h : H) (w : ae G H := by
 intro z
 refine sO [(0, _), (2, _), (3, _), (4, _), (5, _), (6, _), (5000, _), (6200, _)] [(0, _), (6, (108, [val _, val _, sl _ _, sl _ _, val _, sl _ _, val _, val _, val _, sl _ _]))] ?_
 refine ba ?_
 exact z.g) : G := ah w h
def yB (h : H) (w : ae G H := by
 intro z
 refine aP ?_
 refine sO [(1, _), (2, _), (3, _), (4, _), (5, _), (6, _), (14, _), (16, _), (57, _), (58, _), (59, _), (145, _), (146, _), (147, _), (6200, _)] [(1, _), (2, _), (4, _), (6, _), (16, (108, [val _, val _, sl _ _, sl _ _, val _, sl _ _, val _, val _, val _, sl _ _]))] ?_
 exact z.g) : G := ah w h
def nK (h : H) (w : ae G H := by
 intro z
 refine rB ga ?_ (x := lD [val _] au)
 refine rB ga ?_ (x := d4)
 exact z.g) : G := ah w h
def yC (h : H) (w : ae G H := by
 intro z
 refine rA ?_ (x := eC (by decide) bI fa rfl rfl (by decide) rfl (by simp only [ar, aU, List.length_cons, List.length_nil]; omega) (by simp only [ar, aU, List.length_cons, List.length_nil]; omega))
 refine oU ?_
 exact z.g) : G := ah w h
def uM (h : H) (w : ae G H := by
 intro z
 refine rA ?_ (x := aY (by decide) ck (by exact tI) (by exact rfl) (by exact be (by omega) rfl) (by exact rfl))
 refine rA ?_ (x := lE [val _, sl .v _, val _, val _] dO)
 exact z.g) : G := ah w h
def uN (h : H) (w : ae G H := by
 intro z
 refine sO [(0, _), (3, _), (4, _), (5, _), (6, _), (5000, _), (6200, _)] [(0, _), (6, (108, [val _, val _, sl _ _, sl _ _, val _, sl _ _, val _, val _, val _, sl _ _]))] ?_
 refine ba ?_
 exact z.g) : G := ah w h
def Gu (h : H) (w : ae G H := by
 intro z
 refine dA 48 ?_ (x := lD [sl (.lo _) _] bq)
 refine dA 120 ?_ (x := il (by decide) bC ej rfl rfl (by decide) (by first | (intro cs hcs; obtain ⟨x, _, rfl⟩ := List.mem_map.1 hcs; exact rfl) | simp) (by first | (intro cs hcs; obtain ⟨x, _, rfl⟩ := List.mem_map.1 hcs; exact (ao.cons (bor_val _) ao.nil)) | simp) (by simp only [ar, aU, List.length_cons, List.length_nil]; omega) (by simp only [ar, aU, List.length_cons, List.length_nil]; omega))
 exact z.g) : G := ah w h
def gl (h : H) (w : ae G H := by
 intro z
 refine rA ?_ (x := lE [val _] au)
 refine rM ?_
 refine rA ?_ (x := eM)
 exact z.g) : G := ah w h
def Gv (h : H) (w : ae G H := by
 intro z
 refine dA 512 ?_ (x := lD [sl .v _] bq)
 refine dA 2032 ?_ (x := il (by decide) bC ej rfl rfl (by decide) (by first | (intro cs hcs; obtain ⟨x, _, rfl⟩ := List.mem_map.1 hcs; exact rfl) | simp) (by first | (intro cs hcs; obtain ⟨x, _, rfl⟩ := List.mem_map.1 hcs; exact (ao.cons (bor_val _) ao.nil)) | simp) (by simp only [ar, aU, List.length_cons, List.length_nil]; omega) (by simp only [ar, aU, List.length_cons, List.length_nil]; omega))
 exact z.g) : G := ah w h
def uO (h : H) (w : ae G H := by
 intro z
 refine sO [(1, _), (2, _), (3, _), (4, _), (5, _)] [(1, _), (2, _), (3, _), (5, (108, [val _, val _, sl _ _, sl _ _, val _, sl _ _, val _, val _, val _, sl _ _]))] ?_
 refine ba ?_
 exact z.g) : G := ah w h
def yD (h : H) (w : ae G H := by
 intro z
 refine mr ?_
 refine rA ?_ (x := cL [(true, [sl (.lo _) _, val _, val _, sl (.lo _) _, sl (.lo _) _, sl (.lo _) _, sl (.lo _) _, val _])] [(true, [sl .v _, val _, val _, sl .v _, sl .v _, sl .v _, sl .v _, val _])] KQ (hs := by exact (Lp (by omega))))
 exact z.g) : G := ah w h
def yE (h : H) (w : ae G H := by
 intro z
 refine rA ?_ (x := cL [(true, [sl (.lo _) _, val _, val _, sl (.lo _) _, sl (.lo _) _, sl (.lo _) _, sl (.lo _) _, val _])] [(true, [sl .v _, val _, val _, sl .v _, sl .v _, sl .v _, sl .v _, val _])] KO (hs := by exact (Lj (by omega))))
 refine fB ?_
 exact z.g) : G := ah w h
def Gw (h : H) (w : ae G H := by
 intro z
 refine rA ?_ (x := df (qs := [nv _ (val _), nv _ (sl .v _), nv _ (val _), nv _ (val _)]) (by decide) dO (fun h => nomatch h) (by exact nl rfl) (by exact (an (an (an (an am.nil))))) (by exact lq))
 refine rA ?_ (x := b9 (qs := [(true, [nv _ (val _), nv _ (sl _ _), nv _ (val _), nv _ (val _)])]) (by decide) ck eT (by decide) rfl rfl rfl rfl rfl (by exact nl rfl) (by exact (aI (by exact tI) tI)) rfl)
 exact z.g) : G := ah w h
def yF (h : H) (w : ae G H := by
 intro z
 refine mr ?_
 refine rA ?_ (x := cL [(true, [sl (.lo _) _, val _, val _, sl (.lo _) _, sl (.lo _) _, sl (.lo _) _, sl (.lo _) _, val _])] [(true, [sl .v _, val _, val _, sl .v _, sl .v _, sl .v _, sl .v _, val _])] KR (hs := by exact (Lq (by omega))))
 exact z.g) : G := ah w h
def Gx (h : H) (w : ae G H := by
 intro z
 refine sO [(1, _), (2, _), (3, _), (4, _), (5, _), (6, _), (8, _), (9, _), (10, _), (11, _), (57, _), (58, _), (59, _), (77, _), (78, _), (79, _), (6100, _)] [(1, _), (2, _), (4, _), (6, (70, [val _, val _, sl _ _, sl _ _, sl _ _])), (10, _)] ?_
 refine ba ?_
 exact z.g) : G := ah w h
def uP (h : H) (w : ae G H := by
 intro z
 refine eO ?_
 refine sO [(2, _), (3, _), (4, _), (5, _), (6, _), (7, _), (8, _), (9, _), (10, _)] [(2, _), (3, _), (4, _), (6, _), (10, (184, [val _, sl _ _, val _, val _]))] ?_
 exact z.g) : G := ah w h
def nL (h : H) (w : ae G H := by
 intro z
 refine zf gc ?_
 refine rA ?_ (x := aK gc)
 exact z.g) : G := ah w h
def sy (h : H) (w : ae G H := by
 intro z
 refine rM ?_
 refine rA ?_ (x := aY (by decide) dY (by exact tI) (by exact rfl) (by exact nt hlt rfl) (by exact rfl))
 exact z.g) : G := ah w h
def uQ (h : H) (w : ae G H := by
 intro z
 refine sS [0, 1, 5] [] ?_
 refine iv ?_
 exact z.g) : G := ah w h
def pe (h : H) (w : ae G H := by
 intro z
 refine rB gb ?_ (x := lD [val _] au)
 refine rB gb ?_ (x := d4)
 exact z.g) : G := ah w h
def yG (h : H) (w : ae G H := by
 intro z
 refine sS [0, 1, 4] [] ?_
 refine cz ?_
 refine sP [0, 1, 4, 5] [] ?_
 exact z.g) : G := ah w h
def uR (h : H) (w : ae G H := by
 intro z
 refine rA ?_ (x := aY (by decide) fG (by exact tI) (by exact rfl) (by exact be (by omega) rfl) (by exact rfl))
 refine rA ?_ (x := lE [val _, sl .v _] eS)
 exact z.g) : G := ah w h
def Gy (h : H) (w : ae G H := by
 intro z
 refine rA ?_ (x := b9 (qs := [(true, [val _, val _, sl _ _, sl _ _, val _, val _, sl _ _])]) (by decide) ez jS (by decide) rfl rfl rfl rfl rfl (by exact nl rfl) (by exact (aI (by exact tI) tI)) rfl)
 refine rA ?_ (x := eC (by decide) ez jS rfl rfl (by decide) rfl (by simp only [ar, aU, List.length_cons, List.length_nil]; omega) (by simp only [ar, aU, List.length_cons, List.length_nil]; omega))
 exact z.g) : G := ah w h
def yH (h : H) (w : ae G H := by
 intro z
 refine rA ?_ (x := lF dN)
 refine rA ?_ (x := cl (ms := [sl _ _]) (qs := [sl .v _]) (by decide) dC (fun _ => rfl) (by exact nl rfl) (by exact rfl) (by exact (aF am.nil)) (by exact (ao.cons (bor_sl _) ao.nil)))
 exact z.g) : G := ah w h
def yI (h : H) (w : ae G H := by
 intro z
 refine rA ?_ (x := cL [(true, [val _, val _, sl _ _, sl _ _]), (true, [val _, val _, sl _ _, sl _ _])] [(true, [val _, val _, sl .v _, sl .v _]), (true, [val _, val _, sl .v _, sl .v _])] OY (hs := by exact Te))
 refine rA ?_ (x := nT)
 exact z.g) : G := ah w h
def qI (h : H) (w : ae G H := by
 intro z
 refine rM ?_
 refine rA ?_ (x := ee (by decide) bI (by exact tI) (by exact rfl) (by omega))
 exact z.g) : G := ah w h
def lv (h : H) (w : ae G H := by
 intro z
 refine rA ?_ (x := vM false [sl .v _])
 refine rM ?_
 exact z.g) : G := ah w h
def Gz (h : H) (w : ae G H := by
 intro z
 refine rA ?_ (x := eV (qs := []) (cs := [val _, val _, sl _ _, val _, val _]) (by decide) AL AN Qv (by exact rfl) (by exact tI) rfl (by exact rfl))
 refine rA ?_ (x := cL [(true, [val _, val _, sl _ _, val _, val _]), (true, [val _, val _, sl _ _, val _, val _])] [(true, [val _, val _, sl .v _, val _, val _]), (true, [val _, val _, sl .v _, val _, val _])] Pe (hs := by exact (VY (x := x.Wv) (y := ⟨0, ⟨0, []⟩, 0, 0⟩))))
 exact z.g) : G := ah w h
def kC (h : H) (w : ae G H := by
 intro z
 refine qz ?_
 refine rA ?_ (x := lN cV)
 exact z.g) : G := ah w h
def my (h : H) (w : ae G H := by
 intro z
 refine rA ?_ (x := lF kd)
 refine rA ?_ (x := lD [sl .v _] kf)
 exact z.g) : G := ah w h
def GA (h : H) (w : ae G H := by
 intro z
 refine bV (d := 930) (by exact rfl) (lr u.Value hfl (by exact rfl)) ?_
 refine mi (d := 10) (D := 930) (G := 2930) (e := 1) (A := [val _]) (B := [val _, val _]) (es := (((eo s u)).set u.Field.toNat u.Value).map ak) (by exact rfl) (by exact rfl) (by exact rfl) rfl (by rw [ar, List.length_set, ar]) (by intro c hc; obtain ⟨y, _, rfl⟩ := List.mem_map.1 hc; exact rfl) (by rw [ar]; exact hjk930) ?_
 exact z.g) : G := ah w h
def uS (h : H) (w : ae G H := by
 intro z
 refine rA ?_ (x := vM false [sl .v _])
 refine rA ?_ (x := lN ck)
 exact z.g) : G := ah w h
def sz (h : H) (w : ae G H := by
 intro z
 refine sO [(1, _), (2, _), (3, _)] [(1, _), (2, _), (3, (70, [val _, val _, sl _ _, sl _ _, sl _ _]))] ?_
 refine ba ?_
 exact z.g) : G := ah w h
def yJ (h : H) (w : ae G H := by
 intro z
 refine rB gc ?_ (x := lD [val _, val _, sl .v _, val _, val _] kg)
 refine rB gc ?_ (x := cL [(true, [val _, val _, sl _ _, val _, val _])] [(true, [val _, val _, sl .v _, val _, val _])] Pf (hs := by exact V0))
 exact z.g) : G := ah w h
def GB (h : H) (w : ae G H := by
 intro z
 refine rA ?_ (x := lD [sl .v _, val _, val _, sl .v _, sl .v _, sl .v _, sl .v _, val _] bZ)
 refine rA ?_ (x := cL [(true, [sl _ _, val _, val _, sl _ _, sl _ _, sl _ _, sl _ _, val _]), (true, [sl _ _, val _, val _, sl _ _, sl _ _, sl _ _, sl _ _, val _])] [(true, [sl .v _, val _, val _, sl .v _, sl .v _, sl .v _, sl .v _, val _]), (true, [sl .v _, val _, val _, sl .v _, sl .v _, sl .v _, sl .v _, val _])] A5 (hs := by exact Bb))
 exact z.g) : G := ah w h
def uT (h : H) (w : ae G H := by
 intro z
 refine ba ?_
 refine rA ?_ (x := lD [sl (.lo _) _, val _] dv)
 exact z.g) : G := ah w h
def lx (h : H) (w : ae G H := by
 intro z
 refine rA ?_ (x := lD [val _] au)
 refine rA ?_ (x := j4)
 exact z.g) : G := ah w h
def ly (h : H) (w : ae G H := by
 intro z
 refine rB ga ?_ (x := nT)
 refine rA ?_ (x := aK ga)
 exact z.g) : G := ah w h
def sB (h : H) (w : ae G H := by
 intro z
 refine sO [(1, _), (2, _), (3, _)] [(1, _), (2, _), (3, (56, [val _, val _, sl _ _, val _, val _]))] ?_
 refine ba ?_
 exact z.g) : G := ah w h
def uU (h : H) (w : ae G H := by
 intro z
 refine rA ?_ (x := fP (o := 1) (ag := false) (vs := [val _]) (by omega) au (by exact tI) (by exact rfl) (by exact nl rfl))
 refine aP ?_
 exact z.g) : G := ah w h
def ib (h : H) (w : ae G H := by
 intro z
 refine fA ?_
 refine sS [1, 2, 4] [2] ?_
 refine iv ?_
 exact z.g) : G := ah w h
def GC (h : H) (w : ae G H := by
 intro z
 refine sP [1, 3, 5, 7, 23, 24, 25, 32, 33, 34, 66, 67, 68] [1, 7] ?_
 refine sL [1, 3, 5, 7, 23, 24, 25, 32, 33, 34, 66, 67] [1, 7] (fun m : Nat => m ≤ (c7 s k).length + j ∧ fL (cf s) ((c7 s k).length + j) m = true) (fun m : Nat => [(68, RV.int (m : Int))]) (fun m : Nat => []) (fun m : Nat => (c7 s k).length + j - m) 0 (by exact ⟨by omega, rfl⟩) (by exact aI (by exact rfl) tI) (by exact tI) ?_
 exact z.g) : G := ah w h
def sC (h : H) (w : ae G H := by
 intro z
 refine sO [(1, _), (2, _), (3, _)] [(1, _), (2, _), (3, (184, [val _, sl _ _, val _, val _]))] ?_
 refine ba ?_
 exact z.g) : G := ah w h
def uV (h : H) (w : ae G H := by
 intro z
 refine sR ?_
 refine rX ?_ (x := (cI (ag := true) (cs := [val _, val _, sl _ _, sl _ _, val _, val _, sl _ _]) (by decide) (by exact tI)))
 exact z.g) : G := ah w h
def yK (h : H) (w : ae G H := by
 intro z
 refine rA ?_ (x := cL [(true, [val _, val _, sl _ _, sl _ _]), (false, [val _])] [(true, [val _, val _, sl .v _, sl .v _]), (false, [val _])] OK (hs := by exact SE (by omega) (by omega)))
 refine ib ?_
 exact z.g) : G := ah w h
def yL (h : H) (w : ae G H := by
 intro z
 refine rA ?_ (x := lD [val _, val _, sl .v _, sl .v _] J3)
 refine rA ?_ (x := cL [(true, [val _, val _, sl _ _, sl _ _])] [(true, [val _, val _, sl .v _, sl .v _])] OR (hs := by exact SY (by omega)))
 exact z.g) : G := ah w h
def pf (h : H) (w : ae G H := by
 intro z
 refine sS [0, 1, 4, 5] [999] ?_
 refine rA ?_ (x := bc (.inl rfl) (by decide) (by exact Cp.nm Cp.hdr))
 refine rM ?_
 exact z.g) : G := ah w h
def sD (h : H) (w : ae G H := by
 intro z
 refine sP [0, 1, 4, 5] [999] ?_
 refine gv ?_
 exact z.g) : G := ah w h
def GD (h : H) (w : ae G H := by
 intro z
 refine sO [(1, _), (2, _), (3, _), (4, _), (5, _), (6, _), (57, _), (58, _), (59, _)] [(1, (32, [sl (.lo _) _, val _, val _, sl (.lo _) _, sl (.lo _) _, sl (.lo _) _, sl (.lo _) _, val _])), (2, (32, [sl _ _, val _, val _, sl _ _, sl _ _, sl _ _, sl _ _, val _])), (4, (32, [sl _ _, val _, val _, sl _ _, sl _ _, sl _ _, sl _ _, val _])), (6, (70, [val _, val _, sl _ _, sl _ _, sl _ _]))] ?_
 refine ba ?_
 exact z.g) : G := ah w h
def uW (h : H) (w : ae G H := by
 intro z
 refine sG [2, 3, 4, 5, 6, 7, 20] [2, 3, 4, 6] ?_
 refine rA ?_ (x := lD [sl .v _, val _, val _, sl .v _, sl .v _, sl .v _, sl .v _, val _] bZ)
 exact z.g) : G := ah w h
def lz (h : H) (w : ae G H := by
 intro z
 refine rM ?_
 refine d5 ?_
 exact z.g) : G := ah w h
def nM (h : H) (w : ae G H := by
 intro z
 refine rA ?_ (x := lF jt)
 refine rA ?_ (x := lD [sl .v _] jz)
 exact z.g) : G := ah w h
def d6 (h : H) (w : ae G H := by
 intro z
 refine qy ?_
 refine rM ?_
 exact z.g) : G := ah w h
def yM (h : H) (w : ae G H := by
 intro z
 refine rB gc ?_ (x := lD [val _] au)
 refine rB gc ?_ (x := cL [(false, [val _]), (false, [val _]), (false, [val _])] [(false, [val _]), (false, [val _]), (false, [val _])] jo (hs := by exact jC))
 exact z.g) : G := ah w h
def yN (h : H) (w : ae G H := by
 intro z
 refine rB gd ?_ (x := lD [val _] au)
 refine rB gd ?_ (x := cL [(false, [val _]), (false, [val _]), (false, [val _])] [(false, [val _]), (false, [val _]), (false, [val _])] jo (hs := by exact jC))
 exact z.g) : G := ah w h
def uX (h : H) (w : ae G H := by
 intro z
 refine lv ?_
 refine rA ?_ (x := aY (by decide) la (by exact tI) (by exact rfl) (by exact be (by omega) rfl) (by exact rfl))
 exact z.g) : G := ah w h
def iw (h : H) (w : ae G H := by
 intro z
 refine rA ?_ (x := aR gc)
 refine rM ?_
 exact z.g) : G := ah w h
def yO (h : H) (w : ae G H := by
 intro z
 refine rB gd ?_ (x := lD [val _] au)
 refine rB gd ?_ (x := cL [(false, [val _]), (false, [val _]), (false, [val _])] [(false, [val _]), (false, [val _]), (false, [val _])] fF (hs := by exact fJ))
 exact z.g) : G := ah w h
def mz (h : H) (w : ae G H := by
 intro z
 refine sS [0, 2] [] ?_
 refine rA ?_ (x := vM false [sl .v _])
 exact z.g) : G := ah w h
def yP (h : H) (w : ae G H := by
 intro z
 refine dA 0 ?_ (x := sM)
 refine dA 992 ?_ (x := gR (k := i) (G := 2900) (by decide) bI (by exact tI) (by first | exact hf2 | omega) (by first | (rw [ar]; exact hil) | exact hil))
 exact z.g) : G := ah w h
def pg (h : H) (w : ae G H := by
 intro z
 refine rA ?_ (x := lF gE)
 refine rA ?_ (x := lD [sl .v _, val _] dv)
 exact z.g) : G := ah w h
def yQ (h : H) (w : ae G H := by
 intro z
 refine rX ?_ (x := (bR (by decide) iC oq))
 refine rA ?_ (x := bd (ag := true) (vs := [val _, val _, sl _ _, sl _ _, sl _ _]) i8 (by exact tI) (by exact rfl) (by exact nl rfl))
 exact z.g) : G := ah w h
def j6 (h : H) (w : ae G H := by
 intro z
 refine dz ?_
 refine sT [2, 3, 4] [2, 3] ?_
 exact z.g) : G := ah w h
def uY (h : H) (w : ae G H := by
 intro z
 refine rM ?_
 refine rA ?_ (x := aY (by decide) ck (by exact tI) (by exact rfl) (by exact nt hlt rfl) (by exact rfl))
 exact z.g) : G := ah w h
def yR (h : H) (w : ae G H := by
 intro z
 refine rA ?_ (x := aY (by decide) dY (by exact tI) (by exact rfl) (by exact be (by omega) rfl) (by exact rfl))
 refine rA ?_ (x := lE [val _, val _, sl .v _, sl .v _, sl .v _] i8)
 exact z.g) : G := ah w h
def uZ (h : H) (w : ae G H := by
 intro z
 refine sO [(1, _), (2, _), (3, _)] [(1, _), (2, _), (3, (63, [val _, val _, sl _ _, sl _ _, val _, val _, sl _ _]))] ?_
 refine ba ?_
 exact z.g) : G := ah w h
def nN (h : H) (w : ae G H := by
 intro z
 refine db cJ ?_
 refine eE ?_
 exact z.g) : G := ah w h
def yS (h : H) (w : ae G H := by
 intro z
 refine dA 64 ?_ (x := lD [val _] au)
 refine dA 255 ?_ (x := gR (k := k) (G := 2921) (by decide) ck (by exact tI) (by omega) (by first | (rw [ar]; exact hk) | exact hk))
 exact z.g) : G := ah w h
def u4 (h : H) (w : ae G H := by
 intro z
 refine sS [2, 3, 4, 5, 17] [2, 3, 4] ?_
 refine rA ?_ (x := lD [sl .v _, val _, val _, sl .v _, sl .v _, sl .v _, sl .v _, val _] bZ)
 exact z.g) : G := ah w h
def yT (h : H) (w : ae G H := by
 intro z
 refine rA ?_ (x := aY (k := k) (by decide) ck (by exact tI) (by omega) (by exact be hk rfl) (by exact rfl))
 refine rA ?_ (x := bE (by decide) i2 (by exact nl rfl))
 exact z.g) : G := ah w h
def gV (h : H) (w : ae G H := by
 intro z
 refine bF ?_
 refine aP ?_
 exact z.g) : G := ah w h
def GF (h : H) (w : ae G H := by
 intro z
 refine xK (d := 6) (G := 6200) (e := 10) (f := (aO ay aa aa aB aa)) (z := za[m]) (zs := (za.drop (m + 1))) (by exact rfl) (by exact (Nm.nv (Nm.nv (Nm.nv (Nm.nv (Nm.nv (Nm.nv (Nm.nv (Nm.nv (Nm.nv (Nm.nv Nm.nil))))))))))) (fun _ => rfl) (by rw [← List.drop_eq_getElem_cons hltz]; exact rfl) ?_
 refine aP ?_
 exact z.g) : G := ah w h
def GG (h : H) (w : ae G H := by
 intro z
 refine rA ?_ (x := gR (k := i) (G := 2900) (by decide) cV (by exact tI) (by first | rfl | omega) (by simp only [ar]; omega))
 refine rA ?_ (x := Nl (f := jU) (e := 1) (k := i) (ag := false) (vs := [sl _ _]) _ (fun _ => rfl) rfl (by first | omega | (simp only [List.length_set]; omega)) fH (by exact tI) (by exact rfl))
 exact z.g) : G := ah w h
def sE (h : H) (w : ae G H := by
 intro z
 refine sO [(1, _), (2, _), (3, _)] [(1, _), (2, _), (3, (26, [sl _ _, val _]))] ?_
 refine ba ?_
 exact z.g) : G := ah w h
def fQ (h : H) (w : ae G H := by
 intro z
 refine zf gb ?_
 refine oW ?_
 exact z.g) : G := ah w h
def jj (h : H) (w : ae G H := by
 intro z
 refine rK ?_
 refine sT [1, 2, 4] [2] ?_
 exact z.g) : G := ah w h
def yU (h : H) (w : ae G H := by
 intro z
 refine rB gb ?_ (x := cL [(false, [val _]), (false, [val _]), (false, [val _])] [(false, [val _]), (false, [val _]), (false, [val _])] fF (hs := by exact fJ))
 refine gj ?_
 exact z.g) : G := ah w h
def yV (h : H) (w : ae G H := by
 intro z
 refine rB ga ?_ (x := cL [(false, [val _]), (false, [val _]), (false, [val _])] [(false, [val _]), (false, [val _]), (false, [val _])] fF (hs := by exact fJ))
 refine ly ?_
 exact z.g) : G := ah w h
def ph (h : H) (w : ae G H := by
 intro z
 refine rA ?_ (x := lF i6)
 refine rA ?_ (x := lD [sl .v _] i7)
 exact z.g) : G := ah w h
def mA (h : H) (w : ae G H := by
 intro z
 refine rA ?_ (x := lN ck)
 refine rA ?_ (x := cy)
 exact z.g) : G := ah w h
def u5 (h : H) (w : ae G H := by
 intro z
 refine rX ?_ (x := (bR (by decide) jR jT))
 refine dz ?_
 exact z.g) : G := ah w h
def GH (h : H) (w : ae G H := by
 intro z
 refine rA ?_ (x := nb (qs := [nv _ (val _), nv _ (sl .v _), nv _ (val _), nv _ (val _)]) (by decide) dO (fun h => nomatch h) (by exact nl rfl) (by exact (an (an (an (an am.nil))))) (by exact lq))
 refine rX ?_ (x := (bR (by decide) eT kh))
 exact z.g) : G := ah w h
def yW (h : H) (w : ae G H := by
 intro z
 refine dA 511 ?_ (x := lF fR)
 refine dA 1023 ?_ (x := fP (o := 3) (ag := false) (vs := [val _]) (by omega) au (by exact tI) (by exact rfl) (by exact nl rfl))
 exact z.g) : G := ah w h
def u6 (h : H) (w : ae G H := by
 intro z
 refine rB gc ?_ (x := lD [val _] au)
 refine rB gc ?_ (x := d4)
 exact z.g) : G := ah w h
def sI (h : H) (w : ae G H := by
 intro z
 refine rA ?_ (x := lF eR)
 refine rA ?_ (x := lD [val _, val _, sl .v _, sl .v _] eK)
 exact z.g) : G := ah w h
def u7 (h : H) (w : ae G H := by
 intro z
 refine db cJ ?_
 refine dA 0 ?_ (x := cM Cp.ptr)
 exact z.g) : G := ah w h
def pi (h : H) (w : ae G H := by
 intro z
 refine rA ?_ (x := lF i4)
 refine rA ?_ (x := lD [val _] au)
 exact z.g) : G := ah w h
def sJ (h : H) (w : ae G H := by
 intro z
 refine rA ?_ (x := lF lU)
 refine rA ?_ (x := lD [val _, val _, sl .v _, sl .v _] eK)
 exact z.g) : G := ah w h
def GI (h : H) (w : ae G H := by
 intro z
 refine sS [2, 3, 4, 5, 6, 7, 8] [2, 3, 4, 6, 7] ?_
 refine rA ?_ (x := cl (ms := [sl _ _, val _]) (qs := [any, val _]) (by decide) dv (fun h => nomatch h) (by exact nl rfl) (by exact rfl) (by exact (am.cons PV.to_any (an am.nil))) (by exact (ao.cons (bor_any) (ao.cons (bor_val _) ao.nil))))
 exact z.g) : G := ah w h
def lC (h : H) (w : ae G H := by
 intro z
 refine sQ [1, 2] [1, 2] ?_
 refine db cJ ?_
 exact z.g) : G := ah w h
def GJ (h : H) (w : ae G H := by
 intro z
 refine dA 0 ?_ (x := lF eR)
 refine dA 32 ?_ (x := df (qs := [nv _ (val _), nv _ (val _), nv _ (sl .v _), nv _ (sl .v _)]) (by decide) eK (fun h => nomatch h) (by exact nl rfl) (by exact (an (an (an (an am.nil))))) (by exact lq))
 exact z.g) : G := ah w h
def yX (h : H) (w : ae G H := by
 intro z
 refine dA 48 ?_ (x := aY (by decide) bC (by exact tI) (by exact rfl) (by exact be (by omega) rfl) (by exact rfl))
 refine dA 112 ?_ (x := lE [val _] au)
 exact z.g) : G := ah w h
def qJ (h : H) (w : ae G H := by
 intro z
 refine rB ga ?_ (x := lF gY)
 refine rB ga ?_ (x := lD [sl .v _] bq)
 exact z.g) : G := ah w h
def yY (h : H) (w : ae G H := by
 intro z
 refine sO [(1, _), (2, _), (3, _), (4, _), (6, _), (7, _)] [(1, _), (2, _), (3, _), (7, (63, [val _, val _, sl _ _, sl _ _, val _, val _, sl _ _]))] ?_
 refine ba ?_
 exact z.g) : G := ah w h
def GK (h : H) (w : ae G H := by
 intro z
 refine dA 32766 ?_ (x := eC (by decide) ez jS rfl rfl (by decide) rfl (by simp only [ar, aU, List.length_cons, List.length_nil]; omega) (by simp only [ar, aU, List.length_cons, List.length_nil]; omega))
 refine dA 65535 ?_ (x := iu (by decide))
 exact z.g) : G := ah w h
def GL (h : H) (w : ae G H := by
 intro z
 refine sO [(1, _), (2, _), (3, _), (4, _), (5, _), (6, _), (8, _), (9, _), (10, _), (11, _), (57, _), (58, _), (59, _), (77, _), (78, _), (79, _), (2900, _), (6100, _)] [(1, _), (2, _), (4, _), (6, _), (10, (108, [val _, val _, sl _ _, sl _ _, val _, sl _ _, val _, val _, val _, sl _ _])), (900, _)] ?_
 refine ba ?_
 exact z.g) : G := ah w h
def GM (h : H) (w : ae G H := by
 intro z
 refine rA ?_ (x := df (qs := [sl .v _, val _, val _, sl .v _, sl .v _, sl .v _, sl .v _, val _]) (by decide) bZ (fun h => nomatch h) (by exact nl rfl) (by exact (am.cons (PV.nv_to iQ) (am.cons (PV.nv_to (iP _)) (am.cons (PV.nv_to (iP _)) (am.cons (PV.nv_to iQ) (am.cons (PV.nv_to iQ) (am.cons (PV.nv_to iQ) (am.cons (PV.nv_to iQ) (am.cons (PV.nv_to (iP _)) am.nil))))))))) (by exact lq))
 refine rM ?_
 refine rA ?_ (x := cL [(true, [sl _ _, val _, val _, sl _ _, sl _ _, sl _ _, sl _ _, val _]), (false, [val _])] [(true, [sl .v _, val _, val _, sl .v _, sl .v _, sl .v _, sl .v _, val _]), (false, [val _])] Sb (hs := by exact TJ (by omega) (by first | omega | (simp only [gm]; omega))))
 exact z.g) : G := ah w h
def u8 (h : H) (w : ae G H := by
 intro z
 refine sR ?_
 refine rX ?_ (x := (cI (ag := true) (cs := [val _, val _, val _]) (by decide) (by exact tI)))
 exact z.g) : G := ah w h
def yZ (h : H) (w : ae G H := by
 intro z
 refine sR ?_
 refine rX ?_ (x := (cI (ag := true) (cs := [sl (.lo _) _, val _]) (by decide) (by exact tI)))
 exact z.g) : G := ah w h
def u9 (h : H) (w : ae G H := by
 intro z
 refine sO [(1, _), (2, _), (3, _)] [(1, _), (2, _), (3, (52, [val _, val _, sl _ _, sl _ _]))] ?_
 refine ba ?_
 exact z.g) : G := ah w h
def y7 (h : H) (w : ae G H := by
 intro z
 refine rA ?_ (x := b9 (qs := []) (by decide) fG iB (by decide) rfl rfl rfl rfl rfl (by exact nl rfl) (by exact tI) rfl)
 refine rA ?_ (x := tA)
 exact z.g) : G := ah w h
def va (h : H) (w : ae G H := by
 intro z
 refine zt g2 ?_
 refine rA ?_ (x := aR g2)
 exact z.g) : G := ah w h
def y8 (h : H) (w : ae G H := by
 intro z
 refine nI ?_
 refine rA ?_ (x := cL [(true, [val _, val _, sl _ _, sl _ _])] [(true, [val _, val _, sl .v _, sl .v _])] Pg (hs := by exact VZ))
 exact z.g) : G := ah w h
def vb (h : H) (w : ae G H := by
 intro z
 refine rA ?_ (x := lD [val _] au)
 refine tU ?_
 exact z.g) : G := ah w h
def y9 (h : H) (w : ae G H := by
 intro z
 refine rA ?_ (x := lD [val _, sl .v _] eS)
 refine rA ?_ (x := cL [(true, [val _, sl _ _])] [(true, [val _, sl .v _])] AE (hs := by exact Be))
 exact z.g) : G := ah w h
def GN (h : H) (w : ae G H := by
 intro z
 refine sP [0, 1, 4, 12, 13] [] ?_
 refine sL [0, 1, 12] [] (fun k : Nat => k ≤ x.length ∧ x.take k = y.take k) (fun k : Nat => [(13, RV.int (k : Int))]) (fun k : Nat => []) (fun k : Nat => x.length - k) 0 (by exact ⟨by omega, by simp⟩) (by exact aI (by exact rfl) tI) (by exact tI) ?_
 exact z.g) : G := ah w h
def GO (h : H) (w : ae G H := by
 intro z
 refine u5 ?_
 refine sO [(2, _), (3, _), (4, _), (5, _)] [(2, (32, [sl (.lo _) _, val _, val _, sl (.lo _) _, sl (.lo _) _, sl (.lo _) _, sl (.lo _) _, val _])), (3, (56, [val _, val _, sl (.lo _) _, val _, val _])), (4, (32, [sl _ _, val _, val _, sl _ _, sl _ _, sl _ _, sl _ _, val _]))] ?_
 exact z.g) : G := ah w h
def qK (h : H) (w : ae G H := by
 intro z
 refine iT ?_
 refine rX ?_ (x := (bR (by decide) jR jT))
 exact z.g) : G := ah w h
def zb (h : H) (w : ae G H := by
 intro z
 refine rA ?_ (x := lE [sl .v _] bq)
 refine Gm ?_
 exact z.g) : G := ah w h
def vc (h : H) (w : ae G H := by
 intro z
 refine sO [(1, _), (2, _), (3, _)] [(1, _), (2, _), (3, (178, [val _, val _, val _]))] ?_
 refine ba ?_
 exact z.g) : G := ah w h
def GP (h : H) (w : ae G H := by
 intro z
 refine bV (d := 900) (by exact rfl) (show _ = bA (aD aS aa) (s.Wr) jk900 from rfl) ?_
 refine sO [(1, _), (2, _), (4, _), (5, _), (6, _), (2900, _)] [(2, _), (4, _), (6, (26, [val _, val _])), (900, (139, bA (aD aS aa) _ _))] ?_
 exact z.g) : G := ah w h
def GQ (h : H) (w : ae G H := by
 intro z
 refine rA ?_ (x := cL [(true, [sl (.lo _) _, val _, val _, sl (.lo _) _, sl (.lo _) _, sl (.lo _) _, sl (.lo _) _, val _]), (false, [val _])] [(true, [sl .v _, val _, val _, sl .v _, sl .v _, sl .v _, sl .v _, val _]), (false, [val _])] KH (hs := by exact Lr))
 refine fA ?_
 exact z.g) : G := ah w h
def vd (h : H) (w : ae G H := by
 intro z
 refine rM ?_
 refine rA ?_ (x := ee (by decide) ez (by exact tI) (by exact rfl) (by omega))
 exact z.g) : G := ah w h
def GR (h : H) (w : ae G H := by
 intro z
 refine sO [(1, _), (2, _), (4, _), (5, _), (6, _), (7, _), (8, _), (9, _), (19, _), (20, _), (21, _), (27, _), (28, _), (29, _), (2900, _), (6000, _)] [(2, (26, [sl (.lo _) _, val _])), (4, (26, [sl _ _, val _])), (6, (26, [val _, val _])), (900, (139, bA jU _ _))] ?_
 refine ba ?_
 exact z.g) : G := ah w h
def GS (h : H) (w : ae G H := by
 intro z
 refine rB ge ?_ (x := lD [val _, sl .v _, val _, val _] dO)
 refine rB ge ?_ (x := cL [(true, [val _, sl _ _, val _, val _]), (true, [val _, sl _ _, val _, val _])] [(true, [val _, sl .v _, val _, val _]), (true, [val _, sl .v _, val _, val _])] RL (hs := by exact TR))
 exact z.g) : G := ah w h
def zc (h : H) (w : ae G H := by
 intro z
 refine rA ?_ (x := lF jq)
 refine rA ?_ (x := bd (ag := false) (vs := [sl _ _]) fI (by exact tI) (by exact rfl) (by exact nl rfl))
 exact z.g) : G := ah w h
def ve (h : H) (w : ae G H := by
 intro z
 refine bF ?_
 refine sS [0, 1, 5] [] ?_
 exact z.g) : G := ah w h
def zd (h : H) (w : ae G H := by
 intro z
 refine rA ?_ (x := lF kd)
 refine rA ?_ (x := bd (ag := false) (vs := [sl _ _]) kf (by exact tI) (by exact rfl) (by exact nl rfl))
 exact z.g) : G := ah w h
def ze (h : H) (w : ae G H := by
 intro z
 refine rA ?_ (x := lF lQ)
 refine rA ?_ (x := lD [val _] au)
 exact z.g) : G := ah w h
def qL (h : H) (w : ae G H := by
 intro z
 refine rA ?_ (x := lF jr)
 refine rA ?_ (x := lD [val _] jy)
 exact z.g) : G := ah w h
def zg (h : H) (w : ae G H := by
 intro z
 refine uT ?_
 refine rA ?_ (x := cL [(true, [sl (.lo _) _, val _])] [(true, [sl .v _, val _])] KG (hs := by exact (Ln (by omega))))
 exact z.g) : G := ah w h
def GT (h : H) (w : ae G H := by
 intro z
 refine rA ?_ (x := bd (ag := false) (vs := [sl _ _]) bq (by exact tI) (by exact rfl) (by exact nl rfl))
 refine sO [(2, _), (3, _), (4, _), (5, _), (6, _), (7, _), (8, _), (9, _), (10, _)] [(2, _), (3, _), (4, _), (6, _), (10, (184, [val _, sl _ _, val _, val _]))] ?_
 exact z.g) : G := ah w h
def j7 (h : H) (w : ae G H := by
 intro z
 refine bl ?_
 refine sS [0, 1, 5] [] ?_
 refine cZ ?_
 exact z.g) : G := ah w h
def sK (h : H) (w : ae G H := by
 intro z
 refine dA 0 ?_ (x := cM Cp.ptr)
 refine dA 32 ?_ (x := iu (by decide))
 exact z.g) : G := ah w h
def zh (h : H) (w : ae G H := by
 intro z
 refine rA ?_ (x := lF jp)
 refine rA ?_ (x := bd (ag := false) (vs := [val _]) au (eB rfl) (by exact rfl) (by exact nl rfl))
 exact z.g) : G := ah w h
def zi (h : H) (w : ae G H := by
 intro z
 refine rM ?_
 refine rA ?_ (x := aY (by decide) bI (by exact tI) (by exact rfl) (by exact be (by omega) rfl) (by exact rfl))
 exact z.g) : G := ah w h
def GU (h : H) (w : ae G H := by
 intro z
 refine bV (d := 10) (by exact rfl) (show _ = [val (vI u.Row.Id), sl aa ((iH s u).map ak), val (vI (s.Now + 1)), val (vI (-1))] from by first | (rw [hv2]; done) | (rw [hv2]; exact rfl)) ?_
 refine sG [2, 3, 4, 5, 6, 7, 8, 9, 10] [2, 3, 4, 6, 10] ?_
 exact z.g) : G := ah w h
def gA (h : H) (w : ae G H := by
 intro z
 refine lu ?_
 refine rM ?_
 exact z.g) : G := ah w h
def GV (h : H) (w : ae G H := by
 intro z
 refine rA ?_ (x := cL [(true, [sl (.lo _) _, val _, val _, sl (.lo _) _, sl (.lo _) _, sl (.lo _) _, sl (.lo _) _, val _])] [(true, [sl .v _, val _, val _, sl .v _, sl .v _, sl .v _, sl .v _, val _])] wv (hs := by exact (wF (by omega))))
 refine fB ?_
 exact z.g) : G := ah w h
def GW (h : H) (w : ae G H := by
 intro z
 refine sO [(2, _), (3, _), (4, _), (5, _), (6, _), (7, _), (8, _), (9, _), (10, _), (2920, _), (2921, _)] [(2, _), (3, _), (4, _), (6, _), (10, _), (920, (139, _ ++ ([val _] ++ _))), (921, (184, _ ++ ([val _, sl _ _, val _, val _] ++ _)))] ?_
 refine db cJ ?_
 exact z.g) : G := ah w h
def zj (h : H) (w : ae G H := by
 intro z
 refine rA ?_ (x := bE (by decide) eR (by exact nl rfl))
 refine rA ?_ (x := bE (by decide) e8 (by exact nl rfl))
 exact z.g) : G := ah w h
def kD (h : H) (w : ae G H := by
 intro z
 refine dz ?_
 refine sT [1, 2] [1] ?_
 exact z.g) : G := ah w h
def sN (h : H) (w : ae G H := by
 intro z
 refine rB gb ?_ (x := lF i6)
 refine rB gb ?_ (x := lD [sl .v _] i7)
 exact z.g) : G := ah w h
def zk (h : H) (w : ae G H := by
 intro z
 refine rM ?_
 refine rA ?_ (x := aY (k := i) (by decide) cV (by exact tI) (by omega) (by exact be hi rfl) (by exact rfl))
 exact z.g) : G := ah w h
def zl (h : H) (w : ae G H := by
 intro z
 refine rM ?_
 refine rA ?_ (x := aY (by decide) dZ (by exact tI) (by exact rfl) (by exact nt hlt rfl) (by exact rfl))
 exact z.g) : G := ah w h
def nO (h : H) (w : ae G H := by
 intro z
 refine sS [1, 2, 3, 4, 19] [1] ?_
 refine sq ?_
 exact z.g) : G := ah w h
def sU (h : H) (w : ae G H := by
 intro z
 refine rA ?_ (x := lF jr)
 refine rA ?_ (x := lD [sl (.lo _) _] jy)
 exact z.g) : G := ah w h
def lG (h : H) (w : ae G H := by
 intro z
 refine sS [0, 1, 4] [] ?_
 refine cm ?_
 exact z.g) : G := ah w h
def nP (h : H) (w : ae G H := by
 intro z
 refine bF ?_
 refine sT [0, 2, 3, 4] [7] ?_
 exact z.g) : G := ah w h
def GX (h : H) (w : ae G H := by
 intro z
 refine bY.stepC 0 (by exact tI) (by exact tI) (ax.of rfl (bR (by decide) jR jT)) (nf (cD.wr (cD.app (cD.app (cD.app (cD.app (cD.of_ rfl) rfl) rfl) rfl) rfl) rfl)) (by kernel_rfl) (by intro L' h; exact Option.some.inj (show some _ = some L' from h)) ?_
 refine bY.stepC 383 (by exact ⟨rfl, rfl, ⟨⟩⟩) (by exact ⟨rfl, ⟨⟩⟩) (ax.of rfl (bd (ag := true) (vs := [val _, val _, val _, val _, val _, val _, val _, val _]) bZ (by exact tI) (by exact rfl) (by exact nl rfl))) aH (by kernel_rfl) (by intro L' h; exact nomatch (show (none : Option aG) = some L' from h)) ?_
 refine bY.stepC 1023 (by exact ⟨rfl, ⟨⟩⟩) (by exact tI) (ax.of rfl (bc (.inr rfl) (by decide) (by exact Cp.sc))) aH (by kernel_rfl) (by intro L' h; exact nomatch (show (none : Option aG) = some L' from h)) ?_
 exact z.g) : G := ah w h
def GY (h : H) (w : ae G H := by
 intro z
 refine dA 6 ?_ (x := lF kd)
 refine dA 14 ?_ (x := cl (ms := [sl _ _]) (qs := [sl .v _]) (by decide) kf (fun _ => rfl) (by exact nl rfl) (by exact rfl) (by exact (aF am.nil)) (by exact (ao.cons (bor_sl _) ao.nil)))
 exact z.g) : G := ah w h
def GZ (h : H) (w : ae G H := by
 intro z
 refine dA 0 ?_ (x := lF dN)
 refine dA 1 ?_ (x := cl (ms := [sl _ _]) (qs := [sl .v _]) (by decide) dC (fun _ => rfl) (by exact nl rfl) (by exact rfl) (by exact (aF am.nil)) (by exact (ao.cons (bor_sl _) ao.nil)))
 exact z.g) : G := ah w h
def G0 (h : H) (w : ae G H := by
 intro z
 refine dA 0 ?_ (x := lF jt)
 refine dA 1 ?_ (x := cl (ms := [sl _ _]) (qs := [sl .v _]) (by decide) jz (fun _ => rfl) (by exact nl rfl) (by exact rfl) (by exact (aF am.nil)) (by exact (ao.cons (bor_sl _) ao.nil)))
 exact z.g) : G := ah w h
def G3 (h : H) (w : ae G H := by
 intro z
 refine rA ?_ (x := lF jq)
 refine rA ?_ (x := cl (ms := [sl _ _]) (qs := [sl .v _]) (by decide) fI (fun _ => rfl) (by exact nl rfl) (by exact rfl) (by exact (aF am.nil)) (by exact (ao.cons (bor_sl _) ao.nil)))
 exact z.g) : G := ah w h
def G4 (h : H) (w : ae G H := by
 intro z
 refine rA ?_ (x := lF kd)
 refine rA ?_ (x := cl (ms := [sl _ _]) (qs := [sl .v _]) (by decide) kf (fun _ => rfl) (by exact nl rfl) (by exact rfl) (by exact (aF am.nil)) (by exact (ao.cons (bor_sl _) ao.nil)))
 exact z.g) : G := ah w h
def G5 (h : H) (w : ae G H := by
 intro z
 refine sO [(1, _), (2, _), (3, _), (4, _), (5, _), (6, _), (57, _), (58, _), (59, _), (145, _), (146, _), (147, _), (6200, _)] [(1, _), (2, _), (4, (32, [sl _ _, val _, val _, sl _ _, sl _ _, sl _ _, sl _ _, val _])), (6, _)] ?_
 refine ba ?_
 exact z.g) : G := ah w h
def G6 (h : H) (w : ae G H := by
 intro z
 refine sO [(1, _), (2, _), (4, _), (5, _), (6, _), (7, _), (8, _), (9, _), (10, _), (2900, _), (6000, _)] [(2, (26, [sl (.lo _) _, val _])), (4, (26, [sl _ _, val _])), (6, (26, [val _, val _])), (900, (139, bA jU _ _))] ?_
 refine ba ?_
 exact z.g) : G := ah w h
def qM (h : H) (w : ae G H := by
 intro z
 refine u7 ?_
 refine dA 1 ?_ (x := iu (by decide))
 exact z.g) : G := ah w h
def G7 (h : H) (w : ae G H := by
 intro z
 refine dA 0 ?_ (x := lF jq)
 refine dA 2048 ?_ (x := df (qs := [nv _ (sl .v _)]) (by decide) fI (fun _ => rfl) (by exact nl rfl) (by exact (an am.nil)) (by exact (ao.cons (bor_nv (bor_sl _)) ao.nil)))
 exact z.g) : G := ah w h
def G8 (h : H) (w : ae G H := by
 intro z
 refine u5 ?_
 refine sO [(1, _), (2, _), (4, _), (5, _)] [(2, (32, [sl (.lo _) _, val _, val _, sl (.lo _) _, sl (.lo _) _, sl (.lo _) _, sl (.lo _) _, val _])), (4, (32, [sl _ _, val _, val _, sl _ _, sl _ _, sl _ _, sl _ _, val _]))] ?_
 exact z.g) : G := ah w h
def G9 (h : H) (w : ae G H := by
 intro z
 refine rA ?_ (x := nB (cs := [val _]) (by decide) (by exact rfl) (by exact (ao.cons (bor_val _) ao.nil)))
 refine rA ?_ (x := nB (cs := [val _]) (by decide) (by exact rfl) (by exact (ao.cons (bor_val _) ao.nil)))
 exact z.g) : G := ah w h
def zm (h : H) (w : ae G H := by
 intro z
 refine oX ?_
 refine rX ?_ (x := (cI (ag := true) (cs := [val _, sl _ _, val _, val _]) (by decide) (by exact tI)))
 exact z.g) : G := ah w h
def nQ (h : H) (w : ae G H := by
 intro z
 refine rA ?_ (x := lF kT)
 refine yu ?_
 exact z.g) : G := ah w h
def Ha (h : H) (w : ae G H := by
 intro z
 refine rA ?_ (x := aY (by decide) to (by exact tI) (by exact rfl) (by exact be (by omega) rfl) (by exact rfl))
 refine rA ?_ (x := lE [val _, val _, sl .v _, sl .v _, val _, sl .v _, val _, val _, val _, sl .v _] Qx)
 exact z.g) : G := ah w h
def Hb (h : H) (w : ae G H := by
 intro z
 refine dA 0 ?_ (x := lF lP)
 refine dA 128 ?_ (x := df (qs := [val _]) (by decide) au (fun _ => rfl) (by exact nl rfl) (by exact (am.cons (PV.nv_to (iP _)) am.nil)) (by exact (ao.cons (bor_val _) ao.nil)))
 exact z.g) : G := ah w h
def Hc (h : H) (w : ae G H := by
 intro z
 refine dA 0 ?_ (x := lF kP)
 refine dA 512 ?_ (x := df (qs := [val _]) (by decide) au (fun _ => rfl) (by exact nl rfl) (by exact (am.cons (PV.nv_to (iP _)) am.nil)) (by exact (ao.cons (bor_val _) ao.nil)))
 exact z.g) : G := ah w h
def He (h : H) (w : ae G H := by
 intro z
 refine u5 ?_
 refine sO [(1, _), (2, _), (3, _)] [(1, (32, [sl (.lo _) _, val _, val _, sl (.lo _) _, sl (.lo _) _, sl (.lo _) _, sl (.lo _) _, val _])), (2, (32, [sl _ _, val _, val _, sl _ _, sl _ _, sl _ _, sl _ _, val _]))] ?_
 exact z.g) : G := ah w h
def Hf (h : H) (w : ae G H := by
 intro z
 refine bY.stepC 31 (by exact ⟨rfl, ⟨⟩⟩) (by exact tI) (ax.of rfl (tP (.inl rfl) (by decide))) aH (by kernel_rfl) (by intro L' h; exact nomatch (show (none : Option aG) = some L' from h)) ?_
 refine bY.stepC 63 (by exact ⟨rfl, ⟨⟩⟩) (by exact tI) (ax.of rfl (nB (cs := [val _, val _, val _, val _, val _, val _, val _, val _]) (by decide) (by exact rfl) (by exact lq))) aH (by kernel_rfl) (by intro L' h; exact nomatch (show (none : Option aG) = some L' from h)) ?_
 refine bY.stepC 63 (by exact ⟨rfl, ⟨⟩⟩) (by exact tI) (ax.of rfl (nB (cs := [val _]) (by decide) (by exact rfl) (by exact (ao.cons (bor_val _) ao.nil)))) aH (by kernel_rfl) (by intro L' h; exact nomatch (show (none : Option aG) = some L' from h)) ?_
 exact z.g) : G := ah w h
def nR (h : H) (w : ae G H := by
 intro z
 refine sG [0, 2, 3, 4] [7] ?_
 refine cZ ?_
 exact z.g) : G := ah w h
def sV (h : H) (w : ae G H := by
 intro z
 refine rA ?_ (x := lF kP)
 refine rA ?_ (x := lD [val _] au)
 exact z.g) : G := ah w h
def sW (h : H) (w : ae G H := by
 intro z
 refine rA ?_ (x := lD [val _] au)
 refine rA ?_ (x := lF mP)
 exact z.g) : G := ah w h
def sX (h : H) (w : ae G H := by
 intro z
 refine rA ?_ (x := lF e8)
 refine rA ?_ (x := lD [val _] au)
 exact z.g) : G := ah w h
def zo (h : H) (w : ae G H := by
 intro z
 refine db cJ ?_
 refine dA 0 ?_ (x := lD [sl .v _, val _, val _, sl .v _, sl .v _, sl .v _, sl .v _, val _] bZ)
 exact z.g) : G := ah w h
def Hg (h : H) (w : ae G H := by
 intro z
 refine sO [(1, _), (2, _), (3, _), (4, _), (5, _), (6, _), (14, _), (57, _), (58, _), (59, _), (6200, _)] [(1, _), (2, _), (4, (32, [sl _ _, val _, val _, sl _ _, sl _ _, sl _ _, sl _ _, val _])), (6, _)] ?_
 refine ba ?_
 exact z.g) : G := ah w h
def vf (h : H) (w : ae G H := by
 intro z
 refine uH ?_
 refine rA ?_ (x := bE (by decide) lU (by exact nl rfl))
 exact z.g) : G := ah w h
def Hh (h : H) (w : ae G H := by
 intro z
 refine sO [(2, _), (3, _), (4, _), (5, _), (6, _), (7, _), (8, _), (9, _), (10, _), (2930, _)] [(2, _), (3, _), (4, _), (6, _), (10, (184, [val _, val _, val _, val _])), (930, (3, _ ++ ([val _] ++ _)))] ?_
 refine ba ?_
 exact z.g) : G := ah w h
def jl (h : H) (w : ae G H := by
 intro z
 refine cQ ?_
 refine rA ?_ (x := lN bC)
 refine rA ?_ (x := cy)
 exact z.g) : G := ah w h
def mB (h : H) (w : ae G H := by
 intro z
 refine rA ?_ (x := aK ga)
 refine rM ?_
 exact z.g) : G := ah w h
def Hi (h : H) (w : ae G H := by
 intro z
 refine dA 1 ?_ (x := lD [val _, val _, sl .v _, sl .v _] eK)
 refine dA 3 ?_ (x := cL [(true, [val _, val _, sl _ _, sl _ _])] [(true, [val _, val _, sl .v _, sl .v _])] KJ (hs := by exact Lk (by omega)))
 exact z.g) : G := ah w h
def Hj (h : H) (w : ae G H := by
 intro z
 refine rA ?_ (x := lD [val _] au)
 refine rA ?_ (x := eV (qs := [(false, [val _])]) (cs := [sl _ _, val _]) (by decide) rq rr Ui (by exact rfl) (by exact (aI (by exact tI) tI)) rfl (by exact rfl))
 exact z.g) : G := ah w h
def lH (h : H) (w : ae G H := by
 intro z
 refine rK ?_
 refine sT [1, 2] [1] ?_
 exact z.g) : G := ah w h
def Hk (h : H) (w : ae G H := by
 intro z
 refine bV (d := 6) (by exact rfl) (show _ = [sl bo ((c9 s u).map (aD aS aa)), val (vI (s.Now + 1))] from by first | (rw [hu1]; done) | (rw [hu1]; exact rfl)) ?_
 refine sP [2, 3, 4, 5, 6, 7, 8, 9, 10] [2, 3, 4, 6, 10] ?_
 refine bV (d := 10) (by exact rfl) (show _ = [val (vI u.Row.Id), sl aa ((eo s u).map ak), val (vI (s.Now + 1)), val (vI (-1))] from by first | (rw [hu2]; done) | (rw [hu2]; exact rfl)) ?_
 exact z.g) : G := ah w h
def jN (h : H) (w : ae G H := by
 intro z
 refine zt ga ?_
 refine gk ?_
 exact z.g) : G := ah w h
def Hl (h : H) (w : ae G H := by
 intro z
 refine dA 3 ?_ (x := aY (k := i) (by decide) ck (by exact tI) (by rfl) (by exact be hlt2 (by rw [ic (d := v0) hlt2])) (by exact rfl))
 refine dA 7 ?_ (x := lE [val _, sl .v _, val _, val _] dO)
 exact z.g) : G := ah w h
def nS (h : H) (w : ae G H := by
 intro z
 refine zt g3 ?_
 refine rA ?_ (x := aR g3)
 exact z.g) : G := ah w h
def Hm (h : H) (w : ae G H := by
 intro z
 refine rA ?_ (x := aY (by decide) tp (by exact tI) (by exact rfl) (by exact be (by omega) rfl) (by exact rfl))
 refine rA ?_ (x := lE [val _, val _, sl .v _, sl .v _, val _, val _, sl .v _] Qy)
 exact z.g) : G := ah w h
def Hn (h : H) (w : ae G H := by
 intro z
 refine aP ?_
 refine sO [(1, _), (3, _), (5, _), (7, _), (9, _), (23, _), (24, _), (25, _), (32, _), (33, _), (34, _), (66, _), (67, _), (68, _)] [(1, _), (7, _), (9, (184, [val _, sl _ _, val _, val _]))] ?_
 exact z.g) : G := ah w h
def zp (h : H) (w : ae G H := by
 intro z
 refine rA ?_ (x := xx (by decide) (by exact tI) (by exact tI) (by omega))
 refine rA ?_ (x := d4)
 exact z.g) : G := ah w h
def Ho (h : H) (w : ae G H := by
 intro z
 refine sO [(2, _), (3, _), (4, _), (5, _), (6, _), (7, _), (8, _)] [(2, _), (3, _), (4, _), (6, (32, [sl _ _, val _, val _, sl _ _, sl _ _, sl _ _, sl _ _, val _])), (7, (26, [any, val _]))] ?_
 refine gv ?_
 exact z.g) : G := ah w h
def zq (h : H) (w : ae G H := by
 intro z
 refine ba ?_
 refine rA ?_ (x := lD [sl .v _, val _, val _, sl .v _, sl .v _, sl .v _, sl .v _, val _] bZ)
 exact z.g) : G := ah w h
def Hp (h : H) (w : ae G H := by
 intro z
 refine sT [1, 3, 5, 7, 23, 24, 25, 32, 33, 34, 66, 67, 68] [1, 7] ?_
 refine rA ?_ (x := aY (k := m) (by decide) ck (by exact tI) (by rfl) (by exact be (by omega) (by rw [hsg])) (by exact rfl))
 exact z.g) : G := ah w h
def Hq (h : H) (w : ae G H := by
 intro z
 refine rB ga ?_ (x := lD [val _, val _, sl .v _, sl .v _] eK)
 refine rB ga ?_ (x := cL [(true, [val _, val _, sl _ _, sl _ _])] [(true, [val _, val _, sl .v _, sl .v _])] AA (hs := by exact Bg))
 exact z.g) : G := ah w h
def Hr (h : H) (w : ae G H := by
 intro z
 refine rA ?_ (x := lD [val _, sl .v _, val _, val _] dO)
 refine rA ?_ (x := cL [(true, [val _, sl _ _, val _, val _])] [(true, [val _, sl .v _, val _, val _])] RF (hs := by exact TQ (by omega)))
 exact z.g) : G := ah w h
def zu (h : H) (w : ae G H := by
 intro z
 refine sO [(0, _), (1, _), (4, _), (5, _)] [(999, (178, _ ++ ([val _, val _, val _] ++ _)))] ?_
 refine eP ?_
 exact z.g) : G := ah w h
def Hs (h : H) (w : ae G H := by
 intro z
 refine sO [(2, _), (3, _), (4, _), (6, _), (7, _), (8, _), (9, _)] [(3, _), (4, _), (6, _), (8, _), (9, (108, [val _, val _, sl _ _, sl _ _, val _, sl _ _, val _, val _, val _, sl _ _]))] ?_
 refine ba ?_
 exact z.g) : G := ah w h
def Ht (h : H) (w : ae G H := by
 intro z
 refine rB gc ?_ (x := lD [val _] au)
 refine rB gc ?_ (x := cL [(false, [val _]), (false, [val _]), (false, [val _])] [(false, [val _]), (false, [val _]), (false, [val _])] fF (hs := by exact fJ))
 exact z.g) : G := ah w h
def Hu (h : H) (w : ae G H := by
 intro z
 refine rB ge ?_ (x := lD [val _] au)
 refine rB ge ?_ (x := cL [(false, [val _]), (false, [val _]), (false, [val _])] [(false, [val _]), (false, [val _]), (false, [val _])] fF (hs := by exact fJ))
 exact z.g) : G := ah w h
def sY (h : H) (w : ae G H := by
 intro z
 refine rA ?_ (x := lF gF)
 refine rA ?_ (x := lF jw)
 exact z.g) : G := ah w h
def vg (h : H) (w : ae G H := by
 intro z
 refine dB 1023 gb ?_ (x := vM false [sl .v _])
 refine dB 1023 gb ?_ (x := sM)
 exact z.g) : G := ah w h
def qN (h : H) (w : ae G H := by
 intro z
 refine oS ?_
 refine rA ?_ (x := tA)
 exact z.g) : G := ah w h
def kE (h : H) (w : ae G H := by
 intro z
 refine bl ?_
 refine sS [2, 3, 4] [2, 3] ?_
 refine cm ?_
 exact z.g) : G := ah w h
def nU (h : H) (w : ae G H := by
 intro z
 refine sS [0, 1, 5] [] ?_
 refine cm ?_
 exact z.g) : G := ah w h
def Hv (h : H) (w : ae G H := by
 intro z
 refine dA 7 ?_ (x := aY (k := k) (by decide) bC (by exact tI) (by rfl) (by exact be (by omega) (by rw [ic (d := 0) (by omega)])) (by exact rfl))
 refine dA 15 ?_ (x := lE [val _] au)
 exact z.g) : G := ah w h
def Hw (h : H) (w : ae G H := by
 intro z
 refine dA 63 ?_ (x := eV (qs := [(true, [val _, val _, sl _ _, sl _ _]), (false, [val _]), (false, [val _])]) (cs := [val _, val _, sl _ _, sl _ _, val _, sl _ _, val _, val _, val _, sl _ _]) (by decide) fa l2 VC (by exact rfl) (by exact (aI (by exact tI) (aI (by exact tI) (aI (by exact tI) tI)))) rfl (by exact rfl))
 refine bY.step 0 (by exact tI) (by exact tI) (ax.of rfl (bR (by decide) fa l2)) (nf (cD.of_ rfl)) (by kernel_rfl) ?_
 refine dA 255 ?_ (x := bd (ag := true) (vs := [val _, val _, sl _ _, sl _ _, val _, sl _ _, val _, val _, val _, sl _ _]) fj (by exact tI) (by exact rfl) (by exact nl rfl))
 exact z.g) : G := ah w h
def vh (h : H) (w : ae G H := by
 intro z
 refine dA 0 ?_ (x := cM Cp.ptr)
 refine dA 2 ?_ (x := iu (by decide))
 exact z.g) : G := ah w h
def Hx (h : H) (w : ae G H := by
 intro z
 refine rA ?_ (x := bd (ag := true) (vs := [val _, val _, sl _ _, sl _ _, val _, sl _ _, val _, val _, val _, sl _ _]) fj (by exact tI) (by exact rfl) (by exact nl rfl))
 refine aP ?_
 exact z.g) : G := ah w h
def Hy (h : H) (w : ae G H := by
 intro z
 refine rA ?_ (x := aY (by decide) tq (by exact tI) (by exact rfl) (by exact be (by omega) rfl) (by exact rfl))
 refine rA ?_ (x := lE [val _, val _, sl .v _, sl .v _, sl .v _] Qz)
 exact z.g) : G := ah w h
def zv (h : H) (w : ae G H := by
 intro z
 refine rM ?_
 refine rA ?_ (x := ee (by decide) ck (by exact tI) (by exact rfl) (by omega))
 exact z.g) : G := ah w h
def vi (h : H) (w : ae G H := by
 intro z
 refine rB gc ?_ (x := lF jv)
 refine rB gc ?_ (x := lD [sl .v _] bq)
 exact z.g) : G := ah w h
def pj (h : H) (w : ae G H := by
 intro z
 refine zf g10 ?_
 refine rA ?_ (x := aK g10)
 exact z.g) : G := ah w h
def vj (h : H) (w : ae G H := by
 intro z
 refine aP ?_
 refine sP [2, 3, 4, 5, 6, 7, 8, 9, 10] [2, 3, 4, 6, 10] ?_
 exact z.g) : G := ah w h
def Hz (h : H) (w : ae G H := by
 intro z
 refine dA 0 ?_ (x := bc (r' := RV.sv false [sl .v _]) (.inl rfl) (by decide) (by exact Cp.sv (am.cons (PV.nv_to iQ) am.nil) (ao.cons (bor_sl _) ao.nil)))
 refine dA 0 ?_ (x := sM)
 exact z.g) : G := ah w h
def zw (h : H) (w : ae G H := by
 intro z
 refine rM ?_
 refine rA ?_ (x := ee (by decide) dZ (by exact tI) (by exact rfl) (by omega))
 exact z.g) : G := ah w h
def HA (h : H) (w : ae G H := by
 intro z
 refine sS [2, 3, 4, 5, 6, 7, 8, 9, 10] [2, 3, 4, 6, 10] ?_
 refine rA ?_ (x := b9 (qs := []) (by decide) bC ej (by decide) rfl rfl rfl rfl rfl (by exact nl rfl) (by exact tI) rfl)
 exact z.g) : G := ah w h
def vk (h : H) (w : ae G H := by
 intro z
 refine rB gc ?_ (x := lF fR)
 refine rB gc ?_ (x := lD [val _] au)
 exact z.g) : G := ah w h
def HB (h : H) (w : ae G H := by
 intro z
 refine rB gc ?_ (x := sM)
 refine rB gc ?_ (x := cL [(false, [val _]), (false, [val _]), (false, [val _])] [(false, [val _]), (false, [val _]), (false, [val _])] fF (hs := by exact fJ))
 exact z.g) : G := ah w h
def HC (h : H) (w : ae G H := by
 intro z
 refine dA 15 ?_ (x := cL [(false, [val _]), (false, [val _]), (false, [val _])] [(false, [val _]), (false, [val _]), (false, [val _])] fF (hs := by exact fJ))
 refine dA 31 ?_ (x := nT)
 exact z.g) : G := ah w h
def HD (h : H) (w : ae G H := by
 intro z
 refine rM ?_
 refine rA ?_ (x := cL [(true, [val _, sl _ _, val _, val _]), (false, [val _])] [(true, [val _, sl .v _, val _, val _]), (false, [val _])] A0 (hs := by exact Bh))
 exact z.g) : G := ah w h
def HE (h : H) (w : ae G H := by
 intro z
 refine iT ?_
 refine rX ?_ (x := (cI (ag := true) (cs := [val _, val _, val _, sl _ _, sl _ _, val _, val _, val _, val _, sl _ _, val _, val _, val _]) (by decide) (by exact tI)))
 exact z.g) : G := ah w h
def HF (h : H) (w : ae G H := by
 intro z
 refine rA ?_ (x := aY (by decide) tm (by exact tI) (by exact rfl) (by exact be (by omega) rfl) (by exact rfl))
 refine rA ?_ (x := lE [val _, sl .v _, val _, val _] QC)
 exact z.g) : G := ah w h
def vl (h : H) (w : ae G H := by
 intro z
 refine rX ?_ (x := (bR (by decide) iB kV))
 refine aP ?_
 exact z.g) : G := ah w h
def HG (h : H) (w : ae G H := by
 intro z
 refine rA ?_ (x := cL [(false, [val _]), (false, [val _]), (false, [val _])] [(false, [val _]), (false, [val _]), (false, [val _])] fF (hs := by exact fJ))
 refine rA ?_ (x := nT)
 exact z.g) : G := ah w h
def pk (h : H) (w : ae G H := by
 intro z
 refine zf g6 ?_
 refine rA ?_ (x := aK g6)
 exact z.g) : G := ah w h
def pm (h : H) (w : ae G H := by
 intro z
 refine zf g9 ?_
 refine rA ?_ (x := aK g9)
 exact z.g) : G := ah w h
def pn (h : H) (w : ae G H := by
 intro z
 refine zf gd ?_
 refine rA ?_ (x := aK gd)
 exact z.g) : G := ah w h
def HH (h : H) (w : ae G H := by
 intro z
 refine dA 48 ?_ (x := aY (by decide) dZ (by exact tI) (by exact rfl) (by exact be (by omega) rfl) (by exact rfl))
 refine dA 112 ?_ (x := lE [val _, val _, val _] lX)
 exact z.g) : G := ah w h
def zx (h : H) (w : ae G H := by
 intro z
 refine sO [(1, _), (2, _), (3, _)] [(1, _), (2, _), (3, (54, [val _, sl _ _]))] ?_
 refine ba ?_
 exact z.g) : G := ah w h
def zy (h : H) (w : ae G H := by
 intro z
 refine sG [1, 2, 4, 5, 6, 7, 8, 9, 10, 11, 12, 13, 2900, 6000] [2, 4, 6, 11, 900] ?_
 refine cZ ?_
 exact z.g) : G := ah w h
def HI (h : H) (w : ae G H := by
 intro z
 refine uB ?_
 refine rA ?_ (x := bd (ag := true) (vs := [sl _ _, val _, val _, sl _ _, sl _ _, sl _ _, sl _ _, val _]) bZ (by exact tI) (by exact rfl) (by exact nl rfl))
 exact z.g) : G := ah w h
def HJ (h : H) (w : ae G H := by
 intro z
 refine dA 3 ?_ (x := aY (by decide) dZ (by exact tI) (by exact rfl) (by exact be (by omega) rfl) (by exact rfl))
 refine dA 7 ?_ (x := lE [val _, val _, val _] lX)
 exact z.g) : G := ah w h
def HK (h : H) (w : ae G H := by
 intro z
 refine rA ?_ (x := bd (ag := true) (vs := [nv _ (val _), nv _ (sl _ _), nv _ (val _), nv _ (val _)]) dO (by exact tI) (by exact rfl) (by exact nl rfl))
 refine aP ?_
 exact z.g) : G := ah w h
def HL (h : H) (w : ae G H := by
 intro z
 refine rX ?_ (x := (bR (by decide) wy wB))
 refine rA ?_ (x := bd (ag := true) (vs := [sl _ _, sl _ _]) rz (by exact tI) (by exact rfl) (by exact nl rfl))
 exact z.g) : G := ah w h
def nV (h : H) (w : ae G H := by
 intro z
 refine rA ?_ (x := lD [sl .v _] bq)
 refine rA ?_ (x := cL [(false, [sl _ _]), (false, [sl _ _])] [(false, [sl .v _]), (false, [sl .v _])] OU (hs := by exact S8))
 refine rA ?_ (x := nT)
 exact z.g) : G := ah w h
def j8 (h : H) (w : ae G H := by
 intro z
 refine rM ?_
 refine rM ?_
 exact z.g) : G := ah w h
def po (h : H) (w : ae G H := by
 intro z
 refine sS [1, 2, 4] [1] ?_
 refine sq ?_
 exact z.g) : G := ah w h
def HM (h : H) (w : ae G H := by
 intro z
 refine rA ?_ (x := cL [(false, [val _]), (false, [val _]), (false, [val _])] [(false, [val _]), (false, [val _]), (false, [val _])] jo (hs := by exact jC))
 refine fB ?_
 exact z.g) : G := ah w h
def HN (h : H) (w : ae G H := by
 intro z
 refine rM ?_
 refine rA ?_ (x := cL [(false, [val _]), (false, [val _]), (false, [val _])] [(false, [val _]), (false, [val _]), (false, [val _])] jo (hs := by exact jC))
 exact z.g) : G := ah w h
def HO (h : H) (w : ae G H := by
 intro z
 refine rA ?_ (x := aY (by decide) dZ (by exact tI) (by exact rfl) (by exact be (by omega) rfl) (by exact rfl))
 refine rA ?_ (x := lE [val _, val _, val _] lX)
 exact z.g) : G := ah w h
def HP (h : H) (w : ae G H := by
 intro z
 refine rX ?_ (x := (bR (by decide) iB kV))
 refine rA ?_ (x := bd (ag := true) (vs := [val _, sl _ _]) eS (by exact tI) (by exact rfl) (by exact nl rfl))
 exact z.g) : G := ah w h
def HQ (h : H) (w : ae G H := by
 intro z
 refine rX ?_ (x := (bR (by decide) rq rr))
 refine dz ?_
 refine sO [(2, _), (3, _), (4, _), (5, _)] [(2, (26, [sl (.lo _) _, val _])), (3, (56, [val _, val _, sl (.lo _) _, val _, val _])), (4, (26, [sl _ _, val _]))] ?_
 exact z.g) : G := ah w h
def HR (h : H) (w : ae G H := by
 intro z
 refine sO [(2, _), (3, _), (4, _), (6, _), (7, _), (8, _)] [(3, _), (4, _), (6, _), (8, (32, [sl _ _, val _, val _, sl _ _, sl _ _, sl _ _, sl _ _, val _]))] ?_
 refine ba ?_
 exact z.g) : G := ah w h
def HS (h : H) (w : ae G H := by
 intro z
 refine rM ?_
 refine rA ?_ (x := cL [(true, [val _, sl _ _]), (false, [val _])] [(true, [val _, sl .v _]), (false, [val _])] Pq (hs := by exact SB (by omega) (by omega)))
 exact z.g) : G := ah w h
def vm (h : H) (w : ae G H := by
 intro z
 refine rA ?_ (x := lF lP)
 refine rA ?_ (x := lD [val _] au)
 exact z.g) : G := ah w h
def pp (h : H) (w : ae G H := by
 intro z
 refine ji ?_
 refine rA ?_ (x := lN bI)
 refine rA ?_ (x := cy)
 exact z.g) : G := ah w h
def HT (h : H) (w : ae G H := by
 intro z
 refine dA 3 ?_ (x := lD [val _] au)
 refine dA 0 ?_ (x := b9 (qs := []) (by decide) bC ej (by decide) rfl rfl rfl rfl rfl (by exact nl rfl) (by exact tI) rfl)
 exact z.g) : G := ah w h
def HU (h : H) (w : ae G H := by
 intro z
 refine rA ?_ (x := aY (by decide) tl (by exact tI) (by exact rfl) (by exact be (by omega) rfl) (by exact rfl))
 refine rA ?_ (x := lE [val _, sl .v _] AK)
 exact z.g) : G := ah w h
def kF (h : H) (w : ae G H := by
 intro z
 refine bl ?_
 refine sG [0, 1, 5] [] ?_
 refine cZ ?_
 exact z.g) : G := ah w h
def zz (h : H) (w : ae G H := by
 intro z
 refine sR ?_
 refine rA ?_ (x := ik (.inr rfl) (by decide) (jf (t := 54) (e := 2)))
 exact z.g) : G := ah w h
def qO (h : H) (w : ae G H := by
 intro z
 refine sS [1, 2, 3, 16] [1] ?_
 refine sq ?_
 exact z.g) : G := ah w h
def HV (h : H) (w : ae G H := by
 intro z
 refine rA ?_ (x := lD [sl .v _] fI)
 refine rA ?_ (x := cL [(false, [sl _ _]), (false, [sl _ _])] [(false, [sl .v _]), (false, [sl .v _])] PO (hs := by exact Th))
 exact z.g) : G := ah w h
def HW (h : H) (w : ae G H := by
 intro z
 refine rX ?_ (x := (cI (ag := true) (cs := [val _, val _, sl _ _, sl _ _, val _, sl _ _, val _, val _, val _, sl _ _]) (by decide) (by exact tI)))
 refine j6 ?_
 exact z.g) : G := ah w h
def HX (h : H) (w : ae G H := by
 intro z
 refine rA ?_ (x := cL [(false, [sl _ _]), (false, [val _])] [(false, [sl .v _]), (false, [val _])] PE (hs := by exact TB (by omega) (by omega)))
 refine fA ?_
 exact z.g) : G := ah w h
def HY (h : H) (w : ae G H := by
 intro z
 refine sO [(1, _), (2, _), (4, _), (5, _), (6, _), (7, _)] [(2, _), (4, _), (6, (32, [sl _ _, val _, val _, sl _ _, sl _ _, sl _ _, sl _ _, val _]))] ?_
 refine gv ?_
 exact z.g) : G := ah w h
def qP (h : H) (w : ae G H := by
 intro z
 refine rA ?_ (x := tA)
 refine aP ?_
 exact z.g) : G := ah w h
def HZ (h : H) (w : ae G H := by
 intro z
 refine pd ?_
 refine rA ?_ (x := cL [(true, [val _, val _, sl _ _, val _, val _])] [(true, [val _, val _, sl .v _, val _, val _])] Jv (hs := by exact Lb))
 exact z.g) : G := ah w h
def H0 (h : H) (w : ae G H := by
 intro z
 refine sO [(2, _), (3, _), (4, _), (5, _), (6, _)] [(2, _), (3, _), (4, _), (6, (32, [sl _ _, val _, val _, sl _ _, sl _ _, sl _ _, sl _ _, val _]))] ?_
 refine ba ?_
 exact z.g) : G := ah w h
def qQ (h : H) (w : ae G H := by
 intro z
 refine zf g17 ?_
 refine rA ?_ (x := aK g17)
 exact z.g) : G := ah w h
def H1 (h : H) (w : ae G H := by
 intro z
 refine rA ?_ (x := aY (by decide) tn (by exact tI) (by exact rfl) (by exact be (by omega) rfl) (by exact rfl))
 refine rA ?_ (x := lE [sl .v _] QA)
 exact z.g) : G := ah w h
def H2 (h : H) (w : ae G H := by
 intro z
 refine rA ?_ (x := cL [(false, [sl _ _]), (false, [val _])] [(false, [sl .v _]), (false, [val _])] PJ (hs := by exact SH (by omega) (by omega)))
 refine ib ?_
 exact z.g) : G := ah w h
def H3 (h : H) (w : ae G H := by
 intro z
 refine rM ?_
 refine rA ?_ (x := cL [(false, [sl _ _]), (false, [val _])] [(false, [sl .v _]), (false, [val _])] PF (hs := by exact TD (by omega) (by omega)))
 exact z.g) : G := ah w h
def H4 (h : H) (w : ae G H := by
 intro z
 refine rX ?_ (x := (cI (ag := true) (cs := [val _, val _, sl _ _, sl _ _]) (by decide) (by exact tI)))
 refine rX ?_ (x := (bR (by decide) jR jT))
 exact z.g) : G := ah w h
def H5 (h : H) (w : ae G H := by
 intro z
 refine eO ?_
 refine sO [(2, _), (3, _), (4, _), (5, _), (6, _), (7, _), (8, _), (9, _), (10, _)] [(2, _), (3, _), (4, _), (6, (26, [sl _ _, val _])), (10, _)] ?_
 exact z.g) : G := ah w h
def H6 (h : H) (w : ae G H := by
 intro z
 refine sS [1, 2, 4, 5, 6, 7] [2, 4, 6] ?_
 refine rA ?_ (x := lD [sl (.lo _) _, val _, val _, sl (.lo _) _, sl (.lo _) _, sl (.lo _) _, sl (.lo _) _, val _] bZ)
 exact z.g) : G := ah w h
def H7 (h : H) (w : ae G H := by
 intro z
 refine dA 131071 ?_ (x := lF kd)
 refine dA 262143 ?_ (x := bd (ag := false) (vs := [sl _ _]) kf (by exact tI) (by exact rfl) (by exact nl rfl))
 exact z.g) : G := ah w h
def H8 (h : H) (w : ae G H := by
 intro z
 refine aP ?_
 refine sO [(1, _), (2, _), (4, _), (5, _), (6, _)] [(2, _), (4, _), (6, (32, [sl _ _, val _, val _, sl _ _, sl _ _, sl _ _, sl _ _, val _]))] ?_
 exact z.g) : G := ah w h
def qR (h : H) (w : ae G H := by
 intro z
 refine zf g4 ?_
 refine rA ?_ (x := aK g4)
 exact z.g) : G := ah w h
def qS (h : H) (w : ae G H := by
 intro z
 refine zf g5 ?_
 refine rA ?_ (x := aK g5)
 exact z.g) : G := ah w h
def qT (h : H) (w : ae G H := by
 intro z
 refine rK ?_
 refine sT [2, 3, 4] [2, 3] ?_
 exact z.g) : G := ah w h
def qU (h : H) (w : ae G H := by
 intro z
 refine zt gc ?_
 refine rA ?_ (x := aR gc)
 exact z.g) : G := ah w h
def H9 (h : H) (w : ae G H := by
 intro z
 refine dA 1023 ?_ (x := eV (qs := [(false, [val _]), (false, [sl _ _]), (false, [val _]), (false, [val _])]) (cs := [val _, sl _ _, val _, val _]) (by decide) eT kh Mb (by exact rfl) (by exact (aI (by exact tI) (aI (by exact tI) (aI (by exact tI) (aI (eB rfl) tI))))) rfl (by exact rfl))
 refine bY.step 0 (by exact tI) (by exact tI) (ax.of rfl (bR (by decide) eT kh)) (nf (cD.of_ rfl)) (by kernel_rfl) ?_
 refine dA 4095 ?_ (x := bd (ag := true) (vs := [val _, sl _ _, val _, val _]) dO (by exact tI) (by exact rfl) (by exact nl rfl))
 exact z.g) : G := ah w h
def lI (h : H) (w : ae G H := by
 intro z
 refine gU ?_
 refine lz ?_
 exact z.g) : G := ah w h
def lJ (h : H) (w : ae G H := by
 intro z
 refine cF ?_
 refine sP [0, 1, 5] [] ?_
 refine nN ?_
 exact z.g) : G := ah w h
def lK (h : H) (w : ae G H := by
 intro z
 refine sR ?_
 refine dz ?_
 refine yG ?_
 exact z.g) : G := ah w h
def nW (h : H) (w : ae G H := by
 intro z
 refine gz ?_
 refine rM ?_
 refine rA ?_ (x := aY (by decide) bI (by exact tI) (by exact rfl) (by exact nt hlt rfl) (by exact rfl))
 exact z.g) : G := ah w h
def pq (h : H) (w : ae G H := by
 intro z
 refine sR ?_
 refine dz ?_
 refine sS [0, 2] [] ?_
 exact z.g) : G := ah w h
def mC (h : H) (w : ae G H := by
 intro z
 refine rA ?_ (x := tM)
 refine rA ?_ (x := tA)
 refine dR ?_
 exact z.g) : G := ah w h
def mD (h : H) (w : ae G H := by
 intro z
 refine Gk ?_
 refine aP ?_
 exact z.g) : G := ah w h
def Ia (h : H) (w : ae G H := by
 intro z
 refine rA ?_ (x := cL [(true, [val _, val _, sl _ _, sl _ _])] [(true, [val _, val _, sl .v _, sl .v _])] AA (hs := by exact Bg))
 refine fB ?_
 exact z.g) : G := ah w h
def Ib (h : H) (w : ae G H := by
 intro z
 refine nI ?_
 refine rA ?_ (x := cL [(true, [val _, val _, sl _ _, sl _ _])] [(true, [val _, val _, sl .v _, sl .v _])] AA (hs := by exact Bg))
 exact z.g) : G := ah w h
def Ic (h : H) (w : ae G H := by
 intro z
 refine rA ?_ (x := bd (ag := true) (vs := [val _, sl _ _, val _, val _]) dO (by exact tI) (by exact rfl) (by exact nl rfl))
 refine dR ?_
 exact z.g) : G := ah w h
def zA (h : H) (w : ae G H := by
 intro z
 refine nW ?_
 refine rA ?_ (x := bE (by decide) eR (by exact nl rfl))
 exact z.g) : G := ah w h
def Ie (h : H) (w : ae G H := by
 intro z
 refine dA 4 ?_ (x := lD [sl .v _] bq)
 refine dA 12 ?_ (x := cL [(false, [sl _ _])] [(false, [sl .v _])] mO (hs := by exact m8 (by omega)))
 exact z.g) : G := ah w h
def If (h : H) (w : ae G H := by
 intro z
 refine dA 8 ?_ (x := lD [sl .v _] bq)
 refine dA 31 ?_ (x := cL [(false, [sl _ _])] [(false, [sl .v _])] mO (hs := by exact m8 (by omega)))
 exact z.g) : G := ah w h
def Ig (h : H) (w : ae G H := by
 intro z
 refine dA 0 ?_ (x := sM)
 refine dA 7 ?_ (x := aY (by decide) dZ (by exact tI) (by exact rfl) (by exact be (by omega) rfl) (by exact rfl))
 exact z.g) : G := ah w h
def vn (h : H) (w : ae G H := by
 intro z
 refine rB ga ?_ (x := lN bC)
 refine rB ga ?_ (x := d4)
 exact z.g) : G := ah w h
def Ih (h : H) (w : ae G H := by
 intro z
 refine rA ?_ (x := cL [(true, [val _, val _, sl _ _, sl _ _])] [(true, [val _, val _, sl .v _, sl .v _])] wi (hs := by exact wD))
 refine rM ?_
 exact z.g) : G := ah w h
def kG (h : H) (w : ae G H := by
 intro z
 refine rS ?_
 refine uQ ?_
 exact z.g) : G := ah w h
def Ii (h : H) (w : ae G H := by
 intro z
 refine rA ?_ (x := fP (o := 4) (ag := false) (vs := [val _]) (by omega) au (by exact tI) (by exact rfl) (by exact nl rfl))
 refine aP ?_
 exact z.g) : G := ah w h
def kH (h : H) (w : ae G H := by
 intro z
 refine nL ?_
 refine rM ?_
 exact z.g) : G := ah w h
def Ij (h : H) (w : ae G H := by
 intro z
 refine sO [(1, _), (2, _), (4, _), (5, _)] [(2, _), (4, _), (5, (32, [sl _ _, val _, val _, sl _ _, sl _ _, sl _ _, sl _ _, val _]))] ?_
 refine ba ?_
 exact z.g) : G := ah w h
def Ik (h : H) (w : ae G H := by
 intro z
 refine rA ?_ (x := b9 (qs := []) (by decide) la lZ (by decide) rfl rfl rfl rfl rfl (by exact nl rfl) (by exact tI) rfl)
 refine qP ?_
 exact z.g) : G := ah w h
def Il (h : H) (w : ae G H := by
 intro z
 refine sO [(2, _), (3, _), (4, _), (5, _), (6, _), (7, _), (8, _), (9, _)] [(2, _), (3, _), (4, _), (6, (26, [sl _ _, val _]))] ?_
 refine db cJ ?_
 exact z.g) : G := ah w h
def vo (h : H) (w : ae G H := by
 intro z
 refine bl ?_
 refine sS [2, 3, 4, 5, 6] [2, 3, 4, 6] ?_
 exact z.g) : G := ah w h
def Im (h : H) (w : ae G H := by
 intro z
 refine eO ?_
 refine sO [(1, _), (2, _), (3, _), (4, _)] [(1, _), (2, _), (4, (32, [sl _ _, val _, val _, sl _ _, sl _ _, sl _ _, sl _ _, val _]))] ?_
 exact z.g) : G := ah w h
def In (h : H) (w : ae G H := by
 intro z
 refine rA ?_ (x := b9 (qs := []) (by decide) bC ej (by decide) rfl rfl rfl rfl rfl (by exact nl rfl) (by exact tI) rfl)
 refine rA ?_ (x := vM false [sl .v _])
 refine rA ?_ (x := il (by decide) bC ej rfl rfl (by decide) (by first | (intro cs hcs; obtain ⟨x, _, rfl⟩ := List.mem_map.1 hcs; exact rfl) | simp) (by first | (intro cs hcs; obtain ⟨x, _, rfl⟩ := List.mem_map.1 hcs; exact (ao.cons (bor_val _) ao.nil)) | simp) (by simp only [ar, aU, List.length_cons, List.length_nil]; omega) (by simp only [ar, aU, List.length_cons, List.length_nil]; omega))
 exact z.g) : G := ah w h
def zB (h : H) (w : ae G H := by
 intro z
 refine rX ?_ (x := (bR (by decide) rq rr))
 refine sT [1, 2] [1, 2] ?_
 exact z.g) : G := ah w h
def mE (h : H) (w : ae G H := by
 intro z
 refine zt gb ?_
 refine gj ?_
 exact z.g) : G := ah w h
def Io (h : H) (w : ae G H := by
 intro z
 refine rA ?_ (x := lF gD)
 refine rA ?_ (x := bd (ag := false) (vs := [sl _ _]) bq (by exact tI) (by exact rfl) (by exact nl rfl))
 exact z.g) : G := ah w h
def zC (h : H) (w : ae G H := by
 intro z
 refine rA ?_ (x := lF gE)
 refine rA ?_ (x := lD [sl (.lo _) _, val _] dv)
 exact z.g) : G := ah w h
def Ip (h : H) (w : ae G H := by
 intro z
 refine rA ?_ (x := lF i6)
 refine rA ?_ (x := bd (ag := false) (vs := [sl _ _]) i7 (by exact tI) (by exact rfl) (by exact nl rfl))
 exact z.g) : G := ah w h
def Iq (h : H) (w : ae G H := by
 intro z
 refine rA ?_ (x := lF lV)
 refine rA ?_ (x := bd (ag := false) (vs := [sl _ _]) fI (by exact tI) (by exact rfl) (by exact nl rfl))
 exact z.g) : G := ah w h
def Ir (h : H) (w : ae G H := by
 intro z
 refine rA ?_ (x := lF jr)
 refine rA ?_ (x := bd (ag := false) (vs := [sl _ _]) jy (by exact tI) (by exact rfl) (by exact nl rfl))
 exact z.g) : G := ah w h
def Is (h : H) (w : ae G H := by
 intro z
 refine rA ?_ (x := lF jt)
 refine rA ?_ (x := bd (ag := false) (vs := [sl _ _]) jz (by exact tI) (by exact rfl) (by exact nl rfl))
 exact z.g) : G := ah w h
def qV (h : H) (w : ae G H := by
 intro z
 refine cz ?_
 refine sP [0, 2, 3] [] ?_
 exact z.g) : G := ah w h
def qW (h : H) (w : ae G H := by
 intro z
 refine bl ?_
 refine sG [0, 3] [] ?_
 exact z.g) : G := ah w h
def qX (h : H) (w : ae G H := by
 intro z
 refine bF ?_
 refine sS [0, 3] [] ?_
 exact z.g) : G := ah w h
def qY (h : H) (w : ae G H := by
 intro z
 refine kC ?_
 refine rA ?_ (x := cy)
 exact z.g) : G := ah w h
def qZ (h : H) (w : ae G H := by
 intro z
 refine rB gb ?_ (x := nT)
 refine oW ?_
 exact z.g) : G := ah w h
def It (h : H) (w : ae G H := by
 intro z
 refine rA ?_ (x := lD [sl .v _] fI)
 refine rA ?_ (x := cL [(false, [sl _ _])] [(false, [sl .v _])] Rz (hs := by exact TM (by omega)))
 exact z.g) : G := ah w h
def ra (h : H) (w : ae G H := by
 intro z
 refine rB gb ?_ (x := sM)
 refine gj ?_
 exact z.g) : G := ah w h
def Iu (h : H) (w : ae G H := by
 intro z
 refine rA ?_ (x := bd (ag := true) (vs := [val _, val _, val _]) lX (by exact tI) (by exact rfl) (by exact nl rfl))
 refine aP ?_
 exact z.g) : G := ah w h
def zD (h : H) (w : ae G H := by
 intro z
 refine dA 0 ?_ (x := lF gE)
 refine dA 1 ?_ (x := lD [sl .v _, val _] dv)
 exact z.g) : G := ah w h
def Iv (h : H) (w : ae G H := by
 intro z
 refine aP ?_
 refine sO [(2, _), (3, _), (4, _), (5, _), (6, _), (7, _), (8, _)] [(2, _), (3, _), (4, _), (6, _), (7, (26, [sl _ _, val _]))] ?_
 exact z.g) : G := ah w h
def Iw (h : H) (w : ae G H := by
 intro z
 refine sO [(1, _), (2, _), (4, _), (5, _), (6, _), (2900, _), (6000, _)] [(2, _), (4, _), (6, _), (900, (139, bA jU _ _))] ?_
 refine ba ?_
 exact z.g) : G := ah w h
def Ix (h : H) (w : ae G H := by
 intro z
 refine rA ?_ (x := lF i4)
 refine rA ?_ (x := bd (ag := false) (vs := [val _]) au (by exact tI) (by exact rfl) (by exact nl rfl))
 exact z.g) : G := ah w h
def Iy (h : H) (w : ae G H := by
 intro z
 refine rA ?_ (x := lF ju)
 refine rA ?_ (x := bd (ag := false) (vs := [val _]) au (by exact tI) (by exact rfl) (by exact nl rfl))
 exact z.g) : G := ah w h
def Iz (h : H) (w : ae G H := by
 intro z
 refine rA ?_ (x := lD [sl .v _] AJ)
 refine rA ?_ (x := cL [(false, [sl _ _])] [(false, [sl .v _])] PL (hs := by exact S1 (by omega)))
 exact z.g) : G := ah w h
def sZ (h : H) (w : ae G H := by
 intro z
 refine rA ?_ (x := lF gD)
 refine pb ?_
 exact z.g) : G := ah w h
def IA (h : H) (w : ae G H := by
 intro z
 refine uT ?_
 refine rA ?_ (x := cL [(true, [sl (.lo _) _, val _])] [(true, [sl .v _, val _])] KI (hs := by exact (Lo (by omega))))
 exact z.g) : G := ah w h
def rc (h : H) (w : ae G H := by
 intro z
 refine rA ?_ (x := aR gd)
 refine rM ?_
 exact z.g) : G := ah w h
def IB (h : H) (w : ae G H := by
 intro z
 refine rA ?_ (x := bd (ag := true) (vs := [sl _ _, sl _ _]) rz (by exact tI) (by exact rfl) (by exact nl rfl))
 refine dR ?_
 exact z.g) : G := ah w h
def IC (h : H) (w : ae G H := by
 intro z
 refine uT ?_
 refine rA ?_ (x := cL [(true, [sl (.lo _) _, val _])] [(true, [sl .v _, val _])] KU (hs := by exact Lg (by omega)))
 exact z.g) : G := ah w h
def ID (h : H) (w : ae G H := by
 intro z
 refine uT ?_
 refine rA ?_ (x := cL [(true, [sl (.lo _) _, val _])] [(true, [sl .v _, val _])] KS (hs := by exact Lf (by omega)))
 exact z.g) : G := ah w h
def mF (h : H) (w : ae G H := by
 intro z
 refine cO ?_
 refine sS [0, 1, 4] [] ?_
 refine cz ?_
 refine sP [0, 1, 4, 5] [] ?_
 refine sL [0, 1] [] (fun k : Nat => k ≤ x.length ∧ x.take k = y.take k) (fun k : Nat => [(5, RV.int (k : Int))]) (fun k : Nat => []) (fun k : Nat => x.length - k) 0 (by exact ⟨by omega, by simp⟩) (by exact aI (by exact rfl) tI) (by exact tI) ?_
 exact z.g) : G := ah w h
def mG (h : H) (w : ae G H := by
 intro z
 refine qy ?_
 refine rM ?_
 refine rA ?_ (x := bc (r' := RV.sv false [sl .v _]) (.inl rfl) (by decide) (by exact Cp.sv (am.cons (PV.nv_to iQ) am.nil) (ao.cons (bor_sl _) ao.nil)))
 exact z.g) : G := ah w h
def s2 (h : H) (w : ae G H := by
 intro z
 refine rA ?_ (x := lF wj)
 refine vb ?_
 exact z.g) : G := ah w h
def IE (h : H) (w : ae G H := by
 intro z
 refine dA 16383 ?_ (x := bd (ag := false) (vs := [sl _ _]) bq (by exact tI) (by exact rfl) (by exact nl rfl))
 refine aP ?_
 exact z.g) : G := ah w h
def zE (h : H) (w : ae G H := by
 intro z
 refine rA ?_ (x := lF gF)
 refine rA ?_ (x := lD [val _, sl .v _] eS)
 exact z.g) : G := ah w h
def nX (h : H) (w : ae G H := by
 intro z
 refine aP ?_
 refine sD ?_
 exact z.g) : G := ah w h
def vp (h : H) (w : ae G H := by
 intro z
 refine rA ?_ (x := lN la)
 refine rA ?_ (x := cy)
 exact z.g) : G := ah w h
def IF (h : H) (w : ae G H := by
 intro z
 refine gz ?_
 refine rM ?_
 refine rA ?_ (x := aY (by decide) fG (by exact tI) (by exact rfl) (by exact nt hlt rfl) (by exact rfl))
 exact z.g) : G := ah w h
def IG (h : H) (w : ae G H := by
 intro z
 refine yZ ?_
 refine rX ?_ (x := (cI (ag := true) (cs := [val _, val _, sl (.lo _) _, val _, val _]) (by decide) (by exact tI)))
 exact z.g) : G := ah w h
def IH (h : H) (w : ae G H := by
 intro z
 refine qD ?_
 refine rX ?_ (x := (cI (ag := true) (cs := [val _, val _, sl (.lo _) _, val _, val _]) (by decide) (by exact tI)))
 exact z.g) : G := ah w h
def s3 (h : H) (w : ae G H := by
 intro z
 refine zf g19 ?_
 refine rA ?_ (x := aK g19)
 exact z.g) : G := ah w h
def zF (h : H) (w : ae G H := by
 intro z
 refine rB ga ?_ (x := lF jr)
 refine rB ga ?_ (x := lD [sl .v _] jy)
 exact z.g) : G := ah w h
def vq (h : H) (w : ae G H := by
 intro z
 refine rA ?_ (x := lN dZ)
 refine rA ?_ (x := cy)
 exact z.g) : G := ah w h
def vr (h : H) (w : ae G H := by
 intro z
 refine rA ?_ (x := lN dY)
 refine rA ?_ (x := cy)
 exact z.g) : G := ah w h
def vt (h : H) (w : ae G H := by
 intro z
 refine rA ?_ (x := lN fG)
 refine rA ?_ (x := cy)
 exact z.g) : G := ah w h
def vu (h : H) (w : ae G H := by
 intro z
 refine rA ?_ (x := lN ez)
 refine rA ?_ (x := cy)
 exact z.g) : G := ah w h
def vv (h : H) (w : ae G H := by
 intro z
 refine rB ga ?_ (x := sM)
 refine rB ga ?_ (x := cy)
 exact z.g) : G := ah w h
def zG (h : H) (w : ae G H := by
 intro z
 refine rA ?_ (x := lD [val _, val _, sl .v _, sl .v _] J3)
 refine rM ?_
 exact z.g) : G := ah w h
def zH (h : H) (w : ae G H := by
 intro z
 refine dA 96 ?_ (x := lF dN)
 refine dA 224 ?_ (x := lD [val _] dC)
 exact z.g) : G := ah w h
def zI (h : H) (w : ae G H := by
 intro z
 refine rB ga ?_ (x := lF om)
 refine rB ga ?_ (x := lD [val _] au)
 exact z.g) : G := ah w h
def mH (h : H) (w : ae G H := by
 intro z
 refine zt ga ?_
 refine rA ?_ (x := aR ga)
 refine dc ?_
 exact z.g) : G := ah w h
def II (h : H) (w : ae G H := by
 intro z
 refine qG ?_
 refine rX ?_ (x := (cI (ag := true) (cs := [val _, val _, sl _ _, val _, val _]) (by decide) (by exact tI)))
 exact z.g) : G := ah w h
def IJ (h : H) (w : ae G H := by
 intro z
 refine rB gc ?_ (x := lD [sl .v _, val _, val _, sl .v _, sl .v _, sl .v _, sl .v _, val _] bZ)
 refine rB gc ?_ (x := lF e8)
 exact z.g) : G := ah w h
def IK (h : H) (w : ae G H := by
 intro z
 refine rA ?_ (x := bd (ag := false) (vs := [sl _ _]) bq (by exact tI) (by exact rfl) (by exact nl rfl))
 refine Gx ?_
 exact z.g) : G := ah w h
def zJ (h : H) (w : ae G H := by
 intro z
 refine rB gb ?_ (x := lF lS)
 refine rB gb ?_ (x := lD [val _] au)
 exact z.g) : G := ah w h
def zK (h : H) (w : ae G H := by
 intro z
 refine rB ga ?_ (x := lD [val _] au)
 refine rB ga ?_ (x := lF gE)
 exact z.g) : G := ah w h
def zL (h : H) (w : ae G H := by
 intro z
 refine dA 0 ?_ (x := lF fi)
 refine dA 256 ?_ (x := lD [val _] au)
 exact z.g) : G := ah w h
def zM (h : H) (w : ae G H := by
 intro z
 refine rX ?_ (x := (bR (by decide) iC oq))
 refine aP ?_
 exact z.g) : G := ah w h
def s4 (h : H) (w : ae G H := by
 intro z
 refine zf gb ?_
 refine rA ?_ (x := aK gb)
 exact z.g) : G := ah w h
def s5 (h : H) (w : ae G H := by
 intro z
 refine zf g7 ?_
 refine rA ?_ (x := aK g7)
 exact z.g) : G := ah w h
def s6 (h : H) (w : ae G H := by
 intro z
 refine zt g6 ?_
 refine rA ?_ (x := aR g6)
 exact z.g) : G := ah w h
def zN (h : H) (w : ae G H := by
 intro z
 refine dA 3 ?_ (x := lF dN)
 refine dA 7 ?_ (x := lD [val _] dC)
 exact z.g) : G := ah w h
def zss (h : H) (w : ae G H := by
 intro z
 refine rA ?_ (x := xx (by decide) (by exact tI) (by exact tI) (by omega))
 refine rA ?_ (x := iu (by decide))
 exact z.g) : G := ah w h
def re (h : H) (w : ae G H := by
 intro z
 refine aq.s0f gb ?_
 refine oW ?_
 exact z.g) : G := ah w h
def zO (h : H) (w : ae G H := by
 intro z
 refine rA ?_ (x := lF gD)
 refine rA ?_ (x := lD [sl .v _] bq)
 exact z.g) : G := ah w h
def IL (h : H) (w : ae G H := by
 intro z
 refine mw ?_
 refine rX ?_ (x := (cI (ag := true) (cs := [val _, val _, sl _ _, sl _ _]) (by decide) (by exact tI)))
 exact z.g) : G := ah w h
def nY (h : H) (w : ae G H := by
 intro z
 refine sR ?_
 refine rK ?_
 refine sS [0, 1, 4] [] ?_
 refine uy ?_
 exact z.g) : G := ah w h
def nZ (h : H) (w : ae G H := by
 intro z
 refine rA ?_ (x := gS)
 refine fA ?_
 refine sS [0, 1, 4] [] ?_
 refine iv ?_
 exact z.g) : G := ah w h
def n7 (h : H) (w : ae G H := by
 intro z
 refine rA ?_ (x := lD [sl .v _] bq)
 refine rM ?_
 refine rA ?_ (x := cL [(false, [sl _ _]), (false, [val _])] [(false, [sl .v _]), (false, [val _])] OG (hs := by exact Sy (by omega) (by omega)))
 refine ib ?_
 exact z.g) : G := ah w h
def n8 (h : H) (w : ae G H := by
 intro z
 refine bB ?_
 refine gz ?_
 refine rM ?_
 exact z.g) : G := ah w h
def n9 (h : H) (w : ae G H := by
 intro z
 refine rA ?_ (x := cA Cp.hdr)
 refine aP ?_
 refine sT [0, 2, 3] [7] ?_
 refine cz ?_
 refine sP [0, 2, 3, 4] [7] ?_
 exact z.g) : G := ah w h
def zQ (h : H) (w : ae G H := by
 intro z
 refine mw ?_
 refine rX ?_ (x := (bR (by decide) lZ tv))
 exact z.g) : G := ah w h
def zR (h : H) (w : ae G H := by
 intro z
 refine rA ?_ (x := lF kU)
 refine rA ?_ (x := lD [sl .v _] bq)
 exact z.g) : G := ah w h
def oa (h : H) (w : ae G H := by
 intro z
 refine sS [0, 1] [] ?_
 refine dz ?_
 refine sS [0, 1, 4] [] ?_
 refine cz ?_
 refine sP [0, 1, 4, 5] [] ?_
 refine sL [0, 4] [] (fun _ : Unit => True) (fun _ : Unit => [(1, RV.int k), (5, RV.int 0)]) (fun _ : Unit => []) (fun _ : Unit => 0) () tI (by exact aI (by exact rfl) (aI (by exact rfl) tI)) (by exact tI) ?_
 exact z.g) : G := ah w h
def ob (h : H) (w : ae G H := by
 intro z
 refine sT [0, 1] [999] ?_
 refine dz ?_
 refine sS [0, 1, 4] [999] ?_
 refine cz ?_
 refine sP [0, 1, 4, 5] [999] ?_
 exact z.g) : G := ah w h
def od (h : H) (w : ae G H := by
 intro z
 refine qy ?_
 refine rM ?_
 refine rA ?_ (x := bc (.inl rfl) (by decide) (by exact Cp.nm Cp.hdr))
 exact z.g) : G := ah w h
def s7 (h : H) (w : ae G H := by
 intro z
 refine sS [1, 2, 4] [2] ?_
 refine lz ?_
 exact z.g) : G := ah w h
def mI (h : H) (w : ae G H := by
 intro z
 refine mq ?_
 refine rS ?_
 exact z.g) : G := ah w h
def s8 (h : H) (w : ae G H := by
 intro z
 refine cz ?_
 refine sP [1, 2, 3] [1] ?_
 exact z.g) : G := ah w h
def s9 (h : H) (w : ae G H := by
 intro z
 refine bl ?_
 refine sG [1, 3] [1] ?_
 exact z.g) : G := ah w h
def oe (h : H) (w : ae G H := by
 intro z
 refine ji ?_
 refine rA ?_ (x := lN bI)
 refine dI ?_
 exact z.g) : G := ah w h
def vw (h : H) (w : ae G H := by
 intro z
 refine rA ?_ (x := lE [val _] au)
 refine qN ?_
 exact z.g) : G := ah w h
def IM (h : H) (w : ae G H := by
 intro z
 refine rX ?_ (x := (bR (by decide) rq rr))
 refine dz ?_
 refine sO [(1, _), (2, _), (4, _), (5, _)] [(2, (26, [sl (.lo _) _, val _])), (4, (26, [sl _ _, val _]))] ?_
 exact z.g) : G := ah w h
def ta (h : H) (w : ae G H := by
 intro z
 refine sR ?_
 refine dz ?_
 refine sS [0, 1, 4] [] ?_
 exact z.g) : G := ah w h
def zS (h : H) (w : ae G H := by
 intro z
 refine rA ?_ (x := lF kR)
 refine rA ?_ (x := lD [val _] au)
 exact z.g) : G := ah w h
def zT (h : H) (w : ae G H := by
 intro z
 refine rA ?_ (x := lF i3)
 refine rA ?_ (x := lD [val _] au)
 exact z.g) : G := ah w h
def zU (h : H) (w : ae G H := by
 intro z
 refine rA ?_ (x := vM false [sl .v _])
 refine rA ?_ (x := lN fG)
 exact z.g) : G := ah w h
def pt (h : H) (w : ae G H := by
 intro z
 refine ba ?_
 refine rA ?_ (x := bc (.inl rfl) (by decide) (by exact Cp.nm Cp.hdr))
 refine rM ?_
 exact z.g) : G := ah w h
def zV (h : H) (w : ae G H := by
 intro z
 refine rB gb ?_ (x := lD [val _] au)
 refine rB gb ?_ (x := ir)
 exact z.g) : G := ah w h
def IN (h : H) (w : ae G H := by
 intro z
 refine eO ?_
 refine sO [(2, _), (3, _), (4, _), (5, _), (6, _)] [(2, _), (3, _), (4, _), (6, (26, [sl _ _, val _]))] ?_
 exact z.g) : G := ah w h
def zW (h : H) (w : ae G H := by
 intro z
 refine rB gd ?_ (x := lD [val _] au)
 refine rB gd ?_ (x := d4)
 exact z.g) : G := ah w h
def zX (h : H) (w : ae G H := by
 intro z
 refine rA ?_ (x := lD [val _] au)
 refine rA ?_ (x := lF jw)
 exact z.g) : G := ah w h
def zY (h : H) (w : ae G H := by
 intro z
 refine rA ?_ (x := lF pM)
 refine rA ?_ (x := lD [val _] au)
 exact z.g) : G := ah w h
def zZ (h : H) (w : ae G H := by
 intro z
 refine rA ?_ (x := lF lT)
 refine rA ?_ (x := lD [val _] au)
 exact z.g) : G := ah w h
def z7 (h : H) (w : ae G H := by
 intro z
 refine rA ?_ (x := lF mQ)
 refine rA ?_ (x := lD [val _] au)
 exact z.g) : G := ah w h
def vz (h : H) (w : ae G H := by
 intro z
 refine rB gb ?_ (x := lF lS)
 refine pe ?_
 exact z.g) : G := ah w h
def vC (h : H) (w : ae G H := by
 intro z
 refine rB ga ?_ (x := lF pM)
 refine nK ?_
 exact z.g) : G := ah w h
def vD (h : H) (w : ae G H := by
 intro z
 refine rB gc ?_ (x := lF lT)
 refine u6 ?_
 exact z.g) : G := ah w h
def tb (h : H) (w : ae G H := by
 intro z
 refine rA ?_ (x := aK gc)
 refine rM ?_
 exact z.g) : G := ah w h
def tc (h : H) (w : ae G H := by
 intro z
 refine rA ?_ (x := aK gd)
 refine rM ?_
 exact z.g) : G := ah w h
def td (h : H) (w : ae G H := by
 intro z
 refine dA 0 ?_ (x := lF jr)
 refine dA 1 ?_ (x := lD [val _] jy)
 refine dA 0 ?_ (x := sM)
 exact z.g) : G := ah w h
def te (h : H) (w : ae G H := by
 intro z
 refine cO ?_
 refine sS [1, 2] [1] ?_
 exact z.g) : G := ah w h
def IP (h : H) (w : ae G H := by
 intro z
 refine eO ?_
 refine sO [(1, _), (2, _), (4, _), (5, _), (6, _)] [(2, _), (4, _), (6, (26, [sl _ _, val _]))] ?_
 exact z.g) : G := ah w h
def IQ (h : H) (w : ae G H := by
 intro z
 refine sS [2, 3, 4, 6, 7, 8, 9, 11, 14, 54, 55, 67, 68, 69, 6200, 6300] [3, 4, 6, 8, 9] ?_
 refine rA ?_ (x := tM)
 exact z.g) : G := ah w h
def z8 (h : H) (w : ae G H := by
 intro z
 refine sS [2, 3, 4, 5, 6, 7, 20] [2, 3, 4, 6] ?_
 refine sq ?_
 exact z.g) : G := ah w h
def vE (h : H) (w : ae G H := by
 intro z
 refine rA ?_ (x := lF kP)
 refine dS ?_
 exact z.g) : G := ah w h
def vF (h : H) (w : ae G H := by
 intro z
 refine ze ?_
 refine rA ?_ (x := lF lQ)
 exact z.g) : G := ah w h
def og (h : H) (w : ae G H := by
 intro z
 refine bB ?_
 refine sH [0, 2, 3, 4] [7] ?_
 refine rA ?_ (x := cM Cp.hdr)
 refine uy ?_
 refine rM ?_
 exact z.g) : G := ah w h
def IR (h : H) (w : ae G H := by
 intro z
 refine pc ?_
 refine rX ?_ (x := (cI (ag := true) (cs := [val _, sl _ _]) (by decide) (by exact tI)))
 exact z.g) : G := ah w h
def oh (h : H) (w : ae G H := by
 intro z
 refine va ?_
 refine rM ?_
 exact z.g) : G := ah w h
def pu (h : H) (w : ae G H := by
 intro z
 refine ve ?_
 refine lz ?_
 exact z.g) : G := ah w h
def vG (h : H) (w : ae G H := by
 intro z
 refine rA ?_ (x := lF fi)
 refine dS ?_
 exact z.g) : G := ah w h
def pv (h : H) (w : ae G H := by
 intro z
 refine sR ?_
 refine dz ?_
 refine sS [0, 1, 4] [] ?_
 refine rA ?_ (x := vM false [sl .v _])
 exact z.g) : G := ah w h
def pw (h : H) (w : ae G H := by
 intro z
 refine eP ?_
 refine pf ?_
 exact z.g) : G := ah w h
def tf (h : H) (w : ae G H := by
 intro z
 refine sS [0, 3] [] ?_
 refine cm ?_
 exact z.g) : G := ah w h
def vH (h : H) (w : ae G H := by
 intro z
 refine sS [1, 2, 3, 16] [1] ?_
 refine j8 ?_
 exact z.g) : G := ah w h
def vJ (h : H) (w : ae G H := by
 intro z
 refine rA ?_ (x := lF kU)
 refine pb ?_
 exact z.g) : G := ah w h
def px (h : H) (w : ae G H := by
 intro z
 refine ba ?_
 refine rM ?_
 exact z.g) : G := ah w h
def IS (h : H) (w : ae G H := by
 intro z
 refine rA ?_ (x := bE (by decide) i6 (by exact nl rfl))
 refine rA ?_ (x := lE [sl .v _] i7)
 exact z.g) : G := ah w h
def IT (h : H) (w : ae G H := by
 intro z
 refine bl ?_
 refine sS [2, 3, 4, 5, 6, 7, 8, 9, 10, 11, 12, 13, 14, 15, 16] [2, 3, 6, 8, 9, 10, 15] ?_
 exact z.g) : G := ah w h
def vK (h : H) (w : ae G H := by
 intro z
 refine zf g11 ?_
 refine rA ?_ (x := aK g11)
 exact z.g) : G := ah w h
def vL (h : H) (w : ae G H := by
 intro z
 refine zf g20 ?_
 refine rA ?_ (x := aK g20)
 exact z.g) : G := ah w h
def vO (h : H) (w : ae G H := by
 intro z
 refine zf g18 ?_
 refine rA ?_ (x := aK g18)
 exact z.g) : G := ah w h
def IU (h : H) (w : ae G H := by
 intro z
 refine aP ?_
 refine sP [0, 1, 5, 6, 7, 8, 9, 10, 11, 12, 13, 14, 15, 2900, 5000] [0, 6, 8, 13, 900] ?_
 exact z.g) : G := ah w h
def vP (h : H) (w : ae G H := by
 intro z
 refine rA ?_ (x := cM Cp.ptr)
 refine kz ?_
 exact z.g) : G := ah w h
def IV (h : H) (w : ae G H := by
 intro z
 refine rM ?_
 refine rA ?_ (x := ee (by decide) dY (by exact tI) (by exact rfl) (by omega))
 exact z.g) : G := ah w h
def rf (h : H) (w : ae G H := by
 intro z
 refine aP ?_
 refine sP [1, 2, 4] [2] ?_
 refine gv ?_
 exact z.g) : G := ah w h
def py (h : H) (w : ae G H := by
 intro z
 refine lu ?_
 refine fh ?_
 exact z.g) : G := ah w h
def IW (h : H) (w : ae G H := by
 intro z
 refine rA ?_ (x := ik (.inr rfl) (by decide) (jf (t := 3) (e := 1)))
 refine sT [1, 2] [1] ?_
 exact z.g) : G := ah w h
def rg (h : H) (w : ae G H := by
 intro z
 refine ba ?_
 refine oR ?_
 exact z.g) : G := ah w h
def z9 (h : H) (w : ae G H := by
 intro z
 refine dA 0 ?_ (x := sM)
 refine dA 0 ?_ (x := lF fi)
 exact z.g) : G := ah w h
def vQ (h : H) (w : ae G H := by
 intro z
 refine zt gb ?_
 refine rA ?_ (x := aR gb)
 exact z.g) : G := ah w h
def vR (h : H) (w : ae G H := by
 intro z
 refine zf ge ?_
 refine rA ?_ (x := aK ge)
 exact z.g) : G := ah w h
def Aa (h : H) (w : ae G H := by
 intro z
 refine rB gc ?_ (x := aR gd)
 refine rA ?_ (x := aK gc)
 exact z.g) : G := ah w h
def Ab (h : H) (w : ae G H := by
 intro z
 refine rB gc ?_ (x := aK gd)
 refine rA ?_ (x := aK gc)
 exact z.g) : G := ah w h
def IX (h : H) (w : ae G H := by
 intro z
 refine rA ?_ (x := lF Qs)
 refine rA ?_ (x := lD [val _, val _, sl .v _, val _, val _] QD)
 exact z.g) : G := ah w h
def pz (h : H) (w : ae G H := by
 intro z
 refine qz ?_
 refine rM ?_
 exact z.g) : G := ah w h
def pA (h : H) (w : ae G H := by
 intro z
 refine Gj ?_
 refine rM ?_
 exact z.g) : G := ah w h
def vS (h : H) (w : ae G H := by
 intro z
 refine bF ?_
 refine sT [1, 3] [1] ?_
 exact z.g) : G := ah w h
def vT (h : H) (w : ae G H := by
 intro z
 refine fA ?_
 refine sS [1, 2, 3] [1] ?_
 exact z.g) : G := ah w h
def pB (h : H) (w : ae G H := by
 intro z
 refine yu ?_
 refine rM ?_
 exact z.g) : G := ah w h
def vU (h : H) (w : ae G H := by
 intro z
 refine dF 1023 gb ?_
 refine dF 1023 gb ?_
 exact z.g) : G := ah w h
def vV (h : H) (w : ae G H := by
 intro z
 refine dz ?_
 refine sT [1, 2, 4] [2] ?_
 exact z.g) : G := ah w h
def Ac (h : H) (w : ae G H := by
 intro z
 refine rA ?_ (x := lN cV)
 refine rA ?_ (x := cy)
 exact z.g) : G := ah w h
def Ad (h : H) (w : ae G H := by
 intro z
 refine rA ?_ (x := lN bI)
 refine rA ?_ (x := cy)
 exact z.g) : G := ah w h
def Ae (h : H) (w : ae G H := by
 intro z
 refine rB gc ?_ (x := eM)
 refine rB gc ?_ (x := sM)
 exact z.g) : G := ah w h
def Af (h : H) (w : ae G H := by
 intro z
 refine rB gb ?_ (x := sM)
 refine rB gb ?_ (x := eg)
 exact z.g) : G := ah w h
def Ag (h : H) (w : ae G H := by
 intro z
 refine db cJ ?_
 refine dA 0 ?_ (x := lF jx)
 exact z.g) : G := ah w h
def Ah (h : H) (w : ae G H := by
 intro z
 refine sS [2, 3, 4, 5, 17] [2, 3, 4] ?_
 refine sq ?_
 exact z.g) : G := ah w h
def IY (h : H) (w : ae G H := by
 intro z
 refine sR ?_
 refine rA ?_ (x := ik (.inr rfl) (by decide) (jf (t := 184) (e := 4)))
 exact z.g) : G := ah w h
def vW (h : H) (w : ae G H := by
 intro z
 refine iV ?_
 refine rA ?_ (x := eM)
 exact z.g) : G := ah w h
def vX (h : H) (w : ae G H := by
 intro z
 refine sS [0, 2, 3] [] ?_
 refine cz ?_
 refine sP [0, 2, 3, 4] [] ?_
 exact z.g) : G := ah w h
def rh (h : H) (w : ae G H := by
 intro z
 refine cO ?_
 refine yG ?_
 exact z.g) : G := ah w h
def ri (h : H) (w : ae G H := by
 intro z
 refine j7 ?_
 refine aP ?_
 refine gz ?_
 exact z.g) : G := ah w h
def rj (h : H) (w : ae G H := by
 intro z
 refine zb ?_
 refine fA ?_
 refine uQ ?_
 exact z.g) : G := ah w h
def Ai (h : H) (w : ae G H := by
 intro z
 refine rB ga ?_ (x := lD [val _] au)
 refine yr ?_
 exact z.g) : G := ah w h
def Aj (h : H) (w : ae G H := by
 intro z
 refine qC ?_
 refine rA ?_ (x := vA false [sl .v _])
 exact z.g) : G := ah w h
def rk (h : H) (w : ae G H := by
 intro z
 refine uS ?_
 refine dI ?_
 exact z.g) : G := ah w h
def rl (h : H) (w : ae G H := by
 intro z
 refine mp ?_
 refine eO ?_
 exact z.g) : G := ah w h
end Go.Proofs.YtmekkgdboplbjaaGreat.M
