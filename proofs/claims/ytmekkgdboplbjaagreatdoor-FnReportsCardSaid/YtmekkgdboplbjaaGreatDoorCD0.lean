/- Short names for what the printed proofs say often. No condition. -/
import Derived.Test.YtmekkgdboplbjaaGreatDoorCC0
set_option linter.all false
namespace Go.Proofs.YtmekkgdboplbjaaGreatDoor.M
open Go Go.RowKit
variable {G H : Prop}
def Em (h : G := by
 have hend : k = min code.length 4000 := by omega
 refine bE ?_
 refine sS [0, 2, 3, 4] [] ?_
 refine jI ?_
 refine rA ?_ (x := dM (qs := [(false, [sl _ _]), (false, [val _])]) (cs := [sl _ _, val _, val _]) (by decide) TP TS TU (by exact rfl) (by exact (aI (by exact tI) (aI (by exact tI) tI))) rfl (by exact rfl))
 refine rX ?_ (x := (fY (ag := true) (cs := [sl _ _, val _, val _]) (by decide) (by exact tI)))
 refine rA ?_ (x := cA Cp.ptr)
 refine dc ?_
 exact ⟨31, by exact rfl, by subst hend; exact rfl⟩) : G := h
def En (h : G := by
 refine rM ?_
 refine df ?_
 exact ⟨(by rw [hr]; exact rfl), rfl, (aI (by refine bA ?_; rw [hr]; rfl) tI)⟩) : G := h
def Eo (h : G := by
 refine dc ?_
 exact ⟨(by rw [hr]; exact rfl), rfl, (aI (by refine bA ?_; rw [hr]; try rfl) tI)⟩) : G := h
def Ep (h : G := by
 refine HH ?_
 refine vT ?_
 exact ⟨(by rw [hr]; exact rfl), rfl, (bj 2 (bj _ (aI (by exact rfl) (aI (by refine dW ?_; rw [hr]; try first | exact rfl | (simp only [bb]; exact rfl)) (aI gB (aI (fun h => nomatch h) tI))))))⟩) : G := h
def yJ (h : G := by
 refine ba ?_
 refine sO [(0, _), (2, _), (3, _), (9, _), (5000, _)] [(0, _), (2, _), (3, (27, [val _, sl _ _]))] ?_
 refine bi ?_
 exact Ep) : G := h
def Er (h : G := by
 refine sS [0, 2, 3, 5000] [0] ?_
 refine gz ?_
 exact ⟨(by rw [hr]; exact rfl), rfl, (aI (by refine bI ?_; rw [hr]; try first | exact rfl | (simp only [bb]; exact rfl)) tI)⟩) : G := h
def Es (h : G := by
 refine ca ?_
 refine nx (k + 1) (by omega) (e := (by exact aI (by exact bA (by omega)) tI)) (f := (by exact aI (by rw [gC, hcn]; rfl) (aI (by rw [gC, hcn]; try first | exact rfl | (simp only [bb]; exact rfl)) tI)))) : G := h
def Et (h : G := by
 refine sG [0, 1, 4, 5, 6, 7, 8, 9, 5000] [0, 4, 5] ?_
 refine rA ?_ (x := lF kE)
 refine rA ?_ (x := dH (ms := [sl _ _]) (qs := [sl .v _]) (by decide) jc (fun _ => rfl) (by exact nl rfl) (by exact rfl) (by exact (aA ao.nil)) (by exact (ab.cons (bor_sl _) ab.nil)))
 refine rM ?_
 refine rM ?_
 refine rM ?_
 refine rA ?_ (x := dM (qs := [(false, [val _]), (false, [val _]), (false, [val _])]) (cs := [val _, val _, val _]) (by decide) nI AO Ub (by exact rfl) (by exact (aI (by exact tI) (aI (by exact tI) (aI (by exact tI) tI)))) rfl (by exact rfl))
 refine rA ?_ (x := bm (qs := [(true, [val _, val _, val _])]) (by decide) gP nI (by decide) rfl rfl rfl rfl rfl (by exact nl rfl) (by exact (aI (by exact tI) tI)) rfl)
 refine rA ?_ (x := dy (by decide) gP nI rfl rfl (by decide) rfl (by simp only [am, aD, List.length_cons, List.length_nil]; omega) (by simp only [am, aD, List.length_cons, List.length_nil]; omega))
 refine rA ?_ (x := lF kE)
 refine rA ?_ (x := bf (ag := false) (vs := [sl _ _]) jc (by exact tI) (by exact rfl) (by exact nl rfl))
 refine sO [(0, _), (1, _), (4, _), (5, _), (6, _), (7, _), (8, _), (9, _), (5000, _)] [(0, _), (4, _), (5, (25, [val _, val _, sl _ _, sl _ _]))] ?_
 refine bi ?_
 exact Es) : G := h
def yK (h : G := by
 refine df ?_
 exact rb (by simp [aB, *])) : G := h
def Eu (h : G := by
 refine jK ?_
 refine sS [0, 1, 2, 6] [] ?_
 refine rM ?_
 refine rM ?_
 refine rA ?_ (x := jD)
 refine rM ?_
 refine cx 10 (fun ga sga => ?_) (fun ga sga => ?_)
 refine rB ga ?_ (x := sM)
 refine rB ga ?_ (x := sM)
 refine rB ga ?_ (x := ir)
 refine rA ?_ (x := aK ga)
 exact yK
 refine pN ?_
 exact yK) : G := h
def Ev (h : G := by
 refine cC ?_
 exact rb ((rt (P := fun y => y == x) hlt (by simpa using ‹_ = x›)).symm)) : G := h
def Ew (h : G := by
 refine nx (k + 1) (by exact ⟨by omega, tN ha ‹_› (by simpa using ‹¬ _›)⟩)) : G := h
def Ex (h : G := by
 refine cC ?_
 exact rb (by exact (PG (by rw [show xs.length = k by omega]; exact ha)).symm)) : G := h
def qQ (h : G := by
 refine dc ?_
 exact (aI (by exact rfl) tI)) : G := h
def yL (h : G := by
 refine rA ?_ (x := tA)
 exact qQ) : G := h
def Ey (h : G := by
 refine cC ?_
 exact rb (by simp [bp, JL, lP (P := iy) hlt hno])) : G := h
def Ez (h : G := by
 refine nx (k + 1) (by exact ⟨by omega, AA ha hlt hyes⟩)) : G := h
def vg (h : G := by
 refine fc ?_
 exact Ez) : G := h
def yM (h : G := by
 refine df ?_
 exact rb (by simp [bp, JL, hall, *])) : G := h
def EA (h : G := by
 refine zU ?_
 refine Am ?_
 refine rA ?_ (x := aK ga)
 exact yM) : G := h
def pI (h : G := by
 refine ca ?_
 exact Ez) : G := h
def EB (h : G := by
 refine df ?_
 exact rb (by simp [fg, *])) : G := h
def EC (h : G := by
 refine dc ?_
 exact (bj 2 (bj _ (aI (by exact rfl) (aI (by exact rfl) (aI gB (aI (fun h => nomatch h) tI))))))) : G := h
def yN (h : G := by
 refine ca ?_
 refine nx (k + 1) (by omega) (e := (by exact aI (by exact bI (by rw [rz hlt, bb]; rfl)) (aI (by exact rfl) tI)))) : G := h
def ED (h : G := by
 refine gz ?_
 exact (aI (by refine bI ?_; rw [hend, bY]) tI)) : G := h
def EE (h : G := by
 refine bE ?_
 refine sS [0, 2, 3, 4] [] ?_
 exact ED) : G := h
def yO (h : G := by
 have hend : k = x.length := by omega
 exact EE) : G := h
def pJ (h : G := by
 refine df ?_
 exact rb (by first | (simp_all [lg, aB]; done) | (simp_all [lg, aB]; omega))) : G := h
def EF (h : G := by
 have hbad : dE ⟨0, 0, 0⟩ lg mD x.ZH = false := oR hlt (Bool.eq_false_iff.2 fun hx => by
  have hx := jb.1 hx
  rw [hgk] at hx
  obtain ⟨hx1, hx2⟩ := hx
  first
  | (simp_all; done)
  | (simp only [decide_eq_true_eq, mD] at *; by_cases h0 : k = 0 <;> (try rw [hgp (by omega)] at hx2) <;> omega))
 refine sS [1, 3] [1] ?_
 refine cC ?_
 exact rb (by simp [bG, lh, hbad])) : G := h
def EG (h : G := by
 refine nx (k + 1) (by exact ⟨by omega, by rw [tP, ha, Bool.true_and]; refine jb.2 ⟨by rw [hgk]; first | assumption | simp_all, ?_⟩; rcases Nat.eq_zero_or_pos k with h0 | h0; (· exact .inl h0); (· right; rw [hgk, hgp h0]; first | (simp only [decide_eq_true_eq, mD] at *; omega) | (simp_all; done))⟩)) : G := h
def EH (h : G := by
 refine tG ?_
 refine ca ?_
 exact EG) : G := h
def vh (h : G := by
 refine df ?_
 exact rb (by first | (simp_all [bG, lh]; done) | (simp_all [bG, lh]; rfl) | (simp_all [bG, lh]; omega) | (simp_all [bG, lh]; intros; omega))) : G := h
def vi (h : G := by
 refine dc ?_
 exact rb (by first | exact hbad0.symm | (simp [bG, lh, hbad]; done) | (simp [bG, lR, hn3]; done) | (simp_all [bG, lh, lR]; done) | (simp_all [bG, lh, lR]; rfl) | (simp_all [bG, lh, lR]; omega) | (simp_all [bG, lh, lR]; intros; omega))) : G := h
def yP (h : G := by
 have hbad0 : bG x = false := by first | (simp_all [bG]; done) | (simp_all [bG]; rfl) | (simp_all [bG]; omega) | (simp_all [bG]; intros; omega)
 refine sS [1, 2] [1] ?_
 refine rK ?_
 exact vi) : G := h
def EI (h : G := by
 have hbad : dE ⟨0, 0, 0⟩ lg mD x.ZH = false := oR hlt (Bool.eq_false_iff.2 fun hx => by
  have hx := jb.1 hx
  rw [hgk] at hx
  obtain ⟨hx1, hx2⟩ := hx
  first
  | (simp_all; done)
  | (simp only [decide_eq_true_eq, mD] at *; by_cases h0 : k = 0 <;> (try rw [hgp (by omega)] at hx2) <;> omega))
 refine sS [1, 3, 4, 24, 25, 26] [1, 4] ?_
 refine rK ?_
 exact vi) : G := h
def EJ (h : G := by
 refine bc ?_
 refine sG [1, 3, 4, 24, 25, 26] [1, 4] ?_
 refine fc ?_
 exact EG) : G := h
def EK (h : G := by
 refine dc ?_
 exact rb (by first | (simp_all [gO, qg]; done) | (simp_all [gO, qg]; rfl) | (simp_all [gO, qg]; omega) | (simp_all [gO, qg]; intros; omega))) : G := h
def lJ (h : G := by
 refine rS ?_
 exact EK) : G := h
def yQ (h : G := by
 refine df ?_
 exact rb (by first | (simp_all [fE]; done) | (simp_all [fE]; rfl) | (simp_all [fE]; omega) | (simp_all [fE]; intros; omega))) : G := h
def EL (h : G := by
 refine sn 0 1 fun hl0_1 => ?_
 refine vU ?_
 refine rK ?_
 refine sT [1, 2, 4] [2] ?_
 refine rA ?_ (x := lF kK)
 refine rA ?_ (x := lD [val _] aw)
 refine rM ?_
 refine rA ?_ (x := ir)
 refine rM ?_
 refine cx 9 (fun ga sga => ?_) (fun ga sga => ?_)
 refine rB ga ?_ (x := lF kL)
 refine rB ga ?_ (x := lD [val _] aw)
 refine rB ga ?_ (x := fb)
 refine rB ga ?_ (x := sM)
 refine cx 13 (fun gb sgb => ?_) (fun gb sgb => ?_)
 refine zt gb ?_
 refine rB ga ?_ (x := aK gb)
 refine rA ?_ (x := aK ga)
 exact yQ
 refine zX ?_
 refine Ax ?_
 refine rB ga ?_ (x := aH gb)
 refine rA ?_ (x := aK ga)
 exact yQ
 refine pN ?_
 exact yQ) : G := h
def EM (h : G := by
 refine df ?_
 exact rb (by first | (simp_all [ql]; done) | (simp_all [ql]; rfl) | (simp_all [ql]; omega) | (simp_all [ql]; intros; omega))) : G := h
def qR (h : G := by
 refine df ?_
 exact rb (by first | (simp_all [eB]; done) | (simp_all [eB]; omega) | (rw [Bool.eq_iff_iff]; simp_all [eB]; done) | (rw [Bool.eq_iff_iff]; simp_all [eB]; omega))) : G := h
def vj (h : G := by
 refine df ?_
 exact rb (by first | (simp_all [cD]; done) | (simp_all [cD]; rfl) | (simp_all [cD]; omega) | (simp_all [cD]; intros; omega))) : G := h
def lK (h : G := by
 refine cC ?_
 exact rb (hbad.symm)) : G := h
def yR (h : G := by
 have hbad : bL s = false := by first | (simp_all [bL, lT]; done) | (simp_all [bL, lT]; omega)
 refine sS [1, 2] [1] ?_
 exact lK) : G := h
def EN (h : G := by
 refine mz ?_
 exact yR) : G := h
def EO (h : G := by
 refine nx (m + 1) (by refine ⟨by omega, ?_⟩; rw [Qy, hfr, Bool.true_and]; exact hap)) : G := h
def yS (h : G := by
 have hvo : cD s.Now s.ZE[k][j] = false := by first | (simp_all [cD, ee]; done) | (simp_all [cD, ee]; omega)
 have hbad := wT hag.1 (Ke (by rw [hag.2]; exact hvo))
 refine sS [1, 3, 5, 7, 23, 24, 25, 32, 33, 34] [1, 7] ?_
 exact lK) : G := h
def EP (h : G := by
 have hap : eB ((aY s).getD ((cV s k).length + j) v0) ((aY s).getD m v0) = false := by
  rw [hag.2] at hma ⊢
  by_cases hid : s.ZE[k][j].Id = ((aY s).getD m v0).Id
  ·rw [beq_iff_eq.2 hid, Bool.true_and] at hma; simp_all
  ·simp_all
 have hbad := wT hag.1 (Kf hlt3 hap)
 refine sS [1, 3, 5, 7, 9, 23, 24, 25, 32, 33, 34, 66, 67, 68] [1, 7, 9] ?_
 exact lK) : G := h
def yT (h : G := by
 have hap : eB ((aY s).getD ((cV s k).length + j) v0) ((aY s).getD m v0) = true := by
  rw [hag.2] at hma ⊢
  by_cases hid : s.ZE[k][j].Id = ((aY s).getD m v0).Id
  ·rw [beq_iff_eq.2 hid, Bool.true_and] at hma; simp_all
  ·rw [beq_false_of_ne hid, Bool.false_and] at hma; simpa using hma.symm
 refine bc ?_
 refine sG [1, 3, 5, 7, 9, 23, 24, 25, 32, 33, 34, 66, 67, 68] [1, 7, 9] ?_
 refine fc ?_
 exact EO) : G := h
def EQ (h : G := by
 refine zf ge ?_
 refine rA ?_ (x := aH ge)
 refine eJ ?_
 exact yT) : G := h
def ER (h : G := by
 have hend3 : m = (cV s k).length + j := by omega
 refine bE ?_
 refine sH [1, 3, 5, 7, 23, 24, 25, 32, 33, 34, 66, 67, 68] [1, 7] ?_
 refine rA ?_ (x := tM)
 refine rA ?_ (x := lD [val _, sl .v _, val _, val _] fC)
 refine rA ?_ (x := bm (qs := [(true, [val _, sl _ _, val _, val _])]) (by decide) cX fU (by decide) rfl rfl rfl rfl rfl (by exact nl rfl) (by exact (aI (by exact tI) tI)) rfl)
 refine HT ?_
 refine sG [1, 3, 5, 7, 23, 24, 25, 32, 33, 34, 66, 67, 68] [1, 7] ?_
 refine fc ?_
 refine nx (j + 1) (by refine ⟨by omega, ?_⟩; rw [← Nat.add_assoc, Kd, hg, Bool.true_and]; unfold ll; rw [hag.2, hvo, Bool.true_and, ← hend3]; rw [hend3] at hfr ⊢; exact hfr) (e := (by exact aI (by exact bI (by rw [cZ hlt2]; simp only [bb, bl]; rfl)) (aI (by exact rfl) tI)))) : G := h
def vk (h : G := by
 refine cC ?_
 exact rb (by exact (PR hlt (Bool.eq_false_iff.2 fun hx => by have hx := wJ.1 hx; rw [hgk] at hx; (try simp only [aB, Bool.and_eq_false_iff, decide_eq_false_iff_not] at *); omega)).symm)) : G := h
def ES (h : G := by
 refine cO ?_
 refine sS [0, 3, 4, 5, 6, 7] [] ?_
 exact vk) : G := h
def ET (h : G := by
 refine nx (k + 1) (by exact ⟨by omega, by rw [PQ, ha, Bool.true_and]; exact wJ.2 (by rw [hgk]; (try simp only [aB, aL, decide_eq_true_eq] at *); omega)⟩)) : G := h
def EU (h : G := by
 refine bc ?_
 refine sG [0, 3, 4, 5, 6, 7] [] ?_
 refine fc ?_
 exact ET) : G := h
def EV (h : G := by
 refine cC ?_
 exact rb (by subst hend; exact ha.symm)) : G := h
def EW (h : G := by
 refine pY ?_
 refine ca ?_
 exact ET) : G := h
def EX (h : G := by
 refine sG [0, 1, 4, 5, 6] [] ?_
 refine ca ?_
 refine nx (k + 1) (by exact ⟨by omega, fun _ => hok2⟩) (e := (by exact aI (by exact bI (by rw [rz hlt, fK, bb]; simp [hc, an])) (aI (by exact rfl) tI)))) : G := h
def yU (h : G := by
 have hfin : (k = a.length ∧ (du a && du b) = true) ∨ (k = 0 ∧ (a.length = 0 ∨ (du a && du b) = false)) := by
  by_cases h0k : 0 < k
  ·left
   have := ha h0k
   refine ⟨?_, this⟩
   rw [aL] at this
   by_cases hka : k = a.length
   ·exact hka
   ·have : k < a.length := by omega
    simp_all
  ·right
   refine ⟨by omega, ?_⟩
   by_cases hka : a.length = 0
   ·exact .inl hka
   ·right
    have : k < a.length := by omega
    cases h1 : du a <;> cases h2 : du b <;> simp_all
 refine wn ?_
 refine gz ?_
 exact (aI (by refine bI ?_; rw [PW ha hfin]) tI)) : G := h
def EY (h : G := by
 have hbad : dE rI bG qm l = false := oR hlt (Bool.eq_false_iff.2 fun hx => by
  have hx := jb.1 hx
  rw [hgk] at hx
  obtain ⟨hx1, hx2⟩ := hx
  first
  | (simp_all; done)
  | (simp only [decide_eq_true_eq, qm] at *; by_cases h0 : k = 0 <;> (try rw [hgp (by omega)] at hx2) <;> omega))
 refine rn ?_
 exact rb (by simp [dm, hbad])) : G := h
def EZ (h : G := by
 refine pY ?_
 refine ca ?_
 refine nx (k + 1) (by exact ⟨by omega, by rw [tP, ha, Bool.true_and]; refine jb.2 ⟨by rw [hgk]; first | assumption | simp_all, ?_⟩; rcases Nat.eq_zero_or_pos k with h0 | h0; (· exact .inl h0); (· right; rw [hgk, hgp h0]; first | (simp only [decide_eq_true_eq, qm] at *; omega) | (simp_all; done))⟩)) : G := h
def Fc (h : G := by
 have hyes : mE f v q.ZH[k] = true := by simp_all [mE]
 refine bc ?_
 refine sG [1, 2, 3, 7] [3] ?_
 exact pI) : G := h
def Fe (h : G := by
 refine sG [0, 1, 2, 6, 7, 8] [] ?_
 refine ca ?_
 refine nx (k + 1) (by exact ⟨by omega, fun _ => hok⟩) (e := (by exact aI (by first | exact bI (by rw [QB hlt hc, bb]; rfl) | exact bI (by rw [QC hlt hc])) (aI (by exact rfl) tI)))) : G := h
def vl (h : G := by
 have hfin : (k = l.length ∧ (dm l && (aB f 0 2 && aB v 0 99)) = true) ∨ (k = 0 ∧ (l.length = 0 ∨ (dm l && (aB f 0 2 && aB v 0 99)) = false)) := by
  by_cases h0k : 0 < k
  ·left
   have h1 := ha h0k
   refine ⟨?_, h1⟩
   by_cases hka : k = l.length
   ·exact hka
   ·exfalso
    have hlt_ : k < l.length := by omega
    have hlt2_ : (k : Int) < (l.length : Int) := by omega
    first | omega | simp_all
  ·right
   refine ⟨by omega, ?_⟩
   by_cases hka : l.length = 0
   ·exact .inl hka
   ·right
    have hlt_ : k < l.length := by omega
    have hlt2_ : (k : Int) < (l.length : Int) := by omega
    rw [← Bool.not_eq_true]; intro hc_; simp_all
 refine bE ?_
 refine sS [0, 1, 2, 6, 7, 8] [] ?_
 refine gz ?_
 exact (aI (by refine bI ?_; rw [QD hfin]) tI)) : G := h
def Ff (h : G := by
 have hok : (dm l && aB f 0 2) = false := by simp_all
 refine sS [0, 1, 4, 5] [] ?_
 refine gz ?_
 exact (aI (by refine bI ?_; unfold fR; rw [if_neg (by rw [hok]; simp)]; rfl) tI)) : G := h
def Fg (h : G := by
 refine ca ?_
 refine nx (k + 1) (by omega) (e := (by exact aI (by first | exact bI (by rw [cW, QG hls, bb, ← hse]; exact rfl) | exact bI (by rw [cW, QF hls])) (aI (by exact rfl) tI)))) : G := h
def Fh (h : G := by
 have hls : lU (cW l f k) (fy l f (k : Int)) = false := by
  by_cases h0 : (cW l f k).length = 0
  ·simp [lU, h0]
  ·simp_all [lU]
 refine sG [0, 1, 4, 5, 6, 7, 8] [] ?_
 refine nD ?_
 refine rM ?_
 refine rA ?_ (x := tM)
 refine rA ?_ (x := dM (qs := [(false, [val _]), (false, [val _]), (false, [sl _ _])]) (cs := [val _, val _, sl _ _]) (by decide) xl TT Ut (by exact rfl) (by exact (aI (by exact tI) (aI (by exact tI) (aI (by exact tI) tI)))) rfl (by exact rfl))
 refine rA ?_ (x := bm (qs := [(true, [val _, val _, sl _ _])]) (by decide) mP xl (by decide) rfl rfl rfl rfl rfl (by exact nl rfl) (by exact (aI (by exact tI) tI)) rfl)
 refine rA ?_ (x := dy (by decide) mP xl rfl rfl (by decide) rfl (by simp only [am, aD, List.length_cons, List.length_nil]; omega) (by simp only [am, aD, List.length_cons, List.length_nil]; omega))
 refine rA ?_ (x := tA)
 refine sG [0, 1, 4, 5, 6, 8] [] ?_
 exact Fg) : G := h
def Fj (h : G := by
 refine ca ?_
 refine nx (k + 1) (by exact ⟨by omega, tN ha hlt hno⟩)) : G := h
def Fk (h : G := by
 have hno : (aB (o.getD k 0) 0 2 && !bP (o.take k) (o.getD k 0)) = false := by rw [← hgk]; simp_all
 refine rn ?_
 exact rb ((QO hl3 (by omega) hno).symm)) : G := h
def Fm (h : G := by
 have hfin : k = o.length ∨ (eP x r o k).1 = [] := by
  by_cases hka : k = o.length
  ·exact .inl hka
  ·right
   have hlt_ : k < o.length := by omega
   have hlt2_ : (k : Int) < (o.length : Int) := by omega
   first | omega | (rw [← List.length_eq_zero_iff]; first | omega | (simp_all; done))
 have hpe := QP (x := x) (r := r) hfin
 refine bE ?_
 refine sT [2, 3, 4, 6, 7, 8, 9, 10] [3, 4] ?_
 refine nD ?_
 refine rA ?_ (x := tA)
 refine df ?_
 exact (aI (by refine bI ?_; rw [hpe]) (aI (by refine bA ?_; rw [hpe]) tI))) : G := h
def Fo (h : G := by
 refine sS [0, 2, 3, 4, 5] [] ?_
 refine rM ?_
 refine rA ?_ (x := iX)
 refine rA ?_ (x := yy UD LH (by first | exact (congrArg (IntKind.wrap .u8) OL).trans (IntWalk.u8_in _ (by omega)) | exact IntWalk.u8_in _ (by omega)))
 refine rA ?_ (x := bm (qs := [(false, [val _])]) (by decide) qi TR (by decide) rfl rfl rfl rfl rfl (by exact nl rfl) (by exact (aI (by exact tI) tI)) rfl)
 refine rA ?_ (x := OT UF LH UE)
 refine nz ?_
 refine rS ?_
 refine sG [0, 2, 3, 4, 5] [] ?_
 refine rM ?_
 refine rA ?_ (x := yE)
 refine rS ?_
 refine nx (q.1.tdiv 10, jE [48 + ((q.1.natAbs % 10 : Nat) : Int)] ++ q.2) (by exact ⟨by have := rN q.1; unfold aQ; omega, QZ hto hq0 rfl⟩) (b := (by have := rN q.1; dsimp only; omega)) (e := (by exact aI (by exact rfl) (aI (by exact congrArg (fun z => some (RV.sc (.string (B (jE [48 + z] ++ q.2))))) hd_) tI)))) : G := h
def Fq (h : G := by
 refine sG [0, 2, 3, 4] [] ?_
 refine rM ?_
 refine qb ?_
 refine te ?_
 refine rS ?_
 refine tB ?_
 refine nx (k + 1) (by omega) (e := (by exact aI (by first | exact congrArg (fun z => some (RV.sc (.string (B z)))) (by rw [hsc, if_neg hk0]) | exact congrArg (fun z => some (RV.sc (.string (B z)))) (by rw [hsc, if_pos hk0]; subst hk0; rfl)) (aI (by exact rfl) tI)))) : G := h
def yV (h : G := by
 have hbad : cj x = false := by first | (simp_all [cj, kG, aB]; done) | (simp_all [cj, kG, aB]; rfl) | (simp_all [cj, kG, aB]; omega) | (simp_all [cj, kG, aB]; intros; omega)
 refine sS [1, 2, 3] [1] ?_
 exact lK) : G := h
def nu (h : G := by
 refine cO ?_
 exact yV) : G := h
def Fr (h : G := by
 refine cC ?_
 exact rb ((Rg hlt hno).symm)) : G := h
def Ft (h : G := by
 have hno : kF x k = false := by simp_all [kF]
 refine sS [1, 3, 4, 33, 34] [1] ?_
 exact Fr) : G := h
def Fu (h : G := by
 refine nx (k + 1) (by exact ⟨by omega, by rw [Rf, ha, hyes]; rfl⟩)) : G := h
def Fv (h : G := by
 refine df ?_
 exact rb (by simp_all [cj])) : G := h
def Fw (h : G := by
 have hno : kF x k = false := by simp_all [kF]
 refine sS [1, 3, 4] [1] ?_
 exact Fr) : G := h
def Fy (h : G := by
 have hok : cj x = false := by simpa using hba
 refine sS [1, 2] [1] ?_
 refine cC ?_
 exact (aI (by refine bA ?_; unfold mI; rw [if_neg (by rw [hok]; simp)]) tI)) : G := h
def FC (h : G := by
 refine nx (k + 1) (by omega) (e := (by exact aI (by exact bA (by rw [wX, ← Int.add_assoc]; unfold qp; rw [← cU hlt])) (aI (by exact rfl) tI)))) : G := h
def FD (h : G := by
 refine rM ?_
 refine df ?_
 exact (aI (by refine bA ?_; unfold mI; rw [if_pos hok, hend]) tI)) : G := h
def FE (h : G := by
 refine nx (k + 1) (by omega) (e := (by exact aI (by exact bA (by rw [Ks hlt])) (aI (by exact rfl) tI)))) : G := h
def vm (h : G := by
 refine rM ?_
 refine df ?_
 exact (aI (by refine bA ?_; rw [hend, bY]; rfl) tI)) : G := h
def FF (h : G := by
 refine sG [1, 2, 3, 4, 5, 6, 7, 17, 18, 19] [1] ?_
 refine nD ?_
 refine nB ?_
 refine sG [1, 2, 3, 4, 5, 6, 7, 17, 18, 19] [1] ?_
 refine fc ?_
 refine nx (k + 1) (by omega) (e := (by exact aI (by first | exact bI (by rw [List.range_succ, bb, bb]; simp only [List.map_cons, List.map_nil]; unfold je; rw [← cU hrl, if_pos hc];  rfl) | exact bI (by rw [List.range_succ, bb, bb]; simp only [List.map_cons, List.map_nil]; unfold je; rw [← cU hrl, if_neg hc];  rfl) | exact bI (by rw [List.range_succ, bb, bb]; simp only [List.map_cons, List.map_nil]; unfold je; rw [← cU hrl, if_neg hc, Int.add_zero];  rfl)) (aI (by exact rfl) tI)))) : G := h
def FG (h : G := by
 refine sG [1, 2, 3, 4, 5, 6] [1] ?_
 refine nD ?_
 refine nB ?_
 refine sG [1, 2, 3, 4, 5, 6] [1] ?_
 refine ca ?_
 refine nx (k + 1) (by exact ⟨by omega, fun _ => hok⟩) (e := (by exact aI (by first | exact bI (by rw [List.range_succ, bb, bb]; simp only [List.map_cons, List.map_nil]; unfold je; rw [← cU hrl, if_pos hc]; rw [Int.add_comm (x.Base.tdiv _)]; rfl) | exact bI (by rw [List.range_succ, bb, bb]; simp only [List.map_cons, List.map_nil]; unfold je; rw [← cU hrl, if_neg hc]; rw [Int.add_comm (x.Base.tdiv _)]; rfl) | exact bI (by rw [List.range_succ, bb, bb]; simp only [List.map_cons, List.map_nil]; unfold je; rw [← cU hrl, if_neg hc, Int.add_zero]; rw [Int.add_comm (x.Base.tdiv _)]; rfl)) (aI (by exact rfl) tI)))) : G := h
def FH (h : G := by
 have hfin : (k = x.Ids.length ∧ cj x = true) ∨ (k = 0 ∧ (x.Ids.length = 0 ∨ cj x = false)) := by
  by_cases h0k : 0 < k
  ·left
   have h1 := ha h0k
   refine ⟨?_, h1⟩
   by_cases hka : k = x.Ids.length
   ·exact hka
   ·exfalso
    have : k < x.Ids.length := by omega
    simp_all
  ·right
   refine ⟨by omega, ?_⟩
   by_cases hka : x.Ids.length = 0
   ·exact .inl hka
   ·right
    have : k < x.Ids.length := by omega
    cases h1 : cj x <;> simp_all
 refine bE ?_
 refine sT [1, 2, 3, 4, 5] [1] ?_
 refine gz ?_
 exact (aI (by refine bI ?_; rw [Ri hfin]) tI)) : G := h
def FI (h : G := by
 refine nx (k2 + 1) (by omega) (e := (by exact aI (by first | exact bA (by rw [wX, ← Int.add_assoc]; congr 1; unfold lW; rw [← cU htl, if_pos hc, ← cU hlt2]) | exact bA (by rw [wX]; unfold lW; rw [← cU htl, if_neg hc, Int.add_zero])) (aI (by exact rfl) tI)))) : G := h
def FJ (h : G := by
 refine sG [0, 1, 4, 5, 7, 8, 9, 10, 11, 12, 17, 18, 19] [7] ?_
 refine fc ?_
 exact FI) : G := h
def FK (h : G := by
 refine nx (k + 1) (by omega) (e := (by exact aI (by exact bA (by rw [Ks hlt, hend2]; rfl)) (aI (by exact rfl) tI)))) : G := h
def FL (h : G := by
 refine sG [0, 1, 4, 5, 6, 7, 8] [] ?_
 refine ca ?_
 exact FI) : G := h
def FN (h : G := by
 have hbad : dE 0 (jR s.ZE.length) jS a.ZO = false := oR hlt (Bool.eq_false_iff.2 fun hx => by
  have hx := jb.1 hx
  rw [hgk] at hx
  obtain ⟨hx1, hx2⟩ := hx
  first
  | (simp_all; done)
  | (simp only [decide_eq_true_eq, jS, jR, aB, aL, Bool.and_eq_false_iff, decide_eq_false_iff_not] at *; by_cases h0 : k = 0 <;> (try rw [hgp (by omega)] at hx2) <;> omega))
 refine sS [2, 3, 5, 6, 8, 9, 10] [2, 3] ?_
 refine cC ?_
 exact rb (by simp [eg, jT, hbad])) : G := h
def FO (h : G := by
 refine nx (k + 1) (by exact ⟨by omega, by rw [tP, ha, Bool.true_and]; refine jb.2 ⟨by rw [hgk]; first | assumption | simp_all, ?_⟩; rcases Nat.eq_zero_or_pos k with h0 | h0; (· exact .inl h0); (· right; rw [hgk, hgp h0]; first | (simp only [decide_eq_true_eq, jS, jR, aB, aL, Bool.and_eq_false_iff, decide_eq_false_iff_not] at *; omega) | (simp_all; done))⟩)) : G := h
def FP (h : G := by
 refine bc ?_
 refine sG [2, 3, 5, 6, 8, 9, 10] [2, 3] ?_
 refine fc ?_
 exact FO) : G := h
def pK (h : G := by
 refine df ?_
 exact rb (by first | (simp_all [eg, jT]; done) | (simp_all [eg, jT]; rfl) | (simp_all [eg, jT]; omega) | (simp_all [eg, jT]; intros; omega))) : G := h
def FQ (h : G := by
 have hbad : dE 0 (jR n) jS l = false := oR hlt (Bool.eq_false_iff.2 fun hx => by
  have hx := jb.1 hx
  rw [hgk] at hx
  obtain ⟨hx1, hx2⟩ := hx
  first
  | (simp_all; done)
  | (simp only [decide_eq_true_eq, jS, jR, aB, aL, Bool.and_eq_false_iff, decide_eq_false_iff_not] at *; by_cases h0 : k = 0 <;> (try rw [hgp (by omega)] at hx2) <;> omega))
 refine sS [0, 1, 5] [] ?_
 refine cC ?_
 exact rb (by simp [jT, hbad])) : G := h
def FR (h : G := by
 refine wy ?_
 refine ca ?_
 exact FO) : G := h
def pL (h : G := by
 refine df ?_
 exact rb (by first | (simp_all [eg]; done) | (simp_all [eg]; rfl) | (simp_all [eg]; omega) | (simp_all [eg]; intros; omega))) : G := h
def FS (h : G := by
 have hbad := Rk hpr
 refine sS [1, 2] [1] ?_
 exact lK) : G := h
def yW (h : G := by
 have hpr : ic e = false := by first | (simp_all [ic]; done) | (simp_all [ic]; omega) | (rw [← Bool.not_eq_true]; intro hc_; simp [ic] at hc_; simp_all; done) | (rw [← Bool.not_eq_true]; intro hc_; simp [ic] at hc_; omega)
 exact FS) : G := h
def nw (h : G := by
 refine cO ?_
 exact yW) : G := h
def yX (h : G := by
 have hpr : ic e = false := by unfold ic; rw [hp1]; first | (simp_all; done) | (simp_all; omega)
 exact FS) : G := h
def qS (h : G := by
 refine cC ?_
 exact rb (hbad2.symm)) : G := h
def FT (h : G := by
 have hbad : dE go (eg e.Store) kH e.ZF = false := oR hlt (Bool.eq_false_iff.2 fun hx => by
  have hx := jb.1 hx
  rw [hgk] at hx
  obtain ⟨hx1, hx2⟩ := hx
  first
  | (simp_all; done)
  | (simp only [decide_eq_true_eq, kH] at *; by_cases h0 : k = 0 <;> (try rw [hgp (by omega)] at hx2) <;> omega))
 have hbad2 := Ku hbad
 refine sS [1, 3, 4, 53, 54, 55] [1, 4] ?_
 exact qS) : G := h
def FU (h : G := by
 refine nx (k + 1) (by exact ⟨by omega, by rw [tP, ha, Bool.true_and]; refine jb.2 ⟨by rw [hgk]; first | assumption | simp_all, ?_⟩; rcases Nat.eq_zero_or_pos k with h0 | h0; (· exact .inl h0); (· right; rw [hgk, hgp h0]; first | (simp only [decide_eq_true_eq, kH] at *; omega) | (simp_all; done))⟩)) : G := h
def FV (h : G := by
 refine bc ?_
 refine sG [1, 3, 4, 53, 54, 55] [1, 4] ?_
 refine fc ?_
 exact FU) : G := h
def vn (h : G := by
 have hno : (fz e.Store.Now) e.Done[k] = false := by first | (simp_all [fz]; done) | (simp_all [fz]; omega)
 have hbad2 := Kv (lP hlt hno)
 refine sS [1, 6, 53, 54, 55, 85, 86, 87] [1, 6] ?_
 exact qS) : G := h
def FW (h : G := by
 refine cC ?_
 exact rb ((Kx hpr hall hfa hla).symm)) : G := h
def FX (h : G := by
 have hbad : dE go (eg e.Store) kH e.ZF = false := oR hlt (Bool.eq_false_iff.2 fun hx => by
  have hx := jb.1 hx
  rw [hgk] at hx
  obtain ⟨hx1, hx2⟩ := hx
  first
  | (simp_all; done)
  | (simp only [decide_eq_true_eq, kH] at *; by_cases h0 : k = 0 <;> (try rw [hgp (by omega)] at hx2) <;> omega))
 have hbad2 := Ku hbad
 refine sS [1, 3] [1] ?_
 exact qS) : G := h
def FY (h : G := by
 refine tG ?_
 refine ca ?_
 exact FU) : G := h
def vo (h : G := by
 have hno : (fz e.Store.Now) e.Done[k] = false := by first | (simp_all [fz]; done) | (simp_all [fz]; omega)
 have hbad2 := Kv (lP hlt hno)
 refine sS [1, 3, 4, 5] [1, 5] ?_
 exact qS) : G := h
def vp (h : G := by
 refine rp ?_
 refine nx (k + 1) (by omega) (f := (by exact aI (by rw [rz hlt]; simp only [bb]; exact rfl) tI))) : G := h
def FZ (h : G := by
 refine cC ?_
 exact (aI (by refine hE ?_; exact iE (by unfold ud; rw [if_neg (by rw [hok]; simp)])) tI)) : G := h
def Ga (h : G := by
 refine dc ?_
 exact (aI (by refine hE ?_; exact iE (by unfold ud; rw [if_pos hok]; try first | rfl | (simp [nS, dD, Lib.join_cons, Lib.joinTail, bl]; done))) tI)) : G := h
def Gb (h : G := by
 refine dA 511 ?_ (x := sA)
 refine zS ?_
 refine nx (m + 1) (by omega) (e := (by exact aI (by exact gZ (by rw [Ru hlm, hg]; rfl)) (aI (by exact bA (by omega)) tI)))) : G := h
def Gc (h : G := by
 refine zS ?_
 refine nx (j + 1) (by omega) (e := (by exact aI (by first | exact bA (by rw [RH hls hlj2 hnd]) | exact bA (by rw [RI hls hlj2 hnd]; omega)) (aI (by first | exact bI (by rw [RD hlj (by rw [hz3]; exact hnd), bb]; exact rfl) | exact bI (by rw [RE hlj (by rw [hz3]; exact hnd)])) (aI (by exact bA (by omega)) tI))))) : G := h
def Gd (h : G := by
 have hno2 : iJ id s.ZE[i][j] = false := by first | (simp_all [iJ]; done) | (unfold iJ; simp_all)
 refine bc ?_
 refine sG [1, 2, 6, 7] [2] ?_
 refine ca ?_
 refine nx (j + 1) (by exact ⟨by omega, tN hc hlt2 hno2⟩) (e := (by exact aI (by exact bA (by omega)) tI))) : G := h
def Ge (h : G := by
 refine oD ?_
 refine cC ?_
 exact (bj 4 (bj _ (aI (by exact rfl) (aI (by refine dW ?_; rw [ug hno]; exact rfl) (aI cF (aI (fun h => nomatch h) (aI (by refine gZ ?_; rw [ug hno]) tI)))))))) : G := h
def yY (h : G := by
 have hno : iL s u = false := by rw [← Bool.not_eq_true]; intro hc_; obtain ⟨h1_, h2_, h3_, h4_, h5_⟩ := rP hc_; first | omega | (simp_all; done) | (simp_all; omega)
 refine sS [2, 3, 4, 5, 6] [2, 3, 4, 6] ?_
 exact Ge) : G := h
def Gf (h : G := by
 have hno : iL s u = false := by rw [← Bool.not_eq_true]; intro hc_; obtain ⟨h1_, h2_, h3_, h4_, h5_⟩ := rP hc_; by_cases h1 : 0 ≤ cf s u.Row.Id <;> by_cases h2 : u.Kind = 1 <;> by_cases h3 : u.Kind = 2 <;> by_cases h4 : 0 ≤ gE s.ZE <;> by_cases h6 : cf s u.Row.Id < 0 <;> (first | omega | (simp_all; done) | (simp_all; omega))
 refine sS [2, 3, 4, 5, 6, 7, 8, 9] [2, 3, 4, 6] ?_
 exact Ge) : G := h
def Gg (h : G := by
 refine oD ?_
 refine cC ?_
 exact (bj 4 (bj _ (aI (by exact rfl) (aI (by refine dW ?_; first | (rw [xc hok hk2 hrm, hpv]; exact rfl) | (rw [uh hok hk2]; exact rfl)) (aI cF (aI (fun h => nomatch h) (aI (by refine gZ ?_; first | (rw [xc hok hk2 hrm]; done) | (rw [uh hok hk2]; done)) tI)))))))) : G := h
def Gh (h : G := by
 obtain ⟨r, hr, hrm, hr4⟩ := Bg (hrr.resolve_left hk2)
 have hru : r < (dQ s u).length := by omega
 have hua := Bj s u hru hr
 have hpv := rQ (v := lr s u) hru
 refine sP [2, 3, 4, 5, 6, 7, 8, 9, 10] [2, 3, 4, 6, 10] ?_
 refine jC (d := 6) (t := 41) (D := 940) (G := 2940) (E := 114) (e := 1) (L := (Lw w0.heap.size)) (A := []) (B := [val _]) (es := ((dQ s u)).map (aO be ae)) (by exact rfl) (iq hru) (by exact rfl) (by exact rfl) rfl (by exact rfl) (fun x hx => hx) (by exact lq) (by exact lq) (by exact ar.nil) (by exact lc) (ar.map fun x => (ar.cons (lcl_own (ar.map fun x => (ar.cons lcl_val (ar.cons (lcl_own (ar.map fun x => (ar.cons lcl_val ar.nil))) (ar.cons lcl_val (ar.cons lcl_val ar.nil)))))) ar.nil)) fun uu940 cp940 jk940 hlD940 hcp940 hjk940 => ?_
 rw [am] at hlD940 hcp940 hjk940
 refine cK (d := 940) (by exact rfl) (hI (k := r) hru) ?_
 have hA940 := hJ (f := (aO be ae)) (e := 1) (xs := (dQ s u)) (k := r) (fun _ => rfl) (Nat.le_of_lt hru)
 refine sO [(2, _), (3, _), (4, _), (5, _), (6, _), (7, _), (8, _), (9, _), (10, _), (2940, _)] [(2, _), (3, _), (4, _), (6, (41, [val _, val _])), (10, _), (940, (114, _ ++ ([sl _ _] ++ _)))] ?_
 refine cv cd ?_
 refine tm ?_
 refine dA 0 ?_ (x := sM)
 refine dA 0 ?_ (x := lF jW)
 refine dA 8 ?_ (x := lD [val _] jX)
 refine dA 0 ?_ (x := sM)
 refine dA 56 ?_ (x := gj (k := r) (G := 2940) (by decide) fj (by exact tI) (by omega) (by first | (rw [am]; exact hru) | exact hru))
 refine dA 120 ?_ (x := yu (o := 0) (ms := [sl _ _]) (qs := [sl .v _]) (by omega) (by decide) iP (fun _ => rfl) (by exact nl rfl) (by exact rfl) (by exact (aA ao.nil)) (by exact (ab.cons (bor_sl _) ab.nil)))
 refine dA 0 ?_ (x := dH (ms := [val _, sl _ _, val _, val _]) (qs := [val _, sl .v _, val _, val _]) (by decide) fC (fun h => nomatch h) (by exact nl rfl) (by exact rfl) (by exact (aq (aA (aq (aq ao.nil))))) (by exact lq))
 refine dA 256 ?_ (x := bm (qs := [(true, [val _, sl _ _, val _, val _])]) (by decide) cX fU (by decide) rfl rfl rfl rfl rfl (by exact nl rfl) (by exact (aI (by exact tI) tI)) rfl)
 refine dA 1016 ?_ (x := dy (by decide) cX fU rfl rfl (by decide) rfl (by simp only [am, aD, List.length_cons, List.length_nil]; omega) (by simp only [am, aD, List.length_cons, List.length_nil]; omega))
 refine dA 2047 ?_ (x := gj (k := r) (G := 2940) (by decide) fj (by exact tI) (by omega) (by first | (rw [am]; exact hru) | exact hru))
 refine dA 4095 ?_ (x := kX (o := 0) (ag := false) (vs := [sl _ _]) (by omega) iP (by exact tI) (by exact rfl) (by exact nl rfl))
 refine cK (d := 940) (by exact rfl) (kq ((dQ s u)[r] ++ [lr s u]) hru (by simp only [aO, bb]; exact rfl)) ?_
 refine lI (d := 6) (D := 940) (G := 2940) (e := 1) (A := []) (B := [val _]) (es := (((dQ s u)).set r ((dQ s u)[r] ++ [lr s u])).map (aO be ae)) (by exact rfl) (by exact rfl) (by exact rfl) rfl (by rw [am, List.length_set, am]) (by intro c hc; obtain ⟨y, _, rfl⟩ := List.mem_map.1 hc; exact rfl) (by rw [am]; exact hjk940) ?_
 refine ba ?_
 refine sO [(2, _), (3, _), (4, _), (5, _), (6, _), (7, _), (8, _), (9, _), (10, _)] [(2, _), (3, _), (4, _), (6, (41, [sl _ _, val _])), (10, (116, [val _, sl _ _, val _, val _]))] ?_
 refine bi ?_
 exact Gg) : G := h
def Gi (h : G := by
 refine bc ?_
 refine sS [2, 3, 4, 5, 6, 7, 8, 9, 10] [2, 3, 4, 6, 10] ?_
 exact Gg) : G := h
def Gj (h : G := by
 refine Ia ?_
 refine ra ?_
 refine rA ?_ (x := gJ)
 refine sc (fun hbe => ?_) (fun hbe => ?_)
 have hk2 : ¬ u.Kind = 2 := by first | exact hbe | simpa using hbe
 exact Gh
 have hk2 : u.Kind = 2 := by first | exact hbe | simpa using hbe
 exact Gi) : G := h
def Gk (h : G := by
 refine In ?_
 refine sG [2, 3, 4, 5, 6, 7, 8, 9, 10] [2, 3, 4, 6, 10] ?_
 refine ra ?_
 refine rA ?_ (x := fb)
 refine sc (fun hbd => ?_) (fun hbd => ?_)
 have hk3 : u.Kind = 3 := by first | exact hbd | simpa using hbd
 have hge3 : 0 ≤ cf s u.Row.Id := by omega
 have hv3 := Bk (u := u) hos hge3
 have hf3 := KL hou hk3
 have hfl : u.Field.toNat < (fT s u).length := by omega
 have hv2 : iK s u = (fT s u).set u.Field.toNat u.Value := if_pos hk3
 refine sP [2, 3, 4, 5, 6, 7, 8, 9, 10] [2, 3, 4, 6, 10] ?_
 refine jC (d := 10) (t := 116) (D := 930) (G := 2930) (E := 3) (e := 1) (L := (Lw w0.heap.size)) (A := [val _]) (B := [val _, val _]) (es := ((fT s u)).map an) (by exact rfl) (iq hfl) (by exact rfl) (by exact rfl) rfl (by exact rfl) (fun x hx => hx) (by exact lq) (by exact lq) (by exact lc) (by exact lc) (ar.map fun x => (ar.cons lcl_val ar.nil)) fun uu930 cp930 jk930 hlD930 hcp930 hjk930 => ?_
 rw [am] at hlD930 hcp930 hjk930
 refine cK (d := 930) (by exact rfl) (hI (k := u.Field.toNat) hfl) ?_
 have hA930 := hJ (f := an) (e := 1) (xs := (fT s u)) (k := u.Field.toNat) (fun _ => rfl) (Nat.le_of_lt hfl)
 refine Il ?_
 refine rA ?_ (x := lF mL)
 refine rA ?_ (x := lD [val _] bz)
 refine rA ?_ (x := lF tU)
 refine rA ?_ (x := lD [val _] aw)
 refine rA ?_ (x := lF tV)
 refine rA ?_ (x := lD [val _] aw)
 refine HQ ?_
 refine HB ?_
 refine vP ?_
 exact Gj
 have hk3n : ¬ u.Kind = 3 := by first | exact hbd | simpa using hbd
 have hv2 : iK s u = fT s u := if_neg hk3n
 refine eA ?_
 refine vY ?_
 exact Gj) : G := h
def Gl (h : G := by
 refine Ia ?_
 refine ra ?_
 refine rA ?_ (x := gJ)
 refine sc (fun hbd => ?_) (fun hbd => ?_)
 have hk2 : ¬ u.Kind = 2 := by first | exact hbd | simpa using hbd
 exact Gh
 have hk2 : u.Kind = 2 := by first | exact hbd | simpa using hbd
 exact Gi) : G := h
def Gm (h : G := by
 refine In ?_
 refine sG [2, 3, 4, 5, 6, 7, 8, 9, 10] [2, 3, 4, 6, 10] ?_
 refine ra ?_
 refine rA ?_ (x := fb)
 refine sc (fun hbc => ?_) (fun hbc => ?_)
 have hk3 : u.Kind = 3 := by first | exact hbc | simpa using hbc
 have hge3 : 0 ≤ cf s u.Row.Id := by omega
 have hv3 := Bk (u := u) hos hge3
 have hf3 := KL hou hk3
 have hfl : u.Field.toNat < (fT s u).length := by omega
 have hv2 : iK s u = (fT s u).set u.Field.toNat u.Value := if_pos hk3
 refine sP [2, 3, 4, 5, 6, 7, 8, 9, 10] [2, 3, 4, 6, 10] ?_
 refine jC (d := 10) (t := 116) (D := 930) (G := 2930) (E := 3) (e := 1) (L := (Lw w0.heap.size)) (A := [val _]) (B := [val _, val _]) (es := ((fT s u)).map an) (by exact rfl) (iq hfl) (by exact rfl) (by exact rfl) rfl (by exact rfl) (fun x hx => hx) (by exact lq) (by exact lq) (by exact lc) (by exact lc) (ar.map fun x => (ar.cons lcl_val ar.nil)) fun uu930 cp930 jk930 hlD930 hcp930 hjk930 => ?_
 rw [am] at hlD930 hcp930 hjk930
 refine cK (d := 930) (by exact rfl) (hI (k := u.Field.toNat) hfl) ?_
 have hA930 := hJ (f := an) (e := 1) (xs := (fT s u)) (k := u.Field.toNat) (fun _ => rfl) (Nat.le_of_lt hfl)
 refine Il ?_
 refine rA ?_ (x := lF mL)
 refine rA ?_ (x := lD [val _] bz)
 refine rA ?_ (x := lF tU)
 refine rA ?_ (x := lD [val _] aw)
 refine rA ?_ (x := lF tV)
 refine rA ?_ (x := lD [val _] aw)
 refine HQ ?_
 refine HB ?_
 refine vP ?_
 exact Gl
 have hk3n : ¬ u.Kind = 3 := by first | exact hbc | simpa using hbc
 have hv2 : iK s u = fT s u := if_neg hk3n
 refine eA ?_
 refine vY ?_
 exact Gl) : G := h
def Gn (h : G := by
 have hbad : dE pp bp pq l = false := oR hlt (Bool.eq_false_iff.2 fun hx => by
  have hx := jb.1 hx
  rw [hgk] at hx
  obtain ⟨hx1, hx2⟩ := hx
  first
  | (simp_all; done)
  | (simp only [decide_eq_true_eq, pq] at *; by_cases h0 : k = 0 <;> (try rw [hgp (by omega)] at hx2) <;> omega))
 refine rn ?_
 exact rb (by simp [gF, hbad])) : G := h
def Gp (h : G := by
 refine pY ?_
 refine ca ?_
 refine nx (k + 1) (by exact ⟨by omega, by rw [tP, ha, Bool.true_and]; refine jb.2 ⟨by rw [hgk]; first | assumption | simp_all, ?_⟩; rcases Nat.eq_zero_or_pos k with h0 | h0; (· exact .inl h0); (· right; rw [hgk, hgp h0]; first | (simp only [decide_eq_true_eq, pq] at *; omega) | (simp_all; done))⟩)) : G := h
def yZ (h : G := by
 have hno : md rows n = false := by rw [← Bool.not_eq_true]; intro hc_; obtain ⟨h1_, h2_, h3_⟩ := Cg hc_; have h4_ : aB n 1 8 = true := (by simp [aB]; omega); (first | omega | (simp_all; done) | (simp_all; omega))
 refine IN ?_
 refine rA ?_ (x := bf (ag := true) (vs := [sl _ _, val _]) cF (by exact tI) (by exact rfl) (by exact nl rfl))
 refine cC ?_
 exact (bj 4 (bj _ (aI (by exact rfl) (aI (by refine dW ?_; rw [Ml hno]; exact rfl) (aI cF (aI (fun h => nomatch h) (aI (by refine gZ ?_; rw [Ml hno]) tI)))))))) : G := h
def Gq (h : G := by
 refine sS [0, 3, 4, 5, 6, 29, 5000] [0, 3, 4] ?_
 refine rA ?_ (x := cM Cp.ptr)
 refine jG ?_
 refine rA ?_ (x := bR (bx := 0) (qs := [(false, [val _])]) (as_ := [(false, [val _])]) (by decide) Bp rfl (by exact (aI (by exact tI) tI)) (by exact (aI (aI rfl (aq ao.nil)) tI)) (by exact (ab.cons (hbo _) (ab.cons (bor_val _) (ab.cons (bor_val _) ab.nil)))) (by exact (bV (ab.cons (bor_val _) ab.nil) bH)) (by exact (BD hbo)))
 refine HI ?_
 refine dc ?_
 exact ⟨(by rw [Mp h0_, huk]; exact rfl), rfl, (bj 4 (bj _ (aI (by exact rfl) (aI (by refine dW ?_; rw [Mp h0_, huk]; exact rfl) (aI qj (aI (fun h => nomatch h) tI))))))⟩) : G := h
def Gr (h : G := by
 refine sS [0, 3, 4, 5, 6, 29, 5000] [0, 3, 4] ?_
 refine IA ?_
 refine HI ?_
 refine dc ?_
 exact ⟨(by rw [Mq h0_ h1_, huk]; exact rfl), rfl, (bj 4 (bj _ (aI (by exact rfl) (aI (by refine dW ?_; rw [Mq h0_ h1_, hu]; exact rfl) (aI qj (aI (fun h => nomatch h) tI))))))⟩) : G := h
def Gs (h : G := by
 refine bc ?_
 refine sS [0, 3, 4, 5, 6, 29, 5000] [0, 3, 4] ?_
 refine jG ?_
 refine rS ?_
 refine sS [0, 3, 4, 5, 6, 7, 29, 5000] [0, 3, 4] ?_
 refine IA ?_
 refine rM ?_
 refine jG ?_
 refine rA ?_ (x := dM (qs := [(false, [val _]), (true, [val _, sl _ _]), (false, [val _]), (false, [val _])]) (cs := [val _, val _, sl _ _, val _, val _]) (by decide) AM AN Nc (by exact rfl) (by exact (aI (aJ rfl) (aI (by exact tI) (aI (by exact tI) (aI (by exact tI) tI))))) rfl (by exact rfl))
 refine rA ?_ (x := bf (ag := true) (vs := [val _, val _, sl _ _, val _, val _]) qj (by exact tI) (by exact rfl) (by exact nl rfl))
 refine dc ?_
 exact ⟨(by rw [Mr h0_ h1_, huk]; exact rfl), rfl, (bj 4 (bj _ (aI (by exact rfl) (aI (by refine dW ?_; rw [Mr h0_ h1_, huk, hu]; exact rfl) (aI qj (aI (fun h => nomatch h) tI))))))⟩) : G := h
def Gt (h : G := by
 refine ba ?_
 refine sS [0, 3, 4, 5, 6, 5000] [0, 3, 4] ?_
 refine jG ?_
 refine fM ?_
 refine wi ?_
 refine sc (fun hbb => ?_) (fun hbb => ?_)
 have h0_ : (cl c s).1 = 0 := by rw [huk]; first | exact hbb | simpa using hbb
 exact Gq
 have h0_ : ¬ (cl c s).1 = 0 := by rw [huk]; first | exact hbb | simpa using hbb
 refine wi ?_
 refine sc (fun hbc => ?_) (fun hbc => ?_)
 have h1_ : (cl c s).1 = 1 := by rw [huk]; first | exact hbc | simpa using hbc
 exact Gr
 have h1_ : ¬ (cl c s).1 = 1 := by rw [huk]; first | exact hbc | simpa using hbc
 exact Gs) : G := h
def Gu (h : G := by
 refine HD ?_
 refine dc ?_
 exact ⟨(by rw [hr]; exact rfl), rfl, (bj 2 (bj _ (aI (by exact rfl) (aI (by refine dW ?_; rw [hr]; try first | exact rfl | (simp only [bb]; exact rfl)) (aI fh (aI (fun h => nomatch h) tI))))))⟩) : G := h
def zb (h : G := by
 refine ba ?_
 refine sO [(0, _), (2, _), (3, _), (9, _), (5000, _)] [(0, _), (2, _), (3, (25, [val _, val _, sl _ _, sl _ _]))] ?_
 refine bi ?_
 exact Gu) : G := h
def Gv (h : G := by
 refine rA ?_ (x := bf (ag := false) (vs := [val _]) aw (by exact tI) (by exact rfl) (by exact nl rfl))
 exact zb) : G := h
def Gw (h : G := by
 refine Hz ?_
 refine bi ?_
 refine rA ?_ (x := lD [val _, val _, sl .v _, sl .v _, sl .v _] jj)
 refine rA ?_ (x := bf (ag := true) (vs := [val _, val _, sl _ _, sl _ _, sl _ _]) jj (by exact tI) (by exact rfl) (by exact nl rfl))
 refine vT ?_
 exact ⟨(by rw [hr]; exact rfl), rfl, (bj 2 (bj _ (aI (by exact rfl) (aI (by refine dW ?_; rw [hr]; exact rfl) (aI jj (aI (fun h => nomatch h) tI))))))⟩) : G := h
def zc (h : G := by
 refine ba ?_
 refine sO [(0, _), (2, _), (3, _), (4, _), (5, _), (49, _), (5000, _)] [(0, _), (2, _), (3, (149, [val _, val _, sl _ _, sl _ _, sl _ _]))] ?_
 exact Gw) : G := h
def Gx (h : G := by
 refine oD ?_
 refine vT ?_
 exact ⟨(by rw [hr]; exact rfl), rfl, (bj 2 (bj _ (aI (by exact rfl) (aI (by refine dW ?_; rw [hr]; exact rfl) (aI cF (aI (fun h => nomatch h) tI))))))⟩) : G := h
def zd (h : G := by
 refine ba ?_
 refine sO [(0, _), (2, _), (3, _), (7, _), (5000, _)] [(0, _), (2, _), (3, (41, [sl _ _, val _]))] ?_
 refine bi ?_
 exact Gx) : G := h
def Gy (h : G := by
 refine bc ?_
 refine sS [0, 2, 3, 7, 5000] [0, 2, 3] ?_
 exact Gx) : G := h
def Gz (h : G := by
 refine df ?_
 exact rb (by first | (simp_all [ie]; done) | (simp_all [ie]; rfl) | (simp_all [ie]; omega) | (simp_all [ie]; intros; omega))) : G := h
def GA (h : G := by
 have hbad : lp e i = false := by first | (simp_all [lp]; done) | (simp_all [lp]; omega)
 refine sS [1, 2, 4] [2] ?_
 exact lK) : G := h
def GB (h : G := by
 refine df ?_
 exact rb (by unfold lp; rw [hok.1, hok.2, ← hgd]; first | (simp_all [ie]; done) | (simp_all [ie]; omega))) : G := h
def GC (h : G := by
 refine sG [1, 2, 3, 5, 6, 13, 14, 15, 7000] [1, 5] ?_
 refine nD ?_
 refine vw ?_
 refine rA ?_ (x := tA)
 refine sG [1, 2, 3, 5, 6, 13, 14, 15, 7000] [1, 5] ?_
 refine fc ?_
 refine nx (k + 1) (by omega) (e := (by exact aI (by exact bI (by rw [kC hlt, bb, hla]; rfl)) (aI (by exact rfl) tI)))) : G := h
def GD (h : G := by
 refine sG [1, 2, 3, 4, 5, 6] [1, 5] ?_
 refine nD ?_
 refine vw ?_
 refine rA ?_ (x := tA)
 refine sG [1, 2, 3, 4, 5, 6] [1, 5] ?_
 refine ca ?_
 refine nx (k + 1) (by exact ⟨by omega, fun _ => hok⟩) (e := (by exact aI (by exact bI (by rw [kC hlt, bb, hla]; rfl)) (aI (by exact rfl) tI)))) : G := h
def GE (h : G := by
 have hfin : (k = e.ZF.length ∧ aT e = true) ∨ (k = 0 ∧ (e.ZF.length = 0 ∨ aT e = false)) := by
  by_cases h0k : 0 < k
  ·left
   have h1 := ha h0k
   refine ⟨?_, h1⟩
   by_cases hka : k = e.ZF.length
   ·exact hka
   ·exfalso
    have hlt_ : k < e.ZF.length := by omega
    have hlt2_ : (k : Int) < (e.ZF.length : Int) := by omega
    first | omega | simp_all
  ·right
   refine ⟨by omega, ?_⟩
   by_cases hka : e.ZF.length = 0
   ·exact .inl hka
   ·right
    have hlt_ : k < e.ZF.length := by omega
    have hlt2_ : (k : Int) < (e.ZF.length : Int) := by omega
    rw [← Bool.not_eq_true]; intro hc_; simp_all
 refine wo ?_
 refine gz ?_
 exact (aI (by refine bI ?_; rw [Xp hfin]) tI)) : G := h
def GF (h : G := by
 refine ww ?_
 refine nx (k + 1) (by exact ⟨by omega, fun _ => hok⟩) (e := (by exact aI (by first | exact bI (by rw [Rm hlt hc, bb]; rfl) | exact bI (by rw [Rn hlt hc])) (aI (by exact rfl) tI)))) : G := h
def GG (h : G := by
 have hc : iF e e.ZF[k] = false := by simp_all [iF]
 refine bc ?_
 exact GF) : G := h
def GH (h : G := by
 have hfin : (k = e.ZF.length ∧ aT e = true) ∨ (k = 0 ∧ (e.ZF.length = 0 ∨ aT e = false)) := by
  by_cases h0k : 0 < k
  ·left
   have h1 := ha h0k
   refine ⟨?_, h1⟩
   by_cases hka : k = e.ZF.length
   ·exact hka
   ·exfalso
    have hlt_ : k < e.ZF.length := by omega
    have hlt2_ : (k : Int) < (e.ZF.length : Int) := by omega
    first | omega | simp_all
  ·right
   refine ⟨by omega, ?_⟩
   by_cases hka : e.ZF.length = 0
   ·exact .inl hka
   ·right
    have hlt_ : k < e.ZF.length := by omega
    have hlt2_ : (k : Int) < (e.ZF.length : Int) := by omega
    rw [← Bool.not_eq_true]; intro hc_; simp_all
 refine wo ?_
 refine gz ?_
 exact (aI (by refine bI ?_; rw [Rp hfin]) tI)) : G := h
def GI (h : G := by
 refine sG [0, 1, 4, 5, 6] [] ?_
 refine ca ?_
 refine nx (k + 1) (by omega) (e := (by exact aI (by first | exact bI (by rw [Vt hlt hne, bb]; rfl) | exact bI (by rw [Vu hlt hne])) (aI (by exact rfl) tI)))) : G := h
def ze (h : G := by
 refine sG [0, 1, 5, 6, 7, 8, 9, 10, 11, 12, 13, 14, 15, 2900, 5000] [0, 6, 8, 13, 900] ?_
 refine ca ?_
 refine nx (j + 1) (by omega) (e := (by exact aI (by first | exact bA (by rw [Mh hj2 hvv hmm, aD]; simp only [List.length_cons, List.length_nil]; omega) | exact bA (by rw [xz hj2 (.inl hvv)]) | exact bA (by rw [xz hj2 (.inr hmm)])) (aI (by exact bA (by omega)) tI))) (f := (by exact aI (by first | (rw [Mh hj2 hvv hmm, ← hz4]; simp only [bb, bl]; exact rfl) | (rw [xz hj2 (.inl hvv)]; exact rfl) | (rw [xz hj2 (.inr hmm)]; exact rfl)) tI))) : G := h
def vq (h : G := by
 refine ca ?_
 refine nx (m + 1) (by omega) (e := (by exact aI (by first | exact bI (by rw [Vp hm1 hep, hga, bb]; exact rfl) | exact bI (by rw [Vq hm1 hep])) (aI (by exact bA (by omega)) (aI (by exact rfl) tI)))) (f := (by exact aI (by first | (rw [Vr hm1 hep, hga]; simp only [bb, bl]; exact rfl) | (rw [Vs hm1 hep]; exact rfl)) tI))) : G := h
def GJ (h : G := by
 refine wt ?_
 refine rA ?_ (x := fb)
 refine sc (fun hbd => ?_) (fun hbd => ?_)
 have hep : ej (cY e (parts e).length)[m] = true := by rw [hga]; simpa [ej] using hbd
 refine sP [0, 3, 4, 5, 6, 5000, 6200] [0, 6] ?_
 refine DL (d := 6) (G := 6300) (by exact rfl) (by exact rfl) (aq (aq (aA (aA (aq (aA (aq (aq (aq (aA ao.nil)))))))))) (by exact lq) fun us hRN => ?_
 obtain ⟨_, _, hRN⟩ := hRN
 obtain ⟨uA_0, uA_1, uA_2, uA_3, uA_4, uA_5, uA_6, uA_7, uA_8, uA_9, rfl⟩ := JJ hRN.len
 clear hRN
 refine sO [(0, _), (3, _), (4, _), (5, _), (6, _), (5000, _), (6200, _), (6300, _)] [(0, _), (6, (102, [nv _ (val _), nv _ (val _), nv _ (sl _ _), nv _ (sl _ _), nv _ (val _), nv _ (sl _ _), nv _ (val _), nv _ (val _), nv _ (val _), nv _ (sl _ _)]))] ?_
 refine Az ?_
 refine tj ?_
 refine If ?_
 refine HM ?_
 refine Ii ?_
 refine Ij ?_
 refine Ih ?_
 refine Ht ?_
 refine HO ?_
 refine IZ ?_
 refine sO [(0, _), (3, _), (4, _), (5, _), (6, _), (5000, _), (6200, _), (6300, _)] [(0, (46, [sl _ _, val _, val _, sl _ _, sl _ _, sl _ _, sl _ _, val _])), (6, _)] ?_
 refine yG (d := 0) (G := 6300) (A := [sl _ _, val _, val _, sl _ _, sl _ _]) (B := [sl _ _, val _]) (p := sl cQ (((e.Done ++ gq e (parts e).length m).map (bN aP ae aR ae)) ++ [[val (vI (⟨za[m].1.ZG, za[m].1.Time, za[m].1.Age + 1, za[m].1.Rows⟩ : eE).ZG.Id), val (vI (⟨za[m].1.ZG, za[m].1.Time, za[m].1.Age + 1, za[m].1.Rows⟩ : eE).ZG.ZK), sl aP ((⟨za[m].1.ZG, za[m].1.Time, za[m].1.Age + 1, za[m].1.Rows⟩ : eE).ZG.ZH.map dj), sl ae ((⟨za[m].1.ZG, za[m].1.Time, za[m].1.Age + 1, za[m].1.Rows⟩ : eE).ZG.Out.map an), val (vI (⟨za[m].1.ZG, za[m].1.Time, za[m].1.Age + 1, za[m].1.Rows⟩ : eE).Time), val (vI (⟨za[m].1.ZG, za[m].1.Time, za[m].1.Age + 1, za[m].1.Rows⟩ : eE).Steps), sl aR ((⟨za[m].1.ZG, za[m].1.Time, za[m].1.Age + 1, za[m].1.Rows⟩ : eE).Rows.map (dt ae))]])) (by exact rfl) (by exact rfl) (fun z k_ => Ej (by exact (Nm.nv (Nm.nv (Nm.nv (Nm.nv (Nm.val (Nm.val (Nm.nv Nm.nil)))))))) (by exact (cR.keep (cR.keep (cR.keep (cR.keep (cR.lit rfl (cR.lit rfl (cR.drop (cR.drop (cR.drop (cR.drop (cR.drop (cR.keep cR.nil))))))))))))) z k_) ?_
 refine sG [0, 3, 4, 5, 6, 5000, 6200] [0, 6] ?_
 exact vq
 have hep : ej (cY e (parts e).length)[m] = false := by rw [hga]; simpa [ej] using hbd
 refine sG [0, 3, 4, 5, 6, 5000, 6200] [0, 6] ?_
 refine rA ?_ (x := tM)
 refine zy ?_
 refine rA ?_ (x := tA)
 refine vL ?_
 exact vq) : G := h
def GK (h : G := by
 refine sI (bx := 0) (L := xT) (qs := []) (as_ := []) (by decide) Bs rfl (by exact rfl) (by exact rfl) (by exact tI) (by exact tI) (by decide) (by exact tI) (by exact (Cz (e := gr e) (by omega))) (fun x hx => hx.elim) (by exact lq) (by exact (aI (.inl rfl) tI)) ?_
 refine sw ?_
 exact ⟨(by exact rfl), rfl, tI⟩) : G := h
def GL (h : G := by
 refine wt ?_
 refine rA ?_ (x := fb)
 refine sc (fun hbd => ?_) (fun hbd => ?_)
 have hep : ej (cY e (parts e).length)[m] = true := by rw [hga]; simpa [ej] using hbd
 refine sP [0, 2, 3, 4, 5, 6, 5000, 6200] [0, 6] ?_
 refine DL (d := 6) (G := 6300) (by exact rfl) (by exact rfl) (aq (aq (aA (aA (aq (aA (aq (aq (aq (aA ao.nil)))))))))) (by exact lq) fun us hRN => ?_
 obtain ⟨_, _, hRN⟩ := hRN
 obtain ⟨uA_0, uA_1, uA_2, uA_3, uA_4, uA_5, uA_6, uA_7, uA_8, uA_9, rfl⟩ := JJ hRN.len
 clear hRN
 refine sO [(0, _), (2, _), (3, _), (4, _), (5, _), (6, _), (5000, _), (6200, _), (6300, _)] [(0, _), (6, (102, [nv _ (val _), nv _ (val _), nv _ (sl _ _), nv _ (sl _ _), nv _ (val _), nv _ (sl _ _), nv _ (val _), nv _ (val _), nv _ (val _), nv _ (sl _ _)]))] ?_
 refine Az ?_
 refine tj ?_
 refine If ?_
 refine HM ?_
 refine Ii ?_
 refine Ij ?_
 refine Ih ?_
 refine Ht ?_
 refine HO ?_
 refine IZ ?_
 refine sO [(0, _), (2, _), (3, _), (4, _), (5, _), (6, _), (5000, _), (6200, _), (6300, _)] [(0, (46, [sl _ _, val _, val _, sl _ _, sl _ _, sl _ _, sl _ _, val _])), (6, _)] ?_
 refine yG (d := 0) (G := 6300) (A := [sl _ _, val _, val _, sl _ _, sl _ _]) (B := [sl _ _, val _]) (p := sl cQ (((e.Done ++ gq e (parts e).length m).map (bN aP ae aR ae)) ++ [[val (vI (⟨za[m].1.ZG, za[m].1.Time, za[m].1.Age + 1, za[m].1.Rows⟩ : eE).ZG.Id), val (vI (⟨za[m].1.ZG, za[m].1.Time, za[m].1.Age + 1, za[m].1.Rows⟩ : eE).ZG.ZK), sl aP ((⟨za[m].1.ZG, za[m].1.Time, za[m].1.Age + 1, za[m].1.Rows⟩ : eE).ZG.ZH.map dj), sl ae ((⟨za[m].1.ZG, za[m].1.Time, za[m].1.Age + 1, za[m].1.Rows⟩ : eE).ZG.Out.map an), val (vI (⟨za[m].1.ZG, za[m].1.Time, za[m].1.Age + 1, za[m].1.Rows⟩ : eE).Time), val (vI (⟨za[m].1.ZG, za[m].1.Time, za[m].1.Age + 1, za[m].1.Rows⟩ : eE).Steps), sl aR ((⟨za[m].1.ZG, za[m].1.Time, za[m].1.Age + 1, za[m].1.Rows⟩ : eE).Rows.map (dt ae))]])) (by exact rfl) (by exact rfl) (fun z k_ => Ej (by exact (Nm.nv (Nm.nv (Nm.nv (Nm.nv (Nm.val (Nm.val (Nm.nv Nm.nil)))))))) (by exact (cR.keep (cR.keep (cR.keep (cR.keep (cR.lit rfl (cR.lit rfl (cR.drop (cR.drop (cR.drop (cR.drop (cR.drop (cR.keep cR.nil))))))))))))) z k_) ?_
 refine sG [0, 2, 3, 4, 5, 6, 5000, 6200] [0, 6] ?_
 exact vq
 have hep : ej (cY e (parts e).length)[m] = false := by rw [hga]; simpa [ej] using hbd
 refine sG [0, 2, 3, 4, 5, 6, 5000, 6200] [0, 6] ?_
 refine rA ?_ (x := tM)
 refine zy ?_
 refine rA ?_ (x := tA)
 refine vG ?_
 exact vq) : G := h
def vr (h : G := by
 have hno : jq e = false := by first | (simp_all [jq]; done) | (simp_all [jq]; omega) | (rw [← Bool.not_eq_true]; intro hc_; obtain ⟨h1_, h2_, h3_, h4_⟩ := xv hc_; first | omega | (simp_all; done) | (simp_all; omega))
 refine sS [1, 2, 3, 4] [1, 2, 4] ?_
 refine oM ?_
 exact (bj 2 (bj _ (aI (by exact rfl) (aI (by refine dW ?_; rw [LN hno]; exact rfl) (aI co (aI (fun h => nomatch h) (aI (by refine gZ ?_; rw [hno]) tI)))))))) : G := h
def sN (h : G := by
 have hno : mg e q l = false := by first | (simp_all [mg]; done) | (simp_all [mg]; omega) | (rw [← Bool.not_eq_true]; intro hc_; obtain ⟨h1_, h2_, h3_, h4_, h5_⟩ := xC hc_; first | omega | (simp_all; done) | (simp_all [aB]; omega))
 refine sS [2, 3, 4, 6, 7, 8] [3, 4, 6, 8] ?_
 refine oM ?_
 exact (bj 6 (bj _ (aI (by exact rfl) (aI (by refine dW ?_; rw [Cn hno]; exact rfl) (aI co (aI (fun h => nomatch h) (aI (by refine gZ ?_; rw [Cn hno]) tI)))))))) : G := h
def zg (h : G := by
 refine sP [2, 3, 4, 6, 7, 8, 9, 10, 11, 12, 13, 6200, 6300] [3, 4, 6, 8, 9] ?_
 refine cv cd ?_
 refine dA 0 ?_ (x := lF eQ)
 refine dA 1 ?_ (x := dH (ms := [sl _ _]) (qs := [sl .v _]) (by decide) eG (fun _ => rfl) (by exact nl rfl) (by exact rfl) (by exact (aA ao.nil)) (by exact (ab.cons (bor_sl _) ab.nil)))
 refine gy ?_
 refine dA 12 ?_ (x := aU (by decide) ct (by exact tI) (by exact rfl) (by exact aV (by omega) rfl) (by exact rfl))
 refine dA 28 ?_ (x := px (qs := [nv _ (val _), nv _ (val _), nv _ (sl .v _), nv _ (sl .v _), nv _ (val _), nv _ (sl .v _), nv _ (val _), nv _ (val _), nv _ (val _), nv _ (sl .v _)]) (by decide) lu (fun h => nomatch h) (by exact nl rfl) (by exact (aq (aq (aq (aq (aq (aq (aq (aq (aq (aq ao.nil))))))))))) (by exact lq))
 refine dA 60 ?_ (x := bm (qs := [(true, [nv _ (val _), nv _ (val _), nv _ (sl _ _), nv _ (sl _ _), nv _ (val _), nv _ (sl _ _), nv _ (val _), nv _ (val _), nv _ (val _), nv _ (sl _ _)])]) (by decide) ct jl (by decide) rfl rfl rfl rfl rfl (by exact nl rfl) (by exact (aI (by exact tI) tI)) rfl)
 refine dA 127 ?_ (x := dy (by decide) ct jl rfl rfl (by decide) rfl (by simp only [am, aD, List.length_cons, List.length_nil]; omega) (by simp only [am, aD, List.length_cons, List.length_nil]; omega))
 refine dA 255 ?_ (x := lF eQ)
 refine dA 511 ?_ (x := bf (ag := false) (vs := [sl _ _]) eG (by exact tI) (by exact rfl) (by exact nl rfl))
 refine Ic ?_
 refine ca ?_
 refine nx (m + 1) (by omega) (e := (by exact aI (by exact gZ (by first | (rw [decide_eq_decide]; omega) | (rw [decide_eq_true (show (dI e.ZF q.Id) < m + 1 by omega)]; done))) (aI (by exact bA (by omega)) tI))) (f := (by exact aI (by first | (rw [Wu hmz hpm]; simp only [bb]; exact rfl) | (rw [Wt hmz hpm]; simp only [bb]; exact rfl)) tI))) : G := h
def GM (h : G := by
 refine cK (d := 8) (by exact rfl) (show _ = [sl bQ (e.Store.ZE.map (aO be ae)), val (vI e.Store.Now), val (vI e.ZJ), sl ae (e.Order.map an), sl dr ((za.take (dI e.ZF q.Id) ++ (eU e q l, kNew) :: za.drop (dI e.ZF q.Id)).map jr), sl cQ (e.Done.map (bN aP ae aR ae)), sl cH (e.ZR.map (bF ae ae ae)), val (vI e.Steps)] from by first | (rw [← Wv hpl]; first | done | exact rfl) | (rw [← Ww hpl]; simp only [bb]; exact rfl)) ?_
 refine sP [2, 3, 4, 6, 7, 8, 9, 10, 11, 12, 13, 6200, 6300] [3, 4, 6, 8, 9] ?_
 refine Pi (G := 6300) (H := 6200) (e := 10) (f := (bq aP ae ae aR ae)) (by exact rfl) (by exact rfl) (by exact rfl) ?_
 refine sP [2, 3, 4, 6, 7, 8, 9, 10, 11, 12, 13, 6300] [3, 4, 6, 8, 9] ?_
 refine Ek (d := 8) (t := 102) (e := 10) (G := 6300) (A := [sl _ _, val _, val _, sl _ _]) (B := [sl _ _, sl _ _, val _]) (f := (bq aP ae ae aR ae)) (g := (fun z : ZF => [val (vI z.ZG.Id), val (vI z.ZG.ZK), sl .v (z.ZG.ZH.map dj), sl .v (z.ZG.Out.map an), val (vI z.Time), sl .v (z.ZO.map an), val (vI z.Age), val (vI z.Sent), val (vI z.Cap), sl .v (z.Rows.map (dt ae))])) (fN := jr) (ys := (za.take (dI e.ZF q.Id) ++ (eU e q l, kNew) :: za.drop (dI e.ZF q.Id))) [] (kd e q l) (by exact rfl) (by exact rfl) (fun _ _ => rfl) (fun _ => rfl) (fun _ => rfl) (Wx) (Wy hoe hza) ?_
 refine sO [(2, _), (3, _), (4, _), (6, _), (7, _), (8, _), (9, _), (10, _), (11, _), (12, _), (13, _)] [(3, _), (4, _), (6, _), (8, (46, [sl _ _, val _, val _, sl _ _, sl _ _, sl _ _, sl _ _, val _])), (9, _)] ?_
 refine bi ?_
 refine oM ?_
 exact (bj 6 (bj _ (aI (by exact rfl) (aI (by refine dW ?_; rw [Co hok]; exact rfl) (aI co (aI (fun h => nomatch h) (aI (by refine gZ ?_; rw [Co hok]) tI)))))))) : G := h
def GN (h : G := by
 have hno : kQ e id = false := by first | (simp_all [kQ]; done) | (simp_all [kQ]; omega) | (rw [← Bool.not_eq_true]; intro hc_; unfold kQ at hc_; simp only [aL, decide_eq_true_eq] at hc_; obtain ⟨h1_, h2_⟩ := hc_; first | omega | (simp_all; done) | (simp_all; omega))
 refine sS [1, 2, 4, 5, 6, 7] [2, 4, 6] ?_
 refine oM ?_
 exact (bj 4 (bj _ (aI (by exact rfl) (aI (by refine dW ?_; rw [xD hno]; exact rfl) (aI co (aI (fun h => nomatch h) (aI (by refine gZ ?_; rw [xD hno]) tI)))))))) : G := h
def GO (h : G := by
 refine oM ?_
 exact (bj 4 (bj _ (aI (by exact rfl) (aI (by refine dW ?_; rw [Cr hno]; exact rfl) (aI co (aI (fun h => nomatch h) (aI (by refine gZ ?_; rw [Cr hno]) tI)))))))) : G := h
def GP (h : G := by
 refine sS [0, 2, 3, 5000] [0] ?_
 refine rA ?_ (x := tM)
 refine rA ?_ (x := tA)
 refine vT ?_
 exact ⟨(by rw [hr]; exact rfl), rfl, (aI (by refine bI ?_; rw [hr]; first | done | exact rfl) tI)⟩) : G := h
def GQ (h : G := by
 refine sO [(0, _), (1, _), (4, _), (5, _), (6, _), (7, _), (8, _), (24, _), (5000, _)] [(0, _), (4, _), (5, _), (8, (46, [sl _ _, val _, val _, sl _ _, sl _ _, sl _ _, sl _ _, val _]))] ?_
 refine bi ?_
 refine sU ?_
 refine sO [(0, _), (1, _), (4, _), (5, _), (6, _), (7, _), (8, _), (24, _), (5000, _)] [(0, _), (4, _), (5, (46, [sl _ _, val _, val _, sl _ _, sl _ _, sl _ _, sl _ _, val _])), (8, (46, [sl _ _, val _, val _, sl _ _, sl _ _, sl _ _, sl _ _, val _]))] ?_
 refine ku ?_
 refine rm ?_
 refine nx (k + 1) (by omega) (e := (by exact aI (by exact bA (by omega)) tI)) (f := (by exact aI (by rw [bC, hxn]; exact rfl) (aI (by rw [bC, hxn]; exact rfl) tI)))) : G := h
def zh (h : G := by
 refine Dp (d := 8) (G := 2000) (by exact rfl) (by exact (Nm.val (Nm.val (Nm.val (Nm.val (Nm.val (Nm.val (Nm.val (Nm.val Nm.nil))))))))) (by exact rfl) ?_
 exact GQ) : G := h
def GR (h : G := by
 obtain rfl := eZ hR1 (j := 0) rfl rfl
 obtain rfl := dY.nil hU2
 clear hR0 hU0 hR1 hU1 hU2
 refine bv.stepC 511 (by exact ⟨rfl, ⟨⟩⟩) (by exact tI) (bK.of rfl (pv (.inl rfl) (by decide))) eo (by kernel_rfl) (by intro L' h; exact nomatch (show (none : Option ax) = some L' from h)) ?_
 refine bv.stepC 1023 (by exact ⟨rfl, ⟨⟩⟩) (by exact tI) (bK.of rfl (jB (cs := [val _, val _, val _, val _, val _, val _, val _, val _]) (by decide) (by exact rfl) (by exact lq))) eo (by kernel_rfl) (by intro L' h; exact nomatch (show (none : Option ax) = some L' from h)) ?_
 refine bv.stepC 1023 (by exact ⟨rfl, ⟨⟩⟩) (by exact tI) (bK.of rfl (jB (cs := [val _]) (by decide) (by exact rfl) (by exact (ab.cons (bor_val _) ab.nil)))) eo (by kernel_rfl) (by intro L' h; exact nomatch (show (none : Option ax) = some L' from h)) ?_
 refine bv.stepC 2047 (by exact ⟨rfl, rfl, ⟨⟩⟩) (by exact ⟨rfl, ⟨⟩⟩) (bK.of rfl (bf (ag := true) (vs := [val _, val _, val _, val _, val _, val _, val _, val _]) co (by exact tI) (by exact rfl) (by exact nl rfl))) eo (by kernel_rfl) (by intro L' h; exact nomatch (show (none : Option ax) = some L' from h)) ?_
 exact zh) : G := h
def GS (h : G := by
 obtain rfl := eZ hR1 (j := 0) rfl rfl
 obtain rfl := dY.nil hU2
 clear hR0 hU0 hR1 hU1 hU2
 refine bv.stepC 63 (by exact ⟨rfl, ⟨⟩⟩) (by exact tI) (bK.of rfl (pv (.inl rfl) (by decide))) eo (by kernel_rfl) (by intro L' h; exact nomatch (show (none : Option ax) = some L' from h)) ?_
 refine bv.stepC 127 (by exact ⟨rfl, ⟨⟩⟩) (by exact tI) (bK.of rfl (jB (cs := [val _, val _, val _, val _, val _, val _, val _, val _]) (by decide) (by exact rfl) (by exact lq))) eo (by kernel_rfl) (by intro L' h; exact nomatch (show (none : Option ax) = some L' from h)) ?_
 refine bv.stepC 127 (by exact ⟨rfl, ⟨⟩⟩) (by exact tI) (bK.of rfl (jB (cs := [val _]) (by decide) (by exact rfl) (by exact (ab.cons (bor_val _) ab.nil)))) eo (by kernel_rfl) (by intro L' h; exact nomatch (show (none : Option ax) = some L' from h)) ?_
 refine bv.stepC 255 (by exact ⟨rfl, rfl, ⟨⟩⟩) (by exact ⟨rfl, ⟨⟩⟩) (bK.of rfl (bf (ag := true) (vs := [val _, val _, val _, val _, val _, val _, val _, val _]) co (by exact tI) (by exact rfl) (by exact nl rfl))) eo (by kernel_rfl) (by intro L' h; exact nomatch (show (none : Option ax) = some L' from h)) ?_
 exact zh) : G := h
def GT (h : G := by
 obtain rfl := eZ hR1 (j := 0) rfl rfl
 obtain rfl := dY.nil hU2
 clear hR0 hU0 hR1 hU1 hU2
 refine bv.stepC 15 (by exact ⟨rfl, ⟨⟩⟩) (by exact tI) (bK.of rfl (pv (.inl rfl) (by decide))) eo (by kernel_rfl) (by intro L' h; exact nomatch (show (none : Option ax) = some L' from h)) ?_
 refine bv.stepC 31 (by exact ⟨rfl, ⟨⟩⟩) (by exact tI) (bK.of rfl (jB (cs := [val _, val _, val _, val _, val _, val _, val _, val _]) (by decide) (by exact rfl) (by exact lq))) eo (by kernel_rfl) (by intro L' h; exact nomatch (show (none : Option ax) = some L' from h)) ?_
 refine bv.stepC 31 (by exact ⟨rfl, ⟨⟩⟩) (by exact tI) (bK.of rfl (jB (cs := [val _]) (by decide) (by exact rfl) (by exact (ab.cons (bor_val _) ab.nil)))) eo (by kernel_rfl) (by intro L' h; exact nomatch (show (none : Option ax) = some L' from h)) ?_
 refine bv.stepC 63 (by exact ⟨rfl, rfl, ⟨⟩⟩) (by exact ⟨rfl, ⟨⟩⟩) (bK.of rfl (bf (ag := true) (vs := [val _, val _, val _, val _, val _, val _, val _, val _]) co (by exact tI) (by exact rfl) (by exact nl rfl))) eo (by kernel_rfl) (by intro L' h; exact nomatch (show (none : Option ax) = some L' from h)) ?_
 exact zh) : G := h
def GU (h : G := by
 have hk3 : ¬ (cg (bC (bD c most) k).c).1 = 3 := hbe
 have hxn := XR (x := (bC (bD c most) k)) hk0 hk2 hk3
 refine sG [0, 1, 4, 5, 6, 7, 8, 24, 5000] [0, 4, 5, 8] ?_
 refine rA ?_ (x := lD [sl .v _, val _, val _, sl .v _, sl .v _, sl .v _, sl .v _, val _] co)
 refine rA ?_ (x := cL [(true, [sl _ _, val _, val _, sl _ _, sl _ _, sl _ _, sl _ _, val _])] [(true, [sl .v _, val _, val _, sl .v _, sl .v _, sl .v _, sl .v _, val _])] SJ (hs := by exact (XO (e := (bC (bD c most) k).e) (by omega))))
 refine rA ?_ (x := tM)
 refine Hw ?_
 refine rA ?_ (x := bf (ag := true) (vs := [sl _ _, val _, val _, sl _ _, sl _ _, sl _ _, sl _ _, val _]) co (by exact tI) (by exact rfl) (by exact nl rfl))
 exact GQ) : G := h
def GV (h : G := by
 refine sU ?_
 refine dc ?_
 exact ⟨(by rw [hr]; exact rfl), rfl, (bj 2 (bj _ (aI (by exact rfl) (aI (by refine dW ?_; rw [hr]; exact rfl) (aI co (aI (fun h => nomatch h) tI))))))⟩) : G := h
def zi (h : G := by
 refine ba ?_
 refine sO [(0, _), (2, _), (3, _), (7, _), (5000, _)] [(0, _), (2, _), (3, (46, [sl _ _, val _, val _, sl _ _, sl _ _, sl _ _, sl _ _, val _]))] ?_
 refine bi ?_
 exact GV) : G := h
def GW (h : G := by
 refine rA ?_ (x := bf (ag := false) (vs := [val _]) aw (by exact tI) (by exact rfl) (by exact nl rfl))
 exact zi) : G := h
def GX (h : G := by
 refine cC ?_
 exact (aI (by refine hE ?_; exact iE (by unfold pt; rw [if_neg (by rw [hok]; simp)])) tI)) : G := h
def GY (h : G := by
 refine dA 127 ?_ (x := dN)
 refine dA 255 ?_ (x := sA)
 refine dc ?_
 exact (aI (by refine hE ?_; exact iE (by unfold pt; rw [if_pos hok])) tI)) : G := h
def GZ (h : G := by
 have hok : (bp r && bG q) = false := by cases h1 : bp r <;> cases h2 : bG q <;> simp_all
 refine sS [2, 3, 4, 5] [2, 3] ?_
 refine gz ?_
 exact (aI (by refine bI ?_; unfold ng; rw [if_neg (by rw [hok]; simp)]; rfl) tI)) : G := h
def zj (h : G := by
 have hfin : (k = q.Out.length ∧ (bp r && bG q) = true) ∨ (k = 0 ∧ (q.Out.length = 0 ∨ (bp r && bG q) = false)) := by
  by_cases h0k : 0 < k
  ·left
   have h1 := ha h0k
   refine ⟨?_, by rw [h1.1, h1.2]; rfl⟩
   by_cases hka : k = q.Out.length
   ·exact hka
   ·exfalso
    have : k < q.Out.length := by omega
    simp_all
  ·right
   refine ⟨by omega, ?_⟩
   by_cases hka : q.Out.length = 0
   ·exact .inl hka
   ·right
    have : k < q.Out.length := by omega
    cases h1 : bp r <;> cases h2 : bG q <;> simp_all
 refine bE ?_
 refine sT [2, 3, 4, 5, 6] [2, 3] ?_
 refine gz ?_
 exact (aI (by refine bI ?_; rw [Yg hfin]) tI)) : G := h
def Ha (h : G := by
 refine cC ?_
 exact (aI (by refine hE ?_; exact iE (by unfold se; rw [if_neg (by rw [hbad]; simp)])) tI)) : G := h
def Hb (h : G := by
 have hbad : (bG x.ZG && fg x.Rows) = false := by cases h1 : bG x.ZG <;> cases h2 : fg x.Rows <;> simp_all
 refine sS [1, 2, 7000] [1] ?_
 exact Ha) : G := h
def Hc (h : G := by
 have hbad : (bG x.ZG && fg x.Rows) = false := by cases h1 : bG x.ZG <;> cases h2 : fg x.Rows <;> simp_all
 refine sS [1, 2] [1] ?_
 exact Ha) : G := h
def He (h : G := by
 refine sP [1, 2, 3, 4] [1] ?_
 refine rc ?_
 refine dA 0 ?_ (x := lF mO)
 refine dA 2 ?_ (x := lD [sl .v _] gV)
 refine dA 0 ?_ (x := sM)
 refine dA 14 ?_ (x := aU (by decide) fQ (by exact tI) (by exact rfl) (by exact aV (by omega) rfl) (by exact rfl))
 refine dA 30 ?_ (x := cB (by decide) jO (by exact nl rfl))
 refine dA 62 ?_ (x := lE [val _] aw)
 refine dA 126 ?_ (x := cL [(false, [val _])] [(false, [val _])] kJ (hs := by exact (kP (by unfold aQ; omega))))
 refine wh ?_
 refine dA 0 ?_ (x := lF pi)
 refine dA 1024 ?_ (x := lD [val _, val _, sl .v _, sl .v _] fh)
 refine dA 0 ?_ (x := lF mO)
 refine dA 4096 ?_ (x := lD [sl .v _] gV)
 refine dA 0 ?_ (x := sM)
 refine dA 28672 ?_ (x := aU (by decide) fQ (by exact tI) (by exact rfl) (by exact aV (by omega) rfl) (by exact rfl))
 refine dA 61440 ?_ (x := lE [val _, sl .v _] gB)
 refine dA 130302 ?_ (x := cL [(true, [val _, val _, sl _ _, sl _ _]), (true, [val _, sl _ _])] [(true, [val _, val _, sl .v _, sl .v _]), (true, [val _, sl .v _])] TG (hs := by exact Yv))
 refine dA 261374 ?_ (x := cL [(false, [sl _ _])] [(false, [sl .v _])] Li (hs := by exact (LJ hpj.2 (by omega))))
 refine dA 524287 ?_ (x := dN)
 refine dA 1048575 ?_ (x := sA)
 refine ww ?_
 refine nx (k + 1) (by omega) (e := (by exact aI (by first | exact congrArg (fun z => some (RV.sc (.string (B z)))) (by rw [kC hlt, oZ, if_neg (Nt hlt hk0)]; simp [jw, bl]) | exact congrArg (fun z => some (RV.sc (.string (B z)))) (by rw [kC hlt, oZ, if_pos (by subst hk0; rfl)]; subst hk0; simp [jw, wW, bl])) (aI (by exact rfl) tI)))) : G := h
def Hf (h : G := by
 refine dc ?_
 exact (aI (by refine hE ?_; exact iE (by unfold se; rw [if_pos (by rw [hok.1, hok.2]; rfl), ← hle]; first | rw [if_pos he] | rw [if_neg he])) tI)) : G := h
def Hg (h : G := by
 refine cC ?_
 exact (aI (by refine hE ?_; exact iE (by unfold sf; rw [if_neg (by rw [hbad]; simp)])) tI)) : G := h
def Hh (h : G := by
 have hbad : (bL s && aB i 0 (s.ZE.length - 1)) = false := by cases h1 : bL s <;> cases h2 : aB i 0 (s.ZE.length - 1) <;> simp_all
 refine sS [1, 2, 4, 7000] [2] ?_
 exact Hg) : G := h
def Hi (h : G := by
 refine sG [1, 2, 4, 5, 7, 8, 26, 27, 28, 7000] [2, 7] ?_
 refine nD ?_
 refine vw ?_
 refine rA ?_ (x := tA)
 refine sG [1, 2, 4, 5, 7, 8, 26, 27, 28, 7000] [2, 7] ?_
 refine fc ?_
 refine nx (k + 1) (by omega) (e := (by exact aI (by exact bI (by rw [kC hlt, bb]; first | (simp [jx, hd, kD, bl]; done) | (rw [jx, if_neg hd]; simp [kD, bl]))) (aI (by exact rfl) tI)))) : G := h
def Hj (h : G := by
 have hbad : (bL s && aB i 0 (s.ZE.length - 1)) = false := by cases h1 : bL s <;> cases h2 : aB i 0 (s.ZE.length - 1) <;> simp_all
 refine sS [1, 2, 4] [2] ?_
 exact Hg) : G := h
def Hk (h : G := by
 refine sG [1, 2, 4, 5, 6, 7] [2, 7] ?_
 refine ca ?_
 refine nx (k + 1) (by omega) (e := (by exact aI (by first | exact congrArg (fun z => some (RV.sc (.string (B z)))) (by rw [kC hlt, oZ, if_neg (Nt hlt hk0)]; simp [jx, ee, hd, wW, bl]) | exact congrArg (fun z => some (RV.sc (.string (B z)))) (by rw [kC hlt, oZ, if_pos (by rw [hk0]; rfl)]; subst hk0; simp [jx, ee, hd, wW, bl])) (aI (by exact rfl) tI)))) : G := h
def Hl (h : G := by
 refine ba ?_
 refine sP [1, 2, 4, 5, 6, 7] [2, 7] ?_
 refine rc ?_
 refine dA 0 ?_ (x := lF rT)
 refine dA 2 ?_ (x := lD [val _] aw)
 refine dA 0 ?_ (x := lF mL)
 refine dA 8 ?_ (x := lD [sl .v _] bz)
 refine dA 30 ?_ (x := dM (qs := [(false, [val _]), (false, [sl _ _])]) (cs := [val _, sl _ _]) (by decide) iC mG Yy (by exact rfl) (by exact (aI (by exact tI) (aI (by exact tI) tI))) rfl (by exact rfl))
 refine dA 62 ?_ (x := cL [(true, [val _, sl _ _])] [(true, [val _, sl .v _])] Tk (hs := by exact (Ys (r := ee s.ZE[i.toNat][k]))))
 refine dA 127 ?_ (x := dN)
 refine dA 255 ?_ (x := dN)
 refine dA 0 ?_ (x := lF kK)
 refine dA 512 ?_ (x := lD [val _] aw)
 refine dA 1662 ?_ (x := cL [(false, [val _])] [(false, [val _])] kJ (hs := by exact (kP (by unfold aQ; omega))))
 refine dA 4095 ?_ (x := dN)
 refine dA 8191 ?_ (x := sA)
 refine sS [1, 2, 4, 5, 6, 7] [2, 7] ?_
 refine wg ?_
 refine rA ?_ (x := gJ)
 refine sc (fun hbd => ?_) (fun hbd => ?_)
 have hd := hbd
 refine sG [1, 2, 4, 5, 6, 7] [2, 7] ?_
 refine nz ?_
 refine wg ?_
 refine te ?_
 refine rS ?_
 exact Hk
 have hd : s.ZE[i.toNat][k].ZP = -1 := by simpa using hbd
 refine bc ?_
 exact Hk) : G := h
def Hm (h : G := by
 refine dc ?_
 exact (aI (by refine hE ?_; exact iE (by unfold sf; rw [if_pos (by rw [hok.1, hok.2]; rfl), hgd, ← hle]; first | rw [if_pos he] | rw [if_neg he])) tI)) : G := h
def Hn (h : G := by
 refine df ?_
 exact (aI (by refine hE ?_; exact iE rfl) tI)) : G := h
def zk (h : G := by
 refine df ?_
 exact rb (by first | exact hbad.symm | (simp_all [lp]; done) | (unfold lp; rw [← hgd]; simp_all))) : G := h
def Ho (h : G := by
 exact absurd gb (by first | (simp; done) | (simp [ru]; done))) : G := h
def sU (h : H) (w : ah G H := by
 intro z
 refine rA ?_ (x := dH (ms := [sl _ _, val _, val _, sl _ _, sl _ _, sl _ _, sl _ _, val _]) (qs := [sl .v _, val _, val _, sl .v _, sl .v _, sl .v _, sl .v _, val _]) (by decide) co (fun h => nomatch h) (by exact nl rfl) (by exact rfl) (by exact (aA (aq (aq (aA (aA (aA (aA (aq ao.nil))))))))) (by exact lq))
 refine rA ?_ (x := bf (ag := true) (vs := [sl _ _, val _, val _, sl _ _, sl _ _, sl _ _, sl _ _, val _]) co (by exact tI) (by exact rfl) (by exact nl rfl))
 exact z.g) : G := ai w h
def qT (h : H) (w : ah G H := by
 intro z
 refine rA ?_ (x := bm (qs := [(false, [val _])]) (by decide) aW bX (by decide) rfl rfl rfl rfl rfl (by exact nl rfl) (by exact (aI (by exact tI) tI)) rfl)
 refine rA ?_ (x := dy (by decide) aW bX rfl rfl (by decide) rfl (by simp only [am, aD, List.length_cons, List.length_nil]; omega) (by simp only [am, aD, List.length_cons, List.length_nil]; omega))
 exact z.g) : G := ai w h
def jG (h : H) (w : ah G H := by
 intro z
 refine rA ?_ (x := cM Cp.ptr)
 refine rA ?_ (x := bR (bx := 0) (qs := [(false, [val _])]) (as_ := [(false, [val _])]) (by decide) jV rfl (by exact (aI (aJ rfl) tI)) (by exact (aI (aI rfl (aq ao.nil)) tI)) (by exact (ab.cons (hbo _) (ab.cons (bor_val _) (ab.cons (bor_val _) ab.nil)))) (by exact (bV (ab.cons (bor_val _) ab.nil) bH)) (by exact (jZ hbo (by omega))))
 exact z.g) : G := ai w h
def mw (h : H) (w : ah G H := by
 intro z
 refine rA ?_ (x := cM Cp.ptr)
 refine rA ?_ (x := bR (bx := 0) (qs := [(false, [val _])]) (as_ := [(false, [val _])]) (by decide) jV rfl (by exact (aI (aJ rfl) tI)) (by exact (aI (aI rfl (aq ao.nil)) tI)) (by exact (ab.cons (bor_lo _ _) (ab.cons (bor_val _) (ab.cons (bor_val _) ab.nil)))) (by exact (bV (ab.cons (bor_val _) ab.nil) bH)) (by exact (jZ (fun es => bor_lo _ es) (by omega))))
 exact z.g) : G := ai w h
def eA (h : H) (w : ah G H := by
 intro z
 refine bc ?_
 refine ba ?_
 exact z.g) : G := ai w h
def oD (h : H) (w : ah G H := by
 intro z
 refine rA ?_ (x := dH (ms := [sl _ _, val _]) (qs := [sl .v _, val _]) (by decide) cF (fun h => nomatch h) (by exact nl rfl) (by exact rfl) (by exact (aA (aq ao.nil))) (by exact (ab.cons (bor_sl _) (ab.cons (bor_val _) ab.nil))))
 refine rA ?_ (x := bf (ag := true) (vs := [sl _ _, val _]) cF (by exact tI) (by exact rfl) (by exact nl rfl))
 exact z.g) : G := ai w h
def vt (h : H) (w : ah G H := by
 intro z
 refine rA ?_ (x := aU (by decide) aW (by exact tI) (by exact rfl) (by exact aV (by omega) rfl) (by exact rfl))
 refine rA ?_ (x := lE [val _] aw)
 exact z.g) : G := ai w h
def sV (h : H) (w : ah G H := by
 intro z
 refine dX 0 ?_ (x := (gH (qs := [sl .v _, val _, val _, sl .v _, sl .v _, sl .v _, sl .v _, val _]) (by decide) co (fun h => nomatch h) (by exact nl rfl) (by exact (aA (aq (aq (aA (aA (aA (aA (aq ao.nil))))))))) (by exact lq)))
 refine dX 0 ?_ (x := (gY (.inl rfl) (by decide) (by exact Cp.ptr)))
 exact z.g) : G := ai w h
def bw (h : H) (w : ah G H := by
 intro z
 refine eA ?_
 refine fM ?_
 exact z.g) : G := ai w h
def kr (h : H) (w : ah G H := by
 intro z
 refine rA ?_ (x := iX)
 refine rS ?_
 exact z.g) : G := ai w h
def zip (h : H) (w : ah G H := by
 intro z
 refine sR ?_
 refine rX ?_ (x := (fY (ag := true) (cs := [sl _ _, val _, val _, sl _ _, sl _ _, sl _ _, sl _ _, val _]) (by decide) (by exact tI)))
 exact z.g) : G := ai w h
def sW (h : H) (w : ah G H := by
 intro z
 refine rM ?_
 refine rA ?_ (x := bR (bx := 0) (qs := [(false, [val _])]) (as_ := [(false, [val _])]) (by decide) jV rfl (by exact (aI (by exact tI) tI)) (by exact (aI (aI rfl (aq ao.nil)) tI)) (by exact (ab.cons (hbo _) (ab.cons (bor_val _) (ab.cons (bor_val _) ab.nil)))) (by exact (bV (ab.cons (bor_val _) ab.nil) bH)) (by exact (jZ hbo (by omega))))
 exact z.g) : G := ai w h
def vu (h : H) (w : ah G H := by
 intro z
 refine rA ?_ (x := lE [sl .v _] bz)
 refine rA ?_ (x := iW (by decide) aW bX rfl rfl (by decide) (by first | (intro cs hcs; obtain ⟨x, _, rfl⟩ := List.mem_map.1 hcs; exact rfl) | simp) (by first | (intro cs hcs; obtain ⟨x, _, rfl⟩ := List.mem_map.1 hcs; exact (ab.cons (bor_val _) ab.nil)) | simp) (by simp only [am, aD, List.length_cons, List.length_nil]; omega) (by simp only [am, aD, List.length_cons, List.length_nil]; omega))
 exact z.g) : G := ai w h
def mx (h : H) (w : ah G H := by
 intro z
 refine rX ?_ (x := (db (by decide) og oi))
 refine rA ?_ (x := bf (ag := true) (vs := [sl _ _, val _]) cF (by exact tI) (by exact rfl) (by exact nl rfl))
 exact z.g) : G := ai w h
def oE (h : H) (w : ah G H := by
 intro z
 refine rX ?_ (x := (db (by decide) pj pn))
 refine rA ?_ (x := bf (ag := true) (vs := [sl _ _, val _, val _, sl _ _, sl _ _, sl _ _, sl _ _, val _]) co (by exact tI) (by exact rfl) (by exact nl rfl))
 exact z.g) : G := ai w h
def zl (h : H) (w : ah G H := by
 intro z
 refine rA ?_ (x := bm (qs := []) (by decide) aW bX (by decide) rfl rfl rfl rfl rfl (by exact nl rfl) (by exact tI) rfl)
 refine rA ?_ (x := tA)
 exact z.g) : G := ai w h
def gy (h : H) (w : ah G H := by
 intro z
 refine dA 0 ?_ (x := vM false [sl .v _])
 refine dA 0 ?_ (x := sM)
 exact z.g) : G := ai w h
def jH (h : H) (w : ah G H := by
 intro z
 refine rA ?_ (x := vM false [sl .v _])
 refine rA ?_ (x := lN aW)
 exact z.g) : G := ai w h
def vv (h : H) (w : ah G H := by
 intro z
 refine rA ?_ (x := cM Cp.ptr)
 refine rA ?_ (x := bR (bx := 0) (qs := [(false, [val _])]) (as_ := [(false, [val _])]) (by decide) jV rfl (by exact (aI (aJ rfl) tI)) (by exact (aI (aI rfl (aq ao.nil)) tI)) (by exact (ab.cons (bor_sl _) (ab.cons (bor_val _) (ab.cons (bor_val _) ab.nil)))) (by exact (bV (ab.cons (bor_val _) ab.nil) bH)) (by exact (jZ (fun es => bor_sl es) (by omega))))
 exact z.g) : G := ai w h
def zm (h : H) (w : ah G H := by
 intro z
 refine rA ?_ (x := lF jW)
 refine rA ?_ (x := lD [sl .v _] jX)
 exact z.g) : G := ai w h
def vw (h : H) (w : ah G H := by
 intro z
 refine rA ?_ (x := bm (qs := [(false, [val _])]) (by decide) ji oh (by decide) rfl rfl rfl rfl rfl (by exact nl rfl) (by exact (aI (by exact tI) tI)) rfl)
 refine rA ?_ (x := dy (by decide) ji oh rfl rfl (by decide) rfl (by simp only [am, aD, List.length_cons, List.length_nil]; omega) (by simp only [am, aD, List.length_cons, List.length_nil]; omega))
 exact z.g) : G := ai w h
def zo (h : H) (w : ah G H := by
 intro z
 refine rA ?_ (x := cM Cp.ptr)
 refine rA ?_ (x := bm (qs := [(false, [val _]), (false, [val _]), (false, [val _])]) (by decide) aW bX (by decide) rfl rfl rfl rfl rfl (by exact nl rfl) (by exact (aI (aJ rfl) (aI (aJ rfl) (aI (aJ rfl) tI)))) rfl)
 exact z.g) : G := ai w h
def de (h : H) (w : ah G H := by
 intro z
 refine rK ?_
 refine fM ?_
 exact z.g) : G := ai w h
def kt (h : H) (w : ah G H := by
 intro z
 refine sR ?_
 refine rX ?_ (x := (fY (ag := true) (cs := [sl _ _, val _]) (by decide) (by exact tI)))
 exact z.g) : G := ai w h
def cI (h : H) (w : ah G H := by
 intro z
 refine ba ?_
 refine sR ?_
 refine rM ?_
 exact z.g) : G := ai w h
def vz (h : H) (w : ah G H := by
 intro z
 refine rA ?_ (x := Di (cs := [sl _ _, val _]) (qs := [sl .v _, val _]) (by decide) (by exact rfl) (by exact (aA (aq ao.nil))) (by exact (ab.cons (bor_sl _) (ab.cons (bor_val _) ab.nil))))
 refine rA ?_ (x := jB (cs := [val _]) (by decide) (by exact rfl) (by exact (ab.cons (bor_val _) ab.nil)))
 exact z.g) : G := ai w h
def qU (h : H) (w : ah G H := by
 intro z
 refine rA ?_ (x := lF eQ)
 refine rA ?_ (x := lD [sl .v _] eG)
 exact z.g) : G := ai w h
def eD (h : H) (w : ah G H := by
 intro z
 refine rK ?_
 refine ba ?_
 exact z.g) : G := ai w h
def qV (h : H) (w : ah G H := by
 intro z
 refine rA ?_ (x := aU (by decide) ij (by exact tI) (by exact rfl) (by exact aV (by omega) rfl) (by exact rfl))
 refine rA ?_ (x := lE [val _, val _, sl .v _, sl .v _, sl .v _] jj)
 exact z.g) : G := ai w h
def kZ (h : H) (w : ah G H := by
 intro z
 refine rA ?_ (x := lD [sl .v _] bz)
 refine rA ?_ (x := lN aW)
 exact z.g) : G := ai w h
def zp (h : H) (w : ah G H := by
 intro z
 refine rA ?_ (x := bm (qs := [(false, [val _]), (false, [val _]), (false, [val _])]) (by decide) aW bX (by decide) rfl rfl rfl rfl rfl (by exact nl rfl) (by exact (aI (aJ rfl) (aI (aJ rfl) (aI (aJ rfl) tI)))) rfl)
 refine rA ?_ (x := bm (qs := [(false, [val _]), (false, [val _]), (false, [val _])]) (by decide) aW bX (by decide) rfl rfl rfl rfl rfl (by exact nl rfl) (by exact (aI (aJ rfl) (aI (aJ rfl) (aI (aJ rfl) tI)))) rfl)
 exact z.g) : G := ai w h
def zq (h : H) (w : ah G H := by
 intro z
 refine rB ga ?_ (x := cL [(false, [val _]), (false, [val _]), (false, [val _])] [(false, [val _]), (false, [val _]), (false, [val _])] fP (hs := by exact fV))
 refine rB ga ?_ (x := nT)
 exact z.g) : G := ai w h
def Hp (h : H) (w : ah G H := by
 intro z
 refine rM ?_
 refine rA ?_ (x := aU (by decide) ct (by exact tI) (by exact rfl) (by exact aV (by omega) rfl) (by exact rfl))
 exact z.g) : G := ai w h
def la (h : H) (w : ah G H := by
 intro z
 refine rA ?_ (x := cM Cp.ptr)
 refine rA ?_ (x := hP (by decide))
 exact z.g) : G := ai w h
def ca (h : H) (w : ah G H := by
 intro z
 refine rM ?_
 refine kr ?_
 exact z.g) : G := ai w h
def zr (h : H) (w : ah G H := by
 intro z
 refine rA ?_ (x := bm (qs := [(true, [val _, sl _ _])]) (by decide) fQ iC (by decide) rfl rfl rfl rfl rfl (by exact nl rfl) (by exact (aI (by exact tI) tI)) rfl)
 refine rA ?_ (x := dy (by decide) fQ iC rfl rfl (by decide) rfl (by simp only [am, aD, List.length_cons, List.length_nil]; omega) (by simp only [am, aD, List.length_cons, List.length_nil]; omega))
 exact z.g) : G := ai w h
def sX (h : H) (w : ah G H := by
 intro z
 refine rA ?_ (x := dH (ms := [sl _ _]) (qs := [sl .v _]) (by decide) bz (fun _ => rfl) (by exact nl rfl) (by exact rfl) (by exact (aA ao.nil)) (by exact (ab.cons (bor_sl _) ab.nil)))
 refine rM ?_
 exact z.g) : G := ai w h
def jI (h : H) (w : ah G H := by
 intro z
 refine rA ?_ (x := vM false [sl .v _])
 refine rM ?_
 exact z.g) : G := ai w h
def cC (h : H) (w : ah G H := by
 intro z
 refine rK ?_
 refine dc ?_
 exact z.g) : G := ai w h
def lb (h : H) (w : ah G H := by
 intro z
 refine rA ?_ (x := fb)
 refine rS ?_
 exact z.g) : G := ai w h
def Hq (h : H) (w : ah G H := by
 intro z
 refine dX 4 ?_ (x := (bR (bx := 0) (qs := [(false, [val _])]) (as_ := [(false, [val _])]) (by decide) jV rfl (by exact (aI (aJ rfl) tI)) (by exact (aI (aI rfl (aq ao.nil)) tI)) (by exact (ab.cons (hbo _) (ab.cons (bor_val _) (ab.cons (bor_val _) ab.nil)))) (by exact (bV (ab.cons (bor_val _) ab.nil) bH)) (by exact (jZ hbo (by omega)))))
 refine dX 14 ?_ (x := (bR (bx := 0) (qs := [(false, [val _])]) (as_ := [(false, [val _])]) (by decide) KU rfl (by exact (aI (by exact tI) tI)) (by exact (aI (aI rfl (aq ao.nil)) tI)) (by exact (ab.cons (hbo _) (ab.cons (bor_val _) (ab.cons (bor_val _) ab.nil)))) (by exact (bV (ab.cons (bor_val _) ab.nil) bH)) (by exact (Lv hbo))))
 exact z.g) : G := ai w h
def qW (h : H) (w : ah G H := by
 intro z
 refine rA ?_ (x := aU (by decide) fj (by exact tI) (by exact rfl) (by exact aV (by omega) rfl) (by exact rfl))
 refine rA ?_ (x := lE [sl .v _] iP)
 exact z.g) : G := ai w h
def vC (h : H) (w : ah G H := by
 intro z
 refine rA ?_ (x := vM false [sl .v _])
 refine rX ?_ (x := (OO (qs := [(false, [sl _ _])]) (as_ := [(false, [sl .v _])]) (by decide) Tu (by exact (aI (by exact tI) tI)) (by exact (aI (aI rfl (aA ao.nil)) tI)) (by exact (TW hb hb2))))
 exact z.g) : G := ai w h
def sY (h : H) (w : ah G H := by
 intro z
 refine rA ?_ (x := lD [val _] aw)
 refine rA ?_ (x := cL [(false, [val _]), (false, [val _]), (false, [val _])] [(false, [val _]), (false, [val _]), (false, [val _])] fP (hs := by exact fV))
 exact z.g) : G := ai w h
def sZ (h : H) (w : ah G H := by
 intro z
 refine rA ?_ (x := bf (ag := true) (vs := [val _, val _, sl _ _, sl _ _, val _, sl _ _, val _, val _, val _, sl _ _]) lu (by exact tI) (by exact rfl) (by exact nl rfl))
 refine ba ?_
 exact z.g) : G := ai w h
def Hr (h : H) (w : ah G H := by
 intro z
 refine dX 4 ?_ (x := (gH (qs := [sl .v _, val _]) (by decide) cF (fun h => nomatch h) (by exact nl rfl) (by exact (aA (aq ao.nil))) (by exact (ab.cons (bor_sl _) (ab.cons (bor_val _) ab.nil)))))
 refine dX 14 ?_ (x := (bR (bx := 0) (qs := [(true, [sl _ _, val _])]) (as_ := [(true, [sl .v _, val _])]) (by decide) KX rfl (by exact (aI (by exact tI) tI)) (by exact (aI (aI rfl (aA (aq ao.nil))) tI)) (by exact (ab.cons (hbo _) (ab.cons (bor_val _) (ab.cons (bor_val _) ab.nil)))) (by exact (bV (ab.cons (bor_sl _) (ab.cons (bor_val _) ab.nil)) bH)) (by exact (Nd (s := (bC (bD c most) k).e.Store) hbo hso))))
 exact z.g) : G := ai w h
def ta (h : H) (w : ah G H := by
 intro z
 refine rB ga ?_ (x := cL [(false, [val _]), (false, [val _]), (false, [val _])] [(false, [val _]), (false, [val _]), (false, [val _])] jN (hs := by exact kb))
 refine rB ga ?_ (x := nT)
 exact z.g) : G := ai w h
def tb (h : H) (w : ah G H := by
 intro z
 refine rX ?_ (x := (db (by decide) fU pm))
 refine rA ?_ (x := bf (ag := true) (vs := [val _, sl _ _, val _, val _]) fC (by exact tI) (by exact rfl) (by exact nl rfl))
 exact z.g) : G := ai w h
def zu (h : H) (w : ah G H := by
 intro z
 refine rA ?_ (x := lD [sl (.lo _) _, val _, val _, sl (.lo _) _, sl (.lo _) _, sl (.lo _) _, sl (.lo _) _, val _] co)
 refine rA ?_ (x := cL [(true, [sl (.lo _) _, val _, val _, sl (.lo _) _, sl (.lo _) _, sl (.lo _) _, sl (.lo _) _, val _])] [(true, [sl .v _, val _, val _, sl .v _, sl .v _, sl .v _, sl .v _, val _])] Bv (hs := by exact (BL (by omega))))
 exact z.g) : G := ai w h
def pM (h : H) (w : ah G H := by
 intro z
 refine sR ?_
 refine rX ?_ (x := (fY (ag := true) (cs := [val _, val _, sl _ _, sl _ _, sl _ _]) (by decide) (by exact tI)))
 exact z.g) : G := ai w h
def zv (h : H) (w : ah G H := by
 intro z
 refine rA ?_ (x := lD [sl (.lo _) _, val _, val _, sl (.lo _) _, sl (.lo _) _, sl (.lo _) _, sl (.lo _) _, val _] co)
 refine rA ?_ (x := cL [(true, [sl (.lo _) _, val _, val _, sl (.lo _) _, sl (.lo _) _, sl (.lo _) _, sl (.lo _) _, val _])] [(true, [sl .v _, val _, val _, sl .v _, sl .v _, sl .v _, sl .v _, val _])] Lc (hs := by exact (LL (by omega))))
 exact z.g) : G := ai w h
def Hs (h : H) (w : ah G H := by
 intro z
 refine dX 0 ?_ (x := (bm (qs := [(false, [val _]), (false, [val _]), (false, [val _]), (false, [val _])]) (by decide) aW bX (by decide) rfl rfl rfl rfl rfl (by exact nl rfl) (by exact (aI (aJ rfl) (aI (aJ rfl) (aI (aJ rfl) (aI (aJ rfl) tI))))) rfl))
 refine dX 126 ?_ (x := (bR (bx := 0) (qs := [(false, [sl _ _])]) (as_ := [(false, [sl .v _])]) (by decide) jh rfl (by exact (aI (by exact tI) tI)) (by exact (aI (aI rfl (aA ao.nil)) tI)) (by exact (ab.cons (hbo _) (ab.cons (bor_val _) (ab.cons (bor_val _) ab.nil)))) (by exact (bV (ab.cons (bor_sl _) ab.nil) bH)) (by exact (jm (l := [0, 0, 1, 2]) hbo (by decide) (by decide)))))
 exact z.g) : G := ai w h
def dO (h : H) (w : ah G H := by
 intro z
 refine ba ?_
 refine ba ?_
 exact z.g) : G := ai w h
def eK (h : H) (w : ah G H := by
 intro z
 refine rA ?_ (x := kM)
 refine fM ?_
 exact z.g) : G := ai w h
def pN (h : H) (w : ah G H := by
 intro z
 refine zf ga ?_
 refine rA ?_ (x := aH ga)
 exact z.g) : G := ai w h
def Ht (h : H) (w : ah G H := by
 intro z
 refine dA 8160 ?_ (x := dM (qs := [(true, [nv _ (val _), nv _ (val _), nv _ (sl _ _), nv _ (sl _ _)]), (false, [val _]), (false, [val _]), (false, [nv _ (sl _ _)])]) (cs := [nv _ (val _), nv _ (val _), nv _ (sl _ _), nv _ (sl _ _), val _, val _, nv _ (sl _ _)]) (by decide) pk xo XM (by exact rfl) (by exact (aI (by exact tI) (aI (by exact tI) (aI (by exact tI) (aI (by exact tI) tI))))) rfl (by exact rfl))
 refine dA 16352 ?_ (x := bm (qs := [(true, [nv _ (val _), nv _ (val _), nv _ (sl _ _), nv _ (sl _ _), val _, val _, nv _ (sl _ _)])]) (by decide) kO pk (by decide) rfl rfl rfl rfl rfl (by exact nl rfl) (by exact (aI (by exact tI) tI)) rfl)
 exact z.g) : G := ai w h
def qX (h : H) (w : ah G H := by
 intro z
 refine rA ?_ (x := lF eQ)
 refine rA ?_ (x := bf (ag := false) (vs := [sl _ _]) eG (by exact tI) (by exact rfl) (by exact nl rfl))
 exact z.g) : G := ai w h
def vD (h : H) (w : ah G H := by
 intro z
 refine zt ga ?_
 refine rA ?_ (x := aK ga)
 exact z.g) : G := ai w h
def tc (h : H) (w : ah G H := by
 intro z
 refine rA ?_ (x := lE [val _, val _, sl .v _, sl .v _, val _, sl .v _, val _, val _, val _, sl .v _] lu)
 refine rX ?_ (x := (db (by decide) jl xm))
 exact z.g) : G := ai w h
def vE (h : H) (w : ah G H := by
 intro z
 refine rX ?_ (x := (db (by decide) pk xo))
 refine rA ?_ (x := bf (ag := true) (vs := [val _, val _, sl _ _, sl _ _, val _, val _, sl _ _]) qx (by exact tI) (by exact rfl) (by exact nl rfl))
 exact z.g) : G := ai w h
def zw (h : H) (w : ah G H := by
 intro z
 refine rA ?_ (x := lD [sl .v _, val _, val _, sl .v _, sl .v _, sl .v _, sl .v _, val _] co)
 refine rA ?_ (x := cL [(true, [sl _ _, val _, val _, sl _ _, sl _ _, sl _ _, sl _ _, val _])] [(true, [sl .v _, val _, val _, sl .v _, sl .v _, sl .v _, sl .v _, val _])] Tv (hs := by exact (UU (by omega))))
 exact z.g) : G := ai w h
def zx (h : H) (w : ah G H := by
 intro z
 refine rA ?_ (x := lD [sl .v _, val _, val _, sl .v _, sl .v _, sl .v _, sl .v _, val _] co)
 refine rA ?_ (x := cL [(true, [sl _ _, val _, val _, sl _ _, sl _ _, sl _ _, sl _ _, val _])] [(true, [sl .v _, val _, val _, sl .v _, sl .v _, sl .v _, sl .v _, val _])] Bv (hs := by exact (BL (by omega))))
 exact z.g) : G := ai w h
def iv (h : H) (w : ah G H := by
 intro z
 refine cI ?_
 refine rA ?_ (x := vM false [sl .v _])
 exact z.g) : G := ai w h
def jJ (h : H) (w : ah G H := by
 intro z
 refine rA ?_ (x := tA)
 refine ba ?_
 exact z.g) : G := ai w h
def df (h : H) (w : ah G H := by
 intro z
 refine rS ?_
 refine dc ?_
 exact z.g) : G := ai w h
def fc (h : H) (w : ah G H := by
 intro z
 refine rA ?_ (x := iX)
 refine rM ?_
 exact z.g) : G := ai w h
def vF (h : H) (w : ah G H := by
 intro z
 refine rX ?_ (x := (db (by decide) jY qy))
 refine rA ?_ (x := bf (ag := true) (vs := [val _, val _, sl _ _, sl _ _, sl _ _]) jj (by exact tI) (by exact rfl) (by exact nl rfl))
 exact z.g) : G := ai w h
def td (h : H) (w : ah G H := by
 intro z
 refine rA ?_ (x := bm (qs := []) (by decide) cX fU (by decide) rfl rfl rfl rfl rfl (by exact nl rfl) (by exact tI) rfl)
 refine jJ ?_
 exact z.g) : G := ai w h
def qY (h : H) (w : ah G H := by
 intro z
 refine sR ?_
 refine rX ?_ (x := (fY (ag := true) (cs := [val _, val _, sl _ _, sl _ _]) (by decide) (by exact tI)))
 exact z.g) : G := ai w h
def Hu (h : H) (w : ah G H := by
 intro z
 refine dO ?_
 refine sO [(2, _), (3, _), (4, _), (6, _), (7, _), (8, _), (9, _), (10, _), (11, _), (12, _), (13, _), (6200, _), (6300, _)] [(3, (46, [sl _ _, val _, val _, sl _ _, sl _ _, sl _ _, sl _ _, val _])), (4, (25, [val _, val _, sl _ _, sl _ _])), (6, (46, [sl _ _, val _, val _, sl _ _, sl _ _, sl _ _, sl _ _, val _])), (8, (46, [sl _ _, val _, val _, sl _ _, sl _ _, sl _ _, sl _ _, val _])), (9, (102, [nv _ (val _), nv _ (val _), nv _ (sl _ _), nv _ (sl _ _), nv _ (val _), nv _ (sl _ _), nv _ (val _), nv _ (val _), nv _ (val _), nv _ (sl _ _)]))] ?_
 exact z.g) : G := ai w h
def Hv (h : H) (w : ah G H := by
 intro z
 refine cK (d := 920) (by exact rfl) (kq (s.ZE[i].set k (jg (s.Now + 1) s.ZE[i][k])) hi (by exact rfl)) ?_
 refine lI (d := 6) (D := 920) (G := 2920) (e := 1) (A := []) (B := [val _]) (es := ((s.ZE).set i (s.ZE[i].set k (jg (s.Now + 1) s.ZE[i][k]))).map (aO be ae)) (by exact rfl) (by exact rfl) (by exact rfl) rfl (by rw [am, List.length_set, am]) (by intro c hc; obtain ⟨y, _, rfl⟩ := List.mem_map.1 hc; exact rfl) (by rw [am]; exact hjk920) ?_
 exact z.g) : G := ai w h
def vG (h : H) (w : ah G H := by
 intro z
 refine sO [(0, _), (2, _), (3, _), (4, _), (5, _), (6, _), (5000, _), (6200, _)] [(0, _), (6, (102, [val _, val _, sl _ _, sl _ _, val _, sl _ _, val _, val _, val _, sl _ _]))] ?_
 refine bi ?_
 exact z.g) : G := ai w h
def te (h : H) (w : ah G H := by
 intro z
 refine rA ?_ (x := cL [(false, [val _])] [(false, [val _])] kJ (hs := by exact (kP (by unfold aQ; omega))))
 refine rA ?_ (x := dN)
 exact z.g) : G := ai w h
def tf (h : H) (w : ah G H := by
 intro z
 refine rA ?_ (x := bm (qs := []) (by decide) ji oh (by decide) rfl rfl rfl rfl rfl (by exact nl rfl) (by exact tI) rfl)
 refine jJ ?_
 exact z.g) : G := ai w h
def vH (h : H) (w : ah G H := by
 intro z
 refine rB ga ?_ (x := cL [(false, [val _]), (false, [val _]), (false, [val _])] [(false, [val _]), (false, [val _]), (false, [val _])] fP (hs := by exact fV))
 refine rA ?_ (x := aK ga)
 exact z.g) : G := ai w h
def vJ (h : H) (w : ah G H := by
 intro z
 refine rX ?_ (x := (db (by decide) lS rC))
 refine rA ?_ (x := bf (ag := true) (vs := [val _, val _, sl _ _, sl _ _]) fh (by exact tI) (by exact rfl) (by exact nl rfl))
 exact z.g) : G := ai w h
def zy (h : H) (w : ah G H := by
 intro z
 refine rA ?_ (x := dH (ms := [val _, val _, sl _ _, sl _ _, val _, sl _ _, val _, val _, val _, sl _ _]) (qs := [val _, val _, sl .v _, sl .v _, val _, sl .v _, val _, val _, val _, sl .v _]) (by decide) lu (fun h => nomatch h) (by exact nl rfl) (by exact rfl) (by exact (aq (aq (aA (aA (aq (aA (aq (aq (aq (aA ao.nil))))))))))) (by exact lq))
 refine rA ?_ (x := bm (qs := [(true, [val _, val _, sl _ _, sl _ _, val _, sl _ _, val _, val _, val _, sl _ _])]) (by decide) ct jl (by decide) rfl rfl rfl rfl rfl (by exact nl rfl) (by exact (aI (by exact tI) tI)) rfl)
 refine rA ?_ (x := dy (by decide) ct jl rfl rfl (by decide) rfl (by simp only [am, aD, List.length_cons, List.length_nil]; omega) (by simp only [am, aD, List.length_cons, List.length_nil]; omega))
 exact z.g) : G := ai w h
def Hw (h : H) (w : ah G H := by
 intro z
 refine rA ?_ (x := Di (cs := [sl _ _, val _, val _, sl _ _, sl _ _, sl _ _, sl _ _, val _]) (qs := [sl .v _, val _, val _, sl .v _, sl .v _, sl .v _, sl .v _, val _]) (by decide) (by exact rfl) (by exact (aA (aq (aq (aA (aA (aA (aA (aq ao.nil))))))))) (by exact lq))
 refine rA ?_ (x := jB (cs := [val _]) (by decide) (by exact rfl) (by exact (ab.cons (bor_val _) ab.nil)))
 exact z.g) : G := ai w h
def vK (h : H) (w : ah G H := by
 intro z
 refine rA ?_ (x := cL [(false, [val _]), (false, [val _]), (false, [val _])] [(false, [val _]), (false, [val _]), (false, [val _])] jN (hs := by exact kb))
 refine rA ?_ (x := nT)
 exact z.g) : G := ai w h
def vL (h : H) (w : ah G H := by
 intro z
 refine sO [(0, _), (3, _), (4, _), (5, _), (6, _), (5000, _), (6200, _)] [(0, _), (6, (102, [val _, val _, sl _ _, sl _ _, val _, sl _ _, val _, val _, val _, sl _ _]))] ?_
 refine bi ?_
 exact z.g) : G := ai w h
def Hx (h : H) (w : ah G H := by
 intro z
 refine dA 48 ?_ (x := lD [sl (.lo _) _] bz)
 refine dA 120 ?_ (x := iW (by decide) aW bX rfl rfl (by decide) (by first | (intro cs hcs; obtain ⟨x, _, rfl⟩ := List.mem_map.1 hcs; exact rfl) | simp) (by first | (intro cs hcs; obtain ⟨x, _, rfl⟩ := List.mem_map.1 hcs; exact (ab.cons (bor_val _) ab.nil)) | simp) (by simp only [am, aD, List.length_cons, List.length_nil]; omega) (by simp only [am, aD, List.length_cons, List.length_nil]; omega))
 exact z.g) : G := ai w h
def Hy (h : H) (w : ah G H := by
 intro z
 refine dA 512 ?_ (x := lD [sl .v _] bz)
 refine dA 2032 ?_ (x := iW (by decide) aW bX rfl rfl (by decide) (by first | (intro cs hcs; obtain ⟨x, _, rfl⟩ := List.mem_map.1 hcs; exact rfl) | simp) (by first | (intro cs hcs; obtain ⟨x, _, rfl⟩ := List.mem_map.1 hcs; exact (ab.cons (bor_val _) ab.nil)) | simp) (by simp only [am, aD, List.length_cons, List.length_nil]; omega) (by simp only [am, aD, List.length_cons, List.length_nil]; omega))
 exact z.g) : G := ai w h
def zz (h : H) (w : ah G H := by
 intro z
 refine dA 0 ?_ (x := cM Cp.ptr)
 refine dA 0 ?_ (x := bm (qs := [(false, [val _]), (false, [val _]), (false, [val _])]) (by decide) aW bX (by decide) rfl rfl rfl rfl rfl (by exact nl rfl) (by exact (aI (aJ rfl) (aI (aJ rfl) (aI (aJ rfl) tI)))) rfl)
 exact z.g) : G := ai w h
def vN (h : H) (w : ah G H := by
 intro z
 refine sO [(1, _), (2, _), (3, _), (4, _), (5, _)] [(1, _), (2, _), (3, _), (5, (102, [val _, val _, sl _ _, sl _ _, val _, sl _ _, val _, val _, val _, sl _ _]))] ?_
 refine bi ?_
 exact z.g) : G := ai w h
def er (h : H) (w : ah G H := by
 intro z
 refine bw ?_
 refine ba ?_
 exact z.g) : G := ai w h
def Hz (h : H) (w : ah G H := by
 intro z
 refine PB (d := 3) [val _, val _, sl .v _, sl .v _, sl .v _] (by exact rfl) (by exact (aq (aq (ao.cons (PV.to_map (fun _ => (aq ao.nil))) (ao.cons (PV.to_map (fun _ => (aq ao.nil))) (ao.cons (PV.to_map (fun _ => (aq ao.nil))) ao.nil)))))) (by exact lq) ?_
 refine sO [(0, _), (2, _), (3, _), (4, _), (5, _), (49, _), (5000, _)] [(0, _), (2, _), (3, (149, [val _, val _, sl _ _, sl _ _, sl _ _]))] ?_
 exact z.g) : G := ai w h
def HA (h : H) (w : ah G H := by
 intro z
 refine cK (d := 921) (by exact rfl) (kq (jg (s.Now + 1) s.ZE[i][k]) hk (by exact rfl)) ?_
 refine lI (d := 920) (D := 921) (G := 2921) (e := 4) (A := _) (B := [] ++ _) (es := ((s.ZE[i]).set k (jg (s.Now + 1) s.ZE[i][k])).map (ff ae)) (by exact rfl) (by exact rfl) (by exact rfl) rfl (by rw [am, List.length_set, am]) (by intro c hc; obtain ⟨y, _, rfl⟩ := List.mem_map.1 hc; exact rfl) (by rw [am]; exact hjk921) ?_
 exact z.g) : G := ai w h
def vO (h : H) (w : ah G H := by
 intro z
 refine rX ?_ (x := (db (by decide) iC mG))
 refine rA ?_ (x := bf (ag := true) (vs := [val _, sl _ _]) gB (by exact tI) (by exact rfl) (by exact nl rfl))
 exact z.g) : G := ai w h
def vP (h : H) (w : ah G H := by
 intro z
 refine dO ?_
 refine sO [(2, _), (3, _), (4, _), (5, _), (6, _), (7, _), (8, _), (9, _), (10, _)] [(2, _), (3, _), (4, _), (6, _), (10, (116, [val _, sl _ _, val _, val _]))] ?_
 exact z.g) : G := ai w h
def vQ (h : H) (w : ah G H := by
 intro z
 refine rA ?_ (x := aU (by decide) fQ (by exact tI) (by exact rfl) (by exact aV (by omega) rfl) (by exact rfl))
 refine rA ?_ (x := lE [val _, sl .v _] gB)
 exact z.g) : G := ai w h
def pO (h : H) (w : ah G H := by
 intro z
 refine sR ?_
 refine rA ?_ (x := ki (.inr rfl) (by decide) (lG (t := 3) (e := 1)))
 exact z.g) : G := ai w h
def zA (h : H) (w : ah G H := by
 intro z
 refine rA ?_ (x := lF eQ)
 refine rA ?_ (x := dH (ms := [sl _ _]) (qs := [sl .v _]) (by decide) eG (fun _ => rfl) (by exact nl rfl) (by exact rfl) (by exact (aA ao.nil)) (by exact (ab.cons (bor_sl _) ab.nil)))
 exact z.g) : G := ai w h
def vR (h : H) (w : ah G H := by
 intro z
 refine dA 3 ?_ (x := aU (by decide) aW (by exact tI) (by exact rfl) (by exact aV (by omega) rfl) (by exact rfl))
 refine dA 7 ?_ (x := lE [val _] aw)
 exact z.g) : G := ai w h
def vS (h : H) (w : ah G H := by
 intro z
 refine rA ?_ (x := aU (k := k2) (by decide) aW (by exact tI) (by rfl) (by exact aV (by omega) rfl) (by exact rfl))
 refine rA ?_ (x := lE [val _] aw)
 exact z.g) : G := ai w h
def vT (h : H) (w : ah G H := by
 intro z
 refine OP (d := 0) [sl .v _, val _, val _] (by exact rfl) (by exact (fw.cons OTo.lo (fw.cons OTo.refl (fw.cons OTo.refl fw.nil)))) ?_
 refine dc ?_
 exact z.g) : G := ai w h
def HB (h : H) (w : ah G H := by
 intro z
 refine cK (d := 930) (by exact rfl) (kq u.Value hfl (by exact rfl)) ?_
 refine lI (d := 10) (D := 930) (G := 2930) (e := 1) (A := [val _]) (B := [val _, val _]) (es := (((fT s u)).set u.Field.toNat u.Value).map an) (by exact rfl) (by exact rfl) (by exact rfl) rfl (by rw [am, List.length_set, am]) (by intro c hc; obtain ⟨y, _, rfl⟩ := List.mem_map.1 hc; exact rfl) (by rw [am]; exact hjk930) ?_
 exact z.g) : G := ai w h
def HC (h : H) (w : ah G H := by
 intro z
 refine zo ?_
 refine rA ?_ (x := bR (bx := 0) (qs := [(false, [sl _ _])]) (as_ := [(false, [sl .v _])]) (by decide) jh rfl (by exact (aI (by exact tI) tI)) (by exact (aI (aI rfl (aA ao.nil)) tI)) (by exact (ab.cons (hbo _) (ab.cons (bor_val _) (ab.cons (bor_val _) ab.nil)))) (by exact (bV (ab.cons (bor_sl _) ab.nil) bH)) (by exact (jm (l := [3, 6, 100]) hbo (by decide) (by decide))))
 exact z.g) : G := ai w h
def vU (h : H) (w : ah G H := by
 intro z
 refine sR ?_
 refine rX ?_ (x := (fY (ag := true) (cs := [val _, sl _ _, val _, val _]) (by decide) (by exact tI)))
 exact z.g) : G := ai w h
def zB (h : H) (w : ah G H := by
 intro z
 refine rA ?_ (x := lD [val _, val _, sl .v _, sl .v _, sl .v _] jj)
 refine rA ?_ (x := cL [(true, [val _, val _, sl _ _, sl _ _, sl _ _])] [(true, [val _, val _, sl .v _, sl .v _, sl .v _])] Sl (hs := by exact UH))
 exact z.g) : G := ai w h
def HD (h : H) (w : ah G H := by
 intro z
 refine rA ?_ (x := dH (ms := [val _, val _, sl _ _, sl _ _]) (qs := [val _, val _, sl .v _, sl .v _]) (by decide) fh (fun h => nomatch h) (by exact nl rfl) (by exact rfl) (by exact (aq (aq (aA (aA ao.nil))))) (by exact lq))
 refine rA ?_ (x := bf (ag := true) (vs := [val _, val _, sl _ _, sl _ _]) fh (by exact tI) (by exact rfl) (by exact nl rfl))
 exact z.g) : G := ai w h
def gk (h : H) (w : ah G H := by
 intro z
 refine rA ?_ (x := nT)
 refine rM ?_
 exact z.g) : G := ai w h
def HE (h : H) (w : ah G H := by
 intro z
 refine rA ?_ (x := cM Cp.ptr)
 refine rA ?_ (x := bR (bx := 0) (qs := [(false, [val _])]) (as_ := [(false, [val _])]) (by decide) xe rfl (by exact (aI (aJ rfl) tI)) (by exact (aI (aI rfl (aq ao.nil)) tI)) (by exact (ab.cons (hbo _) (ab.cons (bor_val _) (ab.cons (bor_val _) ab.nil)))) (by exact (bV (ab.cons (bor_val _) ab.nil) bH)) (by exact (xp hbo (by omega))))
 exact z.g) : G := ai w h
def HF (h : H) (w : ah G H := by
 intro z
 refine sP [1, 3, 5, 7, 23, 24, 25, 32, 33, 34, 66, 67, 68] [1, 7] ?_
 refine sL [1, 3, 5, 7, 23, 24, 25, 32, 33, 34, 66, 67] [1, 7] (fun m : Nat => m ≤ (cV s k).length + j ∧ fv (aY s) ((cV s k).length + j) m = true) (fun m : Nat => [(68, RV.int (m : Int))]) (fun m : Nat => []) (fun m : Nat => (cV s k).length + j - m) 0 (by exact ⟨by omega, rfl⟩) (by exact aI (by exact rfl) tI) (by exact tI) ?_
 exact z.g) : G := ai w h
def HG (h : H) (w : ah G H := by
 intro z
 refine sV ?_
 refine dX 2 ?_ (x := (bR (bx := 0) (qs := [(false, [val _])]) (as_ := [(false, [val _])]) (by decide) jV rfl (by exact (aI (aJ rfl) tI)) (by exact (aI (aI rfl (aq ao.nil)) tI)) (by exact (ab.cons (hbo _) (ab.cons (bor_val _) (ab.cons (bor_val _) ab.nil)))) (by exact (bV (ab.cons (bor_val _) ab.nil) bH)) (by exact (jZ hbo (by omega)))))
 exact z.g) : G := ai w h
def zC (h : H) (w : ah G H := by
 intro z
 refine rA ?_ (x := aU (by decide) kO (by exact tI) (by exact rfl) (by exact aV (by omega) rfl) (by exact rfl))
 refine rA ?_ (x := lE [val _, val _, sl .v _, sl .v _, val _, val _, sl .v _] qx)
 exact z.g) : G := ai w h
def HH (h : H) (w : ah G H := by
 intro z
 refine rA ?_ (x := dH (ms := [val _, sl _ _]) (qs := [val _, sl .v _]) (by decide) gB (fun h => nomatch h) (by exact nl rfl) (by exact rfl) (by exact (aq (aA ao.nil))) (by exact (ab.cons (bor_val _) (ab.cons (bor_sl _) ab.nil))))
 refine rA ?_ (x := bf (ag := true) (vs := [val _, sl _ _]) gB (by exact tI) (by exact rfl) (by exact nl rfl))
 exact z.g) : G := ai w h
def zD (h : H) (w : ah G H := by
 intro z
 refine rB gd ?_ (x := lD [val _] aw)
 refine rB gd ?_ (x := cL [(false, [val _]), (false, [val _]), (false, [val _])] [(false, [val _]), (false, [val _]), (false, [val _])] jN (hs := by exact kb))
 exact z.g) : G := ai w h
def vV (h : H) (w : ah G H := by
 intro z
 refine jI ?_
 refine rA ?_ (x := aU (by decide) ma (by exact tI) (by exact rfl) (by exact aV (by omega) rfl) (by exact rfl))
 exact z.g) : G := ai w h
def pP (h : H) (w : ah G H := by
 intro z
 refine dA 0 ?_ (x := cM Cp.ptr)
 refine dA 32 ?_ (x := hP (by decide))
 exact z.g) : G := ai w h
def tg (h : H) (w : ah G H := by
 intro z
 refine sR ?_
 refine rX ?_ (x := (fY (ag := true) (cs := [val _, sl _ _]) (by decide) (by exact tI)))
 exact z.g) : G := ai w h
def zE (h : H) (w : ah G H := by
 intro z
 refine dA 0 ?_ (x := sM)
 refine dA 992 ?_ (x := gj (k := i) (G := 2900) (by decide) ct (by exact tI) (by first | exact hf2 | omega) (by first | (rw [am]; exact hil) | exact hil))
 exact z.g) : G := ai w h
def zF (h : H) (w : ah G H := by
 intro z
 refine rA ?_ (x := lD [val _, val _, sl .v _, sl .v _] fh)
 refine rA ?_ (x := cL [(true, [val _, val _, sl _ _, sl _ _])] [(true, [val _, val _, sl .v _, sl .v _])] wM (hs := by exact xr))
 exact z.g) : G := ai w h
def zG (h : H) (w : ah G H := by
 intro z
 refine rA ?_ (x := lD [val _, val _, sl .v _, sl .v _] fh)
 refine rA ?_ (x := cL [(true, [val _, val _, sl _ _, sl _ _])] [(true, [val _, val _, sl .v _, sl .v _])] JT (hs := by exact Lz))
 exact z.g) : G := ai w h
def HI (h : H) (w : ah G H := by
 intro z
 refine rA ?_ (x := dM (qs := [(false, [val _]), (true, [val _, sl _ _])]) (cs := [val _, val _, sl _ _, val _, val _]) (by decide) AM AN Nc (by exact rfl) (by exact (aI (aJ rfl) (aI (by exact tI) tI))) rfl (by exact rfl))
 refine rA ?_ (x := bf (ag := true) (vs := [val _, val _, sl _ _, val _, val _]) qj (by exact tI) (by exact rfl) (by exact nl rfl))
 exact z.g) : G := ai w h
def oF (h : H) (w : ah G H := by
 intro z
 refine zf gb ?_
 refine rA ?_ (x := aH gb)
 exact z.g) : G := ai w h
def HJ (h : H) (w : ah G H := by
 intro z
 refine rA ?_ (x := gj (k := i) (G := 2900) (by decide) fj (by exact tI) (by first | rfl | omega) (by simp only [am]; omega))
 refine rA ?_ (x := OI (f := nX) (e := 1) (k := i) (qs := [sl .v _]) (fun _ => rfl) rfl (by omega) (by decide) iP (fun _ => rfl) (by exact (aA ao.nil)) (by exact (ab.cons (bor_sl _) ab.nil)))
 exact z.g) : G := ai w h
def zH (h : H) (w : ah G H := by
 intro z
 refine rB gc ?_ (x := cL [(false, [val _]), (false, [val _]), (false, [val _])] [(false, [val _]), (false, [val _]), (false, [val _])] fP (hs := by exact fV))
 refine rA ?_ (x := aK gc)
 exact z.g) : G := ai w h
def oG (h : H) (w : ah G H := by
 intro z
 refine zm ?_
 refine rA ?_ (x := lN fj)
 exact z.g) : G := ai w h
def vW (h : H) (w : ah G H := by
 intro z
 refine rA ?_ (x := bf (ag := false) (vs := [val _]) aw (by exact tI) (by exact rfl) (by exact nl rfl))
 refine ba ?_
 exact z.g) : G := ai w h
def gM (h : H) (w : ah G H := by
 intro z
 refine bE ?_
 refine ba ?_
 exact z.g) : G := ai w h
def zI (h : H) (w : ah G H := by
 intro z
 refine rA ?_ (x := aU (by decide) cX (by exact tI) (by exact rfl) (by exact aV (by omega) rfl) (by exact rfl))
 refine rA ?_ (x := lE [val _, sl .v _, val _, val _] fC)
 exact z.g) : G := ai w h
def HK (h : H) (w : ah G H := by
 intro z
 refine dA 7 ?_ (x := gj (k := i) (G := 2920) (by decide) fj (by exact tI) (by omega) (by first | (rw [am]; exact hi) | exact hi))
 refine dA 15 ?_ (x := pC (o := 0) (qs := [val _]) (by omega) (by decide) iP (fun _ => rfl) (by exact nl rfl) (by exact (aq ao.nil)) (by exact (ab.cons (bor_val _) ab.nil)))
 exact z.g) : G := ai w h
def eL (h : H) (w : ah G H := by
 intro z
 refine sR ?_
 refine rA ?_ (x := dZ)
 refine ba ?_
 exact z.g) : G := ai w h
def iY (h : H) (w : ah G H := by
 intro z
 refine eD ?_
 refine sT [1, 2] [1] ?_
 exact z.g) : G := ai w h
def HL (h : H) (w : ah G H := by
 intro z
 refine Pj (d := 6) (G := 6200) (e := 10) (f := (bq aP ae ae aR ae)) (z := za[m]) (zs := (za.drop (m + 1))) (by exact rfl) (by exact (Nm.nv (Nm.nv (Nm.nv (Nm.nv (Nm.nv (Nm.nv (Nm.nv (Nm.nv (Nm.nv (Nm.nv Nm.nil))))))))))) (fun _ => rfl) (by rw [← List.drop_eq_getElem_cons hltz]; exact rfl) ?_
 refine ba ?_
 exact z.g) : G := ai w h
def th (h : H) (w : ah G H := by
 intro z
 refine rM ?_
 refine rA ?_ (x := yt (by decide) (by exact tI) (by exact tI) (by omega))
 exact z.g) : G := ai w h
def zJ (h : H) (w : ah G H := by
 intro z
 refine sR ?_
 refine rX ?_ (x := (fY (ag := true) (cs := [sl (.lo _) _, val _, val _, sl (.lo _) _, sl (.lo _) _, sl (.lo _) _, sl (.lo _) _, val _]) (by decide) (by exact tI)))
 exact z.g) : G := ai w h
def oH (h : H) (w : ah G H := by
 intro z
 refine rA ?_ (x := aK gb)
 refine rM ?_
 exact z.g) : G := ai w h
def lL (h : H) (w : ah G H := by
 intro z
 refine bi ?_
 refine rA ?_ (x := cM Cp.ptr)
 exact z.g) : G := ai w h
def pQ (h : H) (w : ah G H := by
 intro z
 refine rA ?_ (x := vM false [sl .v _])
 refine rA ?_ (x := lN cX)
 exact z.g) : G := ai w h
def zK (h : H) (w : ah G H := by
 intro z
 refine rX ?_ (x := (fY (ag := true) (cs := [val _, sl _ _]) (by decide) (by exact tI)))
 refine rA ?_ (x := ki (.inr rfl) (by decide) (lG (t := 3) (e := 1)))
 exact z.g) : G := ai w h
def gz (h : H) (w : ah G H := by
 intro z
 refine rA ?_ (x := tM)
 refine rA ?_ (x := tA)
 refine dc ?_
 exact z.g) : G := ai w h
def pR (h : H) (w : ah G H := by
 intro z
 refine rA ?_ (x := lF rT)
 refine rA ?_ (x := lD [val _] aw)
 exact z.g) : G := ai w h
def qZ (h : H) (w : ah G H := by
 intro z
 refine dB 1023 gb ?_ (x := vM false [sl .v _])
 refine dB 1023 gb ?_ (x := sM)
 exact z.g) : G := ai w h
def zL (h : H) (w : ah G H := by
 intro z
 refine rA ?_ (x := aU (k := i.toNat) (by decide) fj (by exact tI) (by omega) (by exact aV hil rfl) (by exact rfl))
 refine rA ?_ (x := lE [sl .v _] iP)
 exact z.g) : G := ai w h
def HM (h : H) (w : ah G H := by
 intro z
 refine dA 0 ?_ (x := lF iN)
 refine dA 32 ?_ (x := gH (qs := [nv _ (val _), nv _ (val _), nv _ (sl .v _), nv _ (sl .v _)]) (by decide) fh (fun h => nomatch h) (by exact nl rfl) (by exact (aq (aq (aq (aq ao.nil))))) (by exact lq))
 exact z.g) : G := ai w h
def zM (h : H) (w : ah G H := by
 intro z
 refine sO [(1, _), (2, _), (3, _), (4, _), (6, _), (7, _)] [(1, _), (2, _), (3, _), (7, (56, [val _, val _, sl _ _, sl _ _, val _, val _, sl _ _]))] ?_
 refine bi ?_
 exact z.g) : G := ai w h
def HN (h : H) (w : ah G H := by
 intro z
 refine rB ga ?_ (x := lD [sl .v _, val _, val _, sl .v _, sl .v _, sl .v _, sl .v _, val _] co)
 refine rB ga ?_ (x := cL [(true, [sl _ _, val _, val _, sl _ _, sl _ _, sl _ _, sl _ _, val _])] [(true, [sl .v _, val _, val _, sl .v _, sl .v _, sl .v _, sl .v _, val _])] Bv (hs := by exact (BL (by omega))))
 exact z.g) : G := ai w h
def HO (h : H) (w : ah G H := by
 intro z
 refine dA 32766 ?_ (x := dy (by decide) kO pk rfl rfl (by decide) rfl (by simp only [am, aD, List.length_cons, List.length_nil]; omega) (by simp only [am, aD, List.length_cons, List.length_nil]; omega))
 refine dA 65535 ?_ (x := hP (by decide))
 exact z.g) : G := ai w h
def zN (h : H) (w : ah G H := by
 intro z
 refine rA ?_ (x := lD [sl .v _, val _] cF)
 refine rA ?_ (x := cL [(true, [sl _ _, val _])] [(true, [sl .v _, val _])] Lg (hs := by exact LF (by omega)))
 exact z.g) : G := ai w h
def zO (h : H) (w : ah G H := by
 intro z
 refine rA ?_ (x := lD [sl .v _, val _] cF)
 refine rA ?_ (x := cL [(true, [sl _ _, val _])] [(true, [sl .v _, val _])] Sq (hs := by exact Un (by omega)))
 exact z.g) : G := ai w h
def HP (h : H) (w : ah G H := by
 intro z
 refine rA ?_ (x := lD [sl .v _, val _, val _, sl .v _, sl .v _, sl .v _, sl .v _, val _] co)
 refine rA ?_ (x := cL [(true, [sl _ _, val _, val _, sl _ _, sl _ _, sl _ _, sl _ _, val _])] [(true, [sl .v _, val _, val _, sl .v _, sl .v _, sl .v _, sl .v _, val _])] Lc (hs := by exact (LL (by omega))))
 exact z.g) : G := ai w h
def HQ (h : H) (w : ah G H := by
 intro z
 refine rA ?_ (x := gj (k := u.Field.toNat) (G := 2930) (by decide) aW (by exact tI) (by omega) (by first | (rw [am]; exact hfl) | exact hfl))
 refine rA ?_ (x := kX (o := 0) (ag := false) (vs := [val _]) (by omega) aw (by exact tI) (by exact rfl) (by exact nl rfl))
 exact z.g) : G := ai w h
def HR (h : H) (w : ah G H := by
 intro z
 refine dA 0 ?_ (x := cM Cp.ptr)
 refine dA 0 ?_ (x := bm (qs := [(false, [val _]), (false, [val _]), (false, [val _]), (false, [val _])]) (by decide) aW bX (by decide) rfl rfl rfl rfl rfl (by exact nl rfl) (by exact (aI (aJ rfl) (aI (aJ rfl) (aI (aJ rfl) (aI (aJ rfl) tI))))) rfl)
 exact z.g) : G := ai w h
def pS (h : H) (w : ah G H := by
 intro z
 refine sS [0, 2] [] ?_
 refine rA ?_ (x := vM false [sl .v _])
 exact z.g) : G := ai w h
def ti (h : H) (w : ah G H := by
 intro z
 refine rA ?_ (x := lD [val _] aw)
 refine rA ?_ (x := iX)
 exact z.g) : G := ai w h
def gA (h : H) (w : ah G H := by
 intro z
 refine rS ?_
 refine ba ?_
 exact z.g) : G := ai w h
def lf (h : H) (w : ah G H := by
 intro z
 refine rA ?_ (x := aH ga)
 refine rM ?_
 exact z.g) : G := ai w h
def HS (h : H) (w : ah G H := by
 intro z
 refine rA ?_ (x := cM Cp.ptr)
 refine rA ?_ (x := bm (qs := [(false, [val _]), (false, [val _]), (false, [val _]), (false, [val _])]) (by decide) aW bX (by decide) rfl rfl rfl rfl rfl (by exact nl rfl) (by exact (aI (aJ rfl) (aI (aJ rfl) (aI (aJ rfl) (aI (aJ rfl) tI))))) rfl)
 exact z.g) : G := ai w h
def HT (h : H) (w : ah G H := by
 intro z
 refine rA ?_ (x := dy (by decide) cX fU rfl rfl (by decide) rfl (by simp only [am, aD, List.length_cons, List.length_nil]; omega) (by simp only [am, aD, List.length_cons, List.length_nil]; omega))
 refine rA ?_ (x := tA)
 exact z.g) : G := ai w h
def HU (h : H) (w : ah G H := by
 intro z
 refine dA 31 ?_ (x := gj (k := 0) (G := 2900) (by decide) aW (aJ rfl) (by rfl) (by first | (rw [am]; exact hv0) | exact hv0))
 refine dA 63 ?_ (x := kX (o := 0) (ag := false) (vs := [val _]) (by omega) aw (by exact tI) (by exact rfl) (by exact nl rfl))
 exact z.g) : G := ai w h
def HV (h : H) (w : ah G H := by
 intro z
 refine rB ge ?_ (x := lD [val _, sl .v _, val _, val _] fC)
 refine rB ge ?_ (x := cL [(true, [val _, sl _ _, val _, val _]), (true, [val _, sl _ _, val _, val _])] [(true, [val _, sl .v _, val _, val _]), (true, [val _, sl .v _, val _, val _])] Sw (hs := by exact Uk))
 exact z.g) : G := ai w h
def vX (h : H) (w : ah G H := by
 intro z
 refine rA ?_ (x := cB (by decide) iB (by exact nl rfl))
 refine rA ?_ (x := lE [val _] aw)
 exact z.g) : G := ai w h
def HW (h : H) (w : ah G H := by
 intro z
 refine rA ?_ (x := gH (qs := [nv _ (val _), nv _ (val _), nv _ (sl .v _), nv _ (sl .v _), nv _ (val _), nv _ (sl .v _), nv _ (val _), nv _ (val _), nv _ (val _), nv _ (sl .v _)]) (by decide) lu (fun h => nomatch h) (by exact nl rfl) (by exact (aq (aq (aq (aq (aq (aq (aq (aq (aq (aq ao.nil))))))))))) (by exact lq))
 refine rA ?_ (x := bm (qs := [(true, [nv _ (val _), nv _ (val _), nv _ (sl _ _), nv _ (sl _ _), nv _ (val _), nv _ (sl _ _), nv _ (val _), nv _ (val _), nv _ (val _), nv _ (sl _ _)])]) (by decide) ct jl (by decide) rfl rfl rfl rfl rfl (by exact nl rfl) (by exact (aI (by exact tI) tI)) rfl)
 refine rA ?_ (x := dy (by decide) ct jl rfl rfl (by decide) rfl (by simp only [am, aD, List.length_cons, List.length_nil]; omega) (by simp only [am, aD, List.length_cons, List.length_nil]; omega))
 exact z.g) : G := ai w h
def HX (h : H) (w : ah G H := by
 intro z
 refine rA ?_ (x := bf (ag := false) (vs := [sl _ _]) bz (by exact tI) (by exact rfl) (by exact nl rfl))
 refine sO [(2, _), (3, _), (4, _), (5, _), (6, _), (7, _), (8, _), (9, _), (10, _)] [(2, _), (3, _), (4, _), (6, _), (10, (116, [val _, sl _ _, val _, val _]))] ?_
 exact z.g) : G := ai w h
def lM (h : H) (w : ah G H := by
 intro z
 refine sR ?_
 refine eD ?_
 exact z.g) : G := ai w h
def ra (h : H) (w : ah G H := by
 intro z
 refine rA ?_ (x := lF JU)
 refine rA ?_ (x := lD [val _] aw)
 exact z.g) : G := ai w h
def my (h : H) (w : ah G H := by
 intro z
 refine zt g2 ?_
 refine rA ?_ (x := aK g2)
 exact z.g) : G := ai w h
def HY (h : H) (w : ah G H := by
 intro z
 refine sO [(0, _), (1, _), (4, _), (5, _), (6, _), (7, _), (5000, _)] [(0, (176, [sl o _, val _, val _])), (4, (46, [sl _ _, val _, val _, sl _ _, sl _ _, sl _ _, sl _ _, val _])), (5, (46, [sl _ _, val _, val _, sl _ _, sl _ _, sl _ _, sl _ _, val _]))] ?_
 refine bi ?_
 exact z.g) : G := ai w h
def pT (h : H) (w : ah G H := by
 intro z
 refine sS [0, 2, 3, 9, 5000] [0, 2, 3] ?_
 refine lb ?_
 exact z.g) : G := ai w h
def pU (h : H) (w : ah G H := by
 intro z
 refine sS [0, 2, 3, 7, 5000] [0, 2, 3] ?_
 refine lb ?_
 exact z.g) : G := ai w h
def HZ (h : H) (w : ah G H := by
 intro z
 refine rA ?_ (x := px (qs := [nv _ (val _), nv _ (val _), nv _ (sl .v _), nv _ (sl .v _), nv _ (val _), nv _ (sl .v _), nv _ (val _), nv _ (val _), nv _ (val _), nv _ (sl .v _)]) (by decide) lu (fun h => nomatch h) (by exact nl rfl) (by exact (aq (aq (aq (aq (aq (aq (aq (aq (aq (aq ao.nil))))))))))) (by exact lq))
 refine rX ?_ (x := (db (by decide) jl xm))
 refine rA ?_ (x := bf (ag := true) (vs := [nv _ (val _), nv _ (val _), nv _ (sl _ _), nv _ (sl _ _), nv _ (val _), nv _ (sl _ _), nv _ (val _), nv _ (val _), nv _ (val _), nv _ (sl _ _)]) lu (by exact tI) (by exact rfl) (by exact nl rfl))
 exact z.g) : G := ai w h
def Ia (h : H) (w : ah G H := by
 intro z
 refine cK (d := 10) (by exact rfl) (show _ = [val (vI u.Row.Id), sl ae ((iK s u).map an), val (vI (s.Now + 1)), val (vI (-1))] from by first | (rw [hv2]; done) | (rw [hv2]; exact rfl)) ?_
 refine sG [2, 3, 4, 5, 6, 7, 8, 9, 10] [2, 3, 4, 6, 10] ?_
 exact z.g) : G := ai w h
def tj (h : H) (w : ah G H := by
 intro z
 refine dA 0 ?_ (x := cM Cp.ptr)
 refine dA 2 ?_ (x := hP (by decide))
 exact z.g) : G := ai w h
def pV (h : H) (w : ah G H := by
 intro z
 refine rA ?_ (x := lN cX)
 refine rA ?_ (x := dZ)
 exact z.g) : G := ai w h
def Ib (h : H) (w : ah G H := by
 intro z
 refine sO [(2, _), (3, _), (4, _), (5, _), (6, _), (7, _), (8, _), (9, _), (10, _), (2920, _), (2921, _)] [(2, _), (3, _), (4, _), (6, _), (10, _), (920, (114, _ ++ ([val _] ++ _))), (921, (116, _ ++ ([val _, sl _ _, val _, val _] ++ _)))] ?_
 refine cv cd ?_
 exact z.g) : G := ai w h
def tk (h : H) (w : ah G H := by
 intro z
 refine rB ga ?_ (x := lF jW)
 refine rB ga ?_ (x := lD [sl .v _] jX)
 exact z.g) : G := ai w h
def zQ (h : H) (w : ah G H := by
 intro z
 refine rA ?_ (x := bf (ag := false) (vs := [sl _ _]) bz (by exact tI) (by exact rfl) (by exact nl rfl))
 refine ba ?_
 exact z.g) : G := ai w h
def Ic (h : H) (w : ah G H := by
 intro z
 refine sO [(2, _), (3, _), (4, _), (6, _), (7, _), (8, _), (9, _), (10, _), (11, _), (12, _), (13, _), (6200, _), (6300, _)] [(3, _), (4, _), (6, _), (8, (46, [sl _ _, val _, val _, sl _ _, sl _ _, sl _ _, sl _ _, val _])), (9, _)] ?_
 refine bi ?_
 exact z.g) : G := ai w h
def Ie (h : H) (w : ah G H := by
 intro z
 refine dA 0 ?_ (x := lF oa)
 refine dA 1 ?_ (x := dH (ms := [sl _ _]) (qs := [sl .v _]) (by decide) bz (fun _ => rfl) (by exact nl rfl) (by exact rfl) (by exact (aA ao.nil)) (by exact (ab.cons (bor_sl _) ab.nil)))
 exact z.g) : G := ai w h
def If (h : H) (w : ah G H := by
 intro z
 refine dA 6 ?_ (x := lF mM)
 refine dA 14 ?_ (x := dH (ms := [sl _ _]) (qs := [sl .v _]) (by decide) mQ (fun _ => rfl) (by exact nl rfl) (by exact rfl) (by exact (aA ao.nil)) (by exact (ab.cons (bor_sl _) ab.nil)))
 exact z.g) : G := ai w h
def tl (h : H) (w : ah G H := by
 intro z
 refine sS [0, 1, 4, 5, 6, 7, 8, 24, 5000] [0, 4, 5, 8] ?_
 refine lb ?_
 exact z.g) : G := ai w h
def ny (h : H) (w : ah G H := by
 intro z
 refine zt gc ?_
 refine rA ?_ (x := aK gc)
 exact z.g) : G := ai w h
def tm (h : H) (w : ah G H := by
 intro z
 refine dA 0 ?_ (x := lF jW)
 refine dA 1 ?_ (x := lD [val _] jX)
 exact z.g) : G := ai w h
def Ig (h : H) (w : ah G H := by
 intro z
 refine sO [(1, _), (2, _), (4, _), (5, _), (6, _), (7, _), (8, _), (9, _), (10, _), (2900, _), (6000, _)] [(2, (41, [sl (.lo _) _, val _])), (4, (41, [sl _ _, val _])), (6, (41, [val _, val _])), (900, (114, cN nX _ _))] ?_
 refine bi ?_
 exact z.g) : G := ai w h
def Ih (h : H) (w : ah G H := by
 intro z
 refine dA 0 ?_ (x := lF nY)
 refine dA 2048 ?_ (x := gH (qs := [nv _ (sl .v _)]) (by decide) gV (fun _ => rfl) (by exact nl rfl) (by exact (aq ao.nil)) (by exact (ab.cons (bor_nv (bor_sl _)) ab.nil)))
 exact z.g) : G := ai w h
def nz (h : H) (w : ah G H := by
 intro z
 refine rM ?_
 refine rA ?_ (x := dN)
 exact z.g) : G := ai w h
def tn (h : H) (w : ah G H := by
 intro z
 refine rA ?_ (x := lF mM)
 refine rA ?_ (x := lD [sl .v _] mQ)
 exact z.g) : G := ai w h
def Ii (h : H) (w : ah G H := by
 intro z
 refine dA 0 ?_ (x := lF qv)
 refine dA 128 ?_ (x := gH (qs := [val _]) (by decide) aw (fun _ => rfl) (by exact nl rfl) (by exact (ao.cons (PV.nv_to (py _)) ao.nil)) (by exact (ab.cons (bor_val _) ab.nil)))
 exact z.g) : G := ai w h
def Ij (h : H) (w : ah G H := by
 intro z
 refine dA 0 ?_ (x := lF ph)
 refine dA 512 ?_ (x := gH (qs := [val _]) (by decide) aw (fun _ => rfl) (by exact nl rfl) (by exact (ao.cons (PV.nv_to (py _)) ao.nil)) (by exact (ab.cons (bor_val _) ab.nil)))
 exact z.g) : G := ai w h
def to (h : H) (w : ah G H := by
 intro z
 refine rA ?_ (x := lF nZ)
 refine rA ?_ (x := lD [val _] aw)
 exact z.g) : G := ai w h
def Ik (h : H) (w : ah G H := by
 intro z
 refine sO [(0, _), (2, _), (3, _), (4, _), (5, _), (5000, _)] [(0, (176, [sl (.lo _) _, val _, val _])), (2, (149, [val _, val _, sl _ _, sl _ _, sl _ _])), (3, (149, [val _, val _, sl _ _, sl _ _, sl _ _]))] ?_
 refine bi ?_
 exact z.g) : G := ai w h
def Il (h : H) (w : ah G H := by
 intro z
 refine sO [(2, _), (3, _), (4, _), (5, _), (6, _), (7, _), (8, _), (9, _), (10, _), (2930, _)] [(2, _), (3, _), (4, _), (6, _), (10, (116, [val _, val _, val _, val _])), (930, (3, _ ++ ([val _] ++ _)))] ?_
 refine bi ?_
 exact z.g) : G := ai w h
def Im (h : H) (w : ah G H := by
 intro z
 refine sO [(0, _), (1, _), (4, _), (5, _), (6, _), (7, _), (10, _), (5000, _)] [(0, (176, [sl o _, val _, val _])), (4, (25, [val _, val _, sl _ _, sl _ _])), (5, (25, [val _, val _, sl _ _, sl _ _]))] ?_
 refine bi ?_
 exact z.g) : G := ai w h
def nA (h : H) (w : ah G H := by
 intro z
 refine rA ?_ (x := aK ga)
 refine rM ?_
 exact z.g) : G := ai w h
def In (h : H) (w : ah G H := by
 intro z
 refine cK (d := 6) (by exact rfl) (show _ = [sl bQ ((dQ s u).map (aO be ae)), val (vI (s.Now + 1))] from by first | (rw [hu1]; done) | (rw [hu1]; exact rfl)) ?_
 refine sP [2, 3, 4, 5, 6, 7, 8, 9, 10] [2, 3, 4, 6, 10] ?_
 refine cK (d := 10) (by exact rfl) (show _ = [val (vI u.Row.Id), sl ae ((fT s u).map an), val (vI (s.Now + 1)), val (vI (-1))] from by first | (rw [hu2]; done) | (rw [hu2]; exact rfl)) ?_
 exact z.g) : G := ai w h
def Io (h : H) (w : ah G H := by
 intro z
 refine dA 3 ?_ (x := aU (k := i) (by decide) cX (by exact tI) (by rfl) (by exact aV hlt2 (by rw [cU (d := v0) hlt2])) (by exact rfl))
 refine dA 7 ?_ (x := lE [val _, sl .v _, val _, val _] fC)
 exact z.g) : G := ai w h
def Ip (h : H) (w : ah G H := by
 intro z
 refine rA ?_ (x := lD [val _, val _, sl .v _, sl .v _] fh)
 refine rA ?_ (x := cL [(true, [val _, val _, sl _ _, sl _ _])] [(true, [val _, val _, sl .v _, sl .v _])] Br (hs := by exact BJ (by omega)))
 exact z.g) : G := ai w h
def Iq (h : H) (w : ah G H := by
 intro z
 refine sO [(0, _), (1, _), (4, _), (5, _), (6, _), (7, _), (5000, _)] [(0, (176, [sl o _, val _, val _])), (4, (25, [val _, val _, sl _ _, sl _ _])), (5, (25, [val _, val _, sl _ _, sl _ _]))] ?_
 refine bi ?_
 exact z.g) : G := ai w h
def Ir (h : H) (w : ah G H := by
 intro z
 refine ba ?_
 refine sO [(1, _), (3, _), (5, _), (7, _), (9, _), (23, _), (24, _), (25, _), (32, _), (33, _), (34, _), (66, _), (67, _), (68, _)] [(1, _), (7, _), (9, (116, [val _, sl _ _, val _, val _]))] ?_
 exact z.g) : G := ai w h
def Is (h : H) (w : ah G H := by
 intro z
 refine sT [1, 3, 5, 7, 23, 24, 25, 32, 33, 34, 66, 67, 68] [1, 7] ?_
 refine rA ?_ (x := aU (k := m) (by decide) cX (by exact tI) (by rfl) (by exact aV (by omega) (by rw [hsg])) (by exact rfl))
 exact z.g) : G := ai w h
def It (h : H) (w : ah G H := by
 intro z
 refine rB gb ?_ (x := lD [val _] aw)
 refine rB gb ?_ (x := cL [(false, [val _]), (false, [val _]), (false, [val _])] [(false, [val _]), (false, [val _]), (false, [val _])] jN (hs := by exact kb))
 exact z.g) : G := ai w h
def Iu (h : H) (w : ah G H := by
 intro z
 refine rB gc ?_ (x := lD [val _] aw)
 refine rB gc ?_ (x := cL [(false, [val _]), (false, [val _]), (false, [val _])] [(false, [val _]), (false, [val _]), (false, [val _])] jN (hs := by exact kb))
 exact z.g) : G := ai w h
def Iv (h : H) (w : ah G H := by
 intro z
 refine rB ge ?_ (x := lD [val _] aw)
 refine rB ge ?_ (x := cL [(false, [val _]), (false, [val _]), (false, [val _])] [(false, [val _]), (false, [val _]), (false, [val _])] fP (hs := by exact fV))
 exact z.g) : G := ai w h
def Iw (h : H) (w : ah G H := by
 intro z
 refine rB gd ?_ (x := lD [val _] aw)
 refine rB gd ?_ (x := cL [(false, [val _]), (false, [val _]), (false, [val _])] [(false, [val _]), (false, [val _]), (false, [val _])] fP (hs := by exact fV))
 exact z.g) : G := ai w h
def ku (h : H) (w : ah G H := by
 intro z
 refine bi ?_
 refine rM ?_
 exact z.g) : G := ai w h
def kw (h : H) (w : ah G H := by
 intro z
 refine cI ?_
 refine jH ?_
 refine rA ?_ (x := dZ)
 exact z.g) : G := ai w h
def nB (h : H) (w : ah G H := by
 intro z
 refine qT ?_
 refine rA ?_ (x := tA)
 exact z.g) : G := ai w h
def oI (h : H) (w : ah G H := by
 intro z
 refine sS [0, 2, 3] [] ?_
 refine de ?_
 refine sP [0, 2, 3, 4] [] ?_
 exact z.g) : G := ai w h
def Ix (h : H) (w : ah G H := by
 intro z
 refine rA ?_ (x := lD [val _] aw)
 refine rA ?_ (x := cL [(false, [val _]), (false, [val _]), (false, [val _])] [(false, [val _]), (false, [val _]), (false, [val _])] jN (hs := by exact kb))
 exact z.g) : G := ai w h
def Iy (h : H) (w : ah G H := by
 intro z
 refine dA 7 ?_ (x := aU (k := k) (by decide) aW (by exact tI) (by rfl) (by exact aV (by omega) (by rw [cU (d := 0) (by omega)])) (by exact rfl))
 refine dA 15 ?_ (x := lE [val _] aw)
 exact z.g) : G := ai w h
def vY (h : H) (w : ah G H := by
 intro z
 refine ba ?_
 refine sP [2, 3, 4, 5, 6, 7, 8, 9, 10] [2, 3, 4, 6, 10] ?_
 exact z.g) : G := ai w h
def Iz (h : H) (w : ah G H := by
 intro z
 refine dA 0 ?_ (x := gY (r' := RV.sv false [sl .v _]) (.inl rfl) (by decide) (by exact Cp.sv (ao.cons (PV.nv_to oC) ao.nil) (ab.cons (bor_sl _) ab.nil)))
 refine dA 0 ?_ (x := sM)
 exact z.g) : G := ai w h
def IA (h : H) (w : ah G H := by
 intro z
 refine rM ?_
 refine rA ?_ (x := dM (qs := [(false, [val _])]) (cs := [val _, sl _ _]) (by decide) iC mG Xr (by exact rfl) (by exact (aI (by exact tI) tI)) rfl (by exact rfl))
 exact z.g) : G := ai w h
def nC (h : H) (w : ah G H := by
 intro z
 refine cv cd ?_
 refine gy ?_
 exact z.g) : G := ai w h
def IB (h : H) (w : ah G H := by
 intro z
 refine dA 64 ?_ (x := lD [val _] aw)
 refine dA 255 ?_ (x := gj (k := k) (G := 2921) (by decide) cX (by exact tI) (by omega) (by first | (rw [am]; exact hk) | exact hk))
 exact z.g) : G := ai w h
def IC (h : H) (w : ah G H := by
 intro z
 refine rA ?_ (x := aU (k := k) (by decide) cX (by exact tI) (by omega) (by exact aV hk rfl) (by exact rfl))
 refine rA ?_ (x := cB (by decide) mL (by exact nl rfl))
 exact z.g) : G := ai w h
def ID (h : H) (w : ah G H := by
 intro z
 refine sS [2, 3, 4, 5, 6, 7, 8, 9, 10] [2, 3, 4, 6, 10] ?_
 refine rA ?_ (x := bm (qs := []) (by decide) aW bX (by decide) rfl rfl rfl rfl rfl (by exact nl rfl) (by exact tI) rfl)
 exact z.g) : G := ai w h
def vZ (h : H) (w : ah G H := by
 intro z
 refine rB gc ?_ (x := lF kL)
 refine rB gc ?_ (x := lD [val _] aw)
 exact z.g) : G := ai w h
def IE (h : H) (w : ah G H := by
 intro z
 refine dA 15 ?_ (x := cL [(false, [val _]), (false, [val _]), (false, [val _])] [(false, [val _]), (false, [val _]), (false, [val _])] fP (hs := by exact fV))
 refine dA 31 ?_ (x := nT)
 exact z.g) : G := ai w h
def IF (h : H) (w : ah G H := by
 intro z
 refine rB gb ?_ (x := sM)
 refine rB gb ?_ (x := cL [(false, [val _]), (false, [val _]), (false, [val _])] [(false, [val _]), (false, [val _]), (false, [val _])] fP (hs := by exact fV))
 exact z.g) : G := ai w h
def tq (h : H) (w : ah G H := by
 intro z
 refine sS [1, 2, 3] [1] ?_
 refine rA ?_ (x := lF rU)
 exact z.g) : G := ai w h
def zR (h : H) (w : ah G H := by
 intro z
 refine rA ?_ (x := ki (.inr rfl) (by decide) (lG (t := 3) (e := 1)))
 refine sT [1, 2] [1] ?_
 exact z.g) : G := ai w h
def nD (h : H) (w : ah G H := by
 intro z
 refine rA ?_ (x := tM)
 refine rM ?_
 exact z.g) : G := ai w h
def oJ (h : H) (w : ah G H := by
 intro z
 refine rM ?_
 refine rA ?_ (x := dZ)
 exact z.g) : G := ai w h
def wa (h : H) (w : ah G H := by
 intro z
 refine rX ?_ (x := (db (by decide) iC mG))
 refine ba ?_
 exact z.g) : G := ai w h
def IG (h : H) (w : ah G H := by
 intro z
 refine rA ?_ (x := cL [(false, [val _]), (false, [val _]), (false, [val _])] [(false, [val _]), (false, [val _]), (false, [val _])] fP (hs := by exact fV))
 refine rA ?_ (x := nT)
 exact z.g) : G := ai w h
def pW (h : H) (w : ah G H := by
 intro z
 refine zf gc ?_
 refine rA ?_ (x := aH gc)
 exact z.g) : G := ai w h
def pX (h : H) (w : ah G H := by
 intro z
 refine zt g3 ?_
 refine rA ?_ (x := aK g3)
 exact z.g) : G := ai w h
def zS (h : H) (w : ah G H := by
 intro z
 refine sG [1, 2, 4, 5, 6, 7, 8, 9, 10, 11, 12, 13, 2900, 6000] [2, 4, 6, 11, 900] ?_
 refine ca ?_
 exact z.g) : G := ai w h
def IH (h : H) (w : ah G H := by
 intro z
 refine rA ?_ (x := cL [(true, [val _, val _, sl _ _, sl _ _, sl _ _])] [(true, [val _, val _, sl .v _, sl .v _, sl .v _])] KT (hs := by exact LK))
 refine rA ?_ (x := nT)
 exact z.g) : G := ai w h
def II (h : H) (w : ah G H := by
 intro z
 refine rX ?_ (x := (db (by decide) xk xn))
 refine rA ?_ (x := bf (ag := true) (vs := [sl _ _, sl _ _]) rV (by exact tI) (by exact rfl) (by exact nl rfl))
 exact z.g) : G := ai w h
def IJ (h : H) (w : ah G H := by
 intro z
 refine sP [0, 1, 4, 5, 6, 7, 8, 24, 5000] [0, 4, 5, 8] ?_
 refine sB (c := 8) (AI := []) cd rfl rfl rfl rfl (by kernel_rfl) (fun j L h => nomatch h) (fun j L h => nomatch h) ?_
 exact z.g) : G := ai w h
def IK (h : H) (w : ah G H := by
 intro z
 refine sP [0, 1, 4, 5, 6, 7, 8, 24, 5000] [0, 4, 5, 8] ?_
 refine sB (c := 5) (AI := []) cd rfl rfl rfl rfl (by kernel_rfl) (fun j L h => nomatch h) (fun j L h => nomatch h) ?_
 exact z.g) : G := ai w h
def IL (h : H) (w : ah G H := by
 intro z
 refine sP [0, 1, 4, 5, 6, 7, 8, 24, 5000] [0, 4, 5, 8] ?_
 refine sB (c := 3) (AI := []) cd rfl rfl rfl rfl (by kernel_rfl) (fun j L h => nomatch h) (fun j L h => nomatch h) ?_
 exact z.g) : G := ai w h
def kx (h : H) (w : ah G H := by
 intro z
 refine pN ?_
 refine rM ?_
 exact z.g) : G := ai w h
def wc (h : H) (w : ah G H := by
 intro z
 refine rA ?_ (x := lF ob)
 refine rA ?_ (x := lD [sl .v _] oe)
 exact z.g) : G := ai w h
def wd (h : H) (w : ah G H := by
 intro z
 refine rX ?_ (x := (db (by decide) pj pn))
 refine eD ?_
 exact z.g) : G := ai w h
def IM (h : H) (w : ah G H := by
 intro z
 refine rA ?_ (x := lD [sl (.lo _) _, val _] cF)
 refine rA ?_ (x := cL [(true, [sl (.lo _) _, val _])] [(true, [sl .v _, val _])] Bq (hs := by exact (BM (by omega))))
 exact z.g) : G := ai w h
def IN (h : H) (w : ah G H := by
 intro z
 refine sS [0, 1, 4, 5] [4] ?_
 refine rA ?_ (x := dM (qs := []) (cs := [sl _ _, val _]) (by decide) og oi Xs (by exact rfl) (by exact tI) rfl (by exact rfl))
 exact z.g) : G := ai w h
def rc (h : H) (w : ah G H := by
 intro z
 refine cv cd ?_
 refine dA 0 ?_ (x := sM)
 exact z.g) : G := ai w h
def IP (h : H) (w : ah G H := by
 intro z
 refine rA ?_ (x := lD [sl (.lo _) _, val _] cF)
 refine rA ?_ (x := cL [(true, [sl (.lo _) _, val _])] [(true, [sl .v _, val _])] Lg (hs := by exact LF (by omega)))
 exact z.g) : G := ai w h
def tt (h : H) (w : ah G H := by
 intro z
 refine rA ?_ (x := lN fQ)
 refine rA ?_ (x := dZ)
 exact z.g) : G := ai w h
def IQ (h : H) (w : ah G H := by
 intro z
 refine dA 511 ?_ (x := lF kL)
 refine dA 1023 ?_ (x := kX (o := 3) (ag := false) (vs := [val _]) (by omega) aw (by exact tI) (by exact rfl) (by exact nl rfl))
 exact z.g) : G := ai w h
def pY (h : H) (w : ah G H := by
 intro z
 refine bc ?_
 refine sG [0, 3] [] ?_
 exact z.g) : G := ai w h
def tu (h : H) (w : ah G H := by
 intro z
 refine bE ?_
 refine sS [0, 3] [] ?_
 exact z.g) : G := ai w h
def IR (h : H) (w : ah G H := by
 intro z
 refine dA 3 ?_ (x := lD [val _] aw)
 refine dA 0 ?_ (x := bm (qs := []) (by decide) aW bX (by decide) rfl rfl rfl rfl rfl (by exact nl rfl) (by exact tI) rfl)
 exact z.g) : G := ai w h
def we (h : H) (w : ah G H := by
 intro z
 refine sR ?_
 refine rX ?_ (x := (db (by decide) og oi))
 exact z.g) : G := ai w h
def wg (h : H) (w : ah G H := by
 intro z
 refine rA ?_ (x := lF kL)
 refine rA ?_ (x := lD [val _] aw)
 exact z.g) : G := ai w h
def oK (h : H) (w : ah G H := by
 intro z
 refine cv cd ?_
 refine dA 0 ?_ (x := cM Cp.ptr)
 refine dA 1 ?_ (x := hP (by decide))
 exact z.g) : G := ai w h
def zT (h : H) (w : ah G H := by
 intro z
 refine sR ?_
 refine rA ?_ (x := ki (.inr rfl) (by decide) (lG (t := 27) (e := 2)))
 exact z.g) : G := ai w h
def jK (h : H) (w : ah G H := by
 intro z
 refine sR ?_
 refine rK ?_
 exact z.g) : G := ai w h
def wh (h : H) (w : ah G H := by
 intro z
 refine dA 255 ?_ (x := dN)
 refine dA 511 ?_ (x := dN)
 exact z.g) : G := ai w h
def IS (h : H) (w : ah G H := by
 intro z
 refine rX ?_ (x := (fY (ag := true) (cs := [val _, val _, sl _ _, sl _ _, val _, sl _ _, val _, val _, val _, sl _ _]) (by decide) (by exact tI)))
 refine rK ?_
 exact z.g) : G := ai w h
def IT (h : H) (w : ah G H := by
 intro z
 refine rA ?_ (x := lD [sl .v _, val _] cF)
 refine rA ?_ (x := cL [(true, [sl _ _, val _])] [(true, [sl .v _, val _])] TC (hs := by exact Uo (by omega)))
 exact z.g) : G := ai w h
def IU (h : H) (w : ah G H := by
 intro z
 refine rA ?_ (x := aU (k := i) (by decide) fj (by exact tI) (by omega) (by exact aV hi rfl) (by exact rfl))
 refine rA ?_ (x := lE [sl .v _] iP)
 exact z.g) : G := ai w h
def pZ (h : H) (w : ah G H := by
 intro z
 refine rM ?_
 refine rA ?_ (x := fb)
 exact z.g) : G := ai w h
def IV (h : H) (w : ah G H := by
 intro z
 refine dO ?_
 refine sO [(2, _), (3, _), (4, _), (5, _), (6, _), (7, _), (8, _), (9, _), (10, _)] [(2, _), (3, _), (4, _), (6, (41, [sl _ _, val _])), (10, _)] ?_
 exact z.g) : G := ai w h
def wi (h : H) (w : ah G H := by
 intro z
 refine sS [0, 3, 4, 5, 6, 29, 5000] [0, 3, 4] ?_
 refine lb ?_
 exact z.g) : G := ai w h
def IW (h : H) (w : ah G H := by
 intro z
 refine rA ?_ (x := vM false [sl .v _])
 refine rA ?_ (x := cL [(false, [sl _ _])] [(false, [sl .v _])] TE (hs := by exact (Yt (by omega) (by omega))))
 exact z.g) : G := ai w h
def IX (h : H) (w : ah G H := by
 intro z
 refine dA 1 ?_ (x := lD [val _] aw)
 refine dA 3 ?_ (x := gL [(false, [val _])] [(false, [val _])] iM (hs := by exact (iQ (by unfold aQ; omega))))
 exact z.g) : G := ai w h
def IY (h : H) (w : ah G H := by
 intro z
 refine dA 1 ?_ (x := lD [val _] aw)
 refine dA 3 ?_ (x := cL [(false, [val _])] [(false, [val _])] kJ (hs := by exact (kP (by unfold aQ; omega))))
 exact z.g) : G := ai w h
def IZ (h : H) (w : ah G H := by
 intro z
 refine dA 131071 ?_ (x := lF mM)
 refine dA 262143 ?_ (x := bf (ag := false) (vs := [sl _ _]) mQ (by exact tI) (by exact rfl) (by exact nl rfl))
 exact z.g) : G := ai w h
def Ja (h : H) (w : ah G H := by
 intro z
 refine dA 1023 ?_ (x := dM (qs := [(false, [val _]), (false, [sl _ _]), (false, [val _]), (false, [val _])]) (cs := [val _, sl _ _, val _, val _]) (by decide) fU pm Vh (by exact rfl) (by exact (aI (by exact tI) (aI (by exact tI) (aI (by exact tI) (aI (aJ rfl) tI))))) rfl (by exact rfl))
 refine bv.step 0 (by exact tI) (by exact tI) (bK.of rfl (db (by decide) fU pm)) (pB (cJ.of_ rfl)) (by kernel_rfl) ?_
 refine dA 4095 ?_ (x := bf (ag := true) (vs := [val _, sl _ _, val _, val _]) fC (by exact tI) (by exact rfl) (by exact nl rfl))
 exact z.g) : G := ai w h
def nE (h : H) (w : ah G H := by
 intro z
 refine zl ?_
 refine ba ?_
 exact z.g) : G := ai w h
def Jb (h : H) (w : ah G H := by
 intro z
 refine rA ?_ (x := lD [val _, sl .v _] gB)
 refine rA ?_ (x := cL [(true, [val _, sl _ _])] [(true, [val _, sl .v _])] AK (hs := by exact BE))
 exact z.g) : G := ai w h
def Jc (h : H) (w : ah G H := by
 intro z
 refine rA ?_ (x := bf (ag := true) (vs := [val _, val _, sl _ _, sl _ _]) fh (by exact tI) (by exact rfl) (by exact nl rfl))
 refine ba ?_
 exact z.g) : G := ai w h
def Jd (h : H) (w : ah G H := by
 intro z
 refine dA 0 ?_ (x := sM)
 refine dA 7 ?_ (x := aU (by decide) gP (by exact tI) (by exact rfl) (by exact aV (by omega) rfl) (by exact rfl))
 exact z.g) : G := ai w h
def Je (h : H) (w : ah G H := by
 intro z
 refine rA ?_ (x := lD [val _, sl .v _] gB)
 refine rA ?_ (x := cL [(true, [val _, sl _ _])] [(true, [val _, sl .v _])] tS (hs := by exact uk))
 exact z.g) : G := ai w h
def wj (h : H) (w : ah G H := by
 intro z
 refine rB ga ?_ (x := lN fj)
 refine rB ga ?_ (x := gw)
 exact z.g) : G := ai w h
def Jf (h : H) (w : ah G H := by
 intro z
 refine rA ?_ (x := lF fB)
 refine rA ?_ (x := bf (ag := true) (vs := [sl _ _, val _]) cF (by exact tI) (by exact rfl) (by exact nl rfl))
 exact z.g) : G := ai w h
def tv (h : H) (w : ah G H := by
 intro z
 refine sQ [1, 2] [1, 2] ?_
 refine cv cd ?_
 exact z.g) : G := ai w h
def lO (h : H) (w : ah G H := by
 intro z
 refine vD ?_
 refine rM ?_
 exact z.g) : G := ai w h
def re (h : H) (w : ah G H := by
 intro z
 refine sS [1, 2, 3] [1] ?_
 refine de ?_
 refine sP [1, 2, 3, 4] [1] ?_
 exact z.g) : G := ai w h
def rf (h : H) (w : ah G H := by
 intro z
 refine dF 1023 gb ?_
 refine dF 1023 gb ?_
 exact z.g) : G := ai w h
def rg (h : H) (w : ah G H := by
 intro z
 refine sS [0, 2, 3, 4] [] ?_
 refine rM ?_
 exact z.g) : G := ai w h
def Jg (h : H) (w : ah G H := by
 intro z
 refine sO [(1, _), (2, _), (3, _), (4, _)] [(1, _), (2, _), (4, (46, [sl _ _, val _, val _, sl _ _, sl _ _, sl _ _, sl _ _, val _]))] ?_
 refine bi ?_
 exact z.g) : G := ai w h
def Jh (h : H) (w : ah G H := by
 intro z
 refine rA ?_ (x := bm (qs := []) (by decide) ma lS (by decide) rfl rfl rfl rfl rfl (by exact nl rfl) (by exact tI) rfl)
 refine jJ ?_
 exact z.g) : G := ai w h
def Ji (h : H) (w : ah G H := by
 intro z
 refine sO [(2, _), (3, _), (4, _), (5, _), (6, _), (7, _), (8, _), (9, _)] [(2, _), (3, _), (4, _), (6, (41, [sl _ _, val _]))] ?_
 refine cv cd ?_
 exact z.g) : G := ai w h
def Jj (h : H) (w : ah G H := by
 intro z
 refine rA ?_ (x := bm (qs := []) (by decide) ct jl (by decide) rfl rfl rfl rfl rfl (by exact nl rfl) (by exact tI) rfl)
 refine jJ ?_
 exact z.g) : G := ai w h
def Jk (h : H) (w : ah G H := by
 intro z
 refine rA ?_ (x := gL [(false, [val _])] [(false, [val _])] iM (hs := by exact (iQ (by unfold aQ; omega))))
 refine rA ?_ (x := dN)
 exact z.g) : G := ai w h
def Jl (h : H) (w : ah G H := by
 intro z
 refine rA ?_ (x := bm (qs := []) (by decide) aW bX (by decide) rfl rfl rfl rfl rfl (by exact nl rfl) (by exact tI) rfl)
 refine rA ?_ (x := vM false [sl .v _])
 refine rA ?_ (x := iW (by decide) aW bX rfl rfl (by decide) (by first | (intro cs hcs; obtain ⟨x, _, rfl⟩ := List.mem_map.1 hcs; exact rfl) | simp) (by first | (intro cs hcs; obtain ⟨x, _, rfl⟩ := List.mem_map.1 hcs; exact (ab.cons (bor_val _) ab.nil)) | simp) (by simp only [am, aD, List.length_cons, List.length_nil]; omega) (by simp only [am, aD, List.length_cons, List.length_nil]; omega))
 exact z.g) : G := ai w h
def rh (h : H) (w : ah G H := by
 intro z
 refine cI ?_
 refine rA ?_ (x := dZ)
 exact z.g) : G := ai w h
def Jm (h : H) (w : ah G H := by
 intro z
 refine rA ?_ (x := lF ia)
 refine rA ?_ (x := bf (ag := false) (vs := [sl _ _]) bz (by exact tI) (by exact rfl) (by exact nl rfl))
 exact z.g) : G := ai w h
def ri (h : H) (w : ah G H := by
 intro z
 refine cI ?_
 refine rA ?_ (x := dC)
 exact z.g) : G := ai w h
def rj (h : H) (w : ah G H := by
 intro z
 refine oG ?_
 refine rA ?_ (x := dZ)
 exact z.g) : G := ai w h
def mz (h : H) (w : ah G H := by
 intro z
 refine vD ?_
 refine cO ?_
 exact z.g) : G := ai w h
def Jn (h : H) (w : ah G H := by
 intro z
 refine rA ?_ (x := lD [sl .v _] gV)
 refine rA ?_ (x := cL [(false, [sl _ _])] [(false, [sl .v _])] SZ (hs := by exact Uf (by omega)))
 exact z.g) : G := ai w h
def Jo (h : H) (w : ah G H := by
 intro z
 refine rA ?_ (x := lF ph)
 refine rA ?_ (x := bf (ag := false) (vs := [val _]) aw (by exact tI) (by exact rfl) (by exact nl rfl))
 exact z.g) : G := ai w h
def Jp (h : H) (w : ah G H := by
 intro z
 refine rA ?_ (x := lF kN)
 refine rA ?_ (x := bf (ag := false) (vs := [val _]) aw (by exact tI) (by exact rfl) (by exact nl rfl))
 exact z.g) : G := ai w h
def Jq (h : H) (w : ah G H := by
 intro z
 refine rA ?_ (x := lF mN)
 refine rA ?_ (x := bf (ag := false) (vs := [val _]) aw (by exact tI) (by exact rfl) (by exact nl rfl))
 exact z.g) : G := ai w h
def Jr (h : H) (w : ah G H := by
 intro z
 refine sR ?_
 refine rX ?_ (x := (fY (ag := true) (cs := [val _, val _, sl _ _, sl _ _, val _, val _, sl _ _]) (by decide) (by exact tI)))
 exact z.g) : G := ai w h
def tw (h : H) (w : ah G H := by
 intro z
 refine cv cd ?_
 refine dA 0 ?_ (x := tM)
 exact z.g) : G := ai w h
def Js (h : H) (w : ah G H := by
 intro z
 refine rA ?_ (x := bf (ag := true) (vs := [sl _ _, sl _ _]) rV (by exact tI) (by exact rfl) (by exact nl rfl))
 refine dc ?_
 exact z.g) : G := ai w h
def Jt (h : H) (w : ah G H := by
 intro z
 refine rA ?_ (x := lF qw)
 refine rA ?_ (x := bf (ag := false) (vs := [val _]) aw (aJ rfl) (by exact rfl) (by exact nl rfl))
 exact z.g) : G := ai w h
def mA (h : H) (w : ah G H := by
 intro z
 refine zm ?_
 refine rM ?_
 exact z.g) : G := ai w h
def wk (h : H) (w : ah G H := by
 intro z
 refine rA ?_ (x := lN ma)
 refine rA ?_ (x := dZ)
 exact z.g) : G := ai w h
def rm (h : H) (w : ah G H := by
 intro z
 refine rA ?_ (x := gw)
 refine rS ?_
 exact z.g) : G := ai w h
def tx (h : H) (w : ah G H := by
 intro z
 refine rA ?_ (x := cM Cp.ptr)
 refine la ?_
 exact z.g) : G := ai w h
def zU (h : H) (w : ah G H := by
 intro z
 refine rB ga ?_ (x := lF ia)
 refine rB ga ?_ (x := lD [sl .v _] bz)
 exact z.g) : G := ai w h
def wl (h : H) (w : ah G H := by
 intro z
 refine rA ?_ (x := lN ij)
 refine rA ?_ (x := dZ)
 exact z.g) : G := ai w h
def zV (h : H) (w : ah G H := by
 intro z
 refine dB 2097151 gb ?_ (x := ir)
 refine dB 4194303 ga ?_ (x := aK gb)
 exact z.g) : G := ai w h
def zW (h : H) (w : ah G H := by
 intro z
 refine dA 96 ?_ (x := lF eQ)
 refine dA 224 ?_ (x := lD [val _] eG)
 exact z.g) : G := ai w h
def Ju (h : H) (w : ah G H := by
 intro z
 refine dB 1023 gb ?_ (x := lD [sl .v _, val _, val _, sl .v _, sl .v _, sl .v _, sl .v _, val _] co)
 refine dB 1023 gb ?_ (x := sM)
 exact z.g) : G := ai w h
def tz (h : H) (w : ah G H := by
 intro z
 refine bw ?_
 refine sG [0, 2, 3, 4] [] ?_
 exact z.g) : G := ai w h
def tB (h : H) (w : ah G H := by
 intro z
 refine sG [0, 2, 3, 4] [] ?_
 refine ca ?_
 exact z.g) : G := ai w h
def rn (h : H) (w : ah G H := by
 intro z
 refine sS [0, 3] [] ?_
 refine cC ?_
 exact z.g) : G := ai w h
def zX (h : H) (w : ah G H := by
 intro z
 refine rB gb ?_ (x := lF kL)
 refine rB gb ?_ (x := lD [val _] aw)
 exact z.g) : G := ai w h
def zY (h : H) (w : ah G H := by
 intro z
 refine rB ga ?_ (x := lF fG)
 refine rB ga ?_ (x := lD [val _] aw)
 exact z.g) : G := ai w h
def zZ (h : H) (w : ah G H := by
 intro z
 refine dB 4194303 ga ?_ (x := aH gb)
 refine dA 8388607 ?_ (x := aH ga)
 exact z.g) : G := ai w h
def Aa (h : H) (w : ah G H := by
 intro z
 refine rB ga ?_ (x := lD [val _] aw)
 refine rB ga ?_ (x := lF fB)
 exact z.g) : G := ai w h
def tC (h : H) (w : ah G H := by
 intro z
 refine zt gb ?_
 refine rA ?_ (x := aK gb)
 exact z.g) : G := ai w h
def tD (h : H) (w : ah G H := by
 intro z
 refine zt g6 ?_
 refine rA ?_ (x := aK g6)
 exact z.g) : G := ai w h
def Ab (h : H) (w : ah G H := by
 intro z
 refine sG [0, 2, 3, 7, 5000] [0, 2, 3] ?_
 refine rA ?_ (x := cM Cp.ptr)
 exact z.g) : G := ai w h
def Ac (h : H) (w : ah G H := by
 intro z
 refine dA 3 ?_ (x := lF eQ)
 refine dA 7 ?_ (x := lD [val _] eG)
 exact z.g) : G := ai w h
def Jv (h : H) (w : ah G H := by
 intro z
 refine rA ?_ (x := yt (by decide) (by exact tI) (by exact tI) (by omega))
 refine rA ?_ (x := hP (by decide))
 exact z.g) : G := ai w h
def tE (h : H) (w : ah G H := by
 intro z
 refine rK ?_
 refine sT [1, 2] [1] ?_
 exact z.g) : G := ai w h
def wm (h : H) (w : ah G H := by
 intro z
 refine rA ?_ (x := lD [sl .v _] bz)
 refine rM ?_
 exact z.g) : G := ai w h
def Jw (h : H) (w : ah G H := by
 intro z
 refine sO [(0, _), (1, _), (4, _), (5, _), (6, _), (7, _), (5000, _)] [(0, (176, [sl o _, val _, val _]))] ?_
 refine bi ?_
 exact z.g) : G := ai w h
def nF (h : H) (w : ah G H := by
 intro z
 refine vt ?_
 refine rS ?_
 exact z.g) : G := ai w h
def tF (h : H) (w : ah G H := by
 intro z
 refine de ?_
 refine sP [1, 2, 3] [1] ?_
 exact z.g) : G := ai w h
def tG (h : H) (w : ah G H := by
 intro z
 refine bc ?_
 refine sG [1, 3] [1] ?_
 exact z.g) : G := ai w h
def Ad (h : H) (w : ah G H := by
 intro z
 refine rA ?_ (x := lF kE)
 refine rA ?_ (x := lD [sl .v _] jc)
 exact z.g) : G := ai w h
def Jx (h : H) (w : ah G H := by
 intro z
 refine vU ?_
 refine rX ?_ (x := (fY (ag := true) (cs := [val _, sl _ _, val _, val _]) (by decide) (by exact tI)))
 exact z.g) : G := ai w h
def oL (h : H) (w : ah G H := by
 intro z
 refine qU ?_
 refine rA ?_ (x := lN ct)
 refine rA ?_ (x := dZ)
 exact z.g) : G := ai w h
def Ae (h : H) (w : ah G H := by
 intro z
 refine dA 16383 ?_ (x := dN)
 refine dA 32767 ?_ (x := dN)
 exact z.g) : G := ai w h
def oM (h : H) (w : ah G H := by
 intro z
 refine sU ?_
 refine cC ?_
 exact z.g) : G := ai w h
def ro (h : H) (w : ah G H := by
 intro z
 refine dU 1023 ?_
 refine dU 1023 ?_
 exact z.g) : G := ai w h
def Af (h : H) (w : ah G H := by
 intro z
 refine rB gb ?_ (x := lD [val _] aw)
 refine rB gb ?_ (x := ir)
 exact z.g) : G := ai w h
def wn (h : H) (w : ah G H := by
 intro z
 refine bE ?_
 refine sS [0, 1, 4, 5, 6] [] ?_
 exact z.g) : G := ai w h
def Ag (h : H) (w : ah G H := by
 intro z
 refine rA ?_ (x := lF jW)
 refine rA ?_ (x := lD [val _] jX)
 exact z.g) : G := ai w h
def Ah (h : H) (w : ah G H := by
 intro z
 refine sR ?_
 refine rX ?_ (x := (db (by decide) pj pn))
 exact z.g) : G := ai w h
def Ai (h : H) (w : ah G H := by
 intro z
 refine sS [0, 2, 7000] [] ?_
 refine rA ?_ (x := vM false [sl .v _])
 exact z.g) : G := ai w h
def Jy (h : H) (w : ah G H := by
 intro z
 refine cv cd ?_
 refine dA 0 ?_ (x := lD [sl .v _, val _, val _, sl .v _, sl .v _, sl .v _, sl .v _, val _] co)
 exact z.g) : G := ai w h
def Jz (h : H) (w : ah G H := by
 intro z
 refine rX ?_ (x := (fY (ag := true) (cs := [val _, val _, val _]) (by decide) (by exact tI)))
 refine tE ?_
 exact z.g) : G := ai w h
def tH (h : H) (w : ah G H := by
 intro z
 refine rA ?_ (x := aK gd)
 refine rM ?_
 exact z.g) : G := ai w h
def tJ (h : H) (w : ah G H := by
 intro z
 refine rA ?_ (x := aH gd)
 refine rM ?_
 exact z.g) : G := ai w h
def wo (h : H) (w : ah G H := by
 intro z
 refine bE ?_
 refine sT [1, 2, 3, 4] [1] ?_
 exact z.g) : G := ai w h
def qa (h : H) (w : ah G H := by
 intro z
 refine zt gb ?_
 refine oH ?_
 exact z.g) : G := ai w h
def JA (h : H) (w : ah G H := by
 intro z
 refine sR ?_
 refine rX ?_ (x := (fY (ag := true) (cs := [sl (.lo _) _, val _]) (by decide) (by exact tI)))
 exact z.g) : G := ai w h
def tK (h : H) (w : ah G H := by
 intro z
 refine eA ?_
 refine sS [1, 2] [1] ?_
 exact z.g) : G := ai w h
def Aj (h : H) (w : ah G H := by
 intro z
 refine sS [0, 2, 3, 4, 5, 49, 5000] [0, 2, 3] ?_
 refine lb ?_
 exact z.g) : G := ai w h
def wq (h : H) (w : ah G H := by
 intro z
 refine bw ?_
 refine sS [0, 1, 4, 5, 6] [] ?_
 exact z.g) : G := ai w h
def wt (h : H) (w : ah G H := by
 intro z
 refine rA ?_ (x := lF ls)
 refine kZ ?_
 exact z.g) : G := ai w h
def Ak (h : H) (w : ah G H := by
 intro z
 refine dB 127 ga ?_ (x := sM)
 refine dB 255 ga ?_ (x := dC)
 exact z.g) : G := ai w h
def qb (h : H) (w : ah G H := by
 intro z
 refine jI ?_
 refine vt ?_
 exact z.g) : G := ai w h
def wu (h : H) (w : ah G H := by
 intro z
 refine rA ?_ (x := lF oT)
 refine kZ ?_
 exact z.g) : G := ai w h
def Al (h : H) (w : ah G H := by
 intro z
 refine rA ?_ (x := lF oU)
 refine rA ?_ (x := lF jO)
 exact z.g) : G := ai w h
def qc (h : H) (w : ah G H := by
 intro z
 refine qU ?_
 refine Hp ?_
 exact z.g) : G := ai w h
def Am (h : H) (w : ah G H := by
 intro z
 refine rB ga ?_ (x := lN aW)
 refine rB ga ?_ (x := fb)
 exact z.g) : G := ai w h
def wv (h : H) (w : ah G H := by
 intro z
 refine zf g10 ?_
 refine rA ?_ (x := aH g10)
 exact z.g) : G := ai w h
def ww (h : H) (w : ah G H := by
 intro z
 refine sG [1, 2, 3, 4] [1] ?_
 refine ca ?_
 exact z.g) : G := ai w h
def JB (h : H) (w : ah G H := by
 intro z
 refine ba ?_
 refine sP [0, 1, 5, 6, 7, 8, 9, 10, 11, 12, 13, 14, 15, 2900, 5000] [0, 6, 8, 13, 900] ?_
 exact z.g) : G := ai w h
def JC (h : H) (w : ah G H := by
 intro z
 refine rA ?_ (x := cB (by decide) rT (by exact nl rfl))
 refine rA ?_ (x := lE [val _] aw)
 exact z.g) : G := ai w h
def qd (h : H) (w : ah G H := by
 intro z
 refine pN ?_
 refine eJ ?_
 exact z.g) : G := ai w h
def rp (h : H) (w : ah G H := by
 intro z
 refine bi ?_
 refine ca ?_
 exact z.g) : G := ai w h
def wx (h : H) (w : ah G H := by
 intro z
 refine de ?_
 refine sP [0, 1, 4, 5] [] ?_
 exact z.g) : G := ai w h
def wy (h : H) (w : ah G H := by
 intro z
 refine bc ?_
 refine sG [0, 1, 5] [] ?_
 exact z.g) : G := ai w h
def wz (h : H) (w : ah G H := by
 intro z
 refine bE ?_
 refine sS [0, 1, 5] [] ?_
 exact z.g) : G := ai w h
def wB (h : H) (w : ah G H := by
 intro z
 refine sS [0, 1, 4, 5] [] ?_
 refine de ?_
 refine sP [0, 1, 4, 5, 6] [] ?_
 exact z.g) : G := ai w h
def An (h : H) (w : ah G H := by
 intro z
 refine dT 4194303 ga ?_
 refine dA 8388607 ?_ (x := aK ga)
 exact z.g) : G := ai w h
def rq (h : H) (w : ah G H := by
 intro z
 refine bi ?_
 refine de ?_
 exact z.g) : G := ai w h
def JD (h : H) (w : ah G H := by
 intro z
 refine ba ?_
 refine sO [(0, _), (1, _), (4, _), (5000, _)] [(0, (176, [sl o _, val _, val _]))] ?_
 exact z.g) : G := ai w h
def Ao (h : H) (w : ah G H := by
 intro z
 refine ti ?_
 refine rA ?_ (x := hP (by decide))
 exact z.g) : G := ai w h
def tL (h : H) (w : ah G H := by
 intro z
 refine dU 4095 ?_
 refine dU 8191 ?_
 exact z.g) : G := ai w h
def JE (h : H) (w : ah G H := by
 intro z
 refine lM ?_
 refine sO [(0, _), (1, _), (4, _), (5000, _)] [(0, (176, [sl o _, val _, val _]))] ?_
 exact z.g) : G := ai w h
def Ap (h : H) (w : ah G H := by
 intro z
 refine sG [0, 2, 3, 9, 5000] [0, 2, 3] ?_
 refine zo ?_
 exact z.g) : G := ai w h
def Aq (h : H) (w : ah G H := by
 intro z
 refine rB gc ?_ (x := aK gd)
 refine rA ?_ (x := aH gc)
 exact z.g) : G := ai w h
def Ar (h : H) (w : ah G H := by
 intro z
 refine rB gc ?_ (x := aH gd)
 refine rA ?_ (x := aH gc)
 exact z.g) : G := ai w h
def As (h : H) (w : ah G H := by
 intro z
 refine bi ?_
 refine rA ?_ (x := vM false [sl .v _])
 exact z.g) : G := ai w h
def wC (h : H) (w : ah G H := by
 intro z
 refine bE ?_
 refine sT [1, 3] [1] ?_
 exact z.g) : G := ai w h
def qe (h : H) (w : ah G H := by
 intro z
 refine oF ?_
 refine rM ?_
 exact z.g) : G := ai w h
def wD (h : H) (w : ah G H := by
 intro z
 refine zq ?_
 refine rA ?_ (x := aH ga)
 exact z.g) : G := ai w h
def wE (h : H) (w : ah G H := by
 intro z
 refine bc ?_
 refine sS [1, 2] [1] ?_
 exact z.g) : G := ai w h
def At (h : H) (w : ah G H := by
 intro z
 refine cv cd ?_
 refine dA 0 ?_ (x := lF oa)
 exact z.g) : G := ai w h
def Au (h : H) (w : ah G H := by
 intro z
 refine rA ?_ (x := lN fQ)
 refine rA ?_ (x := ir)
 exact z.g) : G := ai w h
def Av (h : H) (w : ah G H := by
 intro z
 refine cv cd ?_
 refine dA 0 ?_ (x := lF kE)
 exact z.g) : G := ai w h
def Aw (h : H) (w : ah G H := by
 intro z
 refine rB gc ?_ (x := gJ)
 refine rB gc ?_ (x := sM)
 exact z.g) : G := ai w h
def Ax (h : H) (w : ah G H := by
 intro z
 refine rB gb ?_ (x := sM)
 refine rB gb ?_ (x := dC)
 exact z.g) : G := ai w h
def wF (h : H) (w : ah G H := by
 intro z
 refine lM ?_
 refine sS [0, 1, 4] [] ?_
 exact z.g) : G := ai w h
def wG (h : H) (w : ah G H := by
 intro z
 refine rB gb ?_ (x := nT)
 refine rA ?_ (x := aH gb)
 refine rM ?_
 exact z.g) : G := ai w h
def JF (h : H) (w : ah G H := by
 intro z
 refine sR ?_
 refine rA ?_ (x := ki (.inr rfl) (by decide) (lG (t := 149) (e := 5)))
 exact z.g) : G := ai w h
def JG (h : H) (w : ah G H := by
 intro z
 refine zip ?_
 refine rA ?_ (x := ki (.inr rfl) (by decide) (lG (t := 9) (e := 1)))
 exact z.g) : G := ai w h
def rr (h : H) (w : ah G H := by
 intro z
 refine lM ?_
 refine sS [0, 2] [] ?_
 refine de ?_
 refine sP [0, 2, 3] [] ?_
 exact z.g) : G := ai w h
def Ay (h : H) (w : ah G H := by
 intro z
 refine tu ?_
 refine rA ?_ (x := vM false [sl .v _])
 exact z.g) : G := ai w h
def Az (h : H) (w : ah G H := by
 intro z
 refine cv cd ?_
 refine dA 0 ?_ (x := cM Cp.ptr)
 exact z.g) : G := ai w h
end Go.Proofs.YtmekkgdboplbjaaGreatDoor.M
