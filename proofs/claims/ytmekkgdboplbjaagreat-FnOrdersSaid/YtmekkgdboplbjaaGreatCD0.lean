/- Short names for what the printed proofs say often. No condition. -/
import Derived.Test.YtmekkgdboplbjaaGreatCC0
set_option linter.unusedVariables false
namespace Go.Proofs.YtmekkgdboplbjaaGreat.M
open Go Go.RowKit
variable {G H : Prop}
theorem wF (h : G := by
 refine cK ?_
 exact rb (by simp [aB, *])) : G := h
theorem BX (h : G := by
 refine sR ?_
 refine rK ?_
 refine sS [0, 1, 2, 6] [] ?_
 refine ku ?_
 refine rA ?_ (x := gH)
 refine rM ?_
 refine cx 10 (fun ga sga => ?_) (fun ga sga => ?_)
 refine rB ga ?_ (x := sM)
 refine rB ga ?_ (x := sM)
 refine rB ga ?_ (x := eR)
 refine rA ?_ (x := aA ga)
 exact wF
 refine lg ?_
 exact wF) : G := h
theorem BY (h : G := by
 refine bD ?_
 exact rb ((ny (P := fun y => y == x) hlt (by simpa using ‹_ = x›)).symm)) : G := h
theorem BZ (h : G := by
 refine nx (k + 1) (by exact ⟨by omega, pd ha ‹_› (by simpa using ‹¬ _›)⟩)) : G := h
theorem B0 (h : G := by
 refine bD ?_
 exact rb (by exact (Im (by rw [show xs.length = k by omega]; exact ha)).symm)) : G := h
theorem qi (h : G := by
 refine bY ?_
 exact (aI (by exact rfl) tI)) : G := h
theorem B3 (h : G := by
 refine bD ?_
 exact rb (by simp [bm, Ir, jK (P := gL) hlt hno])) : G := h
theorem B4 (h : G := by
 refine nx (k + 1) (by exact ⟨by omega, yB ha hlt hyes⟩)) : G := h
theorem qj (h : G := by
 refine b5 ?_
 exact B4) : G := h
theorem wG (h : G := by
 refine cK ?_
 exact rb (by simp [bm, Ir, hall, *])) : G := h
theorem B5 (h : G := by
 refine qM ?_
 refine rB ga ?_ (x := lN a3)
 refine nb ?_
 exact wG) : G := h
theorem mR (h : G := by
 refine bF ?_
 exact B4) : G := h
theorem B6 (h : G := by
 refine cK ?_
 exact rb (by simp [jL, *])) : G := h
theorem B7 (h : G := by
 refine bY ?_
 exact (Exists.intro 2 (Exists.intro _ (aI (by exact rfl) (aI (by exact rfl) (aI ew (aI (fun h => nomatch h) tI))))))) : G := h
theorem B8 (h : G := by
 refine dA 63 ?_ (x := aQ (ag := true) (vs := [val _, sl _ _]) ew (by exact ⟨⟩) (by exact rfl) (by exact nl rfl))
 exact B7) : G := h
theorem B9 (h : G := by
 refine nx (k + 1) (by omega) (e := (by exact aI (by exact bg (by rw [rt hlt, List.map_append]; rfl)) (aI (by exact rfl) (tI))))) : G := h
theorem Ca (h : G := by
 refine rA ?_ (x := tA)
 refine sG [0, 2, 3, 5, 7, 8, 9] [5] ?_
 refine b5 ?_
 exact B9) : G := h
theorem ov (h : G := by
 refine jG ?_
 exact (aI (by refine bg ?_; rw [hend, List.take_length]) tI)) : G := h
theorem Cb (h : G := by
 have hend : k = x.length := by omega
 refine aX ?_
 refine sS [0, 2, 3, 7, 8, 9] [] ?_
 exact ov) : G := h
theorem wH (h : G := by
 refine bF ?_
 exact B9) : G := h
theorem Cc (h : G := by
 refine aX ?_
 refine sS [0, 2, 3, 4] [] ?_
 exact ov) : G := h
theorem wI (h : G := by
 have hend : k = x.length := by omega
 exact Cc) : G := h
theorem mS (h : G := by
 refine cK ?_
 exact rb (by first | (simp_all [jb, aB]; done) | (simp_all [jb, aB]; omega))) : G := h
theorem Cd (h : G := by
 have hbad : cw ⟨0, 0, 0⟩ jb ky x.Conds = false := ls hlt (Bool.eq_false_iff.2 fun hx => by
  have hx := gr.1 hx
  rw [hgk] at hx
  obtain ⟨hx1, hx2⟩ := hx
  first
  | (simp_all; done)
  | (simp only [decide_eq_true_eq, ky] at *; by_cases h0 : k = 0 <;> (try rw [hgp (by omega)] at hx2) <;> omega))
 refine sS [1, 3] [1] ?_
 refine bD ?_
 exact rb (by simp [bI, jc, hbad])) : G := h
theorem Ce (h : G := by
 refine nx (k + 1) (by exact ⟨by omega, by rw [rx, ha, Bool.true_and]; refine gr.2 ⟨by rw [hgk]; first | assumption | simp_all, ?_⟩; rcases Nat.eq_zero_or_pos k with h0 | h0; (· exact .inl h0); (· right; rw [hgk, hgp h0]; first | (simp only [decide_eq_true_eq, ky] at *; omega) | (simp_all; done))⟩)) : G := h
theorem Cf (h : G := by
 refine oS ?_
 refine bF ?_
 exact Ce) : G := h
theorem s5 (h : G := by
 refine cK ?_
 exact rb (by first | (simp_all [bI, jc]; done) | (simp_all [bI, jc]; rfl) | (simp_all [bI, jc]; omega) | (simp_all [bI, jc]; intros; omega))) : G := h
theorem s6 (h : G := by
 refine bY ?_
 exact rb (by first | exact hbad0.symm | (simp [bI, jc, hbad]; done) | (simp [bI, kz, hn3]; done) | (simp_all [bI, jc, kz]; done) | (simp_all [bI, jc, kz]; rfl) | (simp_all [bI, jc, kz]; omega) | (simp_all [bI, jc, kz]; intros; omega))) : G := h
theorem wJ (h : G := by
 have hbad0 : bI x = false := by first | (simp_all [bI]; done) | (simp_all [bI]; rfl) | (simp_all [bI]; omega) | (simp_all [bI]; intros; omega)
 refine sS [1, 2] [1] ?_
 refine rK ?_
 exact s6) : G := h
theorem Cg (h : G := by
 have hbad : cw ⟨0, 0, 0⟩ jb ky x.Conds = false := ls hlt (Bool.eq_false_iff.2 fun hx => by
  have hx := gr.1 hx
  rw [hgk] at hx
  obtain ⟨hx1, hx2⟩ := hx
  first
  | (simp_all; done)
  | (simp only [decide_eq_true_eq, ky] at *; by_cases h0 : k = 0 <;> (try rw [hgp (by omega)] at hx2) <;> omega))
 refine sS [1, 3, 4, 24, 25, 26] [1, 4] ?_
 refine rK ?_
 exact s6) : G := h
theorem Ch (h : G := by
 refine aN ?_
 refine sG [1, 3, 4, 24, 25, 26] [1, 4] ?_
 refine b5 ?_
 exact Ce) : G := h
theorem Ci (h : G := by
 refine bY ?_
 exact rb (by first | (simp_all [fH, nB]; done) | (simp_all [fH, nB]; rfl) | (simp_all [fH, nB]; omega) | (simp_all [fH, nB]; intros; omega))) : G := h
theorem jB (h : G := by
 refine rS ?_
 exact Ci) : G := h
theorem wK (h : G := by
 refine cK ?_
 exact rb (by first | (simp_all [de]; done) | (simp_all [de]; rfl) | (simp_all [de]; omega) | (simp_all [de]; intros; omega))) : G := h
theorem Cj (h : G := by
 refine sn 0 1 fun hl0_1 => ?_
 refine qD ?_
 refine rK ?_
 refine sT [1, 2, 4] [2] ?_
 refine rA ?_ (x := lF im)
 refine rA ?_ (x := lD [val _] aq)
 refine rM ?_
 refine rA ?_ (x := eR)
 refine rM ?_
 refine cx 9 (fun ga sga => ?_) (fun ga sga => ?_)
 refine rB ga ?_ (x := lF gP)
 refine rB ga ?_ (x := lD [val _] aq)
 refine rB ga ?_ (x := dY)
 refine rB ga ?_ (x := sM)
 refine cx 13 (fun gb sgb => ?_) (fun gb sgb => ?_)
 refine zt gb ?_
 refine rB ga ?_ (x := aA gb)
 refine rA ?_ (x := aA ga)
 exact wK
 refine x6 ?_
 refine yw ?_
 refine rB ga ?_ (x := ay gb)
 refine rA ?_ (x := aA ga)
 exact wK
 refine lg ?_
 exact wK) : G := h
theorem Ck (h : G := by
 refine cK ?_
 exact rb (by first | (simp_all [nK]; done) | (simp_all [nK]; rfl) | (simp_all [nK]; omega) | (simp_all [nK]; intros; omega))) : G := h
theorem ow (h : G := by
 refine cK ?_
 exact rb (by first | (simp_all [dq]; done) | (simp_all [dq]; omega) | (rw [Bool.eq_iff_iff]; simp_all [dq]; done) | (rw [Bool.eq_iff_iff]; simp_all [dq]; omega))) : G := h
theorem s7 (h : G := by
 refine cK ?_
 exact rb (by first | (simp_all [ck]; done) | (simp_all [ck]; rfl) | (simp_all [ck]; omega) | (simp_all [ck]; intros; omega))) : G := h
theorem jC (h : G := by
 refine bD ?_
 exact rb (hbad.symm)) : G := h
theorem s8 (h : G := by
 refine sS [1, 2] [1] ?_
 exact jC) : G := h
theorem wL (h : G := by
 have hbad : bA s = false := by first | (simp_all [bA, jS]; done) | (simp_all [bA, jS]; omega)
 exact s8) : G := h
theorem Cl (h : G := by
 refine jI ?_
 exact wL) : G := h
theorem Cm (h : G := by
 refine nx (m + 1) (by refine ⟨by omega, ?_⟩; rw [N7, hfr, Bool.true_and]; exact hap)) : G := h
theorem wM (h : G := by
 have hvo : ck s.Now s.Segments[k][j] = false := by first | (simp_all [ck, dr]; done) | (simp_all [ck, dr]; omega)
 have hbad := uI hag.1 (IL (by rw [hag.2]; exact hvo))
 refine sS [1, 3, 5, 7, 23, 24, 25, 32, 33, 34] [1, 7] ?_
 exact jC) : G := h
theorem Cn (h : G := by
 have hap : dq ((aS s).getD ((cl s k).length + j) v0) ((aS s).getD m v0) = false := by
  rw [hag.2] at hma ⊢
  by_cases hid : s.Segments[k][j].Id = ((aS s).getD m v0).Id
  ·rw [beq_iff_eq.2 hid, Bool.true_and] at hma; simp_all
  ·simp_all
 have hbad := uI hag.1 (IM hlt3 hap)
 refine sS [1, 3, 5, 7, 9, 23, 24, 25, 32, 33, 34, 66, 67, 68] [1, 7, 9] ?_
 exact jC) : G := h
theorem wN (h : G := by
 have hap : dq ((aS s).getD ((cl s k).length + j) v0) ((aS s).getD m v0) = true := by
  rw [hag.2] at hma ⊢
  by_cases hid : s.Segments[k][j].Id = ((aS s).getD m v0).Id
  ·rw [beq_iff_eq.2 hid, Bool.true_and] at hma; simp_all
  ·rw [beq_false_of_ne hid, Bool.false_and] at hma; simpa using hma.symm
 refine aN ?_
 refine sG [1, 3, 5, 7, 9, 23, 24, 25, 32, 33, 34, 66, 67, 68] [1, 7, 9] ?_
 refine b5 ?_
 exact Cm) : G := h
theorem Co (h : G := by
 refine zf ge ?_
 refine rA ?_ (x := ay ge)
 refine dk ?_
 exact wN) : G := h
theorem Cq (h : G := by
 have hend3 : m = (cl s k).length + j := by omega
 refine aX ?_
 refine sH [1, 3, 5, 7, 23, 24, 25, 32, 33, 34, 66, 67, 68] [1, 7] ?_
 refine rA ?_ (x := tM)
 refine rA ?_ (x := lD [val _, sl .v _, val _, val _] d2)
 refine rA ?_ (x := bd (qs := [(true, [val _, sl _ _, val _, val _])]) (by decide) bT eV (by decide) rfl rfl rfl rfl rfl (by exact nl rfl) (by exact (aI (by exact ⟨⟩) tI)) rfl)
 refine xl ?_
 refine sG [1, 3, 5, 7, 23, 24, 25, 32, 33, 34, 66, 67, 68] [1, 7] ?_
 refine b5 ?_
 refine nx (j + 1) (by refine ⟨by omega, ?_⟩; rw [← Nat.add_assoc, IK, hg, Bool.true_and]; unfold jh; rw [hag.2, hvo, Bool.true_and, ← hend3]; rw [hend3] at hfr ⊢; exact hfr) (e := (by exact aI (by exact bg (by rw [List.take_succ_eq_append_getElem hlt2]; simp only [List.map_append, List.append_assoc]; rfl)) (aI (by exact rfl) (tI))))) : G := h
theorem s9 (h : G := by
 refine bD ?_
 exact rb (by exact (NG hlt (Bool.eq_false_iff.2 fun hx => by have hx := ux.1 hx; rw [hgk] at hx; (try simp only [aB, Bool.and_eq_false_iff, decide_eq_false_iff_not] at *); omega)).symm)) : G := h
theorem Cr (h : G := by
 refine bC ?_
 refine sS [0, 3, 4, 5, 6, 7] [] ?_
 exact s9) : G := h
theorem Cs (h : G := by
 refine nx (k + 1) (by exact ⟨by omega, by rw [NF, ha, Bool.true_and]; exact ux.2 (by rw [hgk]; (try simp only [aB, Bool.and_eq_true, decide_eq_true_eq] at *); omega)⟩)) : G := h
theorem Ct (h : G := by
 refine aN ?_
 refine sG [0, 3, 4, 5, 6, 7] [] ?_
 refine b5 ?_
 exact Cs) : G := h
theorem Cu (h : G := by
 refine bD ?_
 exact rb (by subst hend; exact ha.symm)) : G := h
theorem Cv (h : G := by
 refine nf ?_
 refine bF ?_
 exact Cs) : G := h
theorem Cw (h : G := by
 refine sG [0, 2, 3, 4] [] ?_
 refine bF ?_
 refine nx (k + 1) (by omega) (e := (by exact aI (by exact bg (by rw [Iu]; simp [hc, ai])) (aI (by exact rfl) (tI))))) : G := h
theorem Cx (h : G := by
 refine bY ?_
 exact (aI (by refine bg ?_; simp [jM, *]) tI)) : G := h
theorem Cy (h : G := by
 refine sS [2, 3, 4] [2, 3] ?_
 refine rA ?_ (x := fj (.inr rfl) (by decide) (fR (t := 3) (e := 1)))
 exact Cx) : G := h
theorem Cz (h : G := by
 refine sG [0, 1, 4, 5, 6] [] ?_
 refine bF ?_
 refine nx (k + 1) (by exact ⟨by omega, fun _ => hok2⟩) (e := (by exact aI (by exact bg (by rw [rt hlt, List.filter_append, List.map_append]; simp [hc, ai])) (aI (by exact rfl) (tI))))) : G := h
theorem wP (h : G := by
 have hfin : (k = a.length ∧ (cF a && cF b) = true) ∨ (k = 0 ∧ (a.length = 0 ∨ (cF a && cF b) = false)) := by
  by_cases h0k : 0 < k
  ·left
   have := ha h0k
   refine ⟨?_, this⟩
   rw [Bool.and_eq_true] at this
   by_cases hka : k = a.length
   ·exact hka
   ·have : k < a.length := by omega
    simp_all
  ·right
   refine ⟨by omega, ?_⟩
   by_cases hka : a.length = 0
   ·exact .inl hka
   ·right
    have : k < a.length := by omega
    cases h1 : cF a <;> cases h2 : cF b <;> simp_all
 refine aX ?_
 refine sS [0, 1, 4, 5, 6] [] ?_
 refine jG ?_
 exact (aI (by refine bg ?_; rw [NJ ha hfin]) tI)) : G := h
theorem ox (h : G := by
 refine sS [0, 1, 4] [] ?_
 refine bD ?_
 exact rb (by exact (mi (fun e => by subst e; simp at *)).symm)) : G := h
theorem ta (h : G := by
 refine bD ?_
 exact rb (by exact (mi (In hlt hlt2 (by intro e; simp [e, i8] at *))).symm)) : G := h
theorem qk (h : G := by
 refine sS [0, 1, 5] [] ?_
 exact ta) : G := h
theorem CA (h : G := by
 refine nx (k + 1) (by exact ⟨by omega, lp ha hlt hlt2 (by simp_all)⟩)) : G := h
theorem wQ (h : G := by
 refine bD ?_
 exact rb (by exact (nz (pe hl (by rw [show x.length = k by omega]; exact ha))).symm)) : G := h
theorem ql (h : G := by
 refine ul ?_
 exact wQ) : G := h
theorem CB (h : G := by
 refine cK ?_
 exact rb (by rw [Bool.eq_iff_iff]; simp only [eI, NE]; simp_all [eI])) : G := h
theorem CC (h : G := by
 refine bD ?_
 exact rb (by simp [b7, hbad])) : G := h
theorem CD (h : G := by
 have hbad : cw jT bI jU l = false := ls hlt (Bool.eq_false_iff.2 fun hx => by
  have hx := gr.1 hx
  rw [hgk] at hx
  obtain ⟨hx1, hx2⟩ := hx
  first
  | (simp_all; done)
  | (simp only [decide_eq_true_eq, jU] at *; by_cases h0 : k = 0 <;> (try rw [hgp (by omega)] at hx2) <;> omega))
 refine sS [0, 3] [] ?_
 exact CC) : G := h
theorem CE (h : G := by
 refine nx (k + 1) (by exact ⟨by omega, by rw [rx, ha, Bool.true_and]; refine gr.2 ⟨by rw [hgk]; first | assumption | simp_all, ?_⟩; rcases Nat.eq_zero_or_pos k with h0 | h0; (· exact .inl h0); (· right; rw [hgk, hgp h0]; first | (simp only [decide_eq_true_eq, jU] at *; omega) | (simp_all; done))⟩)) : G := h
theorem CF (h : G := by
 refine nf ?_
 refine bF ?_
 exact CE) : G := h
theorem CG (h : G := by
 refine mc ?_
 refine rA ?_ (x := eR)
 refine cK ?_
 exact rb (by simp [b7, hall])) : G := h
theorem CH (h : G := by
 refine bD ?_
 exact rb (by simp [f6, jK (P := (fI f v)) hlt hno])) : G := h
theorem CI (h : G := by
 have hyes : fI f v q.Conds[k] = true := by simp_all [fI]
 refine aN ?_
 refine sG [1, 2, 3, 7] [3] ?_
 exact mR) : G := h
theorem CJ (h : G := by
 refine bD ?_
 exact rb (by simp [f6, hall, *])) : G := h
theorem CK (h : G := by
 refine sG [0, 1, 2, 6, 7, 8] [] ?_
 refine bF ?_
 refine nx (k + 1) (by exact ⟨by omega, fun _ => hok⟩) (e := (by exact aI (by first | exact bg (by rw [IQ hlt hc, List.map_append]; rfl) | exact bg (by rw [IR hlt hc])) (aI (by exact rfl) (tI))))) : G := h
theorem tb (h : G := by
 have hfin : (k = l.length ∧ (b7 l && (aB f 0 2 && aB v 0 99)) = true) ∨ (k = 0 ∧ (l.length = 0 ∨ (b7 l && (aB f 0 2 && aB v 0 99)) = false)) := by
  by_cases h0k : 0 < k
  ·left
   have h1 := ha h0k
   refine ⟨?_, h1⟩
   by_cases hka : k = l.length
   ·exact hka
   ·exfalso
    have hlt_ : k < l.length := by omega
    have hlt2_ : (k : Int) < (l.length : Int) := by omega
    first | omega | simp_all
  ·right
   refine ⟨by omega, ?_⟩
   by_cases hka : l.length = 0
   ·exact .inl hka
   ·right
    have hlt_ : k < l.length := by omega
    have hlt2_ : (k : Int) < (l.length : Int) := by omega
    rw [← Bool.not_eq_true]; intro hc_; simp_all
 refine aX ?_
 refine sS [0, 1, 2, 6, 7, 8] [] ?_
 refine jG ?_
 exact (aI (by refine bg ?_; rw [Oa hfin]) tI)) : G := h
theorem wR (h : G := by
 have hok : (b7 l && aB f 0 2) = false := by simp_all
 refine sS [0, 1, 4, 5] [] ?_
 refine jG ?_
 exact (aI (by refine bg ?_; unfold df; rw [if_neg (by rw [hok]; simp)]; rfl) tI)) : G := h
theorem CL (h : G := by
 refine jI ?_
 exact wR) : G := h
theorem CM (h : G := by
 refine bF ?_
 refine nx (k + 1) (by omega) (e := (by exact aI (by first | exact bg (by rw [bH, IU hls, List.map_append, ← hse]; exact rfl) | exact bg (by rw [bH, IT hls])) (aI (by exact rfl) (tI))))) : G := h
theorem CN (h : G := by
 have hls : gU (bH l f k) (dL l f (k : Int)) = false := by
  by_cases h0 : (bH l f k).length = 0
  ·simp [gU, h0]
  ·simp_all [gU]
 refine sG [0, 1, 4, 5, 6, 7, 8] [] ?_
 refine rA ?_ (x := tM)
 refine ku ?_
 refine rA ?_ (x := tM)
 refine rA ?_ (x := cv (qs := [(false, [val _]), (false, [val _]), (false, [sl _ _])]) (cs := [val _, val _, sl _ _]) (by decide) nU u4 Qy (by exact rfl) (by exact (aI (by exact ⟨⟩) (aI (by exact ⟨⟩) (aI (by exact ⟨⟩) tI)))) rfl (by exact rfl))
 refine FC ?_
 refine rA ?_ (x := tA)
 refine sG [0, 1, 4, 5, 6, 8] [] ?_
 exact CM) : G := h
theorem CO (h : G := by
 have hend : k = 100 := by omega
 refine aX ?_
 refine sS [0, 1, 4, 5, 6] [] ?_
 refine jG ?_
 exact (aI (by refine bg ?_; unfold df; rw [if_pos hok, hend]) tI)) : G := h
theorem wS (h : G := by
 refine nx (k + 1) (by exact ⟨by omega, pd ha hlt hno⟩)) : G := h
theorem CP (h : G := by
 refine bF ?_
 exact wS) : G := h
theorem CQ (h : G := by
 refine bY ?_
 exact (aI (by refine bg ?_; rw [Ob ha]; exact rfl) tI)) : G := h
theorem qm (h : G := by
 refine bC ?_
 exact qk) : G := h
theorem CR (h : G := by
 refine nx (k + 1) (by exact ⟨by omega, lp ha hlt hlt2 (by rw [NQ]; simp_all [eI])⟩)) : G := h
theorem CS (h : G := by
 refine bY ?_
 exact (Exists.intro 2 (Exists.intro _ (aI (by exact rfl) (aI (by exact rfl) (aI dp (aI (fun h => nomatch h) tI))))))) : G := h
theorem CT (h : G := by
 refine HU ?_
 exact (Exists.intro 2 (Exists.intro _ (aI (by exact rfl) (aI (by refine cW ?_; rw [Oi hok]; exact rfl) (aI iT (aI (fun h => nomatch h) tI))))))) : G := h
theorem CU (h : G := by
 refine dA 28 ?_ (x := bd (qs := [(false, [sl _ _])]) (by decide) lO Kc (by decide) rfl rfl rfl rfl rfl (by exact nl rfl) (by exact (aI (by exact ⟨⟩) tI)) rfl)
 refine dA 63 ?_ (x := c8 (by decide) lO Kc rfl rfl (by decide) rfl (by simp only [List.length_map, List.length_append, List.length_cons, List.length_nil]; omega) (by simp only [List.length_map, List.length_append, List.length_cons, List.length_nil]; omega))
 refine dA 127 ?_ (x := lF pu)
 refine dA 255 ?_ (x := aQ (ag := false) (vs := [sl _ _]) px (by exact ⟨⟩) (by exact rfl) (by exact nl rfl))
 refine sO [(0, _), (2, _), (3, _), (4, _)] [(2, _), (3, (124, [sl _ _, sl _ _]))] ?_
 refine nr ?_
 refine nx (k + 1) (by omega) (e := (by exact aI (by exact bf (by omega)) (tI))) (f := (by exact aI (by simp only [Og]; show _ = some (124, (yE (.own 52 4) (.own 178 3) (.own 3 1) (.own 243 1) (.own 268 3) (.own 3 1)) (bS.mk l (mu l k ++ [df l (k : Int)]))); simp only [yE, List.map_append]; exact rfl) (tI)))) : G := h
theorem CV (h : G := by
 have hend : k = 3 := by omega
 refine aX ?_
 refine sT [0, 2, 3, 4] [2, 3] ?_
 refine rA ?_ (x := b8 (ms := [sl _ _, sl _ _]) (qs := [sl .v _, sl .v _]) (by decide) iT (fun h => nomatch h) (by exact nl rfl) (by exact rfl) (by exact (ab.cons PV.to_none (ab.cons PV.to_none ab.nil))) (by exact (ae.cons (bor_sl _) (ae.cons (bor_sl _) ae.nil))))
 refine HU ?_
 exact (Exists.intro 2 (Exists.intro _ (aI (by exact rfl) (aI (by refine cW ?_; subst hend; rw [Oh hok]; exact rfl) (aI iT (aI (fun h => nomatch h) tI))))))) : G := h
theorem wT (h : G := by
 have hbad : cy x = false := by first | (simp_all [cy]; done) | (simp_all [cy]; omega)
 exact s8) : G := h
theorem CW (h : G := by
 refine jI ?_
 exact wT) : G := h
theorem CX (h : G := by
 refine nx (k + 1) (by exact ⟨by omega, by rw [Oc, ha, hd]; rfl⟩)) : G := h
theorem CY (h : G := by
 refine bD ?_
 exact rb (by unfold cy; rw [hpr, ha]; rfl)) : G := h
theorem CZ (h : G := by
 have hno : (aB (o.getD k 0) 0 2 && !bh (o.take k) (o.getD k 0)) = false := by rw [← hgk]; simp_all
 refine rn ?_
 exact rb ((Oe hl3 (by omega) hno).symm)) : G := h
theorem wU (h : G := by
 refine rA ?_ (x := tM)
 refine rM ?_
 refine rA ?_ (x := tA)
 refine cK ?_
 exact (aI (by refine bg ?_; rw [hpe]) (aI (by refine bf ?_; rw [hpe]) tI))) : G := h
theorem C0 (h : G := by
 have hfin : k = o.length ∨ (dg x r o k).1 = [] := by
  by_cases hka : k = o.length
  ·exact .inl hka
  ·right
   have hlt_ : k < o.length := by omega
   have hlt2_ : (k : Int) < (o.length : Int) := by omega
   first | omega | (rw [← List.length_eq_zero_iff]; first | omega | (simp_all; done))
 have hpe := uN (x := x) (r := r) hfin
 refine aX ?_
 refine sT [2, 3, 4, 6, 7, 8, 9, 10] [3, 4] ?_
 exact wU) : G := h
theorem wV (h : G := by
 have hbad : dQ x = false := by first | (simp_all [dQ, jo, aB]; done) | (simp_all [dQ, jo, aB]; rfl) | (simp_all [dQ, jo, aB]; omega) | (simp_all [dQ, jo, aB]; intros; omega)
 refine sS [1, 2, 3] [1] ?_
 exact jC) : G := h
theorem k9 (h : G := by
 refine bC ?_
 exact wV) : G := h
theorem C2 (h : G := by
 refine bD ?_
 exact rb ((Ok hlt hno).symm)) : G := h
theorem C3 (h : G := by
 have hno : jn x k = false := by simp_all [jn]
 refine sS [1, 3, 4, 33, 34] [1] ?_
 exact C2) : G := h
theorem C4 (h : G := by
 refine nx (k + 1) (by exact ⟨by omega, by rw [Oj, ha, hyes]; rfl⟩)) : G := h
theorem C5 (h : G := by
 refine cK ?_
 exact rb (by simp_all [dQ])) : G := h
theorem C6 (h : G := by
 have hno : jn x k = false := by simp_all [jn]
 refine sS [1, 3, 4] [1] ?_
 exact C2) : G := h
theorem C7 (h : G := by
 have hbad : cw 0 (iw s.Segments.length) ix a.Todo = false := ls hlt (Bool.eq_false_iff.2 fun hx => by
  have hx := gr.1 hx
  rw [hgk] at hx
  obtain ⟨hx1, hx2⟩ := hx
  first
  | (simp_all; done)
  | (simp only [decide_eq_true_eq, ix, iw, aB, Bool.and_eq_true, Bool.and_eq_false_iff, decide_eq_false_iff_not] at *; by_cases h0 : k = 0 <;> (try rw [hgp (by omega)] at hx2) <;> omega))
 refine sS [2, 3, 5, 6, 8, 9, 10] [2, 3] ?_
 refine bD ?_
 exact rb (by simp [dt, iy, hbad])) : G := h
theorem C8 (h : G := by
 refine nx (k + 1) (by exact ⟨by omega, by rw [rx, ha, Bool.true_and]; refine gr.2 ⟨by rw [hgk]; first | assumption | simp_all, ?_⟩; rcases Nat.eq_zero_or_pos k with h0 | h0; (· exact .inl h0); (· right; rw [hgk, hgp h0]; first | (simp only [decide_eq_true_eq, ix, iw, aB, Bool.and_eq_true, Bool.and_eq_false_iff, decide_eq_false_iff_not] at *; omega) | (simp_all; done))⟩)) : G := h
theorem C9 (h : G := by
 refine aN ?_
 refine sG [2, 3, 5, 6, 8, 9, 10] [2, 3] ?_
 refine b5 ?_
 exact C8) : G := h
theorem mT (h : G := by
 refine cK ?_
 exact rb (by first | (simp_all [dt, iy]; done) | (simp_all [dt, iy]; rfl) | (simp_all [dt, iy]; omega) | (simp_all [dt, iy]; intros; omega))) : G := h
theorem Da (h : G := by
 have hbad : cw 0 (iw n) ix l = false := ls hlt (Bool.eq_false_iff.2 fun hx => by
  have hx := gr.1 hx
  rw [hgk] at hx
  obtain ⟨hx1, hx2⟩ := hx
  first
  | (simp_all; done)
  | (simp only [decide_eq_true_eq, ix, iw, aB, Bool.and_eq_true, Bool.and_eq_false_iff, decide_eq_false_iff_not] at *; by_cases h0 : k = 0 <;> (try rw [hgp (by omega)] at hx2) <;> omega))
 refine sS [0, 1, 5] [] ?_
 refine bD ?_
 exact rb (by simp [iy, hbad])) : G := h
theorem Db (h : G := by
 refine ns ?_
 exact C8) : G := h
theorem mU (h : G := by
 refine cK ?_
 exact rb (by first | (simp_all [dt]; done) | (simp_all [dt]; rfl) | (simp_all [dt]; omega) | (simp_all [dt]; intros; omega))) : G := h
theorem wW (h : G := by
 have hpr : f8 e = false := by first | (simp_all [f8]; done) | (simp_all [f8]; omega) | (rw [← Bool.not_eq_true]; intro hc_; simp [f8] at hc_; simp_all; done) | (rw [← Bool.not_eq_true]; intro hc_; simp [f8] at hc_; omega)
 have hbad := I6 hpr
 exact s8) : G := h
theorem la (h : G := by
 refine bC ?_
 exact wW) : G := h
theorem wX (h : G := by
 have hpr : f8 e = false := by unfold f8; rw [hp1]; first | (simp_all; done) | (simp_all; omega)
 have hbad := I6 hpr
 exact s8) : G := h
theorem oy (h : G := by
 refine bD ?_
 exact rb (hbad2.symm)) : G := h
theorem Dc (h : G := by
 have hbad : cw eX (dt e.Store) iR e.Active = false := ls hlt (Bool.eq_false_iff.2 fun hx => by
  have hx := gr.1 hx
  rw [hgk] at hx
  obtain ⟨hx1, hx2⟩ := hx
  first
  | (simp_all; done)
  | (simp only [decide_eq_true_eq, iR] at *; by_cases h0 : k = 0 <;> (try rw [hgp (by omega)] at hx2) <;> omega))
 have hbad2 := I7 hbad
 refine sS [1, 3, 4, 53, 54, 55] [1, 4] ?_
 exact oy) : G := h
theorem Dd (h : G := by
 refine nx (k + 1) (by exact ⟨by omega, by rw [rx, ha, Bool.true_and]; refine gr.2 ⟨by rw [hgk]; first | assumption | simp_all, ?_⟩; rcases Nat.eq_zero_or_pos k with h0 | h0; (· exact .inl h0); (· right; rw [hgk, hgp h0]; first | (simp only [decide_eq_true_eq, iR] at *; omega) | (simp_all; done))⟩)) : G := h
theorem De (h : G := by
 refine aN ?_
 refine sG [1, 3, 4, 53, 54, 55] [1, 4] ?_
 refine b5 ?_
 exact Dd) : G := h
theorem tc (h : G := by
 have hno : (ez e.Store.Now) e.Done[k] = false := by first | (simp_all [ez]; done) | (simp_all [ez]; omega)
 have hbad2 := I8 (jK hlt hno)
 refine sS [1, 6, 53, 54, 55, 85, 86, 87] [1, 6] ?_
 exact oy) : G := h
theorem Df (h : G := by
 refine bD ?_
 exact rb ((Ja hpr hall hfa hla).symm)) : G := h
theorem Dg (h : G := by
 have hbad : cw eX (dt e.Store) iR e.Active = false := ls hlt (Bool.eq_false_iff.2 fun hx => by
  have hx := gr.1 hx
  rw [hgk] at hx
  obtain ⟨hx1, hx2⟩ := hx
  first
  | (simp_all; done)
  | (simp only [decide_eq_true_eq, iR] at *; by_cases h0 : k = 0 <;> (try rw [hgp (by omega)] at hx2) <;> omega))
 have hbad2 := I7 hbad
 refine sS [1, 3] [1] ?_
 exact oy) : G := h
theorem Dh (h : G := by
 refine oS ?_
 refine bF ?_
 exact Dd) : G := h
theorem td (h : G := by
 have hno : (ez e.Store.Now) e.Done[k] = false := by first | (simp_all [ez]; done) | (simp_all [ez]; omega)
 have hbad2 := I8 (jK hlt hno)
 refine sS [1, 3, 4, 5] [1, 5] ?_
 exact oy) : G := h
theorem Di (h : G := by
 have hbad : cw jT bI jU l = false := ls hlt (Bool.eq_false_iff.2 fun hx => by
  have hx := gr.1 hx
  rw [hgk] at hx
  obtain ⟨hx1, hx2⟩ := hx
  first
  | (simp_all; done)
  | (simp only [decide_eq_true_eq, jU] at *; by_cases h0 : k = 0 <;> (try rw [hgp (by omega)] at hx2) <;> omega))
 refine sS [0, 3, 4, 5, 6, 7] [4] ?_
 exact CC) : G := h
theorem Dj (h : G := by
 refine aN ?_
 refine sG [0, 3, 4, 5, 6, 7] [4] ?_
 refine b5 ?_
 exact CE) : G := h
theorem Dk (h : G := by
 have hyes : fI f v q.Conds[k] = true := by simp_all [fI]
 refine aN ?_
 refine sG [1, 2, 3, 8, 10, 11, 12] [3, 8] ?_
 exact qj) : G := h
theorem Dl (h : G := by
 refine sG [0, 1, 2, 6, 7, 9, 11, 12, 13] [9] ?_
 refine b5 ?_
 refine nx (k + 1) (by omega) (e := (by exact aI (by first | exact bg (by rw [IQ hlt hc, List.map_append]; rfl) | exact bg (by rw [IR hlt hc])) (aI (by exact rfl) (tI))))) : G := h
theorem Dm (h : G := by
 refine bF ?_
 refine nx (k + 1) (by omega) (e := (by exact aI (by first | exact bg (by rw [bH, IU hls, List.map_append]; exact rfl) | exact bg (by rw [bH, IT hls])) (aI (by exact rfl) (tI))))) : G := h
theorem Dn (h : G := by
 have hls : gU (bH l f k) (dL l f (k : Int)) = false := by
  by_cases h0 : (bH l f k).length = 0
  ·simp [gU, h0]
  ·simp_all [gU]
 refine sG [0, 1, 4, 5, 6, 7, 8] [] ?_
 refine rA ?_ (x := tM)
 refine ku ?_
 refine rA ?_ (x := tM)
 refine rA ?_ (x := cv (qs := [(false, [val _]), (false, [val _]), (false, [sl _ _])]) (cs := [val _, val _, sl _ _]) (by decide) nU u4 QN (by exact rfl) (by exact (aI (by exact ⟨⟩) (aI (by exact ⟨⟩) (aI (by exact ⟨⟩) tI)))) rfl (by exact rfl))
 refine FC ?_
 refine rA ?_ (x := tA)
 refine sG [0, 1, 4, 5, 6, 8] [] ?_
 exact Dm) : G := h
theorem Do (h : G := by
 refine bC ?_
 refine sS [0, 1, 5, 6, 12, 13, 14] [6] ?_
 exact ta) : G := h
theorem Dp (h : G := by
 refine bY ?_
 exact (Exists.intro 2 (Exists.intro _ (aI (by exact rfl) (aI (by exact rfl) (aI it (aI (fun h => nomatch h) tI))))))) : G := h
theorem Dq (h : G := by
 refine l5 ?_
 refine bY ?_
 exact (Exists.intro 2 (Exists.intro _ (aI (by exact rfl) (aI (by refine cW ?_; rw [hend, List.take_length]; exact rfl) (aI cq (aI (fun h => nomatch h) tI))))))) : G := h
theorem Dr (h : G := by
 refine nx (k + 1) (by omega) (f := (by exact aI (by rw [rt hlt]; simp only [List.map_append]; exact rfl) (tI)))) : G := h
theorem te (h : G := by
 refine nr ?_
 exact Dr) : G := h
theorem wY (h : G := by
 refine aM ?_
 refine b5 ?_
 exact Dr) : G := h
theorem Ds (h : G := by
 refine lb ?_
 refine bY ?_
 exact (Exists.intro 2 (Exists.intro _ (aI (by exact rfl) (aI (by refine cW ?_; rw [hend2, List.take_length]; exact rfl) (aI a7 (aI (fun h => nomatch h) tI))))))) : G := h
theorem Dt (h : G := by
 refine sG [1, 2, 4, 5, 6, 7, 8, 9, 11, 19, 20, 21, 27, 28, 29, 2900, 6000] [2, 4, 6, 11, 900] ?_
 refine b5 ?_
 refine nx (j + 1) (by omega) (e := (by exact aI (by first | exact bg (by rw [Jp hlj (by rw [hz3]; exact hnd), List.map_append]; exact rfl) | exact bg (by rw [Jq hlj (by rw [hz3]; exact hnd)])) (aI (by exact bf (by omega)) (tI))))) : G := h
theorem Du (h : G := by
 refine dA 511 ?_ (x := sA)
 refine xK ?_
 refine nx (m + 1) (by omega) (e := (by exact aI (by exact fD (by rw [OA hlm, hg]; rfl)) (aI (by exact bf (by omega)) (tI))))) : G := h
theorem Dv (h : G := by
 refine xK ?_
 refine nx (j + 1) (by omega) (e := (by exact aI (by first | exact bf (by rw [OE hls hlj2 hnd]) | exact bf (by rw [OF hls hlj2 hnd]; omega)) (aI (by first | exact bg (by rw [Jp hlj (by rw [hz3]; exact hnd), List.map_append]; exact rfl) | exact bg (by rw [Jq hlj (by rw [hz3]; exact hnd)])) (aI (by exact bf (by omega)) (tI)))))) : G := h
theorem Dw (h : G := by
 refine nx (k + 1) (by omega) (e := (by exact aI (by first | exact bg (by rw [Rf hlt hne, List.map_append]; rfl) | exact bg (by rw [Rg hlt hne])) (aI (by exact rfl) (tI))))) : G := h
theorem Dx (h : G := by
 refine sG [0, 1, 4, 5, 7, 9, 10, 11] [] ?_
 refine b5 ?_
 exact Dw) : G := h
theorem Dy (h : G := by
 refine sG [0, 1, 4, 5, 6] [] ?_
 refine bF ?_
 exact Dw) : G := h
theorem Dz (h : G := by
 refine sG [1, 2, 3, 6, 7, 9, 15, 16, 17] [3, 9] ?_
 refine b5 ?_
 refine nx (k + 1) (by omega) (e := (by exact aI (by first | exact bg (by rw [zI hlt hv, List.map_append]; rfl) | exact bg (by rw [KH hlt hv])) (aI (by exact rfl) (tI))))) : G := h
theorem DA (h : G := by
 refine nx (k + 1) (by omega) (e := (by exact aI (by exact bg (by rw [hts, List.map_append]; rfl)) (aI (by exact rfl) (tI))))) : G := h
theorem DB (h : G := by
 refine rA ?_ (x := aQ (ag := true) (vs := [sl _ _, val _, val _, sl _ _, sl _ _, sl _ _, sl _ _, val _]) a7 (by exact ⟨⟩) (by exact rfl) (by exact nl rfl))
 refine bY ?_
 exact (Exists.intro 2 (Exists.intro _ (aI (by exact rfl) (aI (by exact rfl) (aI a7 (aI (fun h => nomatch h) tI))))))) : G := h
theorem DC (h : G := by
 refine xh ?_
 exact DB) : G := h
theorem DD (h : G := by
 refine cK ?_
 exact rb (by first | (simp_all [kG]; done) | (simp_all [kG]; rfl) | (simp_all [kG]; omega) | (simp_all [kG]; intros; omega))) : G := h
theorem DE (h : G := by
 have hbad : nM e i = false := by first | (simp_all [nM]; done) | (simp_all [nM]; omega)
 refine sS [1, 2, 4] [2] ?_
 exact jC) : G := h
theorem DF (h : G := by
 refine cK ?_
 exact rb (by unfold nM; rw [hok.1, hok.2, ← hgd]; first | (simp_all [kG]; done) | (simp_all [kG]; omega))) : G := h
theorem DG (h : G := by
 refine sG [1, 2, 3, 4] [1] ?_
 refine bF ?_
 refine nx (k + 1) (by exact ⟨by omega, fun _ => hok⟩) (e := (by exact aI (by first | exact bg (by rw [Jc hlt hc, List.map_append]; rfl) | exact bg (by rw [Jd hlt hc])) (aI (by exact rfl) (tI))))) : G := h
theorem DH (h : G := by
 have hc : fh e e.Active[k] = false := by simp_all [fh]
 refine aN ?_
 exact DG) : G := h
theorem DI (h : G := by
 have hfin : (k = e.Active.length ∧ aH e = true) ∨ (k = 0 ∧ (e.Active.length = 0 ∨ aH e = false)) := by
  by_cases h0k : 0 < k
  ·left
   have h1 := ha h0k
   refine ⟨?_, h1⟩
   by_cases hka : k = e.Active.length
   ·exact hka
   ·exfalso
    have hlt_ : k < e.Active.length := by omega
    have hlt2_ : (k : Int) < (e.Active.length : Int) := by omega
    first | omega | simp_all
  ·right
   refine ⟨by omega, ?_⟩
   by_cases hka : e.Active.length = 0
   ·exact .inl hka
   ·right
    have hlt_ : k < e.Active.length := by omega
    have hlt2_ : (k : Int) < (e.Active.length : Int) := by omega
    rw [← Bool.not_eq_true]; intro hc_; simp_all
 refine aX ?_
 refine sT [1, 2, 3, 4] [1] ?_
 refine jG ?_
 exact (aI (by refine bg ?_; rw [On hfin]) tI)) : G := h
theorem DJ (h : G := by
 refine sG [1, 2, 3, 5, 12, 13, 14] [1, 5] ?_
 refine b5 ?_
 refine nx (k + 1) (by omega) (e := (by exact aI (by first | exact bg (by rw [Jc hlt hc, List.map_append]; rfl) | exact bg (by rw [Jd hlt hc])) (aI (by exact rfl) (tI))))) : G := h
theorem DK (h : G := by
 have hc : fh e e.Active[k] = false := by simp_all [fh]
 refine aN ?_
 exact DJ) : G := h
theorem DL (h : G := by
 refine nw ?_
 exact (aI (by refine bf ?_; rw [yX hlt ha hy]) tI)) : G := h
theorem DM (h : G := by
 refine bD ?_
 exact (aI (by refine bf ?_; rw [Oo ha]) tI)) : G := h
theorem DN (h : G := by
 refine nx (k + 1) (by omega) (e := (by exact aI (by exact bg (by unfold eB; rw [pg hlt, List.map_append]; rfl)) (aI (by exact rfl) (tI))))) : G := h
theorem DO (h : G := by
 refine nx (k + 1) (by omega) (e := (by exact aI (by exact bg (by rw [pg hlt, List.map_append]; rfl)) (aI (by exact rfl) (tI))))) : G := h
theorem DP (h : G := by
 refine rA ?_ (x := tM)
 refine rA ?_ (x := aQ (ag := true) (vs := [sl _ _, sl _ _]) iT (by exact ⟨⟩) (by exact rfl) (by exact nl rfl))
 refine rA ?_ (x := tA)
 refine bY ?_
 exact (Exists.intro 2 (Exists.intro _ (aI (by exact rfl) (aI (by exact rfl) (aI iT (aI (fun h => nomatch h) (aI (by exact rfl) tI)))))))) : G := h
theorem DQ (h : G := by
 refine bF ?_
 exact DN) : G := h
theorem DR (h : G := by
 have hbad : (cy x && bK o) = false := by first | (simp_all; done)
 refine sS [1, 2, 3, 6, 7] [3] ?_
 refine nw ?_
 exact (aI (by refine bf ?_; unfold dR; rw [if_neg (by rw [hbad]; simp)]) tI)) : G := h
theorem DS (h : G := by
 refine b5 ?_
 refine nx (k + 1) (by omega) (e := (by exact aI (by exact bf (by rw [Jf hlt, hwo]; try omega)) (aI (by exact rfl) (tI))))) : G := h
theorem DT (h : G := by
 refine bF ?_
 refine nx (k + 1) (by exact ⟨by omega, fun _ => hxo⟩) (e := (by exact aI (by exact bf (by rw [Jf hlt, hwo]; try omega)) (aI (by exact rfl) (tI))))) : G := h
theorem wZ (h : G := by
 have hfin : (k = l.length ∧ (cy x && bK o) = true) ∨ (k = 0 ∧ (l.length = 0 ∨ (cy x && bK o) = false)) := by
  by_cases h0k : 0 < k
  ·left
   have h1 := ha h0k
   refine ⟨?_, h1⟩
   by_cases hka : k = l.length
   ·exact hka
   ·exfalso
    have hlt_ : k < l.length := by omega
    have hlt2_ : (k : Int) < (l.length : Int) := by omega
    first | omega | simp_all
  ·right
   refine ⟨by omega, ?_⟩
   by_cases hka : l.length = 0
   ·exact .inl hka
   ·right
    have hlt_ : k < l.length := by omega
    have hlt2_ : (k : Int) < (l.length : Int) := by omega
    rw [← Bool.not_eq_true]; intro hc_; simp_all
 refine aX ?_
 refine sT [1, 2, 3, 6, 7, 8] [3] ?_
 refine nw ?_
 exact (aI (by refine bf ?_; rw [Oq hfin]) tI)) : G := h
theorem DU (h : G := by
 have hok : aH e = false := by simpa using hba
 refine sS [1, 2] [1] ?_
 refine bD ?_
 exact (aI (by refine bf ?_; unfold nO; rw [if_neg (by rw [hok]; simp)]) tI)) : G := h
theorem DV (h : G := by
 refine cK ?_
 exact (aI (by refine bf ?_; unfold nO; rw [if_pos hok]) tI)) : G := h
theorem DW (h : G := by
 have hbad : eb q r = false := by simp_all [eb]
 refine sS [2, 3, 4] [2, 3] ?_
 exact jC) : G := h
theorem qn (h : G := by
 have hno : eC e = false := by first | (simp_all [eC]; done) | (simp_all [eC]; omega) | (rw [← Bool.not_eq_true]; intro hc_; obtain ⟨h1_, h2_, h3_, h4_⟩ := rP hc_; first | omega | (simp_all; done) | (simp_all; omega))
 refine sS [1, 2, 3, 4] [1, 2, 4] ?_
 refine mg ?_
 exact (Exists.intro 2 (Exists.intro _ (aI (by exact rfl) (aI (by refine cW ?_; rw [vc hno]; exact rfl) (aI a7 (aI (fun h => nomatch h) (aI (by refine fD ?_; rw [hno]) tI)))))))) : G := h
theorem DX (h : G := by
 refine lj ?_
 refine bC ?_
 exact qn) : G := h
theorem DY (h : G := by
 refine ne ?_
 refine bC ?_
 exact qn) : G := h
theorem DZ (h : G := by
 refine jF ?_
 refine bC ?_
 exact qn) : G := h
theorem D0 (h : G := by
 refine sG [1, 2, 3, 4, 5, 6, 8, 9, 10, 11, 13, 57, 58, 59, 77, 78, 79, 2900, 6100] [1, 2, 4, 6, 10, 13, 900] ?_
 refine b5 ?_
 refine nx (j + 1) (by omega) (e := (by exact aI (by first | exact bf (by rw [KF hjv hm, List.length_append]; simp only [List.length_cons, List.length_nil]; omega) | exact bf (by rw [KG hjv hm])) (aI (by exact bf (by omega)) (aI (by exact rfl) (tI))))) (f := (by exact aI (by first | (rw [KF hjv hm, ← hz3]; simp only [List.map_append, List.append_assoc]; exact rfl) | (rw [KG hjv hm]; exact rfl)) (tI)))) : G := h
theorem D1 (h : G := by
 refine nx (m + 1) (by omega) (e := (by exact aI (by first | exact bg (by rw [Rb hm1 hep, hga, List.map_append]; exact rfl) | exact bg (by rw [Rc hm1 hep])) (aI (by exact bf (by omega)) (aI (by exact rfl) (tI))))) (f := (by exact aI (by first | (rw [Rd hm1 hep, hga]; simp only [List.map_append, List.append_assoc]; exact rfl) | (rw [Re hm1 hep]; exact rfl)) (tI)))) : G := h
theorem D2 (h : G := by
 refine aM ?_
 refine b5 ?_
 exact D1) : G := h
theorem D3 (h : G := by
 refine qV ?_
 refine rA ?_ (x := dY)
 refine sc (fun hbf => ?_) (fun hbf => ?_)
 have hep : cH (bL e (parts e).length)[m] = true := by rw [hga]; simpa [cH] using hbf
 refine sG [1, 2, 3, 4, 5, 6, 14, 16, 57, 58, 59, 145, 146, 147, 6200] [1, 2, 4, 6, 16] ?_
 refine Gq ?_
 refine rA ?_ (x := lF eU)
 refine rA ?_ (x := b8 (ms := [val _, val _, sl _ _, sl _ _]) (qs := [val _, val _, sl .v _, sl .v _]) (by decide) dp (fun h => nomatch h) (by exact nl rfl) (by exact rfl) (by exact (ab.cons (PV.To.refl _) (ab.cons (PV.To.refl _) (ab.cons PV.to_none (ab.cons PV.to_none ab.nil))))) (by exact lq))
 refine yj ?_
 refine t3 ?_
 refine Gn ?_
 refine rA ?_ (x := cv (qs := [(true, [val _, val _, sl _ _, sl _ _]), (false, [val _]), (false, [val _]), (false, [sl _ _])]) (cs := [val _, val _, sl _ _, sl _ _, val _, val _, sl _ _]) (by decide) kF uH SM (by exact rfl) (by exact (aI (by exact ⟨⟩) (aI (by exact ⟨⟩) (aI (by exact ⟨⟩) (aI (by exact ⟨⟩) tI))))) rfl (by exact rfl))
 refine Fu ?_
 refine HK ?_
 refine sO [(1, _), (2, _), (3, _), (4, _), (5, _), (6, _), (14, _), (16, _), (57, _), (58, _), (59, _), (145, _), (146, _), (147, _), (6200, _)] [(1, _), (2, _), (4, (32, [sl _ _, val _, val _, sl _ _, sl _ _, sl _ _, sl _ _, val _])), (6, _), (16, (108, [val _, val _, sl _ _, sl _ _, val _, sl _ _, val _, val _, val _, sl _ _]))] ?_
 exact D2
 have hep : cH (bL e (parts e).length)[m] = false := by rw [hga]; simpa [cH] using hbf
 refine sG [1, 2, 3, 4, 5, 6, 14, 16, 57, 58, 59, 145, 146, 147, 6200] [1, 2, 4, 6, 16] ?_
 refine rA ?_ (x := tM)
 refine tq ?_
 refine rA ?_ (x := tA)
 refine sO [(1, _), (2, _), (3, _), (4, _), (5, _), (6, _), (14, _), (16, _), (57, _), (58, _), (59, _), (145, _), (146, _), (147, _), (6200, _)] [(1, _), (2, _), (4, _), (6, _), (16, (108, [val _, val _, sl _ _, sl _ _, val _, sl _ _, val _, val _, val _, sl _ _]))] ?_
 exact D2) : G := h
theorem D4 (h : G := by
 refine aM ?_
 refine xg ?_
 refine xk ?_
 refine sO [(1, _), (2, _), (3, _), (4, _), (5, _), (6, _), (14, _), (16, _), (57, _), (58, _), (59, _), (145, _), (146, _), (147, _), (6200, _)] [(1, _), (2, _), (4, _), (6, _), (16, (108, [nv _ (val _), nv _ (val _), nv _ (sl _ _), nv _ (sl _ _), nv _ (val _), nv _ (sl _ _), nv _ (val _), nv _ (val _), nv _ (val _), nv _ (sl _ _)]))] ?_
 refine wC (d := 16) (G := 6200) (e := 10) (f := (aG (.own 178 3) (.own 3 1) (.own 3 1) (.own 54 2) (.own 3 1))) (z := za[m]) (zs := (za.drop (m + 1))) (by exact rfl) (by exact (Nm.nv (Nm.nv (Nm.nv (Nm.nv (Nm.nv (Nm.nv (Nm.nv (Nm.nv (Nm.nv (Nm.nv Nm.nil))))))))))) (fun _ => rfl) (by rw [← List.drop_eq_getElem_cons hltz]; exact rfl) ?_
 refine xm ?_
 refine aM ?_
 refine rA ?_ (x := lF kC)
 refine ma ?_
 refine rA ?_ (x := lF kC)
 refine kh ?_
 refine xm ?_
 refine aM ?_
 refine t3 ?_
 refine rA ?_ (x := lF ee)
 refine tW ?_
 refine rA ?_ (x := lN dK)
 refine xJ ?_
 refine sc (fun hbe => ?_) (fun hbe => ?_)
 have hga : (bL e (parts e).length)[m] = (⟨za[m].1.Query, za[m].1.Time, za[m].1.Todo, za[m].1.Age + 1, 0, za[m].1.Cap, za[m].1.Rows⟩ : Active) := by rw [pC hm1 hm2, ← hz3]; exact zF hbe
 refine sG [1, 2, 3, 4, 5, 6, 14, 16, 57, 58, 59, 145, 146, 147, 6200] [1, 2, 4, 6, 16] ?_
 refine xG ?_
 refine xm ?_
 refine aM ?_
 exact D3
 have hga : (bL e (parts e).length)[m] = (⟨za[m].1.Query, za[m].1.Time, za[m].1.Todo, za[m].1.Age + 1, za[m].1.Sent, za[m].1.Cap, za[m].1.Rows⟩ : Active) := by rw [pC hm1 hm2, ← hz3]; exact zG hbe
 refine aN ?_
 refine sS [1, 2, 3, 4, 5, 6, 14, 16, 57, 58, 59, 145, 146, 147, 6200] [1, 2, 4, 6, 16] ?_
 exact D3) : G := h
theorem D5 (h : G := by
 refine bY ?_
 exact (Exists.intro 2 (Exists.intro _ (aI (by exact rfl) (aI (by refine cW ?_; rw [rO hok]; exact rfl) (aI a7 (aI (fun h => nomatch h) (aI (by refine fD ?_; rw [hok]) tI)))))))) : G := h
theorem D6 (h : G := by
 refine aM ?_
 refine rA ?_ (x := tM)
 refine m4 ?_
 refine aJ ?_
 refine Gr ?_
 refine rA ?_ (x := lF gR)
 refine ma ?_
 refine rA ?_ (x := lF ee)
 refine tW ?_
 refine rA ?_ (x := lN dK)
 refine rA ?_ (x := sV (by decide) (by exact ⟨⟩) (by exact ⟨⟩) (by omega))
 refine rA ?_ (x := lF gR)
 refine kh ?_
 refine Gr ?_
 refine rA ?_ (x := lF io)
 refine ma ?_
 refine rA ?_ (x := lF io)
 refine kh ?_
 refine sO [(1, _), (2, _), (3, _), (4, _), (5, _), (6, _), (57, _), (58, _), (59, _), (146, _), (147, _)] [(1, _), (2, _), (4, (32, [sl _ _, val _, val _, sl _ _, sl _ _, sl _ _, sl _ _, val _])), (6, _)] ?_
 refine mK ?_
 refine wA ?_ (x := b8 (ms := [sl _ _, val _, val _, sl _ _, sl _ _, sl _ _, sl _ _, val _]) (qs := [any, val _, val _, any, any, any, any, val _]) (by decide) a7 (fun h => nomatch h) (by exact nl rfl) (by exact rfl) (by exact (ab.cons PV.to_any (ab.cons (PV.To.refl _) (ab.cons (PV.To.refl _) (ab.cons PV.to_any (ab.cons PV.to_any (ab.cons PV.to_any (ab.cons PV.to_any (ab.cons (PV.To.refl _) ab.nil))))))))) (by exact lq))
 refine wO [(1, _), (2, _), (3, _), (4, _), (5, _), (6, _), (57, _), (58, _), (59, _), (146, _), (147, _), (202, _)] [(1, _), (2, _), (4, (32, [any, val _, val _, any, any, any, any, val _])), (6, _)] ?_
 refine M0 (L := (Lw w0.heap.size)) (qs := [(true, [sl _ _, val _, val _, sl _ _, sl _ _, sl _ _, sl _ _, val _])]) (as_ := [(true, [sl _ _, val _, val _, sl _ _, sl _ _, sl _ _, sl _ _, val _])]) (by decide) O5 (by exact ⟨rfl, ⟨⟩⟩) (by exact (aI (by exact ⟨⟩) tI)) (by decide) (by exact lq) (by exact (SE (e := eN e) (by omega))) (fun x hx => hx) (by exact lq) (by exact lq) ?_
 refine wA ?_ (x := aQ (ag := true) (vs := [sl _ _, val _, val _, sl _ _, sl _ _, sl _ _, sl _ _, val _]) a7 (by exact ⟨⟩) (by exact rfl) (by exact nl rfl))
 refine wA ?_ (x := kA)
 refine og ?_
 exact D5) : G := h
theorem w5 (h : G := by
 refine sG [0, 1, 5, 6, 7, 8, 9, 10, 11, 12, 13, 14, 15, 2900, 5000] [0, 6, 8, 13, 900] ?_
 refine bF ?_
 refine nx (j + 1) (by omega) (e := (by exact aI (by first | exact bf (by rw [KO hj2 hvv hmm, List.length_append]; simp only [List.length_cons, List.length_nil]; omega) | exact bf (by rw [vl hj2 (.inl hvv)]) | exact bf (by rw [vl hj2 (.inr hmm)])) (aI (by exact bf (by omega)) (tI)))) (f := (by exact aI (by first | (rw [KO hj2 hvv hmm, ← hz4]; simp only [List.map_append, List.append_assoc]; exact rfl) | (rw [vl hj2 (.inl hvv)]; exact rfl) | (rw [vl hj2 (.inr hmm)]; exact rfl)) (tI)))) : G := h
theorem tf (h : G := by
 refine bF ?_
 exact D1) : G := h
theorem D7 (h : G := by
 refine qV ?_
 refine rA ?_ (x := dY)
 refine sc (fun hbd => ?_) (fun hbd => ?_)
 have hep : cH (bL e (parts e).length)[m] = true := by rw [hga]; simpa [cH] using hbd
 refine sP [0, 3, 4, 5, 6, 5000, 6200] [0, 6] ?_
 refine ww (d := 6) (G := 6300) (by exact rfl) (by exact rfl) (ab.cons (PV.To.refl _) (ab.cons (PV.To.refl _) (ab.cons PV.to_none (ab.cons PV.to_none (ab.cons (PV.To.refl _) (ab.cons PV.to_none (ab.cons (PV.To.refl _) (ab.cons (PV.To.refl _) (ab.cons (PV.To.refl _) (ab.cons PV.to_none ab.nil)))))))))) (by exact lq) fun us hRN => ?_
 obtain ⟨_, _, hRN⟩ := hRN
 obtain ⟨uA_0, uA_1, uA_2, uA_3, uA_4, uA_5, uA_6, uA_7, uA_8, uA_9, rfl⟩ := Ip hRN.len
 clear hRN
 refine sO [(0, _), (3, _), (4, _), (5, _), (6, _), (5000, _), (6200, _), (6300, _)] [(0, _), (6, (108, [nv _ (val _), nv _ (val _), nv _ (sl _ _), nv _ (sl _ _), nv _ (val _), nv _ (sl _ _), nv _ (val _), nv _ (val _), nv _ (val _), nv _ (sl _ _)]))] ?_
 refine yA ?_
 refine qL ?_
 refine Gk ?_
 refine FV ?_
 refine Gv ?_
 refine Gw ?_
 refine Gt ?_
 refine Fe ?_
 refine FX ?_
 refine Hu ?_
 refine sO [(0, _), (3, _), (4, _), (5, _), (6, _), (5000, _), (6200, _), (6300, _)] [(0, (32, [sl _ _, val _, val _, sl _ _, sl _ _, sl _ _, sl _ _, val _])), (6, _)] ?_
 refine wD (d := 0) (G := 6300) (A := [sl _ _, val _, val _, sl _ _, sl _ _]) (B := [sl _ _, val _]) (p := sl (.own 63 7) (((e.Done ++ dS e (parts e).length m).map (aP (.own 178 3) (.own 3 1) (.own 54 2) (.own 3 1))) ++ [[val (vI (⟨za[m].1.Query, za[m].1.Time, za[m].1.Age + 1, za[m].1.Rows⟩ : dP).Query.Id), val (vI (⟨za[m].1.Query, za[m].1.Time, za[m].1.Age + 1, za[m].1.Rows⟩ : dP).Query.Tenant), sl (.own 178 3) ((⟨za[m].1.Query, za[m].1.Time, za[m].1.Age + 1, za[m].1.Rows⟩ : dP).Query.Conds.map bR), sl (.own 3 1) ((⟨za[m].1.Query, za[m].1.Time, za[m].1.Age + 1, za[m].1.Rows⟩ : dP).Query.Out.map ai), val (vI (⟨za[m].1.Query, za[m].1.Time, za[m].1.Age + 1, za[m].1.Rows⟩ : dP).Time), val (vI (⟨za[m].1.Query, za[m].1.Time, za[m].1.Age + 1, za[m].1.Rows⟩ : dP).Steps), sl (.own 54 2) ((⟨za[m].1.Query, za[m].1.Time, za[m].1.Age + 1, za[m].1.Rows⟩ : dP).Rows.map (bn (.own 3 1)))]])) (by exact rfl) (by exact rfl) (fun h_ k_ => BU (by exact (Nm.nv (Nm.nv (Nm.nv (Nm.nv (Nm.val (Nm.val (Nm.nv Nm.nil)))))))) (by exact (ci.keep (ci.keep (ci.keep (ci.keep (ci.lit rfl (ci.lit rfl (ci.drop (ci.drop (ci.drop (ci.drop (ci.drop (ci.keep ci.nil))))))))))))) h_ k_) ?_
 refine sG [0, 3, 4, 5, 6, 5000, 6200] [0, 6] ?_
 exact tf
 have hep : cH (bL e (parts e).length)[m] = false := by rw [hga]; simpa [cH] using hbd
 refine sG [0, 3, 4, 5, 6, 5000, 6200] [0, 6] ?_
 refine rA ?_ (x := tM)
 refine tq ?_
 refine rA ?_ (x := tA)
 refine tz ?_
 exact tf) : G := h
theorem D8 (h : G := by
 refine qd (bx := 0) (L := vK) (qs := []) (as_ := []) (by decide) y9 rfl (by exact rfl) (by exact rfl) (by exact ⟨⟩) (by exact ⟨⟩) (by decide) (by exact ⟨⟩) (by exact (An (e := eN e) (by omega))) (fun x hx => hx.elim) (by exact lq) (by exact (aI (.inl rfl) tI)) ?_
 refine og ?_
 exact ⟨(by exact rfl), rfl, tI⟩) : G := h
theorem D9 (h : G := by
 refine qV ?_
 refine rA ?_ (x := dY)
 refine sc (fun hbd => ?_) (fun hbd => ?_)
 have hep : cH (bL e (parts e).length)[m] = true := by rw [hga]; simpa [cH] using hbd
 refine sP [0, 2, 3, 4, 5, 6, 5000, 6200] [0, 6] ?_
 refine ww (d := 6) (G := 6300) (by exact rfl) (by exact rfl) (ab.cons (PV.To.refl _) (ab.cons (PV.To.refl _) (ab.cons PV.to_none (ab.cons PV.to_none (ab.cons (PV.To.refl _) (ab.cons PV.to_none (ab.cons (PV.To.refl _) (ab.cons (PV.To.refl _) (ab.cons (PV.To.refl _) (ab.cons PV.to_none ab.nil)))))))))) (by exact lq) fun us hRN => ?_
 obtain ⟨_, _, hRN⟩ := hRN
 obtain ⟨uA_0, uA_1, uA_2, uA_3, uA_4, uA_5, uA_6, uA_7, uA_8, uA_9, rfl⟩ := Ip hRN.len
 clear hRN
 refine sO [(0, _), (2, _), (3, _), (4, _), (5, _), (6, _), (5000, _), (6200, _), (6300, _)] [(0, _), (6, (108, [nv _ (val _), nv _ (val _), nv _ (sl _ _), nv _ (sl _ _), nv _ (val _), nv _ (sl _ _), nv _ (val _), nv _ (val _), nv _ (val _), nv _ (sl _ _)]))] ?_
 refine yA ?_
 refine qL ?_
 refine Gk ?_
 refine FV ?_
 refine Gv ?_
 refine Gw ?_
 refine Gt ?_
 refine Fe ?_
 refine FX ?_
 refine Hu ?_
 refine sO [(0, _), (2, _), (3, _), (4, _), (5, _), (6, _), (5000, _), (6200, _), (6300, _)] [(0, (32, [sl _ _, val _, val _, sl _ _, sl _ _, sl _ _, sl _ _, val _])), (6, _)] ?_
 refine wD (d := 0) (G := 6300) (A := [sl _ _, val _, val _, sl _ _, sl _ _]) (B := [sl _ _, val _]) (p := sl (.own 63 7) (((e.Done ++ dS e (parts e).length m).map (aP (.own 178 3) (.own 3 1) (.own 54 2) (.own 3 1))) ++ [[val (vI (⟨za[m].1.Query, za[m].1.Time, za[m].1.Age + 1, za[m].1.Rows⟩ : dP).Query.Id), val (vI (⟨za[m].1.Query, za[m].1.Time, za[m].1.Age + 1, za[m].1.Rows⟩ : dP).Query.Tenant), sl (.own 178 3) ((⟨za[m].1.Query, za[m].1.Time, za[m].1.Age + 1, za[m].1.Rows⟩ : dP).Query.Conds.map bR), sl (.own 3 1) ((⟨za[m].1.Query, za[m].1.Time, za[m].1.Age + 1, za[m].1.Rows⟩ : dP).Query.Out.map ai), val (vI (⟨za[m].1.Query, za[m].1.Time, za[m].1.Age + 1, za[m].1.Rows⟩ : dP).Time), val (vI (⟨za[m].1.Query, za[m].1.Time, za[m].1.Age + 1, za[m].1.Rows⟩ : dP).Steps), sl (.own 54 2) ((⟨za[m].1.Query, za[m].1.Time, za[m].1.Age + 1, za[m].1.Rows⟩ : dP).Rows.map (bn (.own 3 1)))]])) (by exact rfl) (by exact rfl) (fun h_ k_ => BU (by exact (Nm.nv (Nm.nv (Nm.nv (Nm.nv (Nm.val (Nm.val (Nm.nv Nm.nil)))))))) (by exact (ci.keep (ci.keep (ci.keep (ci.keep (ci.lit rfl (ci.lit rfl (ci.drop (ci.drop (ci.drop (ci.drop (ci.drop (ci.keep ci.nil))))))))))))) h_ k_) ?_
 refine sG [0, 2, 3, 4, 5, 6, 5000, 6200] [0, 6] ?_
 exact tf
 have hep : cH (bL e (parts e).length)[m] = false := by rw [hga]; simpa [cH] using hbd
 refine sG [0, 2, 3, 4, 5, 6, 5000, 6200] [0, 6] ?_
 refine rA ?_ (x := tM)
 refine tq ?_
 refine rA ?_ (x := tA)
 refine tv ?_
 exact tf) : G := h
theorem Ea (h : G := by
 refine sG [1, 2, 4, 5, 6, 8, 22, 23, 24] [2] ?_
 refine b5 ?_
 refine nx (k + 1) (by omega) (e := (by exact aI (by first | exact congrArg (fun z => some (RV.sv false [sl .v (List.map ai z)])) (pp hlt hc).symm | exact congrArg (fun z => some (RV.sv false [sl .v (List.map ai z)])) (pq hlt hc).symm) (aI (by exact rfl) (tI))))) : G := h
theorem Eb (h : G := by
 refine sG [1, 2, 4, 5, 6, 7, 8, 9] [2] ?_
 refine bF ?_
 refine nx (k + 1) (by exact ⟨by omega, fun _ => hok⟩) (e := (by exact aI (by exact congrArg (fun z => some (RV.sv false [sl .v (List.map ai z)])) hsb.1.symm) (aI (by exact bf hsb.2.symm) (aI (by exact rfl) (tI)))))) : G := h
theorem Ec (h : G := by
 have hsb := Ot (x := x) (l := l) hlt (by first | exact .inl hk0e | exact .inr (by omega))
 refine sS [1, 2, 4, 5, 6, 7, 8, 9] [2] ?_
 refine i4 ?_
 refine Ho ?_
 refine rA ?_ (x := vA false [sl .v _])
 refine sG [1, 2, 4, 5, 6, 7, 8, 9] [2] ?_
 refine rM ?_
 refine rS ?_
 exact Eb) : G := h
theorem Ed (h : G := by
 have hfin : (k = bi.length ∧ cy x = true) ∨ (k = 0 ∧ (bi.length = 0 ∨ cy x = false)) := by
  by_cases h0k : 0 < k
  ·left
   have h1 := ha h0k
   refine ⟨?_, h1⟩
   by_cases hka : k = bi.length
   ·exact hka
   ·exfalso
    have hlt_ : k < bi.length := by omega
    have hlt2_ : (k : Int) < (bi.length : Int) := by omega
    first | omega | simp_all
  ·right
   refine ⟨by omega, ?_⟩
   by_cases hka : bi.length = 0
   ·exact .inl hka
   ·right
    have hlt_ : k < bi.length := by omega
    have hlt2_ : (k : Int) < (bi.length : Int) := by omega
    rw [← Bool.not_eq_true]; intro hc_; simp_all
 refine aX ?_
 refine sT [1, 2, 4, 5, 6, 7, 8] [2] ?_
 refine xP ?_
 refine bY ?_
 exact (aI (by refine bg ?_; rw [Ow hfin]) tI)) : G := h
theorem Ee (h : G := by
 refine mP (s := 2) [sl _ _] (by exact rfl) (by exact (ab.cons PV.to_none ab.nil)) (by exact (ae.cons (bor_sl _) ae.nil)) ?_
 refine bY ?_
 exact (aI (by refine bg ?_; unfold eY; rw [if_neg (by rw [hok]; simp)]; rfl) tI)) : G := h
theorem Ef (h : G := by
 refine rA ?_ (x := vA false [sl .v _])
 refine bY ?_
 exact (aI (by refine bg ?_; unfold eY; rw [if_pos hok]) tI)) : G := h
theorem Eg (h : G := by
 refine mg ?_
 exact (Exists.intro 4 (Exists.intro _ (aI (by exact rfl) (aI (by refine cW ?_; rw [hr]; exact rfl) (aI a7 (aI (fun h => nomatch h) (aI (by refine fD ?_; rw [hr]) tI)))))))) : G := h
theorem w6 (h : G := by
 have hr := KP (e := e) (o := o) (by cases h1_ : aH e <;> cases h2_ : bK o <;> simp_all)
 refine sS [1, 2, 4, 5, 6] [2, 4, 6] ?_
 exact Eg) : G := h
theorem Eh (h : G := by
 refine jI ?_
 exact w6) : G := h
theorem Ei (h : G := by
 refine rA ?_ (x := lF mn)
 refine oJ ?_
 refine xA ?_
 exact Eg) : G := h
theorem Ej (h : G := by
 obtain ⟨us0, r0, rfl, hl0, hR0, hU1⟩ := ct.cons hU0
 obtain ⟨u1_0_0, u1_0_1, u1_0_2, u1_0_3, u1_0_4, u1_0_5, u1_0_6, u1_0_7, rfl⟩ := nA hl0
 obtain rfl := dc hR0 (j := 1) rfl rfl
 obtain rfl := dc hR0 (j := 2) rfl rfl
 obtain rfl := dc hR0 (j := 7) rfl rfl
 obtain ⟨us1, r1, rfl, hl1, hR1, hU2⟩ := ct.cons hU1
 obtain ⟨u1_1_0, rfl⟩ := i9 hl1
 obtain rfl := dc hR1 (j := 0) rfl rfl
 obtain rfl := ct.nil hU2
 clear hR0 hU0 hR1 hU1 hU2
 refine Gy ?_
 refine a4.stepC 0 (by exact ⟨⟩) (by exact ⟨⟩) (be.of rfl (bB (by decide) jf jg)) (kW (bO.wr (bO.app (bO.app (bO.app (bO.of_ rfl) rfl) rfl) rfl) rfl)) (by kernel_rfl) (by intro L' h; exact Option.some.inj (show some _ = some L' from h)) ?_
 refine a4.stepC 191 (by exact ⟨rfl, rfl, ⟨⟩⟩) (by exact ⟨rfl, ⟨⟩⟩) (be.of rfl (aQ (ag := true) (vs := [val _, val _, val _, val _, val _, val _, val _, val _]) a7 (by exact ⟨⟩) (by exact rfl) (by exact nl rfl))) cV (by kernel_rfl) (by intro L' h; exact nomatch (show (none : Option ar) = some L' from h)) ?_
 refine a4.stepC 511 (by exact ⟨rfl, ⟨⟩⟩) (by exact ⟨⟩) (be.of rfl (eG (.inr rfl) (by decide) (by exact Cp.sc))) cV (by kernel_rfl) (by intro L' h; exact nomatch (show (none : Option ar) = some L' from h)) ?_
 refine sE (d := 3) (G := 2000) (by exact rfl) (by exact (Nm.val (Nm.val (Nm.val (Nm.val (Nm.val (Nm.val (Nm.val (Nm.val Nm.nil))))))))) (by exact rfl) ?_
 refine oj (s := 4) (G := 2001) (by exact rfl) (by exact (Nm.val Nm.nil)) rfl (by decide) (by exact rfl) ?_
 refine aJ ?_
 refine sO [(1, _), (2, _), (3, _), (4, _)] [(1, _), (2, _), (3, (32, [sl _ _, val _, val _, sl _ _, sl _ _, sl _ _, sl _ _, val _]))] ?_
 exact DC) : G := h
theorem Ek (h : G := by
 refine rS ?_
 refine nx (k + 1) (by omega) (e := (by exact aI (by exact bf (by omega)) (tI)))) : G := h
theorem El (h : G := by
 refine iL ?_
 refine rA ?_ (x := gI)
 exact Ek) : G := h
theorem Em (h : G := by
 refine rA ?_ (x := tM)
 refine G6 ?_
 refine sO [(1, _), (2, _), (4, _), (5, _), (6, _)] [(2, _), (4, _), (5, (32, [sl _ _, val _, val _, sl _ _, sl _ _, sl _ _, sl _ _, val _]))] ?_
 exact El) : G := h
theorem w7 (h : G := by
 have hend : k = du n := by unfold du at hk ⊢; first | omega | (simp_all; omega)
 refine aX ?_
 refine sT [1, 2, 4, 5, 6] [2, 4, 5] ?_
 refine lb ?_
 refine bY ?_
 exact (Exists.intro 4 (Exists.intro _ (aI (by exact rfl) (aI (by refine cW ?_; unfold eO; rw [← hend]; exact rfl) (aI a7 (aI (fun h => nomatch h) tI))))))) : G := h
theorem En (h : G := by
 refine jJ ?_
 exact w7) : G := h
theorem qo (h : G := by
 have hno : jW e q l = false := by first | (simp_all [jW]; done) | (simp_all [jW]; omega) | (rw [← Bool.not_eq_true]; intro hc_; obtain ⟨h1_, h2_, h3_, h4_, h5_⟩ := vp hc_; first | omega | (simp_all; done) | (simp_all [aB]; omega))
 refine sS [2, 3, 4, 6, 7, 8] [3, 4, 6, 8] ?_
 refine mg ?_
 exact (Exists.intro 6 (Exists.intro _ (aI (by exact rfl) (aI (by refine cW ?_; rw [zQ hno]; exact rfl) (aI a7 (aI (fun h => nomatch h) (aI (by refine fD ?_; rw [zQ hno]) tI)))))))) : G := h
theorem w8 (h : G := by
 refine sP [2, 3, 4, 6, 7, 8, 9, 10, 11, 12, 13, 6200, 6300] [3, 4, 6, 8, 9] ?_
 refine b9 bP ?_
 refine Gl ?_
 refine dG ?_
 refine dA 12 ?_ (x := aD (by decide) bJ (by exact ⟨⟩) (by exact rfl) (by exact aE (by omega) rfl) (by exact rfl))
 refine dA 28 ?_ (x := kc (qs := [nv _ (val _), nv _ (val _), nv _ (sl .v _), nv _ (sl .v _), nv _ (val _), nv _ (sl .v _), nv _ (val _), nv _ (val _), nv _ (val _), nv _ (sl .v _)]) (by decide) eK (fun h => nomatch h) (by exact nl rfl) (by exact (ab.cons (PV.To.refl _) (ab.cons (PV.To.refl _) (ab.cons (PV.To.refl _) (ab.cons (PV.To.refl _) (ab.cons (PV.To.refl _) (ab.cons (PV.To.refl _) (ab.cons (PV.To.refl _) (ab.cons (PV.To.refl _) (ab.cons (PV.To.refl _) (ab.cons (PV.To.refl _) ab.nil))))))))))) (by exact lq))
 refine dA 60 ?_ (x := bd (qs := [(true, [nv _ (val _), nv _ (val _), nv _ (sl _ _), nv _ (sl _ _), nv _ (val _), nv _ (sl _ _), nv _ (val _), nv _ (val _), nv _ (val _), nv _ (sl _ _)])]) (by decide) bJ fe (by decide) rfl rfl rfl rfl rfl (by exact nl rfl) (by exact (aI (by exact ⟨⟩) tI)) rfl)
 refine dA 127 ?_ (x := c8 (by decide) bJ fe rfl rfl (by decide) rfl (by simp only [List.length_map, List.length_append, List.length_cons, List.length_nil]; omega) (by simp only [List.length_map, List.length_append, List.length_cons, List.length_nil]; omega))
 refine dA 255 ?_ (x := lF dJ)
 refine dA 511 ?_ (x := aQ (ag := false) (vs := [sl _ _]) dm (by exact ⟨⟩) (by exact rfl) (by exact nl rfl))
 refine Gj ?_
 refine bF ?_
 refine nx (m + 1) (by omega) (e := (by exact aI (by exact fD (by first | (rw [decide_eq_decide]; omega) | (rw [decide_eq_true (show (cT e.Active q.Id) < m + 1 by omega)]; done))) (aI (by exact bf (by omega)) (tI)))) (f := (by exact aI (by first | (rw [RF hmz hpm]; simp only [List.map_append]; exact rfl) | (rw [RE hmz hpm]; simp only [List.map_append]; exact rfl)) (tI)))) : G := h
theorem Eo (h : G := by
 refine cD (d := 8) (by exact rfl) (show _ = [sl (.own 139 1) (e.Store.Segments.map (ax (.own 184 4) (.own 3 1))), val (vI e.Store.Now), val (vI e.Cursor), sl (.own 3 1) (e.Order.map ai), sl (.own 108 10) ((za.take (cT e.Active q.Id) ++ (d5 e q l, kNew) :: za.drop (cT e.Active q.Id)).map fx), sl (.own 63 7) (e.Done.map (aP (.own 178 3) (.own 3 1) (.own 54 2) (.own 3 1))), sl (.own 70 5) (e.Ledger.map (aR (.own 3 1) (.own 3 1) (.own 3 1))), val (vI e.Steps)] from by first | (rw [← RG hpl]; first | done | exact rfl) | (rw [← RH hpl]; simp only [List.map_append]; exact rfl)) ?_
 refine sP [2, 3, 4, 6, 7, 8, 9, 10, 11, 12, 13, 6200, 6300] [3, 4, 6, 8, 9] ?_
 refine Ni (G := 6300) (H := 6200) (e := 10) (f := (aG (.own 178 3) (.own 3 1) (.own 3 1) (.own 54 2) (.own 3 1))) (by exact rfl) (by exact rfl) (by exact rfl) ?_
 refine sP [2, 3, 4, 6, 7, 8, 9, 10, 11, 12, 13, 6300] [3, 4, 6, 8, 9] ?_
 refine BV (d := 8) (t := 108) (e := 10) (G := 6300) (A := [sl _ _, val _, val _, sl _ _]) (B := [sl _ _, sl _ _, val _]) (f := (aG (.own 178 3) (.own 3 1) (.own 3 1) (.own 54 2) (.own 3 1))) (g := (fun z : Active => [val (vI z.Query.Id), val (vI z.Query.Tenant), sl .v (z.Query.Conds.map bR), sl .v (z.Query.Out.map ai), val (vI z.Time), sl .v (z.Todo.map ai), val (vI z.Age), val (vI z.Sent), val (vI z.Cap), sl .v (z.Rows.map (bn (.own 3 1)))])) (fN := fx) (ys := (za.take (cT e.Active q.Id) ++ (d5 e q l, kNew) :: za.drop (cT e.Active q.Id))) [] (iA e q l) (by exact rfl) (by exact rfl) (fun _ _ => rfl) (fun _ => rfl) (fun _ => rfl) (RI) (RJ hoe hza) ?_
 refine sO [(2, _), (3, _), (4, _), (6, _), (7, _), (8, _), (9, _), (10, _), (11, _), (12, _), (13, _)] [(3, _), (4, _), (6, _), (8, (32, [sl _ _, val _, val _, sl _ _, sl _ _, sl _ _, sl _ _, val _])), (9, _)] ?_
 refine aM ?_
 refine mg ?_
 exact (Exists.intro 6 (Exists.intro _ (aI (by exact rfl) (aI (by refine cW ?_; rw [zR hok]; exact rfl) (aI a7 (aI (fun h => nomatch h) (aI (by refine fD ?_; rw [zR hok]) tI)))))))) : G := h
theorem Ep (h : G := by
 have hno : iX e id = false := by first | (simp_all [iX]; done) | (simp_all [iX]; omega) | (rw [← Bool.not_eq_true]; intro hc_; unfold iX at hc_; simp only [Bool.and_eq_true, decide_eq_true_eq] at hc_; obtain ⟨h1_, h2_⟩ := hc_; first | omega | (simp_all; done) | (simp_all; omega))
 refine sS [1, 2, 4, 5, 6, 7] [2, 4, 6] ?_
 refine mg ?_
 exact (Exists.intro 4 (Exists.intro _ (aI (by exact rfl) (aI (by refine cW ?_; rw [vq hno]; exact rfl) (aI a7 (aI (fun h => nomatch h) (aI (by refine fD ?_; rw [vq hno]) tI)))))))) : G := h
theorem Er (h : G := by
 have hno2 : gA id s.Segments[i][j] = false := by first | (simp_all [gA]; done) | (unfold gA; simp_all)
 refine aN ?_
 refine sG [1, 2, 6, 7] [2] ?_
 refine bF ?_
 refine nx (j + 1) (by exact ⟨by omega, pd hc hlt2 hno2⟩) (e := (by exact aI (by exact bf (by omega)) (tI)))) : G := h
theorem Es (h : G := by
 refine l5 ?_
 refine bD ?_
 exact (Exists.intro 4 (Exists.intro _ (aI (by exact rfl) (aI (by refine cW ?_; rw [rY hno]; exact rfl) (aI cq (aI (fun h => nomatch h) (aI (by refine fD ?_; rw [rY hno]) tI)))))))) : G := h
theorem w9 (h : G := by
 have hno : gC s u = false := by rw [← Bool.not_eq_true]; intro hc_; obtain ⟨h1_, h2_, h3_, h4_, h5_⟩ := pF hc_; first | omega | (simp_all; done) | (simp_all; omega)
 refine sS [2, 3, 4, 5, 6] [2, 3, 4, 6] ?_
 exact Es) : G := h
theorem Et (h : G := by
 have hno : gC s u = false := by rw [← Bool.not_eq_true]; intro hc_; obtain ⟨h1_, h2_, h3_, h4_, h5_⟩ := pF hc_; by_cases h1 : 0 ≤ bM s u.Row.Id <;> by_cases h2 : u.Kind = 1 <;> by_cases h3 : u.Kind = 2 <;> by_cases h4 : 0 ≤ fy s.Segments <;> by_cases h6 : bM s u.Row.Id < 0 <;> (first | omega | (simp_all; done) | (simp_all; omega))
 refine sS [2, 3, 4, 5, 6, 7, 8, 9] [2, 3, 4, 6] ?_
 exact Es) : G := h
theorem Eu (h : G := by
 refine l5 ?_
 refine bD ?_
 exact (Exists.intro 4 (Exists.intro _ (aI (by exact rfl) (aI (by refine cW ?_; first | (rw [vr hok hk2 hrm, hpv]; exact rfl) | (rw [rZ hok hk2]; exact rfl)) (aI cq (aI (fun h => nomatch h) (aI (by refine fD ?_; first | (rw [vr hok hk2 hrm]; done) | (rw [rZ hok hk2]; done)) tI)))))))) : G := h
theorem Ev (h : G := by
 obtain ⟨r, hr, hrm, hr4⟩ := zU (hrr.resolve_left hk2)
 have hru : r < (cZ s u).length := by omega
 have hua := zX s u hru hr
 have hpv := pG (v := jq s u) hru
 refine sP [2, 3, 4, 5, 6, 7, 8, 9, 10] [2, 3, 4, 6, 10] ?_
 refine jz (d := 6) (t := 26) (D := 940) (G := 2940) (E := 139) (e := 1) (L := (Lw w0.heap.size)) (A := []) (B := [val _]) (es := ((cZ s u)).map (ax (.own 184 4) (.own 3 1))) (by exact rfl) (hZ hru) (by exact rfl) (by exact rfl) rfl (by exact rfl) (fun x hx => hx) (by exact lq) (by exact lq) (by exact ak.nil) (by exact lc) (ak.map fun x => (ak.cons (lcl_own (ak.map fun x => (ak.cons lcl_val (ak.cons (lcl_own (ak.map fun x => (ak.cons lcl_val ak.nil))) (ak.cons lcl_val (ak.cons lcl_val ak.nil)))))) ak.nil)) fun uu940 cp940 jk940 hlD940 hcp940 hjk940 => ?_
 rw [List.length_map] at hlD940 hcp940 hjk940
 refine cD (d := 940) (by exact rfl) (hY (k := r) hru) ?_
 have hA940 := ia (f := (ax (.own 184 4) (.own 3 1))) (e := 1) (xs := (cZ s u)) (k := r) (fun _ => rfl) (Nat.le_of_lt hru)
 refine sO [(2, _), (3, _), (4, _), (5, _), (6, _), (7, _), (8, _), (9, _), (10, _), (2940, _)] [(2, _), (3, _), (4, _), (6, (26, [val _, val _])), (10, _), (940, (139, _ ++ ([sl _ _] ++ _)))] ?_
 refine b9 bP ?_
 refine ye ?_
 refine dA 0 ?_ (x := sM)
 refine dA 0 ?_ (x := lF gQ)
 refine dA 8 ?_ (x := lD [val _] gS)
 refine dA 0 ?_ (x := sM)
 refine dA 56 ?_ (x := fT (k := r) (G := 2940) (by decide) dK (by exact ⟨⟩) (by omega) (by first | (rw [List.length_map]; exact hru) | exact hru))
 refine dA 120 ?_ (x := wl (o := 0) (ms := [sl _ _]) (qs := [sl .v _]) (by omega) (by decide) f7 (fun _ => rfl) (by exact nl rfl) (by exact rfl) (by exact (ab.cons PV.to_none ab.nil)) (by exact (ae.cons (bor_sl _) ae.nil)))
 refine dA 0 ?_ (x := b8 (ms := [val _, sl _ _, val _, val _]) (qs := [val _, sl .v _, val _, val _]) (by decide) d2 (fun h => nomatch h) (by exact nl rfl) (by exact rfl) (by exact (ab.cons (PV.To.refl _) (ab.cons PV.to_none (ab.cons (PV.To.refl _) (ab.cons (PV.To.refl _) ab.nil))))) (by exact lq))
 refine dA 256 ?_ (x := bd (qs := [(true, [val _, sl _ _, val _, val _])]) (by decide) bT eV (by decide) rfl rfl rfl rfl rfl (by exact nl rfl) (by exact (aI (by exact ⟨⟩) tI)) rfl)
 refine dA 1016 ?_ (x := c8 (by decide) bT eV rfl rfl (by decide) rfl (by simp only [List.length_map, List.length_append, List.length_cons, List.length_nil]; omega) (by simp only [List.length_map, List.length_append, List.length_cons, List.length_nil]; omega))
 refine dA 2047 ?_ (x := fT (k := r) (G := 2940) (by decide) dK (by exact ⟨⟩) (by omega) (by first | (rw [List.length_map]; exact hru) | exact hru))
 refine dA 4095 ?_ (x := kd (o := 0) (ag := false) (vs := [sl _ _]) (by omega) f7 (by exact ⟨⟩) (by exact rfl) (by exact nl rfl))
 refine cD (d := 940) (by exact rfl) (kZ ((cZ s u)[r] ++ [jq s u]) hru (by simp only [ax, List.map_append]; exact rfl)) ?_
 refine mM (d := 6) (D := 940) (G := 2940) (e := 1) (A := []) (B := [val _]) (es := (((cZ s u)).set r ((cZ s u)[r] ++ [jq s u])).map (ax (.own 184 4) (.own 3 1))) (by exact rfl) (by exact rfl) (by exact rfl) rfl (by rw [List.length_map, List.length_set, List.length_map]) (by intro c hc; obtain ⟨y, _, rfl⟩ := List.mem_map.1 hc; exact rfl) (by rw [List.length_map]; exact hjk940) ?_
 refine aJ ?_
 refine sO [(2, _), (3, _), (4, _), (5, _), (6, _), (7, _), (8, _), (9, _), (10, _)] [(2, _), (3, _), (4, _), (6, (26, [sl _ _, val _])), (10, (184, [val _, sl _ _, val _, val _]))] ?_
 refine aM ?_
 exact Eu) : G := h
theorem Ew (h : G := by
 refine aN ?_
 refine sS [2, 3, 4, 5, 6, 7, 8, 9, 10] [2, 3, 4, 6, 10] ?_
 exact Eu) : G := h
theorem Ex (h : G := by
 refine Gd ?_
 refine yl ?_
 refine rA ?_ (x := co)
 refine sc (fun hbe => ?_) (fun hbe => ?_)
 have hk2 : ¬ u.Kind = 2 := by first | exact hbe | simpa using hbe
 exact Ev
 have hk2 : u.Kind = 2 := by first | exact hbe | simpa using hbe
 exact Ew) : G := h
theorem Ey (h : G := by
 refine GG ?_
 refine sG [2, 3, 4, 5, 6, 7, 8, 9, 10] [2, 3, 4, 6, 10] ?_
 refine rA ?_ (x := lF rC)
 refine tJ ?_
 refine sc (fun hbd => ?_) (fun hbd => ?_)
 have hk3 : u.Kind = 3 := by first | exact hbd | simpa using hbd
 have hge3 : 0 ≤ bM s u.Row.Id := by omega
 have hv3 := zY (u := u) hos hge3
 have hf3 := KZ hou hk3
 have hfl : u.Field.toNat < (e8 s u).length := by omega
 have hv2 : gB s u = (e8 s u).set u.Field.toNat u.Value := if_pos hk3
 refine sP [2, 3, 4, 5, 6, 7, 8, 9, 10] [2, 3, 4, 6, 10] ?_
 refine jz (d := 10) (t := 184) (D := 930) (G := 2930) (E := 3) (e := 1) (L := (Lw w0.heap.size)) (A := [val _]) (B := [val _, val _]) (es := ((e8 s u)).map ai) (by exact rfl) (hZ hfl) (by exact rfl) (by exact rfl) rfl (by exact rfl) (fun x hx => hx) (by exact lq) (by exact lq) (by exact lc) (by exact lc) (ak.map fun x => (ak.cons lcl_val ak.nil)) fun uu930 cp930 jk930 hlD930 hcp930 hjk930 => ?_
 rw [List.length_map] at hlD930 hcp930 hjk930
 refine cD (d := 930) (by exact rfl) (hY (k := u.Field.toNat) hfl) ?_
 have hA930 := ia (f := ai) (e := 1) (xs := (e8 s u)) (k := u.Field.toNat) (fun _ => rfl) (Nat.le_of_lt hfl)
 refine GC ?_
 refine rA ?_ (x := lF jd)
 refine rA ?_ (x := lD [val _] aZ)
 refine rA ?_ (x := lF rD)
 refine rA ?_ (x := lD [val _] aq)
 refine rA ?_ (x := lF rE)
 refine rA ?_ (x := lD [val _] aq)
 refine F0 ?_
 refine Fy ?_
 refine tE ?_
 exact Ex
 have hk3n : ¬ u.Kind = 3 := by first | exact hbd | simpa using hbd
 have hv2 : gB s u = e8 s u := if_neg hk3n
 refine dE ?_
 refine tV ?_
 exact Ex) : G := h
theorem Ez (h : G := by
 refine Gd ?_
 refine yl ?_
 refine rA ?_ (x := co)
 refine sc (fun hbd => ?_) (fun hbd => ?_)
 have hk2 : ¬ u.Kind = 2 := by first | exact hbd | simpa using hbd
 exact Ev
 have hk2 : u.Kind = 2 := by first | exact hbd | simpa using hbd
 exact Ew) : G := h
theorem EA (h : G := by
 refine GG ?_
 refine sG [2, 3, 4, 5, 6, 7, 8, 9, 10] [2, 3, 4, 6, 10] ?_
 refine rA ?_ (x := lF rC)
 refine tJ ?_
 refine sc (fun hbc => ?_) (fun hbc => ?_)
 have hk3 : u.Kind = 3 := by first | exact hbc | simpa using hbc
 have hge3 : 0 ≤ bM s u.Row.Id := by omega
 have hv3 := zY (u := u) hos hge3
 have hf3 := KZ hou hk3
 have hfl : u.Field.toNat < (e8 s u).length := by omega
 have hv2 : gB s u = (e8 s u).set u.Field.toNat u.Value := if_pos hk3
 refine sP [2, 3, 4, 5, 6, 7, 8, 9, 10] [2, 3, 4, 6, 10] ?_
 refine jz (d := 10) (t := 184) (D := 930) (G := 2930) (E := 3) (e := 1) (L := (Lw w0.heap.size)) (A := [val _]) (B := [val _, val _]) (es := ((e8 s u)).map ai) (by exact rfl) (hZ hfl) (by exact rfl) (by exact rfl) rfl (by exact rfl) (fun x hx => hx) (by exact lq) (by exact lq) (by exact lc) (by exact lc) (ak.map fun x => (ak.cons lcl_val ak.nil)) fun uu930 cp930 jk930 hlD930 hcp930 hjk930 => ?_
 rw [List.length_map] at hlD930 hcp930 hjk930
 refine cD (d := 930) (by exact rfl) (hY (k := u.Field.toNat) hfl) ?_
 have hA930 := ia (f := ai) (e := 1) (xs := (e8 s u)) (k := u.Field.toNat) (fun _ => rfl) (Nat.le_of_lt hfl)
 refine GC ?_
 refine rA ?_ (x := lF jd)
 refine rA ?_ (x := lD [val _] aZ)
 refine rA ?_ (x := lF rD)
 refine rA ?_ (x := lD [val _] aq)
 refine rA ?_ (x := lF rE)
 refine rA ?_ (x := lD [val _] aq)
 refine F0 ?_
 refine Fy ?_
 refine tE ?_
 exact Ez
 have hk3n : ¬ u.Kind = 3 := by first | exact hbc | simpa using hbc
 have hv2 : gB s u = e8 s u := if_neg hk3n
 refine dE ?_
 refine tV ?_
 exact Ez) : G := h
theorem tg (h : G := by
 refine sS [2, 3, 4] [2, 3] ?_
 refine bD ?_
 exact rb (by exact (mi (fun e => by subst e; simp_all [i8])).symm)) : G := h
theorem EB (h : G := by
 have hend : k = du n := by unfold du at hk ⊢; first | omega | (simp_all; omega)
 refine aX ?_
 refine sT [1, 2, 4, 5, 6] [2, 4, 5] ?_
 refine lb ?_
 refine bY ?_
 exact (Exists.intro 4 (Exists.intro _ (aI (by exact rfl) (aI (by refine cW ?_; unfold fL; rw [← hend]; exact rfl) (aI a7 (aI (fun h => nomatch h) tI))))))) : G := h
theorem EC (h : G := by
 refine mg ?_
 exact (Exists.intro 4 (Exists.intro _ (aI (by exact rfl) (aI (by refine cW ?_; rw [z0 hno]; exact rfl) (aI a7 (aI (fun h => nomatch h) (aI (by refine fD ?_; rw [z0 hno]) tI)))))))) : G := h
theorem qp (h : G := by
 refine cK ?_
 exact rb (by rw [Bool.eq_iff_iff]; simp only [eI, NS]; first | (simp_all [eI, uz]; done) | (simp_all [eI, uz, and_assoc]; done))) : G := h
theorem mV (h : G := by
 refine cK ?_
 exact rb (by rw [Bool.eq_iff_iff]; simp only [eI, NT]; first | (simp_all [eI, uz]; done) | (simp_all [eI, uz, and_assoc]; done))) : G := h
theorem qr (h : G := by
 refine bD ?_
 exact rb ((mi hne).symm)) : G := h
theorem ED (h : G := by
 have hne : ¬ x = y := by intro e_; subst e_; simp_all
 refine sS [2, 3, 4] [2, 3] ?_
 exact qr) : G := h
theorem EE (h : G := by
 have hne : ¬ x = y := by intro e_; subst e_; simp_all [i8]
 refine sS [2, 3, 5] [2, 3] ?_
 exact qr) : G := h
theorem EF (h : G := by
 refine aN ?_
 refine sG [2, 3, 5] [2, 3] ?_
 refine bF ?_
 refine nx (k + 1) (by exact ⟨by omega, lp ha0 hlt0 hlu0 heq⟩)) : G := h
theorem EG (h : G := by
 have hne : ¬ x = y := by intro e_; subst e_; simp_all [i8]
 refine sS [2, 3, 4] [2, 3] ?_
 exact qr) : G := h
theorem oz (h : G := by
 refine bC ?_
 exact EG) : G := h
theorem th (h : G := by
 have hne : ¬ x = y := by intro e_; subst e_; simp_all [i8]
 refine sS [2, 3, 5, 6, 7, 8] [2, 3, 7, 8] ?_
 exact qr) : G := h
theorem EH (h : G := by
 have hend : k = min code.length 4000 := by omega
 refine aX ?_
 refine sS [0, 2, 3, 4] [] ?_
 refine i4 ?_
 refine rA ?_ (x := cv (qs := [(false, [sl _ _]), (false, [val _])]) (cs := [sl _ _, val _, val _]) (by decide) Qe Qg Td (by exact rfl) (by exact (aI (by exact ⟨⟩) (aI (by exact ⟨⟩) tI))) rfl (by exact rfl))
 refine rX ?_ (x := (db (ag := true) (cs := [sl _ _, val _, val _]) (by decide) (by exact ⟨⟩)))
 refine rA ?_ (x := cA Cp.ptr)
 refine bY ?_
 exact ⟨31, by exact rfl, by subst hend; exact rfl⟩) : G := h
theorem EI (h : G := by
 refine nw ?_
 exact ⟨(by rw [hr]; exact rfl), rfl, (aI (by refine bf ?_; rw [hr]; rfl) tI)⟩) : G := h
theorem EJ (h : G := by
 refine bY ?_
 exact ⟨(by rw [hr]; exact rfl), rfl, (aI (by refine bf ?_; rw [hr]; try rfl) tI)⟩) : G := h
theorem EK (h : G := by
 refine bF ?_
 refine nx (k + 1) (by omega) (e := (by exact aI (by exact bf (by omega)) (tI))) (f := (by exact aI (by rw [fz, hcn]; rfl) (aI (by rw [fz, hcn]; try first | exact rfl | (simp only [List.map_append]; exact rfl)) (tI))))) : G := h
theorem EL (h : G := by
 refine sG [0, 1, 4, 5, 6, 7, 8, 9, 5000] [0, 4, 5] ?_
 refine rA ?_ (x := lF iO)
 refine rA ?_ (x := b8 (ms := [sl _ _]) (qs := [sl .v _]) (by decide) iP (fun _ => rfl) (by exact nl rfl) (by exact rfl) (by exact (ab.cons PV.to_none ab.nil)) (by exact (ae.cons (bor_sl _) ae.nil)))
 refine ku ?_
 refine rM ?_
 refine rA ?_ (x := cv (qs := [(false, [val _]), (false, [val _]), (false, [val _])]) (cs := [val _, val _, val _]) (by decide) ly yP Ti (by exact rfl) (by exact (aI (by exact ⟨⟩) (aI (by exact ⟨⟩) (aI (by exact ⟨⟩) tI)))) rfl (by exact rfl))
 refine rA ?_ (x := bd (qs := [(true, [val _, val _, val _])]) (by decide) gv ly (by decide) rfl rfl rfl rfl rfl (by exact nl rfl) (by exact (aI (by exact ⟨⟩) tI)) rfl)
 refine rA ?_ (x := c8 (by decide) gv ly rfl rfl (by decide) rfl (by simp only [List.length_map, List.length_append, List.length_cons, List.length_nil]; omega) (by simp only [List.length_map, List.length_append, List.length_cons, List.length_nil]; omega))
 refine HH ?_
 refine sO [(0, _), (1, _), (4, _), (5, _), (6, _), (7, _), (8, _), (9, _), (5000, _)] [(0, _), (4, _), (5, (52, [val _, val _, sl _ _, sl _ _]))] ?_
 refine aM ?_
 exact EK) : G := h
theorem EM (h : G := by
 have hbad : cw mF bm mG l = false := ls hlt (Bool.eq_false_iff.2 fun hx => by
  have hx := gr.1 hx
  rw [hgk] at hx
  obtain ⟨hx1, hx2⟩ := hx
  first
  | (simp_all; done)
  | (simp only [decide_eq_true_eq, mG] at *; by_cases h0 : k = 0 <;> (try rw [hgp (by omega)] at hx2) <;> omega))
 refine rn ?_
 exact rb (by simp [fA, hbad])) : G := h
theorem EN (h : G := by
 refine nf ?_
 refine bF ?_
 refine nx (k + 1) (by exact ⟨by omega, by rw [rx, ha, Bool.true_and]; refine gr.2 ⟨by rw [hgk]; first | assumption | simp_all, ?_⟩; rcases Nat.eq_zero_or_pos k with h0 | h0; (· exact .inl h0); (· right; rw [hgk, hgp h0]; first | (simp only [decide_eq_true_eq, mG] at *; omega) | (simp_all; done))⟩)) : G := h
theorem xb (h : G := by
 have hno : jZ rows n = false := by rw [← Bool.not_eq_true]; intro hc_; obtain ⟨h1_, h2_, h3_⟩ := Ag hc_; have h4_ : aB n 1 8 = true := (by simp [aB]; omega); (first | omega | (simp_all; done) | (simp_all; omega))
 refine Hf ?_
 refine rA ?_ (x := aQ (ag := true) (vs := [sl _ _, val _]) cq (by exact ⟨⟩) (by exact rfl) (by exact nl rfl))
 refine bD ?_
 exact (Exists.intro 4 (Exists.intro _ (aI (by exact rfl) (aI (by refine cW ?_; rw [Lf hno]; exact rfl) (aI cq (aI (fun h => nomatch h) (aI (by refine fD ?_; rw [Lf hno]) tI)))))))) : G := h
theorem EO (h : G := by
 refine sS [0, 3, 4, 5, 6, 29, 5000] [0, 3, 4] ?_
 refine rA ?_ (x := cM Cp.ptr)
 refine ic ?_
 refine rA ?_ (x := c9 (bx := 0) (qs := [(false, [val _])]) (as_ := [(false, [val _])]) (by decide) JR rfl (by exact (aI (by exact ⟨⟩) tI)) (by exact (aI (aI rfl (ab.cons (PV.To.refl _) ab.nil)) tI)) (by exact (ae.cons (hbo _) (ae.cons (bor_val _) (ae.cons (bor_val _) ae.nil)))) (by exact (cI (ae.cons (bor_val _) ae.nil) cr)) (by exact (LH hbo)))
 refine FL ?_
 refine bY ?_
 exact ⟨(by rw [Lj h0_, huk]; exact rfl), rfl, (Exists.intro 4 (Exists.intro _ (aI (by exact rfl) (aI (by refine cW ?_; rw [Lj h0_, huk]; exact rfl) (aI nF (aI (fun h => nomatch h) tI))))))⟩) : G := h
theorem EP (h : G := by
 refine sS [0, 3, 4, 5, 6, 29, 5000] [0, 3, 4] ?_
 refine GW ?_
 refine FL ?_
 refine bY ?_
 exact ⟨(by rw [Lk h0_ h1_, huk]; exact rfl), rfl, (Exists.intro 4 (Exists.intro _ (aI (by exact rfl) (aI (by refine cW ?_; rw [Lk h0_ h1_, hu]; exact rfl) (aI nF (aI (fun h => nomatch h) tI))))))⟩) : G := h
theorem EQ (h : G := by
 refine aN ?_
 refine sS [0, 3, 4, 5, 6, 29, 5000] [0, 3, 4] ?_
 refine ic ?_
 refine rS ?_
 refine sS [0, 3, 4, 5, 6, 7, 29, 5000] [0, 3, 4] ?_
 refine GW ?_
 refine rM ?_
 refine ic ?_
 refine rA ?_ (x := cv (qs := [(false, [val _]), (true, [val _, sl _ _]), (false, [val _]), (false, [val _])]) (cs := [val _, val _, sl _ _, val _, val _]) (by decide) yO yQ LW (by exact rfl) (by exact (aI (aY rfl) (aI (by exact ⟨⟩) (aI (by exact ⟨⟩) (aI (by exact ⟨⟩) tI))))) rfl (by exact rfl))
 refine rA ?_ (x := aQ (ag := true) (vs := [val _, val _, sl _ _, val _, val _]) nF (by exact ⟨⟩) (by exact rfl) (by exact nl rfl))
 refine bY ?_
 exact ⟨(by rw [Ll h0_ h1_, huk]; exact rfl), rfl, (Exists.intro 4 (Exists.intro _ (aI (by exact rfl) (aI (by refine cW ?_; rw [Ll h0_ h1_, huk, hu]; exact rfl) (aI nF (aI (fun h => nomatch h) tI))))))⟩) : G := h
theorem ER (h : G := by
 refine aJ ?_
 refine sS [0, 3, 4, 5, 6, 5000] [0, 3, 4] ?_
 refine ic ?_
 refine iE ?_
 refine t4 ?_
 refine sc (fun hbb => ?_) (fun hbb => ?_)
 have h0_ : (bV c s).1 = 0 := by rw [huk]; first | exact hbb | simpa using hbb
 exact EO
 have h0_ : ¬ (bV c s).1 = 0 := by rw [huk]; first | exact hbb | simpa using hbb
 refine t4 ?_
 refine sc (fun hbc => ?_) (fun hbc => ?_)
 have h1_ : (bV c s).1 = 1 := by rw [huk]; first | exact hbc | simpa using hbc
 exact EP
 have h1_ : ¬ (bV c s).1 = 1 := by rw [huk]; first | exact hbc | simpa using hbc
 exact EQ) : G := h
theorem xc (h : G := by
 refine bY ?_
 exact (Exists.intro 2 (Exists.intro _ (aI (by exact rfl) (aI (by exact rfl) (aI a7 (aI (fun h => nomatch h) (aI (by exact rfl) tI)))))))) : G := h
theorem ES (h : G := by
 refine sS [0, 2, 3, 5000] [0] ?_
 refine rA ?_ (x := tM)
 refine rA ?_ (x := tA)
 refine M8 (d := 0) [sl .v _, val _, val _] (by exact rfl) (by exact (en.cons OTo.lo (en.cons OTo.refl (en.cons OTo.refl en.nil)))) ?_
 refine bY ?_
 exact ⟨(by rw [hr]; exact rfl), rfl, (aI (by refine bg ?_; rw [hr]; first | done | exact rfl) tI)⟩) : G := h
theorem ET (h : G := by
 refine sO [(0, _), (1, _), (4, _), (5, _), (6, _), (7, _), (8, _), (24, _), (5000, _)] [(0, _), (4, _), (5, _), (8, (32, [sl _ _, val _, val _, sl _ _, sl _ _, sl _ _, sl _ _, val _]))] ?_
 refine aM ?_
 refine lb ?_
 refine sO [(0, _), (1, _), (4, _), (5, _), (6, _), (7, _), (8, _), (24, _), (5000, _)] [(0, _), (4, _), (5, (32, [sl _ _, val _, val _, sl _ _, sl _ _, sl _ _, sl _ _, val _])), (8, (32, [sl _ _, val _, val _, sl _ _, sl _ _, sl _ _, sl _ _, val _]))] ?_
 refine iL ?_
 refine rA ?_ (x := er)
 refine rS ?_
 refine nx (k + 1) (by omega) (e := (by exact aI (by exact bf (by omega)) (tI))) (f := (by exact aI (by rw [bb, hxn]; exact rfl) (aI (by rw [bb, hxn]; exact rfl) (tI))))) : G := h
theorem xd (h : G := by
 refine sE (d := 8) (G := 2000) (by exact rfl) (by exact (Nm.val (Nm.val (Nm.val (Nm.val (Nm.val (Nm.val (Nm.val (Nm.val Nm.nil))))))))) (by exact rfl) ?_
 exact ET) : G := h
theorem EU (h : G := by
 obtain rfl := dc hR1 (j := 0) rfl rfl
 obtain rfl := ct.nil hU2
 clear hR0 hU0 hR1 hU1 hU2
 refine a4.stepC 511 (by exact ⟨rfl, ⟨⟩⟩) (by exact ⟨⟩) (be.of rfl (mH (.inl rfl) (by decide))) cV (by kernel_rfl) (by intro L' h; exact nomatch (show (none : Option ar) = some L' from h)) ?_
 refine a4.stepC 1023 (by exact ⟨rfl, ⟨⟩⟩) (by exact ⟨⟩) (be.of rfl (gF (cs := [val _, val _, val _, val _, val _, val _, val _, val _]) (by decide) (by exact rfl) (by exact lq))) cV (by kernel_rfl) (by intro L' h; exact nomatch (show (none : Option ar) = some L' from h)) ?_
 refine a4.stepC 1023 (by exact ⟨rfl, ⟨⟩⟩) (by exact ⟨⟩) (be.of rfl (gF (cs := [val _]) (by decide) (by exact rfl) (by exact (ae.cons (bor_val _) ae.nil)))) cV (by kernel_rfl) (by intro L' h; exact nomatch (show (none : Option ar) = some L' from h)) ?_
 refine a4.stepC 2047 (by exact ⟨rfl, rfl, ⟨⟩⟩) (by exact ⟨rfl, ⟨⟩⟩) (be.of rfl (aQ (ag := true) (vs := [val _, val _, val _, val _, val _, val _, val _, val _]) a7 (by exact ⟨⟩) (by exact rfl) (by exact nl rfl))) cV (by kernel_rfl) (by intro L' h; exact nomatch (show (none : Option ar) = some L' from h)) ?_
 exact xd) : G := h
theorem EV (h : G := by
 obtain rfl := dc hR1 (j := 0) rfl rfl
 obtain rfl := ct.nil hU2
 clear hR0 hU0 hR1 hU1 hU2
 refine a4.stepC 63 (by exact ⟨rfl, ⟨⟩⟩) (by exact ⟨⟩) (be.of rfl (mH (.inl rfl) (by decide))) cV (by kernel_rfl) (by intro L' h; exact nomatch (show (none : Option ar) = some L' from h)) ?_
 refine a4.stepC 127 (by exact ⟨rfl, ⟨⟩⟩) (by exact ⟨⟩) (be.of rfl (gF (cs := [val _, val _, val _, val _, val _, val _, val _, val _]) (by decide) (by exact rfl) (by exact lq))) cV (by kernel_rfl) (by intro L' h; exact nomatch (show (none : Option ar) = some L' from h)) ?_
 refine a4.stepC 127 (by exact ⟨rfl, ⟨⟩⟩) (by exact ⟨⟩) (be.of rfl (gF (cs := [val _]) (by decide) (by exact rfl) (by exact (ae.cons (bor_val _) ae.nil)))) cV (by kernel_rfl) (by intro L' h; exact nomatch (show (none : Option ar) = some L' from h)) ?_
 refine a4.stepC 255 (by exact ⟨rfl, rfl, ⟨⟩⟩) (by exact ⟨rfl, ⟨⟩⟩) (be.of rfl (aQ (ag := true) (vs := [val _, val _, val _, val _, val _, val _, val _, val _]) a7 (by exact ⟨⟩) (by exact rfl) (by exact nl rfl))) cV (by kernel_rfl) (by intro L' h; exact nomatch (show (none : Option ar) = some L' from h)) ?_
 exact xd) : G := h
theorem EW (h : G := by
 obtain rfl := dc hR1 (j := 0) rfl rfl
 obtain rfl := ct.nil hU2
 clear hR0 hU0 hR1 hU1 hU2
 refine Gy ?_
 refine a4.stepC 63 (by exact ⟨rfl, rfl, ⟨⟩⟩) (by exact ⟨rfl, ⟨⟩⟩) (be.of rfl (aQ (ag := true) (vs := [val _, val _, val _, val _, val _, val _, val _, val _]) a7 (by exact ⟨⟩) (by exact rfl) (by exact nl rfl))) cV (by kernel_rfl) (by intro L' h; exact nomatch (show (none : Option ar) = some L' from h)) ?_
 exact xd) : G := h
theorem EX (h : G := by
 have hk3 : ¬ (bN (bb (bc c most) k).c).1 = 3 := hbe
 have hxn := TI (x := (bb (bc c most) k)) hk0 hk2 hk3
 refine sG [0, 1, 4, 5, 6, 7, 8, 24, 5000] [0, 4, 5, 8] ?_
 refine rA ?_ (x := lD [sl .v _, val _, val _, sl .v _, sl .v _, sl .v _, sl .v _, val _] a7)
 refine rA ?_ (x := cL [(true, [sl _ _, val _, val _, sl _ _, sl _ _, sl _ _, sl _ _, val _])] [(true, [sl .v _, val _, val _, sl .v _, sl .v _, sl .v _, sl .v _, val _])] JZ (hs := by exact (Lt (e := (bb (bc c most) k).e) (by omega))))
 refine rA ?_ (x := tM)
 refine G6 ?_
 exact ET) : G := h
theorem EY (h : G := by
 refine lb ?_
 refine bY ?_
 exact ⟨(by rw [hr]; exact rfl), rfl, (Exists.intro 2 (Exists.intro _ (aI (by exact rfl) (aI (by refine cW ?_; rw [hr]; exact rfl) (aI a7 (aI (fun h => nomatch h) tI))))))⟩) : G := h
theorem xe (h : G := by
 refine aJ ?_
 refine sO [(0, _), (2, _), (3, _), (7, _), (5000, _)] [(0, _), (2, _), (3, (32, [sl _ _, val _, val _, sl _ _, sl _ _, sl _ _, sl _ _, val _]))] ?_
 refine aM ?_
 exact EY) : G := h
theorem EZ (h : G := by
 refine rA ?_ (x := aQ (ag := false) (vs := [val _]) aq (by exact ⟨⟩) (by exact rfl) (by exact nl rfl))
 exact xe) : G := h
theorem E0 (h : G := by
 refine dA 524287 ?_ (x := sA)
 refine bY ?_
 exact rb (by first | rfl | (simp [i8]; done) | (simp; omega))) : G := h
theorem E3 (h : G := by
 exact absurd gc (by first | (simp; done) | (simp; omega) | (simp [i8]; done))) : G := h
theorem lb (h : H) (w : Hd H → G := by
 intro h_
 refine rA ?_ (x := b8 (ms := [sl _ _, val _, val _, sl _ _, sl _ _, sl _ _, sl _ _, val _]) (qs := [sl .v _, val _, val _, sl .v _, sl .v _, sl .v _, sl .v _, val _]) (by decide) a7 (fun h => nomatch h) (by exact nl rfl) (by exact rfl) (by exact (ab.cons PV.to_none (ab.cons (PV.To.refl _) (ab.cons (PV.To.refl _) (ab.cons PV.to_none (ab.cons PV.to_none (ab.cons PV.to_none (ab.cons PV.to_none (ab.cons (PV.To.refl _) ab.nil))))))))) (by exact lq))
 refine rA ?_ (x := aQ (ag := true) (vs := [sl _ _, val _, val _, sl _ _, sl _ _, sl _ _, sl _ _, val _]) a7 (by exact ⟨⟩) (by exact rfl) (by exact nl rfl))
 exact h_.get) : G := w ⟨h⟩
theorem xf (h : H) (w : Hd H → G := by
 intro h_
 refine rA ?_ (x := bd (qs := [(false, [val _])]) (by decide) a3 ce (by decide) rfl rfl rfl rfl rfl (by exact nl rfl) (by exact (aI (by exact ⟨⟩) tI)) rfl)
 refine rA ?_ (x := c8 (by decide) a3 ce rfl rfl (by decide) rfl (by simp only [List.length_map, List.length_append, List.length_cons, List.length_nil]; omega) (by simp only [List.length_map, List.length_append, List.length_cons, List.length_nil]; omega))
 exact h_.get) : G := w ⟨h⟩
theorem ic (h : H) (w : Hd H → G := by
 intro h_
 refine rA ?_ (x := cM Cp.ptr)
 refine rA ?_ (x := c9 (bx := 0) (qs := [(false, [val _])]) (as_ := [(false, [val _])]) (by decide) lM rfl (by exact (aI (aY rfl) tI)) (by exact (aI (aI rfl (ab.cons (PV.To.refl _) ab.nil)) tI)) (by exact (ae.cons (hbo _) (ae.cons (bor_val _) (ae.cons (bor_val _) ae.nil)))) (by exact (cI (ae.cons (bor_val _) ae.nil) cr)) (by exact (lU hbo (by omega))))
 exact h_.get) : G := w ⟨h⟩
theorem iI (h : H) (w : Hd H → G := by
 intro h_
 refine rX ?_ (x := (bB (by decide) jf jg))
 refine rA ?_ (x := aQ (ag := true) (vs := [sl _ _, val _, val _, sl _ _, sl _ _, sl _ _, sl _ _, val _]) a7 (by exact ⟨⟩) (by exact rfl) (by exact nl rfl))
 exact h_.get) : G := w ⟨h⟩
theorem dE (h : H) (w : Hd H → G := by
 intro h_
 refine aN ?_
 refine aJ ?_
 exact h_.get) : G := w ⟨h⟩
theorem fY (h : H) (w : Hd H → G := by
 intro h_
 refine sR ?_
 refine rX ?_ (x := (db (ag := true) (cs := [sl _ _, val _, val _, sl _ _, sl _ _, sl _ _, sl _ _, val _]) (by decide) (by exact ⟨⟩)))
 exact h_.get) : G := w ⟨h⟩
theorem E4 (h : H) (w : Hd H → G := by
 intro h_
 refine rA ?_ (x := pT (cs := [sl _ _, val _, val _, sl _ _, sl _ _, sl _ _, sl _ _, val _]) (qs := [sl .v _, val _, val _, sl .v _, sl .v _, sl .v _, sl .v _, val _]) (by decide) (by exact rfl) (by exact (ab.cons PV.to_none (ab.cons (PV.To.refl _) (ab.cons (PV.To.refl _) (ab.cons PV.to_none (ab.cons PV.to_none (ab.cons PV.to_none (ab.cons PV.to_none (ab.cons (PV.To.refl _) ab.nil))))))))) (by exact lq))
 refine rA ?_ (x := gF (cs := [val _]) (by decide) (by exact rfl) (by exact (ae.cons (bor_val _) ae.nil)))
 exact h_.get) : G := w ⟨h⟩
theorem l5 (h : H) (w : Hd H → G := by
 intro h_
 refine rA ?_ (x := b8 (ms := [sl _ _, val _]) (qs := [sl .v _, val _]) (by decide) cq (fun h => nomatch h) (by exact nl rfl) (by exact rfl) (by exact (ab.cons PV.to_none (ab.cons (PV.To.refl _) ab.nil))) (by exact (ae.cons (bor_sl _) (ae.cons (bor_val _) ae.nil))))
 refine rA ?_ (x := aQ (ag := true) (vs := [sl _ _, val _]) cq (by exact ⟨⟩) (by exact rfl) (by exact nl rfl))
 exact h_.get) : G := w ⟨h⟩
theorem aT (h : H) (w : Hd H → G := by
 intro h_
 refine dE ?_
 refine iE ?_
 exact h_.get) : G := w ⟨h⟩
theorem ti (h : H) (w : Hd H → G := by
 intro h_
 refine rA ?_ (x := aD (by decide) a3 (by exact ⟨⟩) (by exact rfl) (by exact aE (by omega) rfl) (by exact rfl))
 refine rA ?_ (x := lE [val _] aq)
 exact h_.get) : G := w ⟨h⟩
theorem oA (h : H) (w : Hd H → G := by
 intro h_
 refine rA ?_ (x := bd (qs := [(false, [val _]), (false, [val _]), (false, [val _])]) (by decide) a3 ce (by decide) rfl rfl rfl rfl rfl (by exact nl rfl) (by exact (aI (aY rfl) (aI (aY rfl) (aI (aY rfl) tI)))) rfl)
 refine rA ?_ (x := bd (qs := [(false, [val _]), (false, [val _]), (false, [val _])]) (by decide) a3 ce (by decide) rfl rfl rfl rfl rfl (by exact nl rfl) (by exact (aI (aY rfl) (aI (aY rfl) (aI (aY rfl) tI)))) rfl)
 exact h_.get) : G := w ⟨h⟩
theorem qt (h : H) (w : Hd H → G := by
 intro h_
 refine dX 0 ?_ (x := (eH (qs := [sl .v _, val _, val _, sl .v _, sl .v _, sl .v _, sl .v _, val _]) (by decide) a7 (fun h => nomatch h) (by exact nl rfl) (by exact (ab.cons PV.to_none (ab.cons (PV.To.refl _) (ab.cons (PV.To.refl _) (ab.cons PV.to_none (ab.cons PV.to_none (ab.cons PV.to_none (ab.cons PV.to_none (ab.cons (PV.To.refl _) ab.nil))))))))) (by exact lq)))
 refine dX 0 ?_ (x := (eG (.inl rfl) (by decide) (by exact Cp.ptr)))
 exact h_.get) : G := w ⟨h⟩
theorem oB (h : H) (w : Hd H → G := by
 intro h_
 refine rA ?_ (x := bd (qs := [(true, [val _, sl _ _])]) (by decide) fu ff (by decide) rfl rfl rfl rfl rfl (by exact nl rfl) (by exact (aI (by exact ⟨⟩) tI)) rfl)
 refine rA ?_ (x := c8 (by decide) fu ff rfl rfl (by decide) rfl (by simp only [List.length_map, List.length_append, List.length_cons, List.length_nil]; omega) (by simp only [List.length_map, List.length_append, List.length_cons, List.length_nil]; omega))
 exact h_.get) : G := w ⟨h⟩
theorem dG (h : H) (w : Hd H → G := by
 intro h_
 refine dA 0 ?_ (x := vM false [sl .v _])
 refine dA 0 ?_ (x := sM)
 exact h_.get) : G := w ⟨h⟩
theorem oC (h : H) (w : Hd H → G := by
 intro h_
 refine rA ?_ (x := bd (qs := []) (by decide) a3 ce (by decide) rfl rfl rfl rfl rfl (by exact nl rfl) (by exact ⟨⟩) rfl)
 refine rA ?_ (x := tA)
 exact h_.get) : G := w ⟨h⟩
theorem fZ (h : H) (w : Hd H → G := by
 intro h_
 refine rA ?_ (x := vM false [sl .v _])
 refine rA ?_ (x := lN a3)
 exact h_.get) : G := w ⟨h⟩
theorem mW (h : H) (w : Hd H → G := by
 intro h_
 refine rA ?_ (x := gI)
 refine rS ?_
 exact h_.get) : G := w ⟨h⟩
theorem E5 (h : H) (w : Hd H → G := by
 intro h_
 refine sP [1, 2, 3, 4, 5, 6, 14, 57, 58, 59, 145, 146, 147, 6200] [1, 2, 4, 6] ?_
 refine sL [1, 2, 3, 4, 5, 6, 57, 58, 59, 145, 146] [1, 2, 6] (fun m : Nat => m ≤ e.Active.length) (fun m : Nat => [(14, RV.slc (.own 108 10) ((fK e (parts e).length m).map (aG (.own 178 3) (.own 3 1) (.own 3 1) (.own 54 2) (.own 3 1)))), (147, RV.int (m : Int)), (6200, RV.gh (bo 10 (za.drop m)) (br (aG (.own 178 3) (.own 3 1) (.own 3 1) (.own 54 2) (.own 3 1)) (za.drop m)))]) (fun m : Nat => [(4, (32, [sl (.own 139 1) (e.Store.Segments.map (ax (.own 184 4) (.own 3 1))), val (vI e.Store.Now), val (vI e.Cursor), sl (.own 3 1) (e.Order.map ai), sl .v (za.map fx), sl (.own 63 7) ((e.Done ++ dS e (parts e).length m).map (aP (.own 178 3) (.own 3 1) (.own 54 2) (.own 3 1))), sl (.own 70 5) ((d4 e (parts e).length).map (aR (.own 3 1) (.own 3 1) (.own 3 1))), val (vI e.Steps)]))]) (fun m : Nat => e.Active.length - m) 0 (by omega) (by exact aI (by exact rfl) (aI (by exact rfl) (aI (by exact rfl) (tI)))) (by exact aI (by show _ = some (32, [sl (.own 139 1) (e.Store.Segments.map (ax (.own 184 4) (.own 3 1))), val (vI e.Store.Now), val (vI e.Cursor), sl (.own 3 1) (e.Order.map ai), sl .v (za.map fx), sl (.own 63 7) ((e.Done ++ dS e (parts e).length 0).map (aP (.own 178 3) (.own 3 1) (.own 54 2) (.own 3 1))), sl (.own 70 5) ((d4 e (parts e).length).map (aR (.own 3 1) (.own 3 1) (.own 3 1))), val (vI e.Steps)]); rw [show dS e (parts e).length 0 = [] from rfl, List.append_nil]; first | (rw [hled]; simp only [List.map_append]; exact rfl) | (rw [hled]; exact rfl)) (tI)) ?_
 exact h_.get) : G := w ⟨h⟩
theorem qu (h : H) (w : Hd H → G := by
 intro h_
 refine rM ?_
 refine rA ?_ (x := c9 (bx := 0) (qs := [(false, [val _])]) (as_ := [(false, [val _])]) (by decide) lM rfl (by exact (aI (by exact ⟨⟩) tI)) (by exact (aI (aI rfl (ab.cons (PV.To.refl _) ab.nil)) tI)) (by exact (ae.cons (hbo _) (ae.cons (bor_val _) (ae.cons (bor_val _) ae.nil)))) (by exact (cI (ae.cons (bor_val _) ae.nil) cr)) (by exact (lU hbo (by omega))))
 exact h_.get) : G := w ⟨h⟩
theorem tj (h : H) (w : Hd H → G := by
 intro h_
 refine rA ?_ (x := lE [sl .v _] aZ)
 refine rA ?_ (x := gp (by decide) a3 ce rfl rfl (by decide) (by first | (intro cs hcs; obtain ⟨x, _, rfl⟩ := List.mem_map.1 hcs; exact rfl) | simp) (by first | (intro cs hcs; obtain ⟨x, _, rfl⟩ := List.mem_map.1 hcs; exact (ae.cons (bor_val _) ae.nil)) | simp) (by simp only [List.length_map, List.length_append, List.length_cons, List.length_nil]; omega) (by simp only [List.length_map, List.length_append, List.length_cons, List.length_nil]; omega))
 exact h_.get) : G := w ⟨h⟩
theorem tk (h : H) (w : Hd H → G := by
 intro h_
 refine rA ?_ (x := lF gQ)
 refine rA ?_ (x := lD [sl .v _] gS)
 exact h_.get) : G := w ⟨h⟩
theorem bw (h : H) (w : Hd H → G := by
 intro h_
 refine rK ?_
 refine iE ?_
 exact h_.get) : G := w ⟨h⟩
theorem cj (h : H) (w : Hd H → G := by
 intro h_
 refine rA ?_ (x := kM)
 refine iE ?_
 exact h_.get) : G := w ⟨h⟩
theorem lf (h : H) (w : Hd H → G := by
 intro h_
 refine rX ?_ (x := (bB (by decide) lz lA))
 refine rA ?_ (x := aQ (ag := true) (vs := [sl _ _, val _]) cq (by exact ⟨⟩) (by exact rfl) (by exact nl rfl))
 exact h_.get) : G := w ⟨h⟩
theorem xg (h : H) (w : Hd H → G := by
 intro h_
 refine rA ?_ (x := aD (by decide) bJ (by exact ⟨⟩) (by exact rfl) (by exact aE (by omega) rfl) (by exact rfl))
 refine rA ?_ (x := kc (qs := [nv _ (val _), nv _ (val _), nv _ (sl .v _), nv _ (sl .v _), nv _ (val _), nv _ (sl .v _), nv _ (val _), nv _ (val _), nv _ (val _), nv _ (sl .v _)]) (by decide) eK (fun h => nomatch h) (by exact nl rfl) (by exact (ab.cons (PV.To.refl _) (ab.cons (PV.To.refl _) (ab.cons (PV.To.refl _) (ab.cons (PV.To.refl _) (ab.cons (PV.To.refl _) (ab.cons (PV.To.refl _) (ab.cons (PV.To.refl _) (ab.cons (PV.To.refl _) (ab.cons (PV.To.refl _) (ab.cons (PV.To.refl _) ab.nil))))))))))) (by exact lq))
 exact h_.get) : G := w ⟨h⟩
theorem l6 (h : H) (w : Hd H → G := by
 intro h_
 refine rA ?_ (x := lF dJ)
 refine rA ?_ (x := lD [sl .v _] dm)
 exact h_.get) : G := w ⟨h⟩
theorem qv (h : H) (w : Hd H → G := by
 intro h_
 refine rA ?_ (x := lD [sl .v _, val _, val _, sl .v _, sl .v _, sl .v _, sl .v _, val _] a7)
 refine rA ?_ (x := cL [(true, [sl _ _, val _, val _, sl _ _, sl _ _, sl _ _, sl _ _, val _])] [(true, [sl .v _, val _, val _, sl .v _, sl .v _, sl .v _, sl .v _, val _])] rI (hs := by exact (rN (by omega))))
 exact h_.get) : G := w ⟨h⟩
theorem tl (h : H) (w : Hd H → G := by
 intro h_
 refine rA ?_ (x := pT (cs := [sl _ _, sl _ _]) (qs := [sl .v _, sl .v _]) (by decide) (by exact rfl) (by exact (ab.cons PV.to_none (ab.cons PV.to_none ab.nil))) (by exact (ae.cons (bor_sl _) (ae.cons (bor_sl _) ae.nil))))
 refine rA ?_ (x := pT (cs := [sl _ _]) (qs := [sl .v _]) (by decide) (by exact rfl) (by exact (ab.cons PV.to_none ab.nil)) (by exact (ae.cons (bor_sl _) ae.nil)))
 exact h_.get) : G := w ⟨h⟩
theorem iJ (h : H) (w : Hd H → G := by
 intro h_
 refine sR ?_
 refine rX ?_ (x := (db (ag := true) (cs := [sl _ _, val _]) (by decide) (by exact ⟨⟩)))
 exact h_.get) : G := w ⟨h⟩
theorem oD (h : H) (w : Hd H → G := by
 intro h_
 refine rX ?_ (x := (bB (by decide) fe nH))
 refine rA ?_ (x := aQ (ag := true) (vs := [val _, val _, sl _ _, sl _ _, val _, sl _ _, val _, val _, val _, sl _ _]) eK (by exact ⟨⟩) (by exact rfl) (by exact nl rfl))
 exact h_.get) : G := w ⟨h⟩
theorem bu (h : H) (w : Hd H → G := by
 intro h_
 refine aJ ?_
 refine sR ?_
 refine rM ?_
 exact h_.get) : G := w ⟨h⟩
theorem oE (h : H) (w : Hd H → G := by
 intro h_
 refine rA ?_ (x := aD (by decide) bJ (by exact ⟨⟩) (by exact rfl) (by exact aE (by omega) rfl) (by exact rfl))
 refine rA ?_ (x := lE [val _, val _, sl .v _, sl .v _, val _, sl .v _, val _, val _, val _, sl .v _] eK)
 exact h_.get) : G := w ⟨h⟩
theorem qw (h : H) (w : Hd H → G := by
 intro h_
 refine sP [0, 1, 4, 5] [] ?_
 refine sL [0, 1] [] (fun k : Nat => k ≤ x.length ∧ x.take k = y.take k) (fun k : Nat => [(5, RV.int (k : Int))]) (fun k : Nat => []) (fun k : Nat => x.length - k) 0 (by exact ⟨by omega, by simp⟩) (by exact aI (by exact rfl) (tI)) (by exact ⟨⟩) ?_
 exact h_.get) : G := w ⟨h⟩
theorem eS (h : H) (w : Hd H → G := by
 intro h_
 refine rK ?_
 refine aJ ?_
 exact h_.get) : G := w ⟨h⟩
theorem kh (h : H) (w : Hd H → G := by
 intro h_
 refine rA ?_ (x := aQ (ag := false) (vs := [val _]) aq (by exact ⟨⟩) (by exact rfl) (by exact nl rfl))
 refine aJ ?_
 exact h_.get) : G := w ⟨h⟩
theorem tm (h : H) (w : Hd H → G := by
 intro h_
 refine rA ?_ (x := pT (cs := [sl _ _, val _]) (qs := [sl .v _, val _]) (by decide) (by exact rfl) (by exact (ab.cons PV.to_none (ab.cons (PV.To.refl _) ab.nil))) (by exact (ae.cons (bor_sl _) (ae.cons (bor_val _) ae.nil))))
 refine rA ?_ (x := gF (cs := [val _]) (by decide) (by exact rfl) (by exact (ae.cons (bor_val _) ae.nil)))
 exact h_.get) : G := w ⟨h⟩
theorem b5 (h : H) (w : Hd H → G := by
 intro h_
 refine rA ?_ (x := gI)
 refine rM ?_
 exact h_.get) : G := w ⟨h⟩
theorem mX (h : H) (w : Hd H → G := by
 intro h_
 refine rX ?_ (x := (bB (by decide) my mz))
 refine rA ?_ (x := aQ (ag := true) (vs := [sl _ _, sl _ _]) iT (by exact ⟨⟩) (by exact rfl) (by exact nl rfl))
 exact h_.get) : G := w ⟨h⟩
theorem oF (h : H) (w : Hd H → G := by
 intro h_
 refine aM ?_
 refine rA ?_ (x := lD [sl (.lo _) _, val _, val _, sl (.lo _) _, sl (.lo _) _, sl (.lo _) _, sl (.lo _) _, val _] a7)
 exact h_.get) : G := w ⟨h⟩
theorem bD (h : H) (w : Hd H → G := by
 intro h_
 refine rK ?_
 refine bY ?_
 exact h_.get) : G := w ⟨h⟩
theorem xh (h : H) (w : Hd H → G := by
 intro h_
 refine aM ?_
 refine rA ?_ (x := b8 (ms := [sl _ _, val _, val _, sl _ _, sl _ _, sl _ _, sl _ _, val _]) (qs := [sl .v _, val _, val _, sl .v _, sl .v _, sl .v _, sl .v _, val _]) (by decide) a7 (fun h => nomatch h) (by exact nl rfl) (by exact rfl) (by exact (ab.cons PV.to_none (ab.cons (PV.To.refl _) (ab.cons (PV.To.refl _) (ab.cons PV.to_none (ab.cons PV.to_none (ab.cons PV.to_none (ab.cons PV.to_none (ab.cons (PV.To.refl _) ab.nil))))))))) (by exact lq))
 exact h_.get) : G := w ⟨h⟩
theorem mY (h : H) (w : Hd H → G := by
 intro h_
 refine rA ?_ (x := aD (by decide) dK (by exact ⟨⟩) (by exact rfl) (by exact aE (by omega) rfl) (by exact rfl))
 refine rA ?_ (x := lE [sl .v _] f7)
 exact h_.get) : G := w ⟨h⟩
theorem oG (h : H) (w : Hd H → G := by
 intro h_
 refine rX ?_ (x := (bB (by decide) eV mp))
 refine rA ?_ (x := aQ (ag := true) (vs := [val _, sl _ _, val _, val _]) d2 (by exact ⟨⟩) (by exact rfl) (by exact nl rfl))
 exact h_.get) : G := w ⟨h⟩
theorem tn (h : H) (w : Hd H → G := by
 intro h_
 refine rA ?_ (x := lD [sl .v _, val _, val _, sl .v _, sl .v _, sl .v _, sl .v _, val _] a7)
 refine rA ?_ (x := cL [(true, [sl _ _, val _, val _, sl _ _, sl _ _, sl _ _, sl _ _, val _])] [(true, [sl .v _, val _, val _, sl .v _, sl .v _, sl .v _, sl .v _, val _])] JU (hs := by exact (Kt (by omega))))
 exact h_.get) : G := w ⟨h⟩
theorem to (h : H) (w : Hd H → G := by
 intro h_
 refine rA ?_ (x := lD [sl .v _, val _, val _, sl .v _, sl .v _, sl .v _, sl .v _, val _] a7)
 refine rA ?_ (x := cL [(true, [sl _ _, val _, val _, sl _ _, sl _ _, sl _ _, sl _ _, val _])] [(true, [sl .v _, val _, val _, sl .v _, sl .v _, sl .v _, sl .v _, val _])] JY (hs := by exact (KB (by omega))))
 exact h_.get) : G := w ⟨h⟩
theorem lg (h : H) (w : Hd H → G := by
 intro h_
 refine zf ga ?_
 refine rA ?_ (x := ay ga)
 exact h_.get) : G := w ⟨h⟩
theorem mZ (h : H) (w : Hd H → G := by
 intro h_
 refine rA ?_ (x := bd (qs := []) (by decide) bT eV (by decide) rfl rfl rfl rfl rfl (by exact nl rfl) (by exact ⟨⟩) rfl)
 refine rA ?_ (x := tA)
 exact h_.get) : G := w ⟨h⟩
theorem oH (h : H) (w : Hd H → G := by
 intro h_
 refine rA ?_ (x := aD (by decide) gj (by exact ⟨⟩) (by exact rfl) (by exact aE (by omega) rfl) (by exact rfl))
 refine rA ?_ (x := lE [val _, val _, sl .v _, sl .v _] dp)
 exact h_.get) : G := w ⟨h⟩
theorem i2 (h : H) (w : Hd H → G := by
 intro h_
 refine rA ?_ (x := cM Cp.ptr)
 refine rA ?_ (x := fU (by decide))
 exact h_.get) : G := w ⟨h⟩
theorem dH (h : H) (w : Hd H → G := by
 intro h_
 refine aJ ?_
 refine aJ ?_
 exact h_.get) : G := w ⟨h⟩
theorem bF (h : H) (w : Hd H → G := by
 intro h_
 refine rM ?_
 refine mW ?_
 exact h_.get) : G := w ⟨h⟩
theorem tq (h : H) (w : Hd H → G := by
 intro h_
 refine rA ?_ (x := b8 (ms := [val _, val _, sl _ _, sl _ _, val _, sl _ _, val _, val _, val _, sl _ _]) (qs := [val _, val _, sl .v _, sl .v _, val _, sl .v _, val _, val _, val _, sl .v _]) (by decide) eK (fun h => nomatch h) (by exact nl rfl) (by exact rfl) (by exact (ab.cons (PV.To.refl _) (ab.cons (PV.To.refl _) (ab.cons PV.to_none (ab.cons PV.to_none (ab.cons (PV.To.refl _) (ab.cons PV.to_none (ab.cons (PV.To.refl _) (ab.cons (PV.To.refl _) (ab.cons (PV.To.refl _) (ab.cons PV.to_none ab.nil))))))))))) (by exact lq))
 refine rA ?_ (x := bd (qs := [(true, [val _, val _, sl _ _, sl _ _, val _, sl _ _, val _, val _, val _, sl _ _])]) (by decide) bJ fe (by decide) rfl rfl rfl rfl rfl (by exact nl rfl) (by exact (aI (by exact ⟨⟩) tI)) rfl)
 refine rA ?_ (x := c8 (by decide) bJ fe rfl rfl (by decide) rfl (by simp only [List.length_map, List.length_append, List.length_cons, List.length_nil]; omega) (by simp only [List.length_map, List.length_append, List.length_cons, List.length_nil]; omega))
 exact h_.get) : G := w ⟨h⟩
theorem m4 (h : H) (w : Hd H → G := by
 intro h_
 refine rA ?_ (x := lF dJ)
 refine rA ?_ (x := aQ (ag := false) (vs := [sl _ _]) dm (by exact ⟨⟩) (by exact rfl) (by exact nl rfl))
 exact h_.get) : G := w ⟨h⟩
theorem qx (h : H) (w : Hd H → G := by
 intro h_
 refine rA ?_ (x := aD (by decide) fu (by exact ⟨⟩) (by exact rfl) (by exact aE (by omega) rfl) (by exact rfl))
 refine rA ?_ (x := lE [val _, sl .v _] ew)
 exact h_.get) : G := w ⟨h⟩
theorem E6 (h : H) (w : Hd H → G := by
 intro h_
 refine dX 4 ?_ (x := (c9 (bx := 0) (qs := [(false, [val _])]) (as_ := [(false, [val _])]) (by decide) lM rfl (by exact (aI (aY rfl) tI)) (by exact (aI (aI rfl (ab.cons (PV.To.refl _) ab.nil)) tI)) (by exact (ae.cons (hbo _) (ae.cons (bor_val _) (ae.cons (bor_val _) ae.nil)))) (by exact (cI (ae.cons (bor_val _) ae.nil) cr)) (by exact (lU hbo (by omega)))))
 refine dX 14 ?_ (x := (c9 (bx := 0) (qs := [(false, [val _])]) (as_ := [(false, [val _])]) (by decide) Pw rfl (by exact (aI (by exact ⟨⟩) tI)) (by exact (aI (aI rfl (ab.cons (PV.To.refl _) ab.nil)) tI)) (by exact (ae.cons (hbo _) (ae.cons (bor_val _) (ae.cons (bor_val _) ae.nil)))) (by exact (cI (ae.cons (bor_val _) ae.nil) cr)) (by exact (Tk hbo))))
 exact h_.get) : G := w ⟨h⟩
theorem jD (h : H) (w : Hd H → G := by
 intro h_
 refine sR ?_
 refine rA ?_ (x := fj (.inr rfl) (by decide) (fR (t := 3) (e := 1)))
 exact h_.get) : G := w ⟨h⟩
theorem l7 (h : H) (w : Hd H → G := by
 intro h_
 refine sR ?_
 refine rX ?_ (x := (db (ag := true) (cs := [val _, val _, sl _ _, sl _ _]) (by decide) (by exact ⟨⟩)))
 exact h_.get) : G := w ⟨h⟩
theorem E7 (h : H) (w : Hd H → G := by
 intro h_
 refine sP [1, 2, 4, 5, 6] [2, 4, 5] ?_
 refine sL [1, 2, 4, 5] [2, 4] (fun k : Nat => k ≤ du n) (fun k : Nat => [(6, RV.int (k : Int))]) (fun k : Nat => [(5, (32, [sl (.own 139 1) ((eD e k).Store.Segments.map (ax (.own 184 4) (.own 3 1))), val (vI (eD e k).Store.Now), val (vI (eD e k).Cursor), sl (.own 3 1) ((eD e k).Order.map ai), sl (.own 108 10) ((eD e k).Active.map (aG (.own 178 3) (.own 3 1) (.own 3 1) (.own 54 2) (.own 3 1))), sl (.own 63 7) ((eD e k).Done.map (aP (.own 178 3) (.own 3 1) (.own 54 2) (.own 3 1))), sl (.own 70 5) ((eD e k).Ledger.map (aR (.own 3 1) (.own 3 1) (.own 3 1))), val (vI (eD e k).Steps)]))]) (fun k : Nat => du n - k) 0 (by omega) (by exact aI (by exact rfl) (tI)) (by exact aI (by exact rfl) (tI)) ?_
 exact h_.get) : G := w ⟨h⟩
theorem i3 (h : H) (w : Hd H → G := by
 intro h_
 refine rA ?_ (x := vM false [sl .v _])
 refine rA ?_ (x := lN bT)
 exact h_.get) : G := w ⟨h⟩
theorem tt (h : H) (w : Hd H → G := by
 intro h_
 refine zt ga ?_
 refine rA ?_ (x := aA ga)
 exact h_.get) : G := w ⟨h⟩
theorem qy (h : H) (w : Hd H → G := by
 intro h_
 refine rA ?_ (x := lD [val _] aq)
 refine rA ?_ (x := cL [(false, [val _]), (false, [val _]), (false, [val _])] [(false, [val _]), (false, [val _]), (false, [val _])] eT (hs := by exact eZ))
 exact h_.get) : G := w ⟨h⟩
theorem E8 (h : H) (w : Hd H → G := by
 intro h_
 refine cD (d := 900) (by exact rfl) (kZ (⟨((bH l f k).getD ((bH l f k).length - 1) iv).From, (k : Int), ((bH l f k).getD ((bH l f k).length - 1) iv).Set⟩) hl1 (by rw [cX (d := iv) hl1]; exact rfl)) ?_
 refine Bj (s := 5) (D := 900) (G := 2900) (e := 3) (es := (((bH l f k)).set ((bH l f k).length - 1) (⟨((bH l f k).getD ((bH l f k).length - 1) iv).From, (k : Int), ((bH l f k).getD ((bH l f k).length - 1) iv).Set⟩)).map (f5 (.own 3 1))) (by exact rfl) (by exact rfl) (by exact rfl) rfl (by decide) (by rw [List.length_map, List.length_set, List.length_map]) (by intro c hc; obtain ⟨y, _, rfl⟩ := List.mem_map.1 hc; exact rfl) (by rw [List.length_map]; exact hjk900) ?_
 exact h_.get) : G := w ⟨h⟩
theorem E9 (h : H) (w : Hd H → G := by
 intro h_
 refine dX 4 ?_ (x := (eH (qs := [sl .v _, val _]) (by decide) cq (fun h => nomatch h) (by exact nl rfl) (by exact (ab.cons PV.to_none (ab.cons (PV.To.refl _) ab.nil))) (by exact (ae.cons (bor_sl _) (ae.cons (bor_val _) ae.nil)))))
 refine dX 14 ?_ (x := (c9 (bx := 0) (qs := [(true, [sl _ _, val _])]) (as_ := [(true, [sl .v _, val _])]) (by decide) JK rfl (by exact (aI (by exact ⟨⟩) tI)) (by exact (aI (aI rfl (ab.cons PV.to_none (ab.cons (PV.To.refl _) ab.nil))) tI)) (by exact (ae.cons (hbo _) (ae.cons (bor_val _) (ae.cons (bor_val _) ae.nil)))) (by exact (cI (ae.cons (bor_sl _) (ae.cons (bor_val _) ae.nil)) cr)) (by exact (LX (s := (bb (bc c most) k).e.Store) hbo hso))))
 exact h_.get) : G := w ⟨h⟩
theorem oI (h : H) (w : Hd H → G := by
 intro h_
 refine rA ?_ (x := bd (qs := []) (by decide) fu ff (by decide) rfl rfl rfl rfl rfl (by exact nl rfl) (by exact ⟨⟩) rfl)
 refine rA ?_ (x := tA)
 exact h_.get) : G := w ⟨h⟩
theorem qz (h : H) (w : Hd H → G := by
 intro h_
 refine rB ga ?_ (x := cL [(false, [val _]), (false, [val _]), (false, [val _])] [(false, [val _]), (false, [val _]), (false, [val _])] iN (hs := by exact iU))
 refine rB ga ?_ (x := nT)
 exact h_.get) : G := w ⟨h⟩
theorem xi (h : H) (w : Hd H → G := by
 intro h_
 refine rA ?_ (x := fT (k := i) (G := 2900) (by decide) dK (by exact ⟨⟩) (by first | rfl | omega) (by simp only [List.length_map]; omega))
 refine rA ?_ (x := M1 (f := iS) (e := 1) (k := i) (qs := [sl .v _]) (fun _ => rfl) rfl (by omega) (by decide) f7 (fun _ => rfl) (by exact (ab.cons PV.to_none ab.nil)) (by exact (ae.cons (bor_sl _) ae.nil)))
 exact h_.get) : G := w ⟨h⟩
theorem qA (h : H) (w : Hd H → G := by
 intro h_
 refine rB ga ?_ (x := cL [(false, [val _]), (false, [val _]), (false, [val _])] [(false, [val _]), (false, [val _]), (false, [val _])] eT (hs := by exact eZ))
 refine rB ga ?_ (x := nT)
 exact h_.get) : G := w ⟨h⟩
theorem qB (h : H) (w : Hd H → G := by
 intro h_
 refine rX ?_ (x := (bB (by decide) gx nI))
 refine rA ?_ (x := aQ (ag := true) (vs := [val _, val _, sl _ _, sl _ _]) dp (by exact ⟨⟩) (by exact rfl) (by exact nl rfl))
 exact h_.get) : G := w ⟨h⟩
theorem Fc (h : H) (w : Hd H → G := by
 intro h_
 refine dX 0 ?_ (x := (bd (qs := [(false, [val _]), (false, [val _]), (false, [val _]), (false, [val _])]) (by decide) a3 ce (by decide) rfl rfl rfl rfl rfl (by exact nl rfl) (by exact (aI (aY rfl) (aI (aY rfl) (aI (aY rfl) (aI (aY rfl) tI))))) rfl))
 refine dX 126 ?_ (x := (c9 (bx := 0) (qs := [(false, [sl _ _])]) (as_ := [(false, [sl .v _])]) (by decide) pt rfl (by exact (aI (by exact ⟨⟩) tI)) (by exact (aI (aI rfl (ab.cons PV.to_none ab.nil)) tI)) (by exact (ae.cons (hbo _) (ae.cons (bor_val _) (ae.cons (bor_val _) ae.nil)))) (by exact (cI (ae.cons (bor_sl _) ae.nil) cr)) (by exact (pM (l := [0, 0, 1, 2]) hbo (by decide) (by decide)))))
 exact h_.get) : G := w ⟨h⟩
theorem m8 (h : H) (w : Hd H → G := by
 intro h_
 refine rA ?_ (x := lD [sl .v _] aZ)
 refine rA ?_ (x := lN a3)
 exact h_.get) : G := w ⟨h⟩
theorem ki (h : H) (w : Hd H → G := by
 intro h_
 refine rA ?_ (x := vM false [sl .v _])
 refine rA ?_ (x := lN fu)
 exact h_.get) : G := w ⟨h⟩
theorem cE (h : H) (w : Hd H → G := by
 intro h_
 refine aT ?_
 refine aJ ?_
 exact h_.get) : G := w ⟨h⟩
theorem Fe (h : H) (w : Hd H → G := by
 intro h_
 refine dA 8160 ?_ (x := cv (qs := [(true, [nv _ (val _), nv _ (val _), nv _ (sl _ _), nv _ (sl _ _)]), (false, [val _]), (false, [val _]), (false, [nv _ (sl _ _)])]) (cs := [nv _ (val _), nv _ (val _), nv _ (sl _ _), nv _ (sl _ _), val _, val _, nv _ (sl _ _)]) (by decide) kF uH SS (by exact rfl) (by exact (aI (by exact ⟨⟩) (aI (by exact ⟨⟩) (aI (by exact ⟨⟩) (aI (by exact ⟨⟩) tI))))) rfl (by exact rfl))
 refine dA 16352 ?_ (x := bd (qs := [(true, [nv _ (val _), nv _ (val _), nv _ (sl _ _), nv _ (sl _ _), val _, val _, nv _ (sl _ _)])]) (by decide) iq kF (by decide) rfl rfl rfl rfl rfl (by exact nl rfl) (by exact (aI (by exact ⟨⟩) tI)) rfl)
 exact h_.get) : G := w ⟨h⟩
theorem i4 (h : H) (w : Hd H → G := by
 intro h_
 refine rA ?_ (x := vM false [sl .v _])
 refine rM ?_
 exact h_.get) : G := w ⟨h⟩
theorem l9 (h : H) (w : Hd H → G := by
 intro h_
 refine sR ?_
 refine rX ?_ (x := (db (ag := true) (cs := [sl _ _, sl _ _]) (by decide) (by exact ⟨⟩)))
 exact h_.get) : G := w ⟨h⟩
theorem bG (h : H) (w : Hd H → G := by
 intro h_
 refine sR ?_
 refine rA ?_ (x := cb)
 refine aJ ?_
 exact h_.get) : G := w ⟨h⟩
theorem Ff (h : H) (w : Hd H → G := by
 intro h_
 refine sO [(1, _), (2, _), (3, _), (4, _), (5, _), (6, _), (8, _), (9, _), (10, _), (11, _), (57, _), (58, _), (59, _), (77, _), (78, _), (79, _), (2900, _), (6100, _)] [(1, (32, [sl (.lo _) _, val _, val _, sl (.lo _) _, sl (.lo _) _, sl (.lo _) _, sl (.lo _) _, val _])), (2, (32, [sl _ _, val _, val _, sl _ _, sl _ _, sl _ _, sl _ _, val _])), (4, (32, [sl _ _, val _, val _, sl _ _, val _, sl _ _, sl _ _, val _])), (6, (70, [val _, val _, sl _ _, sl _ _, sl _ _])), (10, (108, [val _, val _, sl _ _, sl _ _, val _, sl _ _, val _, val _, val _, sl _ _])), (900, (108, _ ++ ([val _, val _, sl _ _, sl _ _, val _, sl _ _, val _, val _, val _, sl _ _] ++ _)))] ?_
 refine aM ?_
 exact h_.get) : G := w ⟨h⟩
theorem Fg (h : H) (w : Hd H → G := by
 intro h_
 refine rA ?_ (x := bd (qs := [(false, [val _]), (false, [val _]), (false, [val _])]) (by decide) a3 ce (by decide) rfl rfl rfl rfl rfl (by exact nl rfl) (by exact (aI (aY rfl) (aI (aY rfl) (aI (aY rfl) tI)))) rfl)
 refine rA ?_ (x := c9 (bx := 0) (qs := [(false, [sl _ _])]) (as_ := [(false, [sl .v _])]) (by decide) pt rfl (by exact (aI (by exact ⟨⟩) tI)) (by exact (aI (aI rfl (ab.cons PV.to_none ab.nil)) tI)) (by exact (ae.cons (hbo _) (ae.cons (bor_val _) (ae.cons (bor_val _) ae.nil)))) (by exact (cI (ae.cons (bor_sl _) ae.nil) cr)) (by exact (pM (l := [3, 6, 100]) hbo (by decide) (by decide))))
 exact h_.get) : G := w ⟨h⟩
theorem dI (h : H) (w : Hd H → G := by
 intro h_
 refine rA ?_ (x := nT)
 refine rM ?_
 exact h_.get) : G := w ⟨h⟩
theorem xj (h : H) (w : Hd H → G := by
 intro h_
 refine rA ?_ (x := lD [sl .v _, val _, val _, sl .v _, sl .v _, sl .v _, sl .v _, val _] a7)
 refine rA ?_ (x := cL [(true, [sl _ _, val _, val _, sl _ _, sl _ _, sl _ _, sl _ _, val _])] [(true, [sl .v _, val _, val _, sl .v _, sl .v _, sl .v _, sl .v _, val _])] JV (hs := by exact (KA (by omega))))
 exact h_.get) : G := w ⟨h⟩
theorem cK (h : H) (w : Hd H → G := by
 intro h_
 refine rS ?_
 refine bY ?_
 exact h_.get) : G := w ⟨h⟩
theorem oJ (h : H) (w : Hd H → G := by
 intro h_
 refine rA ?_ (x := aQ (ag := false) (vs := [sl _ _]) aZ (by exact ⟨⟩) (by exact rfl) (by exact nl rfl))
 refine aJ ?_
 exact h_.get) : G := w ⟨h⟩
theorem xk (h : H) (w : Hd H → G := by
 intro h_
 refine rX ?_ (x := (bB (by decide) fe nH))
 refine rA ?_ (x := aQ (ag := true) (vs := [nv _ (val _), nv _ (val _), nv _ (sl _ _), nv _ (sl _ _), nv _ (val _), nv _ (sl _ _), nv _ (val _), nv _ (val _), nv _ (val _), nv _ (sl _ _)]) eK (by exact ⟨⟩) (by exact rfl) (by exact nl rfl))
 exact h_.get) : G := w ⟨h⟩
theorem qC (h : H) (w : Hd H → G := by
 intro h_
 refine rA ?_ (x := bd (qs := []) (by decide) gj gx (by decide) rfl rfl rfl rfl rfl (by exact nl rfl) (by exact ⟨⟩) rfl)
 refine rA ?_ (x := tA)
 exact h_.get) : G := w ⟨h⟩
theorem tu (h : H) (w : Hd H → G := by
 intro h_
 refine rA ?_ (x := lD [val _] aq)
 refine rA ?_ (x := cL [(false, [val _]), (false, [val _]), (false, [val _])] [(false, [val _]), (false, [val _]), (false, [val _])] iN (hs := by exact iU))
 exact h_.get) : G := w ⟨h⟩
theorem Fh (h : H) (w : Hd H → G := by
 intro h_
 refine cD (d := 900) (by exact rfl) (congrArg (fun z_ => bX (ax (.own 184 4) (.own 3 1)) z_ jk900) (show (fv zss keep i).map (List.map Prod.fst) = s.Segments.map (lJ keep) from by rw [hend, y4]; exact OB hzss)) ?_
 refine mM (d := 6) (D := 900) (G := 2900) (e := 1) (A := []) (B := [val _]) (es := ((s.Segments.map (lJ keep))).map (ax (.own 184 4) (.own 3 1))) (by exact rfl) (by exact rfl) (by exact rfl) rfl (by simp) (by intro c hc; obtain ⟨y, _, rfl⟩ := List.mem_map.1 hc; exact rfl) (by rw [List.length_map]; exact hjk900) ?_
 exact h_.get) : G := w ⟨h⟩
theorem xl (h : H) (w : Hd H → G := by
 intro h_
 refine rA ?_ (x := c8 (by decide) bT eV rfl rfl (by decide) rfl (by simp only [List.length_map, List.length_append, List.length_cons, List.length_nil]; omega) (by simp only [List.length_map, List.length_append, List.length_cons, List.length_nil]; omega))
 refine rA ?_ (x := tA)
 exact h_.get) : G := w ⟨h⟩
theorem Fj (h : H) (w : Hd H → G := by
 intro h_
 refine dH ?_
 refine sO [(2, _), (3, _), (4, _), (6, _), (7, _), (8, _), (9, _), (10, _), (11, _), (12, _), (13, _), (6200, _), (6300, _)] [(3, (32, [sl _ _, val _, val _, sl _ _, sl _ _, sl _ _, sl _ _, val _])), (4, (52, [val _, val _, sl _ _, sl _ _])), (6, (32, [sl _ _, val _, val _, sl _ _, sl _ _, sl _ _, sl _ _, val _])), (8, (32, [sl _ _, val _, val _, sl _ _, sl _ _, sl _ _, sl _ _, val _])), (9, (108, [nv _ (val _), nv _ (val _), nv _ (sl _ _), nv _ (sl _ _), nv _ (val _), nv _ (sl _ _), nv _ (val _), nv _ (val _), nv _ (val _), nv _ (sl _ _)]))] ?_
 exact h_.get) : G := w ⟨h⟩
theorem tv (h : H) (w : Hd H → G := by
 intro h_
 refine sO [(0, _), (2, _), (3, _), (4, _), (5, _), (6, _), (5000, _), (6200, _)] [(0, _), (6, (108, [val _, val _, sl _ _, sl _ _, val _, sl _ _, val _, val _, val _, sl _ _]))] ?_
 refine aM ?_
 exact h_.get) : G := w ⟨h⟩
theorem Fk (h : H) (w : Hd H → G := by
 intro h_
 refine cD (d := 920) (by exact rfl) (kZ (s.Segments[i].set k (hJ (s.Now + 1) s.Segments[i][k])) hi (by exact rfl)) ?_
 refine mM (d := 6) (D := 920) (G := 2920) (e := 1) (A := []) (B := [val _]) (es := ((s.Segments).set i (s.Segments[i].set k (hJ (s.Now + 1) s.Segments[i][k]))).map (ax (.own 184 4) (.own 3 1))) (by exact rfl) (by exact rfl) (by exact rfl) rfl (by rw [List.length_map, List.length_set, List.length_map]) (by intro c hc; obtain ⟨y, _, rfl⟩ := List.mem_map.1 hc; exact rfl) (by rw [List.length_map]; exact hjk920) ?_
 exact h_.get) : G := w ⟨h⟩
theorem qD (h : H) (w : Hd H → G := by
 intro h_
 refine sR ?_
 refine rX ?_ (x := (db (ag := true) (cs := [val _, sl _ _, val _, val _]) (by decide) (by exact ⟨⟩)))
 exact h_.get) : G := w ⟨h⟩
theorem xm (h : H) (w : Hd H → G := by
 intro h_
 refine aJ ?_
 refine sO [(1, _), (2, _), (3, _), (4, _), (5, _), (6, _), (14, _), (16, _), (57, _), (58, _), (59, _), (145, _), (146, _), (147, _), (6200, _)] [(1, _), (2, _), (4, _), (6, _), (16, (108, [val _, val _, sl _ _, sl _ _, val _, sl _ _, val _, val _, val _, sl _ _]))] ?_
 exact h_.get) : G := w ⟨h⟩
theorem tw (h : H) (w : Hd H → G := by
 intro h_
 refine rB ga ?_ (x := cL [(false, [val _]), (false, [val _]), (false, [val _])] [(false, [val _]), (false, [val _]), (false, [val _])] eT (hs := by exact eZ))
 refine rA ?_ (x := aA ga)
 exact h_.get) : G := w ⟨h⟩
theorem tx (h : H) (w : Hd H → G := by
 intro h_
 refine rA ?_ (x := aD (by decide) bT (by exact ⟨⟩) (by exact rfl) (by exact aE (by omega) rfl) (by exact rfl))
 refine rA ?_ (x := lE [val _, sl .v _, val _, val _] d2)
 exact h_.get) : G := w ⟨h⟩
theorem tz (h : H) (w : Hd H → G := by
 intro h_
 refine sO [(0, _), (3, _), (4, _), (5, _), (6, _), (5000, _), (6200, _)] [(0, _), (6, (108, [val _, val _, sl _ _, sl _ _, val _, sl _ _, val _, val _, val _, sl _ _]))] ?_
 refine aM ?_
 exact h_.get) : G := w ⟨h⟩
theorem tB (h : H) (w : Hd H → G := by
 intro h_
 refine sR ?_
 refine rX ?_ (x := (db (ag := true) (cs := [sl (.lo _) _, val _, val _, sl (.lo _) _, sl (.lo _) _, sl (.lo _) _, sl (.lo _) _, val _]) (by decide) (by exact ⟨⟩)))
 exact h_.get) : G := w ⟨h⟩
theorem Fm (h : H) (w : Hd H → G := by
 intro h_
 refine dA 48 ?_ (x := lD [sl (.lo _) _] aZ)
 refine dA 120 ?_ (x := gp (by decide) a3 ce rfl rfl (by decide) (by first | (intro cs hcs; obtain ⟨x, _, rfl⟩ := List.mem_map.1 hcs; exact rfl) | simp) (by first | (intro cs hcs; obtain ⟨x, _, rfl⟩ := List.mem_map.1 hcs; exact (ae.cons (bor_val _) ae.nil)) | simp) (by simp only [List.length_map, List.length_append, List.length_cons, List.length_nil]; omega) (by simp only [List.length_map, List.length_append, List.length_cons, List.length_nil]; omega))
 exact h_.get) : G := w ⟨h⟩
theorem Fo (h : H) (w : Hd H → G := by
 intro h_
 refine dA 512 ?_ (x := lD [sl .v _] aZ)
 refine dA 2032 ?_ (x := gp (by decide) a3 ce rfl rfl (by decide) (by first | (intro cs hcs; obtain ⟨x, _, rfl⟩ := List.mem_map.1 hcs; exact rfl) | simp) (by first | (intro cs hcs; obtain ⟨x, _, rfl⟩ := List.mem_map.1 hcs; exact (ae.cons (bor_val _) ae.nil)) | simp) (by simp only [List.length_map, List.length_append, List.length_cons, List.length_nil]; omega) (by simp only [List.length_map, List.length_append, List.length_cons, List.length_nil]; omega))
 exact h_.get) : G := w ⟨h⟩
theorem tC (h : H) (w : Hd H → G := by
 intro h_
 refine sO [(1, _), (2, _), (3, _), (4, _), (5, _)] [(1, _), (2, _), (3, _), (5, (108, [val _, val _, sl _ _, sl _ _, val _, sl _ _, val _, val _, val _, sl _ _]))] ?_
 refine aM ?_
 exact h_.get) : G := w ⟨h⟩
theorem kk (h : H) (w : Hd H → G := by
 intro h_
 refine fY ?_
 refine rX ?_ (x := (bB (by decide) jf jg))
 exact h_.get) : G := w ⟨h⟩
theorem Fq (h : H) (w : Hd H → G := by
 intro h_
 refine rA ?_ (x := eH (qs := [nv _ (val _), nv _ (sl .v _), nv _ (val _), nv _ (val _)]) (by decide) d2 (fun h => nomatch h) (by exact nl rfl) (by exact (ab.cons (PV.To.refl _) (ab.cons (PV.To.refl _) (ab.cons (PV.To.refl _) (ab.cons (PV.To.refl _) ab.nil))))) (by exact lq))
 refine rA ?_ (x := bd (qs := [(true, [nv _ (val _), nv _ (sl _ _), nv _ (val _), nv _ (val _)])]) (by decide) bT eV (by decide) rfl rfl rfl rfl rfl (by exact nl rfl) (by exact (aI (by exact ⟨⟩) tI)) rfl)
 exact h_.get) : G := w ⟨h⟩
theorem xn (h : H) (w : Hd H → G := by
 intro h_
 refine oF ?_
 refine rA ?_ (x := cL [(true, [sl (.lo _) _, val _, val _, sl (.lo _) _, sl (.lo _) _, sl (.lo _) _, sl (.lo _) _, val _])] [(true, [sl .v _, val _, val _, sl .v _, sl .v _, sl .v _, sl .v _, val _])] JY (hs := by exact (KB (by omega))))
 exact h_.get) : G := w ⟨h⟩
theorem Fr (h : H) (w : Hd H → G := by
 intro h_
 refine sO [(1, _), (2, _), (3, _), (4, _), (5, _), (6, _), (8, _), (9, _), (10, _), (11, _), (57, _), (58, _), (59, _), (77, _), (78, _), (79, _), (6100, _)] [(1, _), (2, _), (4, _), (6, (70, [val _, val _, sl _ _, sl _ _, sl _ _])), (10, _)] ?_
 refine aM ?_
 exact h_.get) : G := w ⟨h⟩
theorem Ft (h : H) (w : Hd H → G := by
 intro h_
 refine cD (d := 921) (by exact rfl) (kZ (hJ (s.Now + 1) s.Segments[i][k]) hk (by exact rfl)) ?_
 refine mM (d := 920) (D := 921) (G := 2921) (e := 4) (A := _) (B := [] ++ _) (es := ((s.Segments[i]).set k (hJ (s.Now + 1) s.Segments[i][k])).map (dO (.own 3 1))) (by exact rfl) (by exact rfl) (by exact rfl) rfl (by rw [List.length_map, List.length_set, List.length_map]) (by intro c hc; obtain ⟨y, _, rfl⟩ := List.mem_map.1 hc; exact rfl) (by rw [List.length_map]; exact hjk921) ?_
 exact h_.get) : G := w ⟨h⟩
theorem tD (h : H) (w : Hd H → G := by
 intro h_
 refine rX ?_ (x := (bB (by decide) ff iQ))
 refine rA ?_ (x := aQ (ag := true) (vs := [val _, sl _ _]) ew (by exact ⟨⟩) (by exact rfl) (by exact nl rfl))
 exact h_.get) : G := w ⟨h⟩
theorem kl (h : H) (w : Hd H → G := by
 intro h_
 refine rA ?_ (x := vM false [sl .v _])
 refine rA ?_ (x := lN fw)
 exact h_.get) : G := w ⟨h⟩
theorem tE (h : H) (w : Hd H → G := by
 intro h_
 refine dH ?_
 refine sO [(2, _), (3, _), (4, _), (5, _), (6, _), (7, _), (8, _), (9, _), (10, _)] [(2, _), (3, _), (4, _), (6, _), (10, (184, [val _, sl _ _, val _, val _]))] ?_
 exact h_.get) : G := w ⟨h⟩
theorem i5 (h : H) (w : Hd H → G := by
 intro h_
 refine tk ?_
 refine rA ?_ (x := lN dK)
 exact h_.get) : G := w ⟨h⟩
theorem qE (h : H) (w : Hd H → G := by
 intro h_
 refine sR ?_
 refine rX ?_ (x := (db (ag := true) (cs := [val _, val _, sl _ _, sl _ _, sl _ _]) (by decide) (by exact ⟨⟩)))
 exact h_.get) : G := w ⟨h⟩
theorem tF (h : H) (w : Hd H → G := by
 intro h_
 refine dA 48 ?_ (x := aD (by decide) a3 (by exact ⟨⟩) (by exact rfl) (by exact aE (by omega) rfl) (by exact rfl))
 refine dA 112 ?_ (x := lE [val _] aq)
 exact h_.get) : G := w ⟨h⟩
theorem Fu (h : H) (w : Hd H → G := by
 intro h_
 refine rA ?_ (x := bd (qs := [(true, [val _, val _, sl _ _, sl _ _, val _, val _, sl _ _])]) (by decide) iq kF (by decide) rfl rfl rfl rfl rfl (by exact nl rfl) (by exact (aI (by exact ⟨⟩) tI)) rfl)
 refine rA ?_ (x := c8 (by decide) iq kF rfl rfl (by decide) rfl (by simp only [List.length_map, List.length_append, List.length_cons, List.length_nil]; omega) (by simp only [List.length_map, List.length_append, List.length_cons, List.length_nil]; omega))
 exact h_.get) : G := w ⟨h⟩
theorem ko (h : H) (w : Hd H → G := by
 intro h_
 refine rA ?_ (x := aA gb)
 refine rM ?_
 exact h_.get) : G := w ⟨h⟩
theorem m9 (h : H) (w : Hd H → G := by
 intro h_
 refine rA ?_ (x := ay gb)
 refine rM ?_
 exact h_.get) : G := w ⟨h⟩
theorem xo (h : H) (w : Hd H → G := by
 intro h_
 refine rA ?_ (x := lF dJ)
 refine rA ?_ (x := b8 (ms := [sl _ _]) (qs := [sl .v _]) (by decide) dm (fun _ => rfl) (by exact nl rfl) (by exact rfl) (by exact (ab.cons PV.to_none ab.nil)) (by exact (ae.cons (bor_sl _) ae.nil)))
 exact h_.get) : G := w ⟨h⟩
theorem et (h : H) (w : Hd H → G := by
 intro h_
 refine aX ?_
 refine aJ ?_
 exact h_.get) : G := w ⟨h⟩
theorem Fv (h : H) (w : Hd H → G := by
 intro h_
 refine a4.stepC 511 (by exact ⟨rfl, ⟨⟩⟩) (by exact ⟨⟩) (be.of rfl (eG (.inr rfl) (by decide) (by exact Cp.sc))) cV (by kernel_rfl) (by intro L' h; exact nomatch (show (none : Option ar) = some L' from h)) ?_
 refine a4.stepC 2047 (by exact ⟨rfl, ⟨⟩⟩) (by exact ⟨⟩) (be.of rfl (eG (.inr rfl) (by decide) (by exact Cp.sc))) cV (by kernel_rfl) (by intro L' h; exact nomatch (show (none : Option ar) = some L' from h)) ?_
 exact h_.get) : G := w ⟨h⟩
theorem Fw (h : H) (w : Hd H → G := by
 intro h_
 refine rA ?_ (x := bd (qs := [(true, [val _, val _, sl _ _, sl _ _])]) (by decide) gj gx (by decide) rfl rfl rfl rfl rfl (by exact nl rfl) (by exact (aI (by exact ⟨⟩) tI)) rfl)
 refine rA ?_ (x := c8 (by decide) gj gx rfl rfl (by decide) rfl (by simp only [List.length_map, List.length_append, List.length_cons, List.length_nil]; omega) (by simp only [List.length_map, List.length_append, List.length_cons, List.length_nil]; omega))
 exact h_.get) : G := w ⟨h⟩
theorem tG (h : H) (w : Hd H → G := by
 intro h_
 refine l6 ?_
 refine rA ?_ (x := lN bJ)
 exact h_.get) : G := w ⟨h⟩
theorem qF (h : H) (w : Hd H → G := by
 intro h_
 refine rA ?_ (x := lF jO)
 refine rA ?_ (x := lD [sl .v _] jR)
 exact h_.get) : G := w ⟨h⟩
theorem Fy (h : H) (w : Hd H → G := by
 intro h_
 refine cD (d := 930) (by exact rfl) (kZ u.Value hfl (by exact rfl)) ?_
 refine mM (d := 10) (D := 930) (G := 2930) (e := 1) (A := [val _]) (B := [val _, val _]) (es := (((e8 s u)).set u.Field.toNat u.Value).map ai) (by exact rfl) (by exact rfl) (by exact rfl) rfl (by rw [List.length_map, List.length_set, List.length_map]) (by intro c hc; obtain ⟨y, _, rfl⟩ := List.mem_map.1 hc; exact rfl) (by rw [List.length_map]; exact hjk930) ?_
 exact h_.get) : G := w ⟨h⟩
theorem FC (h : H) (w : Hd H → G := by
 intro h_
 refine rA ?_ (x := bd (qs := [(true, [val _, val _, sl _ _])]) (by decide) fw nU (by decide) rfl rfl rfl rfl rfl (by exact nl rfl) (by exact (aI (by exact ⟨⟩) tI)) rfl)
 refine rA ?_ (x := c8 (by decide) fw nU rfl rfl (by decide) rfl (by simp only [List.length_map, List.length_append, List.length_cons, List.length_nil]; omega) (by simp only [List.length_map, List.length_append, List.length_cons, List.length_nil]; omega))
 exact h_.get) : G := w ⟨h⟩
theorem tH (h : H) (w : Hd H → G := by
 intro h_
 refine rA ?_ (x := bd (qs := []) (by decide) bJ fe (by decide) rfl rfl rfl rfl rfl (by exact nl rfl) (by exact ⟨⟩) rfl)
 refine rA ?_ (x := tA)
 exact h_.get) : G := w ⟨h⟩
theorem FD (h : H) (w : Hd H → G := by
 intro h_
 refine rA ?_ (x := b8 (ms := [val _, val _, sl _ _, sl _ _]) (qs := [val _, val _, sl .v _, sl .v _]) (by decide) dp (fun h => nomatch h) (by exact nl rfl) (by exact rfl) (by exact (ab.cons (PV.To.refl _) (ab.cons (PV.To.refl _) (ab.cons PV.to_none (ab.cons PV.to_none ab.nil))))) (by exact lq))
 refine rA ?_ (x := aQ (ag := true) (vs := [val _, val _, sl _ _, sl _ _]) dp (by exact ⟨⟩) (by exact rfl) (by exact nl rfl))
 exact h_.get) : G := w ⟨h⟩
theorem tJ (h : H) (w : Hd H → G := by
 intro h_
 refine rA ?_ (x := lD [val _] aq)
 refine rA ?_ (x := dY)
 exact h_.get) : G := w ⟨h⟩
theorem ma (h : H) (w : Hd H → G := by
 intro h_
 refine rA ?_ (x := lD [val _] aq)
 refine rA ?_ (x := gI)
 exact h_.get) : G := w ⟨h⟩
theorem FE (h : H) (w : Hd H → G := by
 intro h_
 refine rA ?_ (x := bd (qs := [(false, [sl _ _])]) (by decide) dK uG (by decide) rfl rfl rfl rfl rfl (by exact nl rfl) (by exact (aI (by exact ⟨⟩) tI)) rfl)
 refine rA ?_ (x := c8 (by decide) dK uG rfl rfl (by decide) rfl (by simp only [List.length_map, List.length_append, List.length_cons, List.length_nil]; omega) (by simp only [List.length_map, List.length_append, List.length_cons, List.length_nil]; omega))
 exact h_.get) : G := w ⟨h⟩
theorem mb (h : H) (w : Hd H → G := by
 intro h_
 refine rA ?_ (x := dY)
 refine rS ?_
 exact h_.get) : G := w ⟨h⟩
theorem qG (h : H) (w : Hd H → G := by
 intro h_
 refine b9 bP ?_
 refine dA 0 ?_ (x := lD [sl .v _, val _, val _, sl .v _, sl .v _, sl .v _, sl .v _, val _] a7)
 exact h_.get) : G := w ⟨h⟩
theorem FF (h : H) (w : Hd H → G := by
 intro h_
 refine rA ?_ (x := cM Cp.ptr)
 refine rA ?_ (x := c9 (bx := 0) (qs := [(false, [val _])]) (as_ := [(false, [val _])]) (by decide) ze rfl (by exact (aI (aY rfl) tI)) (by exact (aI (aI rfl (ab.cons (PV.To.refl _) ab.nil)) tI)) (by exact (ae.cons (hbo _) (ae.cons (bor_val _) (ae.cons (bor_val _) ae.nil)))) (by exact (cI (ae.cons (bor_val _) ae.nil) cr)) (by exact (Ar hbo (by omega))))
 exact h_.get) : G := w ⟨h⟩
theorem FG (h : H) (w : Hd H → G := by
 intro h_
 refine sP [1, 3, 5, 7, 23, 24, 25, 32, 33, 34, 66, 67, 68] [1, 7] ?_
 refine sL [1, 3, 5, 7, 23, 24, 25, 32, 33, 34, 66, 67] [1, 7] (fun m : Nat => m ≤ (cl s k).length + j ∧ ek (aS s) ((cl s k).length + j) m = true) (fun m : Nat => [(68, RV.int (m : Int))]) (fun m : Nat => []) (fun m : Nat => (cl s k).length + j - m) 0 (by exact ⟨by omega, rfl⟩) (by exact aI (by exact rfl) (tI)) (by exact ⟨⟩) ?_
 exact h_.get) : G := w ⟨h⟩
theorem FH (h : H) (w : Hd H → G := by
 intro h_
 refine qt ?_
 refine dX 2 ?_ (x := (c9 (bx := 0) (qs := [(false, [val _])]) (as_ := [(false, [val _])]) (by decide) lM rfl (by exact (aI (aY rfl) tI)) (by exact (aI (aI rfl (ab.cons (PV.To.refl _) ab.nil)) tI)) (by exact (ae.cons (hbo _) (ae.cons (bor_val _) (ae.cons (bor_val _) ae.nil)))) (by exact (cI (ae.cons (bor_val _) ae.nil) cr)) (by exact (lU hbo (by omega)))))
 exact h_.get) : G := w ⟨h⟩
theorem xp (h : H) (w : Hd H → G := by
 intro h_
 refine rA ?_ (x := lD [val _] aq)
 refine rA ?_ (x := aD (k := e.Cursor.toNat) (by decide) dK (by exact ⟨⟩) (by omega) (by exact aE hcl (by rw [cX (d := ([] : List aF)) hcl])) (by exact rfl))
 exact h_.get) : G := w ⟨h⟩
theorem FI (h : H) (w : Hd H → G := by
 intro h_
 refine sO [(1, _), (2, _), (3, _), (4, _), (5, _), (6, _), (57, _), (58, _), (59, _)] [(1, (32, [sl (.lo _) _, val _, val _, sl (.lo _) _, sl (.lo _) _, sl (.lo _) _, sl (.lo _) _, val _])), (2, (32, [sl _ _, val _, val _, sl _ _, sl _ _, sl _ _, sl _ _, val _])), (4, (32, [sl _ _, val _, val _, sl _ _, sl _ _, sl _ _, sl _ _, val _])), (6, (70, [val _, val _, sl _ _, sl _ _, sl _ _]))] ?_
 refine aM ?_
 exact h_.get) : G := w ⟨h⟩
theorem FJ (h : H) (w : Hd H → G := by
 intro h_
 refine rA ?_ (x := bd (qs := [(false, [sl _ _]), (false, [sl _ _]), (false, [sl _ _]), (false, [sl _ _]), (false, [sl _ _]), (false, [sl _ _])]) (by decide) nS Qf (by decide) rfl rfl rfl rfl rfl (by exact nl rfl) (by exact (aI (by exact ⟨⟩) (aI (by exact ⟨⟩) (aI (by exact ⟨⟩) (aI (by exact ⟨⟩) (aI (by exact ⟨⟩) (aI (by exact ⟨⟩) tI))))))) rfl)
 refine rA ?_ (x := tA)
 exact h_.get) : G := w ⟨h⟩
theorem xq (h : H) (w : Hd H → G := by
 intro h_
 refine rA ?_ (x := lD [val _, sl .v _, val _, val _] d2)
 refine rA ?_ (x := cL [(true, [val _, sl _ _, val _, val _])] [(true, [val _, sl .v _, val _, val _])] Pf (hs := by exact Qo (by omega)))
 exact h_.get) : G := w ⟨h⟩
theorem xr (h : H) (w : Hd H → G := by
 intro h_
 refine rB gd ?_ (x := lD [val _] aq)
 refine rB gd ?_ (x := cL [(false, [val _]), (false, [val _]), (false, [val _])] [(false, [val _]), (false, [val _]), (false, [val _])] iN (hs := by exact iU))
 exact h_.get) : G := w ⟨h⟩
theorem FK (h : H) (w : Hd H → G := by
 intro h_
 refine om (c := 3) (AI := [(7, ⟨[], [], [(3, some (RV.ptr 3 0))], [(3, some (32, [sl (.own 139 1) [], val (.int .i64 0), val (.int .i64 0), sl (.own 3 1) [], sl (.own 108 10) [], sl (.own 63 7) [], sl (.own 70 5) [], val (.int .i64 0)]))], some 3⟩)]) bP rfl rfl rfl rfl (by kernel_rfl) (fun j L h o ho => by have h := fQ h; simp only [List.mem_cons, List.not_mem_nil, or_false, Prod.mk.injEq] at h; obtain ⟨rfl, rfl⟩ := h; (· cases (show some ⟨some 3, .alloc 32, _, _, _, none⟩ = some o from ho); apply be.of rfl; exact bB (d := 3) (by decide) jf jg)) (fun j L h d hd => by have h := fQ h; simp only [List.mem_cons, List.not_mem_nil, or_false, Prod.mk.injEq] at h; obtain ⟨rfl, rfl⟩ := h; (· cases (show some _ = some d from hd); exact bO.of_ rfl)) ?_
 refine dX 0 ?_ (x := (eH (qs := [sl .v _, val _, val _, sl .v _, sl .v _, sl .v _, sl .v _, val _]) (by decide) a7 (fun h => nomatch h) (by exact nl rfl) (by exact (ab.cons PV.to_none (ab.cons (PV.To.refl _) (ab.cons (PV.To.refl _) (ab.cons PV.to_none (ab.cons PV.to_none (ab.cons PV.to_none (ab.cons PV.to_none (ab.cons (PV.To.refl _) ab.nil))))))))) (by exact lq)))
 refine dX 0 ?_ (x := (eH (qs := [sl .v _, val _, val _, sl .v _, sl .v _, sl .v _, sl .v _, val _]) (by decide) a7 (fun h => nomatch h) (by exact nl rfl) (by exact (ab.cons PV.to_none (ab.cons (PV.To.refl _) (ab.cons (PV.To.refl _) (ab.cons PV.to_none (ab.cons PV.to_none (ab.cons PV.to_none (ab.cons PV.to_none (ab.cons (PV.To.refl _) ab.nil))))))))) (by exact lq)))
 exact h_.get) : G := w ⟨h⟩
theorem mc (h : H) (w : Hd H → G := by
 intro h_
 refine rA ?_ (x := vM false [sl .v _])
 refine rA ?_ (x := lN gj)
 exact h_.get) : G := w ⟨h⟩
theorem qH (h : H) (w : Hd H → G := by
 intro h_
 refine sR ?_
 refine rX ?_ (x := (db (ag := true) (cs := [val _, sl _ _]) (by decide) (by exact ⟨⟩)))
 exact h_.get) : G := w ⟨h⟩
theorem na (h : H) (w : Hd H → G := by
 intro h_
 refine dA 0 ?_ (x := cM Cp.ptr)
 refine dA 32 ?_ (x := fU (by decide))
 exact h_.get) : G := w ⟨h⟩
theorem xt (h : H) (w : Hd H → G := by
 intro h_
 refine dA 0 ?_ (x := sM)
 refine dA 992 ?_ (x := fT (k := i) (G := 2900) (by decide) bJ (by exact ⟨⟩) (by first | exact hf2 | omega) (by first | (rw [List.length_map]; exact hil) | exact hil))
 exact h_.get) : G := w ⟨h⟩
theorem FL (h : H) (w : Hd H → G := by
 intro h_
 refine rA ?_ (x := cv (qs := [(false, [val _]), (true, [val _, sl _ _])]) (cs := [val _, val _, sl _ _, val _, val _]) (by decide) yO yQ LW (by exact rfl) (by exact (aI (aY rfl) (aI (by exact ⟨⟩) tI))) rfl (by exact rfl))
 refine rA ?_ (x := aQ (ag := true) (vs := [val _, val _, sl _ _, val _, val _]) nF (by exact ⟨⟩) (by exact rfl) (by exact nl rfl))
 exact h_.get) : G := w ⟨h⟩
theorem xu (h : H) (w : Hd H → G := by
 intro h_
 refine rX ?_ (x := (bB (by decide) gT nJ))
 refine rA ?_ (x := aQ (ag := true) (vs := [val _, val _, sl _ _, sl _ _, sl _ _]) it (by exact ⟨⟩) (by exact rfl) (by exact nl rfl))
 exact h_.get) : G := w ⟨h⟩
theorem xv (h : H) (w : Hd H → G := by
 intro h_
 refine rA ?_ (x := aD (by decide) fq (by exact ⟨⟩) (by exact rfl) (by exact aE (by omega) rfl) (by exact rfl))
 refine rA ?_ (x := lE [val _, val _, sl .v _, sl .v _, sl .v _] it)
 exact h_.get) : G := w ⟨h⟩
theorem gJ (h : H) (w : Hd H → G := by
 intro h_
 refine rA ?_ (x := ay ga)
 refine rM ?_
 exact h_.get) : G := w ⟨h⟩
theorem xw (h : H) (w : Hd H → G := by
 intro h_
 refine rB gc ?_ (x := cL [(false, [val _]), (false, [val _]), (false, [val _])] [(false, [val _]), (false, [val _]), (false, [val _])] eT (hs := by exact eZ))
 refine rA ?_ (x := aA gc)
 exact h_.get) : G := w ⟨h⟩
theorem FN (h : H) (w : Hd H → G := by
 intro h_
 refine om (c := 6) (AI := []) bP rfl rfl rfl rfl (by kernel_rfl) (fun j L h => nomatch h) (fun j L h => nomatch h) ?_
 refine dX 0 ?_ (x := (eH (qs := [sl .v _, sl .v _]) (by decide) iT (fun h => nomatch h) (by exact nl rfl) (by exact (ab.cons PV.to_none (ab.cons PV.to_none ab.nil))) (by exact (ae.cons (bor_sl _) (ae.cons (bor_sl _) ae.nil)))))
 exact h_.get) : G := w ⟨h⟩
theorem FO (h : H) (w : Hd H → G := by
 intro h_
 refine dA 7 ?_ (x := fT (k := i) (G := 2920) (by decide) dK (by exact ⟨⟩) (by omega) (by first | (rw [List.length_map]; exact hi) | exact hi))
 refine dA 15 ?_ (x := oi (o := 0) (qs := [val _]) (by omega) (by decide) f7 (fun _ => rfl) (by exact nl rfl) (by exact (ab.cons (PV.To.refl _) ab.nil)) (by exact (ae.cons (bor_val _) ae.nil)))
 exact h_.get) : G := w ⟨h⟩
theorem FP (h : H) (w : Hd H → G := by
 intro h_
 refine sP [0, 2, 3, 4] [2, 3] ?_
 refine sL [0, 2, 3] [2] (fun k : Nat => k ≤ 3) (fun k : Nat => [(4, RV.int (k : Int))]) (fun k : Nat => [(3, (124, (yE (.own 52 4) (.own 178 3) (.own 3 1) (.own 243 1) (.own 268 3) (.own 3 1)) ⟨l, mu l k⟩))]) (fun k : Nat => 3 - k) 0 (by omega) (by exact aI (by exact rfl) (tI)) (by exact aI (by exact rfl) (tI)) ?_
 exact h_.get) : G := w ⟨h⟩
theorem FQ (h : H) (w : Hd H → G := by
 intro h_
 refine wC (d := 6) (G := 6200) (e := 10) (f := (aG (.own 178 3) (.own 3 1) (.own 3 1) (.own 54 2) (.own 3 1))) (z := za[m]) (zs := (za.drop (m + 1))) (by exact rfl) (by exact (Nm.nv (Nm.nv (Nm.nv (Nm.nv (Nm.nv (Nm.nv (Nm.nv (Nm.nv (Nm.nv (Nm.nv Nm.nil))))))))))) (fun _ => rfl) (by rw [← List.drop_eq_getElem_cons hltz]; exact rfl) ?_
 refine aJ ?_
 exact h_.get) : G := w ⟨h⟩
theorem FR (h : H) (w : Hd H → G := by
 intro h_
 refine rA ?_ (x := fT (k := i) (G := 2900) (by decide) dK (by exact ⟨⟩) (by first | rfl | omega) (by simp only [List.length_map]; omega))
 refine rA ?_ (x := M2 (f := iS) (e := 1) (k := i) (ag := false) (vs := [sl _ _]) _ (fun _ => rfl) rfl (by first | omega | (simp only [List.length_set]; omega)) f7 (by exact ⟨⟩) (by exact rfl))
 exact h_.get) : G := w ⟨h⟩
theorem qI (h : H) (w : Hd H → G := by
 intro h_
 refine zt g2 ?_
 refine rA ?_ (x := aA g2)
 exact h_.get) : G := w ⟨h⟩
theorem FS (h : H) (w : Hd H → G := by
 intro h_
 refine dA 1 ?_ (x := cL [(true, [sl _ _, val _, val _, sl _ _, sl _ _, sl _ _, sl _ _, val _])] [(true, [sl .v _, val _, val _, sl .v _, sl .v _, sl .v _, sl .v _, val _])] rJ (hs := by exact (sa (e := (aK (ba code hb)).1) (by omega))))
 refine dA 0 ?_ (x := lD [sl .v _, val _, val _, sl .v _, sl .v _, sl .v _, sl .v _, val _] a7)
 exact h_.get) : G := w ⟨h⟩
theorem FT (h : H) (w : Hd H → G := by
 intro h_
 refine rA ?_ (x := lD [sl .v _, val _, val _, sl .v _, sl .v _, sl .v _, sl .v _, val _] a7)
 refine rA ?_ (x := cL [(true, [sl _ _, val _, val _, sl _ _, sl _ _, sl _ _, sl _ _, val _])] [(true, [sl .v _, val _, val _, sl .v _, sl .v _, sl .v _, sl .v _, val _])] JG (hs := by exact (Lx (e := (aK (ba code hb)).1) (by omega))))
 exact h_.get) : G := w ⟨h⟩
theorem xx (h : H) (w : Hd H → G := by
 intro h_
 refine rB gb ?_ (x := lD [sl .v _] aZ)
 refine rB gb ?_ (x := cL [(false, [sl _ _]), (false, [sl _ _])] [(false, [sl .v _]), (false, [sl .v _])] nD (hs := by exact nV))
 exact h_.get) : G := w ⟨h⟩
theorem FU (h : H) (w : Hd H → G := by
 intro h_
 refine rA ?_ (x := kc (qs := [nv _ (val _), nv _ (sl .v _), nv _ (val _), nv _ (val _)]) (by decide) d2 (fun h => nomatch h) (by exact nl rfl) (by exact (ab.cons (PV.To.refl _) (ab.cons (PV.To.refl _) (ab.cons (PV.To.refl _) (ab.cons (PV.To.refl _) ab.nil))))) (by exact lq))
 refine rX ?_ (x := (bB (by decide) eV mp))
 exact h_.get) : G := w ⟨h⟩
theorem jE (h : H) (w : Hd H → G := by
 intro h_
 refine aM ?_
 refine rA ?_ (x := cM Cp.ptr)
 exact h_.get) : G := w ⟨h⟩
theorem ie (h : H) (w : Hd H → G := by
 intro h_
 refine eS ?_
 refine sT [1, 2] [1] ?_
 exact h_.get) : G := w ⟨h⟩
theorem oK (h : H) (w : Hd H → G := by
 intro h_
 refine dB 1023 gb ?_ (x := vM false [sl .v _])
 refine dB 1023 gb ?_ (x := sM)
 exact h_.get) : G := w ⟨h⟩
theorem qJ (h : H) (w : Hd H → G := by
 intro h_
 refine rA ?_ (x := lF eU)
 refine rA ?_ (x := lD [val _, val _, sl .v _, sl .v _] dp)
 exact h_.get) : G := w ⟨h⟩
theorem tK (h : H) (w : Hd H → G := by
 intro h_
 refine sS [1, 2] [1] ?_
 refine rA ?_ (x := lD [sl .v _, val _, val _, sl .v _, sl .v _, sl .v _, sl .v _, val _] a7)
 exact h_.get) : G := w ⟨h⟩
theorem qK (h : H) (w : Hd H → G := by
 intro h_
 refine rA ?_ (x := lF uE)
 refine rA ?_ (x := lD [val _, val _, sl .v _, sl .v _] dp)
 exact h_.get) : G := w ⟨h⟩
theorem oL (h : H) (w : Hd H → G := by
 intro h_
 refine rA ?_ (x := lF ee)
 refine rA ?_ (x := lD [sl .v _, val _] cq)
 exact h_.get) : G := w ⟨h⟩
theorem FV (h : H) (w : Hd H → G := by
 intro h_
 refine dA 0 ?_ (x := lF eU)
 refine dA 32 ?_ (x := eH (qs := [nv _ (val _), nv _ (val _), nv _ (sl .v _), nv _ (sl .v _)]) (by decide) dp (fun h => nomatch h) (by exact nl rfl) (by exact (ab.cons (PV.To.refl _) (ab.cons (PV.To.refl _) (ab.cons (PV.To.refl _) (ab.cons (PV.To.refl _) ab.nil))))) (by exact lq))
 exact h_.get) : G := w ⟨h⟩
theorem xy (h : H) (w : Hd H → G := by
 intro h_
 refine rX ?_ (x := (db (ag := true) (cs := [val _, val _, sl _ _, sl _ _, val _, sl _ _, val _, val _, val _, sl _ _]) (by decide) (by exact ⟨⟩)))
 refine rK ?_
 exact h_.get) : G := w ⟨h⟩
theorem xz (h : H) (w : Hd H → G := by
 intro h_
 refine sO [(1, _), (2, _), (3, _), (4, _), (6, _), (7, _)] [(1, _), (2, _), (3, _), (7, (63, [val _, val _, sl _ _, sl _ _, val _, val _, sl _ _]))] ?_
 refine aM ?_
 exact h_.get) : G := w ⟨h⟩
theorem FW (h : H) (w : Hd H → G := by
 intro h_
 refine sP [0, 1, 4, 5, 6] [] ?_
 refine sL [0, 1, 4] [] (fun k : Nat => k ≤ 100) (fun k : Nat => [(5, RV.slc (.own 268 3) ((bH l f k).map (f5 (.own 3 1)))), (6, RV.int (k : Int))]) (fun k : Nat => []) (fun k : Nat => 100 - k) 0 (by omega) (by exact aI (by exact rfl) (aI (by exact rfl) (tI))) (by exact ⟨⟩) ?_
 exact h_.get) : G := w ⟨h⟩
theorem FX (h : H) (w : Hd H → G := by
 intro h_
 refine dA 32766 ?_ (x := c8 (by decide) iq kF rfl rfl (by decide) rfl (by simp only [List.length_map, List.length_append, List.length_cons, List.length_nil]; omega) (by simp only [List.length_map, List.length_append, List.length_cons, List.length_nil]; omega))
 refine dA 65535 ?_ (x := fU (by decide))
 exact h_.get) : G := w ⟨h⟩
theorem FY (h : H) (w : Hd H → G := by
 intro h_
 refine rA ?_ (x := lD [sl .v _, val _, val _, sl .v _, sl .v _, sl .v _, sl .v _, val _] a7)
 refine rA ?_ (x := cL [(true, [sl _ _, val _, val _, sl _ _, sl _ _, sl _ _, sl _ _, val _])] [(true, [sl .v _, val _, val _, sl .v _, sl .v _, sl .v _, sl .v _, val _])] Pj (hs := by exact (SI (by omega))))
 exact h_.get) : G := w ⟨h⟩
theorem FZ (h : H) (w : Hd H → G := by
 intro h_
 refine sO [(1, _), (2, _), (3, _), (4, _), (5, _), (6, _), (8, _), (9, _), (10, _), (11, _), (57, _), (58, _), (59, _), (77, _), (78, _), (79, _), (2900, _), (6100, _)] [(1, _), (2, _), (4, _), (6, _), (10, (108, [val _, val _, sl _ _, sl _ _, val _, sl _ _, val _, val _, val _, sl _ _])), (900, _)] ?_
 refine aM ?_
 exact h_.get) : G := w ⟨h⟩
theorem xA (h : H) (w : Hd H → G := by
 intro h_
 refine sO [(1, _), (2, _), (4, _), (5, _), (6, _)] [(2, _), (4, _), (6, (32, [sl _ _, val _, val _, sl _ _, sl _ _, sl _ _, sl _ _, val _]))] ?_
 refine aM ?_
 exact h_.get) : G := w ⟨h⟩
theorem F0 (h : H) (w : Hd H → G := by
 intro h_
 refine rA ?_ (x := fT (k := u.Field.toNat) (G := 2930) (by decide) a3 (by exact ⟨⟩) (by omega) (by first | (rw [List.length_map]; exact hfl) | exact hfl))
 refine rA ?_ (x := kd (o := 0) (ag := false) (vs := [val _]) (by omega) aq (by exact ⟨⟩) (by exact rfl) (by exact nl rfl))
 exact h_.get) : G := w ⟨h⟩
theorem jF (h : H) (w : Hd H → G := by
 intro h_
 refine zt gc ?_
 refine rA ?_ (x := aA gc)
 exact h_.get) : G := w ⟨h⟩
theorem i6 (h : H) (w : Hd H → G := by
 intro h_
 refine rA ?_ (x := tA)
 refine aJ ?_
 exact h_.get) : G := w ⟨h⟩
theorem xB (h : H) (w : Hd H → G := by
 intro h_
 refine rA ?_ (x := aQ (ag := true) (vs := [val _, val _, sl _ _, sl _ _]) dp (by exact ⟨⟩) (by exact rfl) (by exact nl rfl))
 refine aJ ?_
 exact h_.get) : G := w ⟨h⟩
theorem xC (h : H) (w : Hd H → G := by
 intro h_
 refine dA 0 ?_ (x := sM)
 refine dA 7 ?_ (x := aD (by decide) gv (by exact ⟨⟩) (by exact rfl) (by exact aE (by omega) rfl) (by exact rfl))
 exact h_.get) : G := w ⟨h⟩
theorem xD (h : H) (w : Hd H → G := by
 intro h_
 refine rA ?_ (x := lF ee)
 refine rA ?_ (x := aQ (ag := true) (vs := [sl _ _, val _]) cq (by exact ⟨⟩) (by exact rfl) (by exact nl rfl))
 exact h_.get) : G := w ⟨h⟩
theorem xE (h : H) (w : Hd H → G := by
 intro h_
 refine sO [(1, _), (2, _), (4, _), (5, _)] [(2, _), (4, _), (5, (32, [sl _ _, val _, val _, sl _ _, sl _ _, sl _ _, sl _ _, val _]))] ?_
 refine aM ?_
 exact h_.get) : G := w ⟨h⟩
theorem F5 (h : H) (w : Hd H → G := by
 intro h_
 refine cD (d := 900) (by exact rfl) (show _ = bX (ax (.own 184 4) (.own 3 1)) (s.Segments) jk900 from rfl) ?_
 refine sO [(1, _), (2, _), (4, _), (5, _), (6, _), (2900, _)] [(2, _), (4, _), (6, (26, [val _, val _])), (900, (139, bX (ax (.own 184 4) (.own 3 1)) _ _))] ?_
 exact h_.get) : G := w ⟨h⟩
theorem md (h : H) (w : Hd H → G := by
 intro h_
 refine b9 bP ?_
 refine dG ?_
 exact h_.get) : G := w ⟨h⟩
theorem F6 (h : H) (w : Hd H → G := by
 intro h_
 refine sO [(1, _), (2, _), (4, _), (5, _), (6, _), (7, _), (8, _), (9, _), (19, _), (20, _), (21, _), (27, _), (28, _), (29, _), (2900, _), (6000, _)] [(2, (26, [sl (.lo _) _, val _])), (4, (26, [sl _ _, val _])), (6, (26, [val _, val _])), (900, (139, bX iS _ _))] ?_
 refine aM ?_
 exact h_.get) : G := w ⟨h⟩
theorem F7 (h : H) (w : Hd H → G := by
 intro h_
 refine rB ge ?_ (x := lD [val _, sl .v _, val _, val _] d2)
 refine rB ge ?_ (x := cL [(true, [val _, sl _ _, val _, val _]), (true, [val _, sl _ _, val _, val _])] [(true, [val _, sl .v _, val _, val _]), (true, [val _, sl .v _, val _, val _])] Pq (hs := by exact Qp))
 exact h_.get) : G := w ⟨h⟩
theorem xF (h : H) (w : Hd H → G := by
 intro h_
 refine rA ?_ (x := bd (qs := []) (by decide) a3 ce (by decide) rfl rfl rfl rfl rfl (by exact nl rfl) (by exact ⟨⟩) rfl)
 refine rA ?_ (x := vM false [sl .v _])
 refine rA ?_ (x := gp (by decide) a3 ce rfl rfl (by decide) (by first | (intro cs hcs; obtain ⟨x, _, rfl⟩ := List.mem_map.1 hcs; exact rfl) | simp) (by first | (intro cs hcs; obtain ⟨x, _, rfl⟩ := List.mem_map.1 hcs; exact (ae.cons (bor_val _) ae.nil)) | simp) (by simp only [List.length_map, List.length_append, List.length_cons, List.length_nil]; omega) (by simp only [List.length_map, List.length_append, List.length_cons, List.length_nil]; omega))
 exact h_.get) : G := w ⟨h⟩
theorem tL (h : H) (w : Hd H → G := by
 intro h_
 refine rA ?_ (x := bl (by decide) gu (by exact nl rfl))
 refine rA ?_ (x := lE [val _] aq)
 exact h_.get) : G := w ⟨h⟩
theorem F8 (h : H) (w : Hd H → G := by
 intro h_
 refine dA 7 ?_ (x := cL [(true, [sl _ _, val _, val _, sl _ _, sl _ _, sl _ _, sl _ _, val _])] [(true, [sl .v _, val _, val _, sl .v _, sl .v _, sl .v _, sl .v _, val _])] Pn (hs := by exact (SL (e := (aK (ba code hb)).1) (by omega))))
 refine dA 15 ?_ (x := dY)
 exact h_.get) : G := w ⟨h⟩
theorem tN (h : H) (w : Hd H → G := by
 intro h_
 refine aM ?_
 refine rA ?_ (x := lD [sl (.lo _) _, val _] cq)
 exact h_.get) : G := w ⟨h⟩
theorem F9 (h : H) (w : Hd H → G := by
 intro h_
 refine rA ?_ (x := eH (qs := [nv _ (val _), nv _ (val _), nv _ (sl .v _), nv _ (sl .v _), nv _ (val _), nv _ (sl .v _), nv _ (val _), nv _ (val _), nv _ (val _), nv _ (sl .v _)]) (by decide) eK (fun h => nomatch h) (by exact nl rfl) (by exact (ab.cons (PV.To.refl _) (ab.cons (PV.To.refl _) (ab.cons (PV.To.refl _) (ab.cons (PV.To.refl _) (ab.cons (PV.To.refl _) (ab.cons (PV.To.refl _) (ab.cons (PV.To.refl _) (ab.cons (PV.To.refl _) (ab.cons (PV.To.refl _) (ab.cons (PV.To.refl _) ab.nil))))))))))) (by exact lq))
 refine rA ?_ (x := bd (qs := [(true, [nv _ (val _), nv _ (val _), nv _ (sl _ _), nv _ (sl _ _), nv _ (val _), nv _ (sl _ _), nv _ (val _), nv _ (val _), nv _ (val _), nv _ (sl _ _)])]) (by decide) bJ fe (by decide) rfl rfl rfl rfl rfl (by exact nl rfl) (by exact (aI (by exact ⟨⟩) tI)) rfl)
 refine rA ?_ (x := c8 (by decide) bJ fe rfl rfl (by decide) rfl (by simp only [List.length_map, List.length_append, List.length_cons, List.length_nil]; omega) (by simp only [List.length_map, List.length_append, List.length_cons, List.length_nil]; omega))
 exact h_.get) : G := w ⟨h⟩
theorem Ga (h : H) (w : Hd H → G := by
 intro h_
 refine rA ?_ (x := aQ (ag := false) (vs := [sl _ _]) aZ (by exact ⟨⟩) (by exact rfl) (by exact nl rfl))
 refine sO [(2, _), (3, _), (4, _), (5, _), (6, _), (7, _), (8, _), (9, _), (10, _)] [(2, _), (3, _), (4, _), (6, _), (10, (184, [val _, sl _ _, val _, val _]))] ?_
 exact h_.get) : G := w ⟨h⟩
theorem oM (h : H) (w : Hd H → G := by
 intro h_
 refine rA ?_ (x := lF gu)
 refine rA ?_ (x := lD [val _] aq)
 exact h_.get) : G := w ⟨h⟩
theorem i7 (h : H) (w : Hd H → G := by
 intro h_
 refine xf ?_
 refine rA ?_ (x := tA)
 exact h_.get) : G := w ⟨h⟩
theorem tO (h : H) (w : Hd H → G := by
 intro h_
 refine sO [(1, _), (2, _), (3, _), (4, _)] [(1, _), (3, (124, [sl _ _, sl _ _]))] ?_
 refine aM ?_
 exact h_.get) : G := w ⟨h⟩
theorem xG (h : H) (w : Hd H → G := by
 intro h_
 refine rA ?_ (x := lF jN)
 refine rA ?_ (x := aQ (ag := false) (vs := [val _]) aq (aY rfl) (by exact rfl) (by exact nl rfl))
 exact h_.get) : G := w ⟨h⟩
theorem Gb (h : H) (w : Hd H → G := by
 intro h_
 refine rA ?_ (x := vM false [sl .v _])
 refine rX ?_ (x := (M7 (qs := [(false, [sl _ _])]) (as_ := [(false, [sl .v _])]) (by decide) P3 (by exact (aI (by exact ⟨⟩) tI)) (by exact (aI (aI rfl (ab.cons PV.to_none ab.nil)) tI)) (by exact (Tf hb hb2))))
 exact h_.get) : G := w ⟨h⟩
theorem Gc (h : H) (w : Hd H → G := by
 intro h_
 refine rB gb ?_ (x := aD (k := (bH l f k).length - 1) (by decide) fw (by exact ⟨⟩) (by omega) (by exact aE (by omega) (by rw [cX (d := iv) (by omega)])) (by exact rfl))
 refine rB gb ?_ (x := bl (by decide) nR (by exact nl rfl))
 exact h_.get) : G := w ⟨h⟩
theorem xH (h : H) (w : Hd H → G := by
 intro h_
 refine rM ?_
 refine rA ?_ (x := aD (by decide) bJ (by exact ⟨⟩) (by exact rfl) (by exact aE (by omega) rfl) (by exact rfl))
 exact h_.get) : G := w ⟨h⟩
theorem Gd (h : H) (w : Hd H → G := by
 intro h_
 refine cD (d := 10) (by exact rfl) (show _ = [val (vI u.Row.Id), sl (.own 3 1) ((gB s u).map ai), val (vI (s.Now + 1)), val (vI (-1))] from by first | (rw [hv2]; done) | (rw [hv2]; exact rfl)) ?_
 refine sG [2, 3, 4, 5, 6, 7, 8, 9, 10] [2, 3, 4, 6, 10] ?_
 exact h_.get) : G := w ⟨h⟩
theorem nb (h : H) (w : Hd H → G := by
 intro h_
 refine rB ga ?_ (x := dY)
 refine rA ?_ (x := aA ga)
 exact h_.get) : G := w ⟨h⟩
theorem qL (h : H) (w : Hd H → G := by
 intro h_
 refine dA 0 ?_ (x := cM Cp.ptr)
 refine dA 2 ?_ (x := fU (by decide))
 exact h_.get) : G := w ⟨h⟩
theorem Ge (h : H) (w : Hd H → G := by
 intro h_
 refine oF ?_
 refine rA ?_ (x := cL [(true, [sl (.lo _) _, val _, val _, sl (.lo _) _, sl (.lo _) _, sl (.lo _) _, sl (.lo _) _, val _])] [(true, [sl .v _, val _, val _, sl .v _, sl .v _, sl .v _, sl .v _, val _])] rI (hs := by exact (rN (by omega))))
 exact h_.get) : G := w ⟨h⟩
theorem Gf (h : H) (w : Hd H → G := by
 intro h_
 refine sO [(2, _), (3, _), (4, _), (5, _), (6, _), (7, _), (8, _), (9, _), (10, _), (2920, _), (2921, _)] [(2, _), (3, _), (4, _), (6, _), (10, _), (920, (139, _ ++ ([val _] ++ _))), (921, (184, _ ++ ([val _, sl _ _, val _, val _] ++ _)))] ?_
 refine b9 bP ?_
 exact h_.get) : G := w ⟨h⟩
theorem tP (h : H) (w : Hd H → G := by
 intro h_
 refine rA ?_ (x := fj (.inr rfl) (by decide) (fR (t := 3) (e := 1)))
 refine aJ ?_
 exact h_.get) : G := w ⟨h⟩
theorem qM (h : H) (w : Hd H → G := by
 intro h_
 refine rB ga ?_ (x := lF ip)
 refine rB ga ?_ (x := lD [sl .v _] aZ)
 exact h_.get) : G := w ⟨h⟩
theorem Gg (h : H) (w : Hd H → G := by
 intro h_
 refine rA ?_ (x := cL [(true, [sl _ _, val _, val _, sl _ _, sl _ _, sl _ _, sl _ _, val _])] [(true, [sl .v _, val _, val _, sl .v _, sl .v _, sl .v _, sl .v _, val _])] P5 (hs := by exact (SJ (by assumption) (by omega))))
 refine rA ?_ (x := tM)
 exact h_.get) : G := w ⟨h⟩
theorem Gh (h : H) (w : Hd H → G := by
 intro h_
 refine rA ?_ (x := cL [(true, [sl _ _, val _, val _, sl _ _, sl _ _, sl _ _, sl _ _, val _])] [(true, [sl .v _, val _, val _, sl .v _, sl .v _, sl .v _, sl .v _, val _])] P6 (hs := by exact (SK (by assumption) (by omega))))
 refine rA ?_ (x := tM)
 exact h_.get) : G := w ⟨h⟩
theorem kp (h : H) (w : Hd H → G := by
 intro h_
 refine sR ?_
 refine eS ?_
 refine sS [0, 1, 4] [] ?_
 exact h_.get) : G := w ⟨h⟩
theorem oN (h : H) (w : Hd H → G := by
 intro h_
 refine sR ?_
 refine eS ?_
 refine sS [0, 2] [] ?_
 exact h_.get) : G := w ⟨h⟩
theorem Gi (h : H) (w : Hd H → G := by
 intro h_
 refine dA 0 ?_ (x := lF pu)
 refine dA 1 ?_ (x := b8 (ms := [sl _ _]) (qs := [sl .v _]) (by decide) px (fun _ => rfl) (by exact nl rfl) (by exact rfl) (by exact (ab.cons PV.to_none ab.nil)) (by exact (ae.cons (bor_sl _) ae.nil)))
 exact h_.get) : G := w ⟨h⟩
theorem Gj (h : H) (w : Hd H → G := by
 intro h_
 refine sO [(2, _), (3, _), (4, _), (6, _), (7, _), (8, _), (9, _), (10, _), (11, _), (12, _), (13, _), (6200, _), (6300, _)] [(3, _), (4, _), (6, _), (8, (32, [sl _ _, val _, val _, sl _ _, sl _ _, sl _ _, sl _ _, val _])), (9, _)] ?_
 refine aM ?_
 exact h_.get) : G := w ⟨h⟩
theorem Gk (h : H) (w : Hd H → G := by
 intro h_
 refine dA 6 ?_ (x := lF jO)
 refine dA 14 ?_ (x := b8 (ms := [sl _ _]) (qs := [sl .v _]) (by decide) jR (fun _ => rfl) (by exact nl rfl) (by exact rfl) (by exact (ab.cons PV.to_none ab.nil)) (by exact (ae.cons (bor_sl _) ae.nil)))
 exact h_.get) : G := w ⟨h⟩
theorem qN (h : H) (w : Hd H → G := by
 intro h_
 refine rB ga ?_ (x := lF fc)
 refine rB ga ?_ (x := lD [val _] aq)
 exact h_.get) : G := w ⟨h⟩
theorem qO (h : H) (w : Hd H → G := by
 intro h_
 refine rB ga ?_ (x := lF gR)
 refine rB ga ?_ (x := lD [val _] aq)
 exact h_.get) : G := w ⟨h⟩
theorem Gl (h : H) (w : Hd H → G := by
 intro h_
 refine dA 0 ?_ (x := lF dJ)
 refine dA 1 ?_ (x := b8 (ms := [sl _ _]) (qs := [sl .v _]) (by decide) dm (fun _ => rfl) (by exact nl rfl) (by exact rfl) (by exact (ab.cons PV.to_none ab.nil)) (by exact (ae.cons (bor_sl _) ae.nil)))
 exact h_.get) : G := w ⟨h⟩
theorem Gm (h : H) (w : Hd H → G := by
 intro h_
 refine dA 0 ?_ (x := lF gt)
 refine dA 1 ?_ (x := b8 (ms := [sl _ _]) (qs := [sl .v _]) (by decide) gw (fun _ => rfl) (by exact nl rfl) (by exact rfl) (by exact (ab.cons PV.to_none ab.nil)) (by exact (ae.cons (bor_sl _) ae.nil)))
 exact h_.get) : G := w ⟨h⟩
theorem zss (h : H) (w : Hd H → G := by
 intro h_
 refine sS [0, 1, 4, 5, 6, 7, 8, 24, 5000] [0, 4, 5, 8] ?_
 refine mb ?_
 exact h_.get) : G := w ⟨h⟩
theorem Gn (h : H) (w : Hd H → G := by
 intro h_
 refine rA ?_ (x := lF lv)
 refine rA ?_ (x := b8 (ms := [sl _ _]) (qs := [sl .v _]) (by decide) ir (fun _ => rfl) (by exact nl rfl) (by exact rfl) (by exact (ab.cons PV.to_none ab.nil)) (by exact (ae.cons (bor_sl _) ae.nil)))
 exact h_.get) : G := w ⟨h⟩
theorem lh (h : H) (w : Hd H → G := by
 intro h_
 refine zf gc ?_
 refine rA ?_ (x := ay gc)
 exact h_.get) : G := w ⟨h⟩
theorem lj (h : H) (w : Hd H → G := by
 intro h_
 refine zt g3 ?_
 refine rA ?_ (x := aA g3)
 exact h_.get) : G := w ⟨h⟩
theorem qP (h : H) (w : Hd H → G := by
 intro h_
 refine rA ?_ (x := lF J8)
 refine rA ?_ (x := lD [sl .v _] Ka)
 exact h_.get) : G := w ⟨h⟩
theorem Gp (h : H) (w : Hd H → G := by
 intro h_
 refine rA ?_ (x := lF gQ)
 refine rA ?_ (x := b8 (ms := [sl _ _]) (qs := [sl .v _]) (by decide) gS (fun _ => rfl) (by exact nl rfl) (by exact rfl) (by exact (ab.cons PV.to_none ab.nil)) (by exact (ae.cons (bor_sl _) ae.nil)))
 exact h_.get) : G := w ⟨h⟩
theorem Gq (h : H) (w : Hd H → G := by
 intro h_
 refine rA ?_ (x := lF jO)
 refine rA ?_ (x := b8 (ms := [sl _ _]) (qs := [sl .v _]) (by decide) jR (fun _ => rfl) (by exact nl rfl) (by exact rfl) (by exact (ab.cons PV.to_none ab.nil)) (by exact (ae.cons (bor_sl _) ae.nil)))
 exact h_.get) : G := w ⟨h⟩
theorem Gr (h : H) (w : Hd H → G := by
 intro h_
 refine sO [(1, _), (2, _), (3, _), (4, _), (5, _), (6, _), (57, _), (58, _), (59, _), (145, _), (146, _), (147, _), (6200, _)] [(1, _), (2, _), (4, (32, [sl _ _, val _, val _, sl _ _, sl _ _, sl _ _, sl _ _, val _])), (6, _)] ?_
 refine aM ?_
 exact h_.get) : G := w ⟨h⟩
theorem Gs (h : H) (w : Hd H → G := by
 intro h_
 refine sO [(1, _), (2, _), (4, _), (5, _), (6, _), (7, _), (8, _), (9, _), (10, _), (2900, _), (6000, _)] [(2, (26, [sl (.lo _) _, val _])), (4, (26, [sl _ _, val _])), (6, (26, [val _, val _])), (900, (139, bX iS _ _))] ?_
 refine aM ?_
 exact h_.get) : G := w ⟨h⟩
theorem Gt (h : H) (w : Hd H → G := by
 intro h_
 refine dA 0 ?_ (x := lF lv)
 refine dA 2048 ?_ (x := eH (qs := [nv _ (sl .v _)]) (by decide) ir (fun _ => rfl) (by exact nl rfl) (by exact (ab.cons (PV.To.refl _) ab.nil)) (by exact (ae.cons (bor_nv (bor_sl _)) ae.nil)))
 exact h_.get) : G := w ⟨h⟩
theorem tQ (h : H) (w : Hd H → G := by
 intro h_
 refine rX ?_ (x := (bB (by decide) jf jg))
 refine eS ?_
 exact h_.get) : G := w ⟨h⟩
theorem tR (h : H) (w : Hd H → G := by
 intro h_
 refine rA ?_ (x := lD [sl .v _, sl .v _] iT)
 refine rA ?_ (x := vM false [sl .v _])
 exact h_.get) : G := w ⟨h⟩
theorem Gu (h : H) (w : Hd H → G := by
 intro h_
 refine a4.stepC 127 (by exact ⟨rfl, ⟨⟩⟩) (by exact ⟨⟩) (be.of rfl (mH (.inl rfl) (by decide))) cV (by kernel_rfl) (by intro L' h; exact nomatch (show (none : Option ar) = some L' from h)) ?_
 refine a4.stepC 255 (by exact ⟨rfl, ⟨⟩⟩) (by exact ⟨⟩) (be.of rfl (gF (cs := [val _]) (by decide) (by exact rfl) (by exact (ae.cons (bor_val _) ae.nil)))) cV (by kernel_rfl) (by intro L' h; exact nomatch (show (none : Option ar) = some L' from h)) ?_
 refine a4.stepC 255 (by exact ⟨rfl, ⟨⟩⟩) (by exact ⟨⟩) (be.of rfl (gF (cs := [val _]) (by decide) (by exact rfl) (by exact (ae.cons (bor_val _) ae.nil)))) cV (by kernel_rfl) (by intro L' h; exact nomatch (show (none : Option ar) = some L' from h)) ?_
 exact h_.get) : G := w ⟨h⟩
theorem Gv (h : H) (w : Hd H → G := by
 intro h_
 refine dA 0 ?_ (x := lF ph)
 refine dA 128 ?_ (x := eH (qs := [val _]) (by decide) aq (fun _ => rfl) (by exact nl rfl) (by exact (ab.cons (PV.nv_to (PV.To.refl _)) ab.nil)) (by exact (ae.cons (bor_val _) ae.nil)))
 exact h_.get) : G := w ⟨h⟩
theorem Gw (h : H) (w : Hd H → G := by
 intro h_
 refine dA 0 ?_ (x := lF kC)
 refine dA 512 ?_ (x := eH (qs := [val _]) (by decide) aq (fun _ => rfl) (by exact nl rfl) (by exact (ab.cons (PV.nv_to (PV.To.refl _)) ab.nil)) (by exact (ae.cons (bor_val _) ae.nil)))
 exact h_.get) : G := w ⟨h⟩
theorem Gx (h : H) (w : Hd H → G := by
 intro h_
 refine tQ ?_
 refine sO [(1, _), (2, _), (3, _)] [(1, (32, [sl (.lo _) _, val _, val _, sl (.lo _) _, sl (.lo _) _, sl (.lo _) _, sl (.lo _) _, val _])), (2, (32, [sl _ _, val _, val _, sl _ _, sl _ _, sl _ _, sl _ _, val _]))] ?_
 exact h_.get) : G := w ⟨h⟩
theorem Gy (h : H) (w : Hd H → G := by
 intro h_
 refine a4.stepC 15 (by exact ⟨rfl, ⟨⟩⟩) (by exact ⟨⟩) (be.of rfl (mH (.inl rfl) (by decide))) cV (by kernel_rfl) (by intro L' h; exact nomatch (show (none : Option ar) = some L' from h)) ?_
 refine a4.stepC 31 (by exact ⟨rfl, ⟨⟩⟩) (by exact ⟨⟩) (be.of rfl (gF (cs := [val _, val _, val _, val _, val _, val _, val _, val _]) (by decide) (by exact rfl) (by exact lq))) cV (by kernel_rfl) (by intro L' h; exact nomatch (show (none : Option ar) = some L' from h)) ?_
 refine a4.stepC 31 (by exact ⟨rfl, ⟨⟩⟩) (by exact ⟨⟩) (be.of rfl (gF (cs := [val _]) (by decide) (by exact rfl) (by exact (ae.cons (bor_val _) ae.nil)))) cV (by kernel_rfl) (by intro L' h; exact nomatch (show (none : Option ar) = some L' from h)) ?_
 exact h_.get) : G := w ⟨h⟩
theorem qQ (h : H) (w : Hd H → G := by
 intro h_
 refine rA ?_ (x := lF lx)
 refine rA ?_ (x := lD [val _] aq)
 exact h_.get) : G := w ⟨h⟩
theorem tS (h : H) (w : Hd H → G := by
 intro h_
 refine dB 33554431 gb ?_ (x := vM false [sl .v _])
 refine dB 33554431 gb ?_ (x := sM)
 exact h_.get) : G := w ⟨h⟩
theorem qR (h : H) (w : Hd H → G := by
 intro h_
 refine rA ?_ (x := lF gQ)
 refine rA ?_ (x := lD [val _] gS)
 exact h_.get) : G := w ⟨h⟩
theorem qS (h : H) (w : Hd H → G := by
 intro h_
 refine sR ?_
 refine rX ?_ (x := (bB (by decide) jf jg))
 exact h_.get) : G := w ⟨h⟩
theorem Gz (h : H) (w : Hd H → G := by
 intro h_
 refine aJ ?_
 refine sO [(0, _), (2, _), (3, _), (4, _), (5, _), (6, _), (7, _), (8, _), (9, _), (10, _)] [(3, _), (5, _), (6, _), (7, _), (9, _), (10, (32, [sl _ _, val _, val _, sl _ _, sl _ _, sl _ _, sl _ _, val _]))] ?_
 exact h_.get) : G := w ⟨h⟩
theorem GA (h : H) (w : Hd H → G := by
 intro h_
 refine rM ?_
 refine rA ?_ (x := cL [(true, [val _, val _, sl _ _, sl _ _]), (false, [val _]), (false, [val _])] [(true, [val _, val _, sl .v _, sl .v _]), (false, [val _]), (false, [val _])] Ps (hs := by exact QO))
 exact h_.get) : G := w ⟨h⟩
theorem qT (h : H) (w : Hd H → G := by
 intro h_
 refine rA ?_ (x := lF gR)
 refine rA ?_ (x := lD [val _] aq)
 exact h_.get) : G := w ⟨h⟩
theorem GB (h : H) (w : Hd H → G := by
 intro h_
 refine sO [(1, _), (2, _), (3, _), (4, _), (5, _), (6, _), (14, _), (57, _), (58, _), (59, _), (6200, _)] [(1, _), (2, _), (4, (32, [sl _ _, val _, val _, sl _ _, sl _ _, sl _ _, sl _ _, val _])), (6, _)] ?_
 refine aM ?_
 exact h_.get) : G := w ⟨h⟩
theorem GC (h : H) (w : Hd H → G := by
 intro h_
 refine sO [(2, _), (3, _), (4, _), (5, _), (6, _), (7, _), (8, _), (9, _), (10, _), (2930, _)] [(2, _), (3, _), (4, _), (6, _), (10, (184, [val _, val _, val _, val _])), (930, (3, _ ++ ([val _] ++ _)))] ?_
 refine aM ?_
 exact h_.get) : G := w ⟨h⟩
theorem ig (h : H) (w : Hd H → G := by
 intro h_
 refine rS ?_
 refine aJ ?_
 exact h_.get) : G := w ⟨h⟩
theorem GD (h : H) (w : Hd H → G := by
 intro h_
 refine dA 1 ?_ (x := lD [val _, val _, sl .v _, sl .v _] dp)
 refine dA 3 ?_ (x := cL [(true, [val _, val _, sl _ _, sl _ _])] [(true, [val _, val _, sl .v _, sl .v _])] JM (hs := by exact Kw (by omega)))
 exact h_.get) : G := w ⟨h⟩
theorem GE (h : H) (w : Hd H → G := by
 intro h_
 refine rA ?_ (x := lD [val _] aq)
 refine rA ?_ (x := cv (qs := [(false, [val _])]) (cs := [sl _ _, val _]) (by decide) lz lA QX (by exact rfl) (by exact (aI (by exact ⟨⟩) tI)) rfl (by exact rfl))
 exact h_.get) : G := w ⟨h⟩
theorem GF (h : H) (w : Hd H → G := by
 intro h_
 refine sO [(0, _), (1, _), (4, _), (5, _), (6, _), (7, _), (10, _), (5000, _)] [(0, (192, [sl o _, val _, val _])), (4, (52, [val _, val _, sl _ _, sl _ _])), (5, (52, [val _, val _, sl _ _, sl _ _]))] ?_
 refine aM ?_
 exact h_.get) : G := w ⟨h⟩
theorem me (h : H) (w : Hd H → G := by
 intro h_
 refine aJ ?_
 refine sQ [1, 2] [1, 2] ?_
 refine b9 bP ?_
 exact h_.get) : G := w ⟨h⟩
theorem GG (h : H) (w : Hd H → G := by
 intro h_
 refine cD (d := 6) (by exact rfl) (show _ = [sl (.own 139 1) ((cZ s u).map (ax (.own 184 4) (.own 3 1))), val (vI (s.Now + 1))] from by first | (rw [hu1]; done) | (rw [hu1]; exact rfl)) ?_
 refine sP [2, 3, 4, 5, 6, 7, 8, 9, 10] [2, 3, 4, 6, 10] ?_
 refine cD (d := 10) (by exact rfl) (show _ = [val (vI u.Row.Id), sl (.own 3 1) ((e8 s u).map ai), val (vI (s.Now + 1)), val (vI (-1))] from by first | (rw [hu2]; done) | (rw [hu2]; exact rfl)) ?_
 exact h_.get) : G := w ⟨h⟩
theorem xI (h : H) (w : Hd H → G := by
 intro h_
 refine sR ?_
 refine rX ?_ (x := (db (ag := true) (cs := [sl (.lo _) _, val _]) (by decide) (by exact ⟨⟩)))
 exact h_.get) : G := w ⟨h⟩
theorem GH (h : H) (w : Hd H → G := by
 intro h_
 refine dA 3 ?_ (x := aD (k := i) (by decide) bT (by exact ⟨⟩) (by rfl) (by exact aE hlt2 (by rw [cX (d := v0) hlt2])) (by exact rfl))
 refine dA 7 ?_ (x := lE [val _, sl .v _, val _, val _] d2)
 exact h_.get) : G := w ⟨h⟩
theorem ll (h : H) (w : Hd H → G := by
 intro h_
 refine rA ?_ (x := cb)
 refine rM ?_
 exact h_.get) : G := w ⟨h⟩
theorem GI (h : H) (w : Hd H → G := by
 intro h_
 refine sO [(0, _), (1, _), (4, _), (5, _), (6, _), (7, _), (5000, _)] [(0, (192, [sl o _, val _, val _])), (4, (52, [val _, val _, sl _ _, sl _ _])), (5, (52, [val _, val _, sl _ _, sl _ _]))] ?_
 refine aM ?_
 exact h_.get) : G := w ⟨h⟩
theorem GJ (h : H) (w : Hd H → G := by
 intro h_
 refine aJ ?_
 refine sO [(1, _), (3, _), (5, _), (7, _), (9, _), (23, _), (24, _), (25, _), (32, _), (33, _), (34, _), (66, _), (67, _), (68, _)] [(1, _), (7, _), (9, (184, [val _, sl _ _, val _, val _]))] ?_
 exact h_.get) : G := w ⟨h⟩
theorem nc (h : H) (w : Hd H → G := by
 intro h_
 refine b9 bP ?_
 refine dA 0 ?_ (x := tM)
 exact h_.get) : G := w ⟨h⟩
theorem xJ (h : H) (w : Hd H → G := by
 intro h_
 refine rA ?_ (x := sV (by decide) (by exact ⟨⟩) (by exact ⟨⟩) (by omega))
 refine rA ?_ (x := dY)
 exact h_.get) : G := w ⟨h⟩
theorem GK (h : H) (w : Hd H → G := by
 intro h_
 refine sT [1, 3, 5, 7, 23, 24, 25, 32, 33, 34, 66, 67, 68] [1, 7] ?_
 refine rA ?_ (x := aD (k := m) (by decide) bT (by exact ⟨⟩) (by rfl) (by exact aE (by omega) (by rw [hsg])) (by exact rfl))
 exact h_.get) : G := w ⟨h⟩
theorem GL (h : H) (w : Hd H → G := by
 intro h_
 refine aJ ?_
 refine sO [(0, _), (2, _), (3, _), (4, _), (5, _), (6, _), (7, _), (8, _), (9, _)] [(3, _), (5, _), (6, _), (7, _), (9, (32, [sl _ _, val _, val _, sl _ _, sl _ _, sl _ _, sl _ _, val _]))] ?_
 exact h_.get) : G := w ⟨h⟩
theorem GM (h : H) (w : Hd H → G := by
 intro h_
 refine rB gb ?_ (x := lD [val _] aq)
 refine rB gb ?_ (x := cL [(false, [val _]), (false, [val _]), (false, [val _])] [(false, [val _]), (false, [val _]), (false, [val _])] iN (hs := by exact iU))
 exact h_.get) : G := w ⟨h⟩
theorem oO (h : H) (w : Hd H → G := by
 intro h_
 refine rB ga ?_ (x := nT)
 refine rA ?_ (x := ay ga)
 exact h_.get) : G := w ⟨h⟩
theorem GN (h : H) (w : Hd H → G := by
 intro h_
 refine rB gc ?_ (x := lD [val _] aq)
 refine rB gc ?_ (x := cL [(false, [val _]), (false, [val _]), (false, [val _])] [(false, [val _]), (false, [val _]), (false, [val _])] iN (hs := by exact iU))
 exact h_.get) : G := w ⟨h⟩
theorem GO (h : H) (w : Hd H → G := by
 intro h_
 refine rB ge ?_ (x := lD [val _] aq)
 refine rB ge ?_ (x := cL [(false, [val _]), (false, [val _]), (false, [val _])] [(false, [val _]), (false, [val _]), (false, [val _])] eT (hs := by exact eZ))
 exact h_.get) : G := w ⟨h⟩
theorem GP (h : H) (w : Hd H → G := by
 intro h_
 refine rB gd ?_ (x := lD [val _] aq)
 refine rB gd ?_ (x := cL [(false, [val _]), (false, [val _]), (false, [val _])] [(false, [val _]), (false, [val _]), (false, [val _])] eT (hs := by exact eZ))
 exact h_.get) : G := w ⟨h⟩
theorem GQ (h : H) (w : Hd H → G := by
 intro h_
 refine dA 192 ?_ (x := aD (by decide) bT (by exact ⟨⟩) (by exact rfl) (by exact aE (by omega) rfl) (by exact rfl))
 refine dA 448 ?_ (x := bl (by decide) jd (by exact nl rfl))
 exact h_.get) : G := w ⟨h⟩
theorem iK (h : H) (w : Hd H → G := by
 intro h_
 refine bu ?_
 refine fZ ?_
 refine rA ?_ (x := cb)
 exact h_.get) : G := w ⟨h⟩
theorem tT (h : H) (w : Hd H → G := by
 intro h_
 refine dB 4095 ga ?_ (x := vM false [sl .v _])
 refine dB 4095 ga ?_ (x := sM)
 exact h_.get) : G := w ⟨h⟩
theorem iL (h : H) (w : Hd H → G := by
 intro h_
 refine aM ?_
 refine rM ?_
 exact h_.get) : G := w ⟨h⟩
theorem GR (h : H) (w : Hd H → G := by
 intro h_
 refine dA 6 ?_ (x := aD (by decide) bT (by exact ⟨⟩) (by exact rfl) (by exact aE (by omega) rfl) (by exact rfl))
 refine dA 14 ?_ (x := bl (by decide) lx (by exact nl rfl))
 exact h_.get) : G := w ⟨h⟩
theorem GS (h : H) (w : Hd H → G := by
 intro h_
 refine dA 7 ?_ (x := aD (k := k) (by decide) a3 (by exact ⟨⟩) (by rfl) (by exact aE (by omega) (by rw [cX (d := 0) (by omega)])) (by exact rfl))
 refine dA 15 ?_ (x := lE [val _] aq)
 exact h_.get) : G := w ⟨h⟩
theorem tU (h : H) (w : Hd H → G := by
 intro h_
 refine rB gf ?_ (x := lF lv)
 refine rB gf ?_ (x := lD [sl .v _] ir)
 exact h_.get) : G := w ⟨h⟩
theorem GT (h : H) (w : Hd H → G := by
 intro h_
 refine dA 3 ?_ (x := aD (by decide) bT (by exact ⟨⟩) (by exact rfl) (by exact aE (by omega) rfl) (by exact rfl))
 refine dA 7 ?_ (x := bl (by decide) lx (by exact nl rfl))
 exact h_.get) : G := w ⟨h⟩
theorem GU (h : H) (w : Hd H → G := by
 intro h_
 refine rA ?_ (x := aQ (ag := true) (vs := [val _, val _, sl _ _, sl _ _, val _, sl _ _, val _, val _, val _, sl _ _]) eK (by exact ⟨⟩) (by exact rfl) (by exact nl rfl))
 refine aJ ?_
 exact h_.get) : G := w ⟨h⟩
theorem tV (h : H) (w : Hd H → G := by
 intro h_
 refine aJ ?_
 refine sP [2, 3, 4, 5, 6, 7, 8, 9, 10] [2, 3, 4, 6, 10] ?_
 exact h_.get) : G := w ⟨h⟩
theorem GV (h : H) (w : Hd H → G := by
 intro h_
 refine dA 0 ?_ (x := eG (r' := RV.sv false [sl .v _]) (.inl rfl) (by decide) (by exact Cp.sv (ab.cons (PV.nv_to PV.to_none) ab.nil) (ae.cons (bor_sl _) ae.nil)))
 refine dA 0 ?_ (x := sM)
 exact h_.get) : G := w ⟨h⟩
theorem GW (h : H) (w : Hd H → G := by
 intro h_
 refine rM ?_
 refine rA ?_ (x := cv (qs := [(false, [val _])]) (cs := [val _, sl _ _]) (by decide) ff iQ T7 (by exact rfl) (by exact (aI (by exact ⟨⟩) tI)) rfl (by exact rfl))
 exact h_.get) : G := w ⟨h⟩
theorem GX (h : H) (w : Hd H → G := by
 intro h_
 refine dA 64 ?_ (x := lD [val _] aq)
 refine dA 255 ?_ (x := fT (k := k) (G := 2921) (by decide) bT (by exact ⟨⟩) (by omega) (by first | (rw [List.length_map]; exact hk) | exact hk))
 exact h_.get) : G := w ⟨h⟩
theorem tW (h : H) (w : Hd H → G := by
 intro h_
 refine rA ?_ (x := lF gQ)
 refine rA ?_ (x := lD [sl (.lo _) _] gS)
 exact h_.get) : G := w ⟨h⟩
theorem ii (h : H) (w : Hd H → G := by
 intro h_
 refine lg ?_
 refine rM ?_
 exact h_.get) : G := w ⟨h⟩
theorem ij (h : H) (w : Hd H → G := by
 intro h_
 refine tt ?_
 refine rM ?_
 exact h_.get) : G := w ⟨h⟩
theorem GY (h : H) (w : Hd H → G := by
 intro h_
 refine rA ?_ (x := aD (k := k) (by decide) bT (by exact ⟨⟩) (by omega) (by exact aE hk rfl) (by exact rfl))
 refine rA ?_ (x := bl (by decide) jd (by exact nl rfl))
 exact h_.get) : G := w ⟨h⟩
theorem GZ (h : H) (w : Hd H → G := by
 intro h_
 refine sS [2, 3, 4, 5, 6, 7, 8, 9, 10] [2, 3, 4, 6, 10] ?_
 refine rA ?_ (x := bd (qs := []) (by decide) a3 ce (by decide) rfl rfl rfl rfl rfl (by exact nl rfl) (by exact ⟨⟩) rfl)
 exact h_.get) : G := w ⟨h⟩
theorem tX (h : H) (w : Hd H → G := by
 intro h_
 refine rB gc ?_ (x := lF gP)
 refine rB gc ?_ (x := lD [val _] aq)
 exact h_.get) : G := w ⟨h⟩
theorem jG (h : H) (w : Hd H → G := by
 intro h_
 refine rA ?_ (x := tM)
 refine rA ?_ (x := tA)
 refine bY ?_
 exact h_.get) : G := w ⟨h⟩
theorem G0 (h : H) (w : Hd H → G := by
 intro h_
 refine dA 15 ?_ (x := cL [(false, [val _]), (false, [val _]), (false, [val _])] [(false, [val _]), (false, [val _]), (false, [val _])] eT (hs := by exact eZ))
 refine dA 31 ?_ (x := nT)
 exact h_.get) : G := w ⟨h⟩
theorem qU (h : H) (w : Hd H → G := by
 intro h_
 refine dT 4194303 ga ?_
 refine dA 8388607 ?_ (x := aA ga)
 exact h_.get) : G := w ⟨h⟩
theorem G3 (h : H) (w : Hd H → G := by
 intro h_
 refine rB gb ?_ (x := sM)
 refine rB gb ?_ (x := cL [(false, [val _]), (false, [val _]), (false, [val _])] [(false, [val _]), (false, [val _]), (false, [val _])] eT (hs := by exact eZ))
 exact h_.get) : G := w ⟨h⟩
theorem tY (h : H) (w : Hd H → G := by
 intro h_
 refine dA 0 ?_ (x := lF dJ)
 refine dA 2 ?_ (x := lD [sl .v _] dm)
 exact h_.get) : G := w ⟨h⟩
theorem tZ (h : H) (w : Hd H → G := by
 intro h_
 refine rB ga ?_ (x := lF uD)
 refine rB ga ?_ (x := lD [val _] aq)
 exact h_.get) : G := w ⟨h⟩
theorem G4 (h : H) (w : Hd H → G := by
 intro h_
 refine rM ?_
 refine rA ?_ (x := cL [(true, [val _, sl _ _, val _, val _]), (false, [val _])] [(true, [val _, sl .v _, val _, val _]), (false, [val _])] zd (hs := by exact zq))
 exact h_.get) : G := w ⟨h⟩
theorem jH (h : H) (w : Hd H → G := by
 intro h_
 refine iI ?_
 refine dH ?_
 exact h_.get) : G := w ⟨h⟩
theorem G5 (h : H) (w : Hd H → G := by
 intro h_
 refine rA ?_ (x := cL [(false, [val _]), (false, [val _]), (false, [val _])] [(false, [val _]), (false, [val _]), (false, [val _])] eT (hs := by exact eZ))
 refine rA ?_ (x := nT)
 exact h_.get) : G := w ⟨h⟩
theorem nd (h : H) (w : Hd H → G := by
 intro h_
 refine zf gb ?_
 refine rA ?_ (x := ay gb)
 exact h_.get) : G := w ⟨h⟩
theorem ne (h : H) (w : Hd H → G := by
 intro h_
 refine zt g6 ?_
 refine rA ?_ (x := aA g6)
 exact h_.get) : G := w ⟨h⟩
theorem xK (h : H) (w : Hd H → G := by
 intro h_
 refine sG [1, 2, 4, 5, 6, 7, 8, 9, 10, 11, 12, 13, 2900, 6000] [2, 4, 6, 11, 900] ?_
 refine bF ?_
 exact h_.get) : G := w ⟨h⟩
theorem G6 (h : H) (w : Hd H → G := by
 intro h_
 refine E4 ?_
 refine rA ?_ (x := aQ (ag := true) (vs := [sl _ _, val _, val _, sl _ _, sl _ _, sl _ _, sl _ _, val _]) a7 (by exact ⟨⟩) (by exact rfl) (by exact nl rfl))
 exact h_.get) : G := w ⟨h⟩
theorem G7 (h : H) (w : Hd H → G := by
 intro h_
 refine rA ?_ (x := aQ (ag := true) (vs := [nv _ (val _), nv _ (sl _ _), nv _ (val _), nv _ (val _)]) d2 (by exact ⟨⟩) (by exact rfl) (by exact nl rfl))
 refine aJ ?_
 exact h_.get) : G := w ⟨h⟩
theorem G8 (h : H) (w : Hd H → G := by
 intro h_
 refine rA ?_ (x := aD (by decide) fw (by exact ⟨⟩) (by exact rfl) (by exact aE (by omega) rfl) (by exact rfl))
 refine rA ?_ (x := lE [val _, val _, sl .v _] zl)
 exact h_.get) : G := w ⟨h⟩
theorem G9 (h : H) (w : Hd H → G := by
 intro h_
 refine sP [0, 1, 4, 5, 6, 7, 8, 24, 5000] [0, 4, 5, 8] ?_
 refine om (c := 8) (AI := []) bP rfl rfl rfl rfl (by kernel_rfl) (fun j L h => nomatch h) (fun j L h => nomatch h) ?_
 exact h_.get) : G := w ⟨h⟩
theorem Ha (h : H) (w : Hd H → G := by
 intro h_
 refine sP [0, 1, 4, 5, 6, 7, 8, 24, 5000] [0, 4, 5, 8] ?_
 refine om (c := 5) (AI := []) bP rfl rfl rfl rfl (by kernel_rfl) (fun j L h => nomatch h) (fun j L h => nomatch h) ?_
 exact h_.get) : G := w ⟨h⟩
theorem Hb (h : H) (w : Hd H → G := by
 intro h_
 refine sP [0, 1, 4, 5, 6, 7, 8, 24, 5000] [0, 4, 5, 8] ?_
 refine om (c := 3) (AI := []) bP rfl rfl rfl rfl (by kernel_rfl) (fun j L h => nomatch h) (fun j L h => nomatch h) ?_
 exact h_.get) : G := w ⟨h⟩
theorem Hc (h : H) (w : Hd H → G := by
 intro h_
 refine rA ?_ (x := cL [(false, [val _]), (false, [val _]), (false, [val _])] [(false, [val _]), (false, [val _]), (false, [val _])] iN (hs := by exact iU))
 refine dI ?_
 exact h_.get) : G := w ⟨h⟩
theorem xL (h : H) (w : Hd H → G := by
 intro h_
 refine rX ?_ (x := (bB (by decide) lz lA))
 refine eS ?_
 exact h_.get) : G := w ⟨h⟩
theorem He (h : H) (w : Hd H → G := by
 intro h_
 refine rB gc ?_ (x := lD [sl .v _] aZ)
 refine rB gc ?_ (x := cL [(false, [sl _ _]), (false, [sl _ _])] [(false, [sl .v _]), (false, [sl .v _])] nD (hs := by exact nV))
 exact h_.get) : G := w ⟨h⟩
theorem Hf (h : H) (w : Hd H → G := by
 intro h_
 refine sS [0, 1, 4, 5] [4] ?_
 refine rA ?_ (x := cv (qs := []) (cs := [sl _ _, val _]) (by decide) lz lA T5 (by exact rfl) (by exact ⟨⟩) rfl (by exact rfl))
 exact h_.get) : G := w ⟨h⟩
theorem Hg (h : H) (w : Hd H → G := by
 intro h_
 refine rM ?_
 refine rA ?_ (x := cL [(false, [val _]), (false, [val _]), (false, [val _])] [(false, [val _]), (false, [val _]), (false, [val _])] iN (hs := by exact iU))
 exact h_.get) : G := w ⟨h⟩
theorem Hh (h : H) (w : Hd H → G := by
 intro h_
 refine rA ?_ (x := aD (by decide) gv (by exact ⟨⟩) (by exact rfl) (by exact aE (by omega) rfl) (by exact rfl))
 refine rA ?_ (x := lE [val _, val _, val _] pm)
 exact h_.get) : G := w ⟨h⟩
theorem Hi (h : H) (w : Hd H → G := by
 intro h_
 refine dA 3 ?_ (x := aD (by decide) fu (by exact ⟨⟩) (by exact rfl) (by exact aE (by omega) rfl) (by exact rfl))
 refine dA 7 ?_ (x := lE [val _, sl .v _] ew)
 exact h_.get) : G := w ⟨h⟩
theorem Hj (h : H) (w : Hd H → G := by
 intro h_
 refine dA 511 ?_ (x := lF gP)
 refine dA 1023 ?_ (x := kd (o := 3) (ag := false) (vs := [val _]) (by omega) aq (by exact ⟨⟩) (by exact rfl) (by exact nl rfl))
 exact h_.get) : G := w ⟨h⟩
theorem Hk (h : H) (w : Hd H → G := by
 intro h_
 refine rX ?_ (x := (db (ag := true) (cs := [val _, sl _ _]) (by decide) (by exact ⟨⟩)))
 refine rA ?_ (x := fj (.inr rfl) (by decide) (fR (t := 3) (e := 1)))
 exact h_.get) : G := w ⟨h⟩
theorem nf (h : H) (w : Hd H → G := by
 intro h_
 refine aN ?_
 refine sG [0, 3] [] ?_
 exact h_.get) : G := w ⟨h⟩
theorem ng (h : H) (w : Hd H → G := by
 intro h_
 refine aX ?_
 refine sS [0, 3] [] ?_
 exact h_.get) : G := w ⟨h⟩
theorem nh (h : H) (w : Hd H → G := by
 intro h_
 refine bu ?_
 refine rA ?_ (x := cb)
 exact h_.get) : G := w ⟨h⟩
theorem kq (h : H) (w : Hd H → G := by
 intro h_
 refine oC ?_
 refine aJ ?_
 exact h_.get) : G := w ⟨h⟩
theorem ni (h : H) (w : Hd H → G := by
 intro h_
 refine dE ?_
 refine sS [0, 1, 4] [] ?_
 exact h_.get) : G := w ⟨h⟩
theorem nj (h : H) (w : Hd H → G := by
 intro h_
 refine cE ?_
 refine sP [0, 1, 5] [] ?_
 exact h_.get) : G := w ⟨h⟩
theorem nk (h : H) (w : Hd H → G := by
 intro h_
 refine tG ?_
 refine rA ?_ (x := cb)
 exact h_.get) : G := w ⟨h⟩
theorem t3 (h : H) (w : Hd H → G := by
 intro h_
 refine rA ?_ (x := lF kC)
 refine rA ?_ (x := lD [val _] aq)
 exact h_.get) : G := w ⟨h⟩
theorem Hl (h : H) (w : Hd H → G := by
 intro h_
 refine dA 3 ?_ (x := lD [val _] aq)
 refine dA 0 ?_ (x := bd (qs := []) (by decide) a3 ce (by decide) rfl rfl rfl rfl rfl (by exact nl rfl) (by exact ⟨⟩) rfl)
 exact h_.get) : G := w ⟨h⟩
theorem mf (h : H) (w : Hd H → G := by
 intro h_
 refine b9 bP ?_
 refine dA 0 ?_ (x := cM Cp.ptr)
 refine dA 1 ?_ (x := fU (by decide))
 exact h_.get) : G := w ⟨h⟩
theorem xM (h : H) (w : Hd H → G := by
 intro h_
 refine sR ?_
 refine rA ?_ (x := fj (.inr rfl) (by decide) (fR (t := 54) (e := 2)))
 exact h_.get) : G := w ⟨h⟩
theorem nn (h : H) (w : Hd H → G := by
 intro h_
 refine rA ?_ (x := aA gd)
 refine rM ?_
 exact h_.get) : G := w ⟨h⟩
theorem np (h : H) (w : Hd H → G := by
 intro h_
 refine rA ?_ (x := ay gd)
 refine rM ?_
 exact h_.get) : G := w ⟨h⟩
theorem Hm (h : H) (w : Hd H → G := by
 intro h_
 refine rB ga ?_ (x := lD [sl .v _, sl .v _] iT)
 refine rB ga ?_ (x := cL [(true, [sl _ _, sl _ _])] [(true, [sl .v _, sl .v _])] Pm (hs := by exact QG))
 exact h_.get) : G := w ⟨h⟩
theorem xN (h : H) (w : Hd H → G := by
 intro h_
 refine dA 0 ?_ (x := lD [sl .v _, sl .v _] iT)
 refine dA 0 ?_ (x := vM false [sl .v _])
 exact h_.get) : G := w ⟨h⟩
theorem oP (h : H) (w : Hd H → G := by
 intro h_
 refine zf g10 ?_
 refine rA ?_ (x := ay g10)
 exact h_.get) : G := w ⟨h⟩
theorem Hn (h : H) (w : Hd H → G := by
 intro h_
 refine sR ?_
 refine rX ?_ (x := (db (ag := true) (cs := [val _, val _, sl _ _, sl _ _, val _, sl _ _, val _, val _, val _, sl _ _]) (by decide) (by exact ⟨⟩)))
 exact h_.get) : G := w ⟨h⟩
theorem Ho (h : H) (w : Hd H → G := by
 intro h_
 refine rA ?_ (x := aD (by decide) nS (by exact ⟨⟩) (by exact rfl) (by exact aE (by omega) rfl) (by exact rfl))
 refine rA ?_ (x := lE [sl .v _] aZ)
 exact h_.get) : G := w ⟨h⟩
theorem Hp (h : H) (w : Hd H → G := by
 intro h_
 refine rA ?_ (x := vM false [sl .v _])
 refine rA ?_ (x := cL [(false, [sl _ _])] [(false, [sl .v _])] O1 (hs := by exact (Ue (by omega) (by omega))))
 exact h_.get) : G := w ⟨h⟩
theorem kr (h : H) (w : Hd H → G := by
 intro h_
 refine zt gb ?_
 refine ko ?_
 exact h_.get) : G := w ⟨h⟩
theorem Hq (h : H) (w : Hd H → G := by
 intro h_
 refine rA ?_ (x := lD [sl .v _, val _] cq)
 refine rA ?_ (x := cL [(true, [sl _ _, val _])] [(true, [sl .v _, val _])] Qd (hs := by exact Qs (by omega)))
 exact h_.get) : G := w ⟨h⟩
theorem Hr (h : H) (w : Hd H → G := by
 intro h_
 refine rA ?_ (x := aD (k := i) (by decide) dK (by exact ⟨⟩) (by omega) (by exact aE hi rfl) (by exact rfl))
 refine rA ?_ (x := lE [sl .v _] f7)
 exact h_.get) : G := w ⟨h⟩
theorem nq (h : H) (w : Hd H → G := by
 intro h_
 refine dE ?_
 refine sS [1, 2] [1] ?_
 exact h_.get) : G := w ⟨h⟩
theorem jI (h : H) (w : Hd H → G := by
 intro h_
 refine tt ?_
 refine bC ?_
 exact h_.get) : G := w ⟨h⟩
theorem jJ (h : H) (w : Hd H → G := by
 intro h_
 refine lg ?_
 refine dk ?_
 exact h_.get) : G := w ⟨h⟩
theorem Hs (h : H) (w : Hd H → G := by
 intro h_
 refine rA ?_ (x := lD [sl .v _, sl .v _] iT)
 refine rA ?_ (x := cL [(true, [sl _ _, sl _ _])] [(true, [sl .v _, sl .v _])] Ph (hs := by exact QV))
 exact h_.get) : G := w ⟨h⟩
theorem Ht (h : H) (w : Hd H → G := by
 intro h_
 refine dH ?_
 refine sO [(2, _), (3, _), (4, _), (5, _), (6, _), (7, _), (8, _), (9, _), (10, _)] [(2, _), (3, _), (4, _), (6, (26, [sl _ _, val _])), (10, _)] ?_
 exact h_.get) : G := w ⟨h⟩
theorem t4 (h : H) (w : Hd H → G := by
 intro h_
 refine sS [0, 3, 4, 5, 6, 29, 5000] [0, 3, 4] ?_
 refine mb ?_
 exact h_.get) : G := w ⟨h⟩
theorem Hu (h : H) (w : Hd H → G := by
 intro h_
 refine dA 131071 ?_ (x := lF jO)
 refine dA 262143 ?_ (x := aQ (ag := false) (vs := [sl _ _]) jR (by exact ⟨⟩) (by exact rfl) (by exact nl rfl))
 exact h_.get) : G := w ⟨h⟩
theorem oQ (h : H) (w : Hd H → G := by
 intro h_
 refine zt gb ?_
 refine rA ?_ (x := aA gb)
 exact h_.get) : G := w ⟨h⟩
theorem Hv (h : H) (w : Hd H → G := by
 intro h_
 refine dA 1023 ?_ (x := cv (qs := [(false, [val _]), (false, [sl _ _]), (false, [val _]), (false, [val _])]) (cs := [val _, sl _ _, val _, val _]) (by decide) eV mp S4 (by exact rfl) (by exact (aI (by exact ⟨⟩) (aI (by exact ⟨⟩) (aI (by exact ⟨⟩) (aI (aY rfl) tI))))) rfl (by exact rfl))
 refine a4.step 0 (by exact ⟨⟩) (by exact ⟨⟩) (be.of rfl (bB (by decide) eV mp)) (kW (bO.of_ rfl)) (by kernel_rfl) ?_
 refine dA 4095 ?_ (x := aQ (ag := true) (vs := [val _, sl _ _, val _, val _]) d2 (by exact ⟨⟩) (by exact rfl) (by exact nl rfl))
 exact h_.get) : G := w ⟨h⟩
theorem Hw (h : H) (w : Hd H → G := by
 intro h_
 refine rA ?_ (x := cL [(true, [val _, val _, sl _ _, sl _ _])] [(true, [val _, val _, sl .v _, sl .v _])] yJ (hs := by exact zp))
 refine dI ?_
 exact h_.get) : G := w ⟨h⟩
theorem Hx (h : H) (w : Hd H → G := by
 intro h_
 refine rA ?_ (x := lD [val _, sl .v _] ew)
 refine rA ?_ (x := cL [(true, [val _, sl _ _])] [(true, [val _, sl .v _])] yL (hs := by exact zo))
 exact h_.get) : G := w ⟨h⟩
theorem Hy (h : H) (w : Hd H → G := by
 intro h_
 refine dA 4 ?_ (x := lD [sl .v _] aZ)
 refine dA 12 ?_ (x := cL [(false, [sl _ _])] [(false, [sl .v _])] ml (hs := by exact mA (by omega)))
 exact h_.get) : G := w ⟨h⟩
theorem Hz (h : H) (w : Hd H → G := by
 intro h_
 refine dA 8 ?_ (x := lD [sl .v _] aZ)
 refine dA 31 ?_ (x := cL [(false, [sl _ _])] [(false, [sl .v _])] ml (hs := by exact mA (by omega)))
 exact h_.get) : G := w ⟨h⟩
theorem oR (h : H) (w : Hd H → G := by
 intro h_
 refine bw ?_
 refine sP [1, 2, 3] [1] ?_
 exact h_.get) : G := w ⟨h⟩
theorem oS (h : H) (w : Hd H → G := by
 intro h_
 refine aN ?_
 refine sG [1, 3] [1] ?_
 exact h_.get) : G := w ⟨h⟩
theorem oT (h : H) (w : Hd H → G := by
 intro h_
 refine dF 1023 gb ?_
 refine dF 1023 gb ?_
 exact h_.get) : G := w ⟨h⟩
theorem HA (h : H) (w : Hd H → G := by
 intro h_
 refine sO [(2, _), (3, _), (4, _), (5, _), (6, _), (7, _), (8, _), (9, _)] [(2, _), (3, _), (4, _), (6, (26, [sl _ _, val _]))] ?_
 refine b9 bP ?_
 exact h_.get) : G := w ⟨h⟩
theorem HB (h : H) (w : Hd H → G := by
 intro h_
 refine rA ?_ (x := fT (k := ((bH l f k).length - 1)) (G := 2900) (by decide) fw (by exact ⟨⟩) (by omega) (by first | (rw [List.length_map]; exact hl1) | exact hl1))
 refine rA ?_ (x := lF nQ)
 refine rA ?_ (x := kd (o := 1) (ag := false) (vs := [val _]) (by omega) aq (by exact ⟨⟩) (by exact rfl) (by exact nl rfl))
 exact h_.get) : G := w ⟨h⟩
theorem HC (h : H) (w : Hd H → G := by
 intro h_
 refine jH ?_
 refine sO [(1, _), (2, _), (3, _), (4, _)] [(1, _), (2, _), (4, (32, [sl _ _, val _, val _, sl _ _, sl _ _, sl _ _, sl _ _, val _]))] ?_
 exact h_.get) : G := w ⟨h⟩
theorem HD (h : H) (w : Hd H → G := by
 intro h_
 refine rA ?_ (x := lD [sl .v _] aZ)
 refine rA ?_ (x := cL [(false, [sl _ _])] [(false, [sl .v _])] ml (hs := by exact mA (by omega)))
 exact h_.get) : G := w ⟨h⟩
theorem HE (h : H) (w : Hd H → G := by
 intro h_
 refine i4 ?_
 refine rA ?_ (x := cL [(false, [sl _ _]), (false, [val _])] [(false, [sl .v _]), (false, [val _])] IB (hs := by exact Kd))
 exact h_.get) : G := w ⟨h⟩
theorem lm (h : H) (w : Hd H → G := by
 intro h_
 refine zf gb ?_
 refine m9 ?_
 exact h_.get) : G := w ⟨h⟩
theorem HF (h : H) (w : Hd H → G := by
 intro h_
 refine rA ?_ (x := lF lv)
 refine rA ?_ (x := aQ (ag := false) (vs := [sl _ _]) ir (by exact ⟨⟩) (by exact rfl) (by exact nl rfl))
 exact h_.get) : G := w ⟨h⟩
theorem HG (h : H) (w : Hd H → G := by
 intro h_
 refine sO [(0, _), (1, _), (4, _), (5, _), (6, _), (7, _), (8, _), (2900, _)] [(900, (268, _ ++ ([val _, val _, sl _ _] ++ _)))] ?_
 refine aM ?_
 exact h_.get) : G := w ⟨h⟩
theorem HH (h : H) (w : Hd H → G := by
 intro h_
 refine rA ?_ (x := lF iO)
 refine rA ?_ (x := aQ (ag := false) (vs := [sl _ _]) iP (by exact ⟨⟩) (by exact rfl) (by exact nl rfl))
 exact h_.get) : G := w ⟨h⟩
theorem HI (h : H) (w : Hd H → G := by
 intro h_
 refine rA ?_ (x := lF gQ)
 refine rA ?_ (x := aQ (ag := false) (vs := [sl _ _]) gS (by exact ⟨⟩) (by exact rfl) (by exact nl rfl))
 exact h_.get) : G := w ⟨h⟩
theorem HJ (h : H) (w : Hd H → G := by
 intro h_
 refine rA ?_ (x := lD [sl .v _] ir)
 refine rA ?_ (x := cL [(false, [sl _ _])] [(false, [sl .v _])] O7 (hs := by exact Qj (by omega)))
 exact h_.get) : G := w ⟨h⟩
theorem HK (h : H) (w : Hd H → G := by
 intro h_
 refine rA ?_ (x := lF jO)
 refine rA ?_ (x := aQ (ag := false) (vs := [sl _ _]) jR (by exact ⟨⟩) (by exact rfl) (by exact nl rfl))
 exact h_.get) : G := w ⟨h⟩
theorem HL (h : H) (w : Hd H → G := by
 intro h_
 refine rA ?_ (x := aQ (ag := true) (vs := [val _, val _, val _]) pm (by exact ⟨⟩) (by exact rfl) (by exact nl rfl))
 refine aJ ?_
 exact h_.get) : G := w ⟨h⟩
theorem xO (h : H) (w : Hd H → G := by
 intro h_
 refine dA 0 ?_ (x := lF ee)
 refine dA 1 ?_ (x := lD [sl .v _, val _] cq)
 exact h_.get) : G := w ⟨h⟩
theorem HM (h : H) (w : Hd H → G := by
 intro h_
 refine sO [(1, _), (2, _), (4, _), (5, _), (6, _), (2900, _), (6000, _)] [(2, _), (4, _), (6, _), (900, (139, bX iS _ _))] ?_
 refine aM ?_
 exact h_.get) : G := w ⟨h⟩
theorem HN (h : H) (w : Hd H → G := by
 intro h_
 refine rA ?_ (x := lF gR)
 refine rA ?_ (x := aQ (ag := false) (vs := [val _]) aq (by exact ⟨⟩) (by exact rfl) (by exact nl rfl))
 exact h_.get) : G := w ⟨h⟩
theorem HO (h : H) (w : Hd H → G := by
 intro h_
 refine rA ?_ (x := lF io)
 refine rA ?_ (x := aQ (ag := false) (vs := [val _]) aq (by exact ⟨⟩) (by exact rfl) (by exact nl rfl))
 exact h_.get) : G := w ⟨h⟩
theorem qV (h : H) (w : Hd H → G := by
 intro h_
 refine rA ?_ (x := lF gO)
 refine m8 ?_
 exact h_.get) : G := w ⟨h⟩
theorem HP (h : H) (w : Hd H → G := by
 intro h_
 refine sO [(1, _), (2, _), (3, _)] [(1, _), (2, _), (3, (32, [sl _ _, val _, val _, sl _ _, sl _ _, sl _ _, sl _ _, val _]))] ?_
 refine aM ?_
 exact h_.get) : G := w ⟨h⟩
theorem HQ (h : H) (w : Hd H → G := by
 intro h_
 refine tN ?_
 refine rA ?_ (x := cL [(true, [sl (.lo _) _, val _])] [(true, [sl .v _, val _])] y8 (hs := by exact (zy (by omega))))
 exact h_.get) : G := w ⟨h⟩
theorem HR (h : H) (w : Hd H → G := by
 intro h_
 refine i4 ?_
 refine rA ?_ (x := aD (by decide) gj (by exact ⟨⟩) (by exact rfl) (by exact aE (by omega) rfl) (by exact rfl))
 exact h_.get) : G := w ⟨h⟩
theorem oU (h : H) (w : Hd H → G := by
 intro h_
 refine rA ?_ (x := aA ge)
 refine rM ?_
 exact h_.get) : G := w ⟨h⟩
theorem zip (h : H) (w : Hd H → G := by
 intro h_
 refine rA ?_ (x := ay ge)
 refine rM ?_
 exact h_.get) : G := w ⟨h⟩
theorem HS (h : H) (w : Hd H → G := by
 intro h_
 refine rB ga ?_ (x := vM false [sl .v _])
 refine rB ga ?_ (x := cL [(false, [sl _ _])] [(false, [sl .v _])] J7 (hs := by exact Ks))
 exact h_.get) : G := w ⟨h⟩
theorem HT (h : H) (w : Hd H → G := by
 intro h_
 refine tN ?_
 refine rA ?_ (x := cL [(true, [sl (.lo _) _, val _])] [(true, [sl .v _, val _])] zi (hs := by exact zu (by omega)))
 exact h_.get) : G := w ⟨h⟩
theorem t5 (h : H) (w : Hd H → G := by
 intro h_
 refine sS [0, 2, 3, 7, 5000] [0, 2, 3] ?_
 refine mb ?_
 exact h_.get) : G := w ⟨h⟩
theorem HU (h : H) (w : Hd H → G := by
 intro h_
 refine rA ?_ (x := aQ (ag := true) (vs := [sl _ _, sl _ _]) iT (by exact ⟨⟩) (by exact rfl) (by exact nl rfl))
 refine bY ?_
 exact h_.get) : G := w ⟨h⟩
theorem HV (h : H) (w : Hd H → G := by
 intro h_
 refine rA ?_ (x := vM false [sl .v _])
 refine rA ?_ (x := cL [(false, [sl _ _])] [(false, [sl .v _])] Pk (hs := by exact QF))
 exact h_.get) : G := w ⟨h⟩
theorem xP (h : H) (w : Hd H → G := by
 intro h_
 refine rA ?_ (x := vM false [sl .v _])
 refine rA ?_ (x := vA false [sl .v _])
 exact h_.get) : G := w ⟨h⟩
theorem HW (h : H) (w : Hd H → G := by
 intro h_
 refine dA 16383 ?_ (x := aQ (ag := false) (vs := [sl _ _]) aZ (by exact ⟨⟩) (by exact rfl) (by exact nl rfl))
 refine aJ ?_
 exact h_.get) : G := w ⟨h⟩
theorem kt (h : H) (w : Hd H → G := by
 intro h_
 refine ti ?_
 refine rS ?_
 exact h_.get) : G := w ⟨h⟩
theorem t6 (h : H) (w : Hd H → G := by
 intro h_
 refine rA ?_ (x := vA false [sl .v _])
 refine aJ ?_
 exact h_.get) : G := w ⟨h⟩
theorem xQ (h : H) (w : Hd H → G := by
 intro h_
 refine rB gb ?_ (x := lF gO)
 refine rB gb ?_ (x := lD [sl .v _] aZ)
 exact h_.get) : G := w ⟨h⟩
theorem t7 (h : H) (w : Hd H → G := by
 intro h_
 refine rA ?_ (x := lN bT)
 refine rA ?_ (x := cb)
 exact h_.get) : G := w ⟨h⟩
theorem oV (h : H) (w : Hd H → G := by
 intro h_
 refine rM ?_
 refine rA ?_ (x := dY)
 exact h_.get) : G := w ⟨h⟩
theorem xR (h : H) (w : Hd H → G := by
 intro h_
 refine dA 0 ?_ (x := lF pu)
 refine dA 1 ?_ (x := lD [sl .v _] px)
 exact h_.get) : G := w ⟨h⟩
theorem xS (h : H) (w : Hd H → G := by
 intro h_
 refine rB gd ?_ (x := lF jQ)
 refine rB gd ?_ (x := lD [sl .v _] aZ)
 exact h_.get) : G := w ⟨h⟩
theorem qW (h : H) (w : Hd H → G := by
 intro h_
 refine eS ?_
 refine sT [2, 3, 4] [2, 3] ?_
 exact h_.get) : G := w ⟨h⟩
theorem xT (h : H) (w : Hd H → G := by
 intro h_
 refine rB ga ?_ (x := lF gQ)
 refine rB ga ?_ (x := lD [sl .v _] gS)
 exact h_.get) : G := w ⟨h⟩
theorem xU (h : H) (w : Hd H → G := by
 intro h_
 refine rB gb ?_ (x := lF mn)
 refine rB gb ?_ (x := lD [sl .v _] aZ)
 exact h_.get) : G := w ⟨h⟩
theorem xV (h : H) (w : Hd H → G := by
 intro h_
 refine rB gd ?_ (x := lF jO)
 refine rB gd ?_ (x := lD [sl .v _] jR)
 exact h_.get) : G := w ⟨h⟩
theorem xW (h : H) (w : Hd H → G := by
 intro h_
 refine rB ge ?_ (x := lF gt)
 refine rB ge ?_ (x := lD [sl .v _] gw)
 exact h_.get) : G := w ⟨h⟩
theorem xX (h : H) (w : Hd H → G := by
 intro h_
 refine rB gc ?_ (x := lF dJ)
 refine rB gc ?_ (x := lD [sl .v _] dm)
 exact h_.get) : G := w ⟨h⟩
theorem xY (h : H) (w : Hd H → G := by
 intro h_
 refine rB gi ?_ (x := lF pk)
 refine rB gi ?_ (x := lD [sl .v _] ir)
 exact h_.get) : G := w ⟨h⟩
theorem HX (h : H) (w : Hd H → G := by
 intro h_
 refine rX ?_ (x := (bB (by decide) my mz))
 refine rA ?_ (x := fj (.inr rfl) (by decide) (fR (t := 54) (e := 2)))
 exact h_.get) : G := w ⟨h⟩
theorem qX (h : H) (w : Hd H → G := by
 intro h_
 refine rA ?_ (x := cM Cp.ptr)
 refine i2 ?_
 exact h_.get) : G := w ⟨h⟩
theorem HY (h : H) (w : Hd H → G := by
 intro h_
 refine rA ?_ (x := lD [sl .v _] aZ)
 refine rA ?_ (x := cL [(false, [sl _ _])] [(false, [sl .v _])] IC (hs := by exact Km))
 exact h_.get) : G := w ⟨h⟩
theorem xZ (h : H) (w : Hd H → G := by
 intro h_
 refine dB 2097151 gb ?_ (x := eR)
 refine dB 4194303 ga ?_ (x := aA gb)
 exact h_.get) : G := w ⟨h⟩
theorem x0 (h : H) (w : Hd H → G := by
 intro h_
 refine dA 96 ?_ (x := lF dJ)
 refine dA 224 ?_ (x := lD [val _] dm)
 exact h_.get) : G := w ⟨h⟩
theorem HZ (h : H) (w : Hd H → G := by
 intro h_
 refine sH [1, 2, 4, 5, 6] [2, 4, 5] ?_
 refine rA ?_ (x := lD [sl .v _, val _, val _, sl .v _, sl .v _, sl .v _, sl .v _, val _] a7)
 exact h_.get) : G := w ⟨h⟩
theorem x4 (h : H) (w : Hd H → G := by
 intro h_
 refine rB ga ?_ (x := lF yN)
 refine rB ga ?_ (x := lD [val _] aq)
 exact h_.get) : G := w ⟨h⟩
theorem qY (h : H) (w : Hd H → G := by
 intro h_
 refine rA ?_ (x := lF iO)
 refine rA ?_ (x := lD [sl .v _] iP)
 refine rA ?_ (x := lN gv)
 exact h_.get) : G := w ⟨h⟩
theorem x5 (h : H) (w : Hd H → G := by
 intro h_
 refine dA 0 ?_ (x := lF iO)
 refine dA 1 ?_ (x := lD [sl .v _] iP)
 exact h_.get) : G := w ⟨h⟩
theorem x6 (h : H) (w : Hd H → G := by
 intro h_
 refine rB gb ?_ (x := lF gP)
 refine rB gb ?_ (x := lD [val _] aq)
 exact h_.get) : G := w ⟨h⟩
theorem x7 (h : H) (w : Hd H → G := by
 intro h_
 refine rB ge ?_ (x := lF pi)
 refine rB ge ?_ (x := lD [val _] aq)
 exact h_.get) : G := w ⟨h⟩
theorem x8 (h : H) (w : Hd H → G := by
 intro h_
 refine rB ga ?_ (x := lF ph)
 refine rB ga ?_ (x := lD [val _] aq)
 exact h_.get) : G := w ⟨h⟩
theorem x9 (h : H) (w : Hd H → G := by
 intro h_
 refine rB gc ?_ (x := lF kC)
 refine rB gc ?_ (x := lD [val _] aq)
 exact h_.get) : G := w ⟨h⟩
theorem qZ (h : H) (w : Hd H → G := by
 intro h_
 refine qF ?_
 refine rA ?_ (x := lN iq)
 exact h_.get) : G := w ⟨h⟩
theorem ra (h : H) (w : Hd H → G := by
 intro h_
 refine rA ?_ (x := lF gt)
 refine rA ?_ (x := lD [sl .v _] gw)
 refine rA ?_ (x := lN fq)
 exact h_.get) : G := w ⟨h⟩
theorem H0 (h : H) (w : Hd H → G := by
 intro h_
 refine rA ?_ (x := aQ (ag := false) (vs := [sl _ _]) aZ (by exact ⟨⟩) (by exact rfl) (by exact nl rfl))
 refine Fr ?_
 exact h_.get) : G := w ⟨h⟩
theorem ya (h : H) (w : Hd H → G := by
 intro h_
 refine dB 4194303 ga ?_ (x := ay gb)
 refine dA 8388607 ?_ (x := ay ga)
 exact h_.get) : G := w ⟨h⟩
theorem yb (h : H) (w : Hd H → G := by
 intro h_
 refine rB gg ?_ (x := lF IG)
 refine rB gg ?_ (x := lD [val _] aq)
 exact h_.get) : G := w ⟨h⟩
theorem yc (h : H) (w : Hd H → G := by
 intro h_
 refine rB gh ?_ (x := lF IH)
 refine rB gh ?_ (x := lD [val _] aq)
 exact h_.get) : G := w ⟨h⟩
theorem rc (h : H) (w : Hd H → G := by
 intro h_
 refine zf g9 ?_
 refine rA ?_ (x := ay g9)
 exact h_.get) : G := w ⟨h⟩
theorem re (h : H) (w : Hd H → G := by
 intro h_
 refine zf g7 ?_
 refine rA ?_ (x := ay g7)
 exact h_.get) : G := w ⟨h⟩
theorem yd (h : H) (w : Hd H → G := by
 intro h_
 refine dA 3 ?_ (x := lF dJ)
 refine dA 7 ?_ (x := lD [val _] dm)
 exact h_.get) : G := w ⟨h⟩
theorem H1 (h : H) (w : Hd H → G := by
 intro h_
 refine rA ?_ (x := sV (by decide) (by exact ⟨⟩) (by exact ⟨⟩) (by omega))
 refine rA ?_ (x := fU (by decide))
 exact h_.get) : G := w ⟨h⟩
theorem ye (h : H) (w : Hd H → G := by
 intro h_
 refine dA 0 ?_ (x := lF gQ)
 refine dA 1 ?_ (x := lD [val _] gS)
 exact h_.get) : G := w ⟨h⟩
theorem yf (h : H) (w : Hd H → G := by
 intro h_
 refine sG [0, 2, 3, 7, 5000] [0, 2, 3] ?_
 refine rA ?_ (x := cM Cp.ptr)
 exact h_.get) : G := w ⟨h⟩
theorem H2 (h : H) (w : Hd H → G := by
 intro h_
 refine sO [(0, _), (1, _), (4, _), (5, _), (6, _), (7, _), (5000, _)] [(0, (192, [sl o _, val _, val _]))] ?_
 refine aM ?_
 exact h_.get) : G := w ⟨h⟩
theorem rg (h : H) (w : Hd H → G := by
 intro h_
 refine aX ?_
 refine sT [1, 3] [1] ?_
 exact h_.get) : G := w ⟨h⟩
theorem yg (h : H) (w : Hd H → G := by
 intro h_
 refine rX ?_ (x := (bB (by decide) ff iQ))
 refine me ?_
 exact h_.get) : G := w ⟨h⟩
theorem H3 (h : H) (w : Hd H → G := by
 intro h_
 refine qD ?_
 refine rX ?_ (x := (db (ag := true) (cs := [val _, sl _ _, val _, val _]) (by decide) (by exact ⟨⟩)))
 exact h_.get) : G := w ⟨h⟩
theorem ln (h : H) (w : Hd H → G := by
 intro h_
 refine qI ?_
 refine rM ?_
 exact h_.get) : G := w ⟨h⟩
theorem yh (h : H) (w : Hd H → G := by
 intro h_
 refine rA ?_ (x := lF mn)
 refine rA ?_ (x := lD [sl .v _] aZ)
 exact h_.get) : G := w ⟨h⟩
theorem mg (h : H) (w : Hd H → G := by
 intro h_
 refine lb ?_
 refine bD ?_
 exact h_.get) : G := w ⟨h⟩
theorem H4 (h : H) (w : Hd H → G := by
 intro h_
 refine qx ?_
 refine rA ?_ (x := cL [(true, [val _, sl _ _])] [(true, [val _, sl .v _])] uB (hs := by exact u6))
 exact h_.get) : G := w ⟨h⟩
theorem oW (h : H) (w : Hd H → G := by
 intro h_
 refine dU 1023 ?_
 refine dU 1023 ?_
 exact h_.get) : G := w ⟨h⟩
theorem H5 (h : H) (w : Hd H → G := by
 intro h_
 refine xL ?_
 refine sO [(1, _), (2, _), (4, _), (5, _)] [(2, (26, [sl (.lo _) _, val _])), (4, (26, [sl _ _, val _]))] ?_
 exact h_.get) : G := w ⟨h⟩
theorem H6 (h : H) (w : Hd H → G := by
 intro h_
 refine dA 0 ?_ (x := lD [sl .v _, val _, val _, sl .v _, sl .v _, sl .v _, sl .v _, val _] a7)
 refine dA 0 ?_ (x := sM)
 exact h_.get) : G := w ⟨h⟩
theorem rh (h : H) (w : Hd H → G := by
 intro h_
 refine ki ?_
 refine rA ?_ (x := cb)
 exact h_.get) : G := w ⟨h⟩
theorem yi (h : H) (w : Hd H → G := by
 intro h_
 refine rB gb ?_ (x := lD [val _] aq)
 refine rB gb ?_ (x := eR)
 exact h_.get) : G := w ⟨h⟩
theorem ri (h : H) (w : Hd H → G := by
 intro h_
 refine rB gb ?_ (x := nT)
 refine m9 ?_
 exact h_.get) : G := w ⟨h⟩
theorem ku (h : H) (w : Hd H → G := by
 intro h_
 refine rM ?_
 refine rM ?_
 exact h_.get) : G := w ⟨h⟩
theorem t8 (h : H) (w : Hd H → G := by
 intro h_
 refine dT 33554431 g4 ?_
 refine dT 33554431 g4 ?_
 exact h_.get) : G := w ⟨h⟩
theorem t9 (h : H) (w : Hd H → G := by
 intro h_
 refine dT 33554431 gb ?_
 refine dT 33554431 gb ?_
 exact h_.get) : G := w ⟨h⟩
theorem yj (h : H) (w : Hd H → G := by
 intro h_
 refine rA ?_ (x := lF ph)
 refine rA ?_ (x := lD [val _] aq)
 exact h_.get) : G := w ⟨h⟩
theorem nr (h : H) (w : Hd H → G := by
 intro h_
 refine aM ?_
 refine bF ?_
 exact h_.get) : G := w ⟨h⟩
theorem yk (h : H) (w : Hd H → G := by
 intro h_
 refine rA ?_ (x := vM false [sl .v _])
 refine rA ?_ (x := lN uF)
 exact h_.get) : G := w ⟨h⟩
theorem yl (h : H) (w : Hd H → G := by
 intro h_
 refine rA ?_ (x := lF rC)
 refine rA ?_ (x := lD [val _] aq)
 exact h_.get) : G := w ⟨h⟩
theorem rj (h : H) (w : Hd H → G := by
 intro h_
 refine rA ?_ (x := aA ga)
 refine rM ?_
 exact h_.get) : G := w ⟨h⟩
theorem H7 (h : H) (w : Hd H → G := by
 intro h_
 refine sR ?_
 refine rX ?_ (x := (db (ag := true) (cs := [val _, val _, val _]) (by decide) (by exact ⟨⟩)))
 exact h_.get) : G := w ⟨h⟩
theorem rm (h : H) (w : Hd H → G := by
 intro h_
 refine rA ?_ (x := dD)
 refine rM ?_
 exact h_.get) : G := w ⟨h⟩
theorem H8 (h : H) (w : Hd H → G := by
 intro h_
 refine dH ?_
 refine sO [(1, _), (2, _), (4, _), (5, _), (6, _)] [(2, _), (4, _), (6, (26, [sl _ _, val _]))] ?_
 exact h_.get) : G := w ⟨h⟩
theorem ua (h : H) (w : Hd H → G := by
 intro h_
 refine rB gb ?_ (x := lF iO)
 refine rB gb ?_ (x := lD [sl .v _] iP)
 refine rB gb ?_ (x := lN gv)
 exact h_.get) : G := w ⟨h⟩
theorem ub (h : H) (w : Hd H → G := by
 intro h_
 refine aT ?_
 refine sS [0, 1, 4, 5, 6] [] ?_
 exact h_.get) : G := w ⟨h⟩
theorem uc (h : H) (w : Hd H → G := by
 intro h_
 refine b9 bP ?_
 refine dA 0 ?_ (x := sM)
 exact h_.get) : G := w ⟨h⟩
theorem H9 (h : H) (w : Hd H → G := by
 intro h_
 refine aM ?_
 refine rA ?_ (x := lD [sl .v _, val _, val _, sl .v _, sl .v _, sl .v _, sl .v _, val _] a7)
 exact h_.get) : G := w ⟨h⟩
theorem mh (h : H) (w : Hd H → G := by
 intro h_
 refine tk ?_
 refine rM ?_
 exact h_.get) : G := w ⟨h⟩
theorem ym (h : H) (w : Hd H → G := by
 intro h_
 refine dB 127 ga ?_ (x := sM)
 refine dB 255 ga ?_ (x := dD)
 exact h_.get) : G := w ⟨h⟩
theorem ns (h : H) (w : Hd H → G := by
 intro h_
 refine aN ?_
 refine sG [0, 1, 5] [] ?_
 refine bF ?_
 exact h_.get) : G := w ⟨h⟩
theorem rn (h : H) (w : Hd H → G := by
 intro h_
 refine sS [0, 3] [] ?_
 refine bD ?_
 exact h_.get) : G := w ⟨h⟩
theorem yn (h : H) (w : Hd H → G := by
 intro h_
 refine rA ?_ (x := lF mo)
 refine rA ?_ (x := lF je)
 exact h_.get) : G := w ⟨h⟩
theorem ud (h : H) (w : Hd H → G := by
 intro h_
 refine rA ?_ (x := lF kE)
 refine m8 ?_
 exact h_.get) : G := w ⟨h⟩
theorem nt (h : H) (w : Hd H → G := by
 intro h_
 refine tG ?_
 refine cj ?_
 exact h_.get) : G := w ⟨h⟩
theorem ro (h : H) (w : Hd H → G := by
 intro h_
 refine rA ?_ (x := tM)
 refine E4 ?_
 exact h_.get) : G := w ⟨h⟩
theorem Ia (h : H) (w : Hd H → G := by
 intro h_
 refine rA ?_ (x := lD [sl .v _, val _, val _, sl .v _, sl .v _, sl .v _, sl .v _, val _] a7)
 refine rM ?_
 exact h_.get) : G := w ⟨h⟩
theorem ue (h : H) (w : Hd H → G := by
 intro h_
 refine zf g11 ?_
 refine rA ?_ (x := ay g11)
 exact h_.get) : G := w ⟨h⟩
theorem uf (h : H) (w : Hd H → G := by
 intro h_
 refine zf g16 ?_
 refine rA ?_ (x := ay g16)
 exact h_.get) : G := w ⟨h⟩
theorem ug (h : H) (w : Hd H → G := by
 intro h_
 refine zf g17 ?_
 refine rA ?_ (x := ay g17)
 exact h_.get) : G := w ⟨h⟩
theorem uh (h : H) (w : Hd H → G := by
 intro h_
 refine zf g18 ?_
 refine rA ?_ (x := ay g18)
 exact h_.get) : G := w ⟨h⟩
theorem ui (h : H) (w : Hd H → G := by
 intro h_
 refine zt g11 ?_
 refine rA ?_ (x := aA g11)
 exact h_.get) : G := w ⟨h⟩
theorem uj (h : H) (w : Hd H → G := by
 intro h_
 refine zt g12 ?_
 refine rA ?_ (x := aA g12)
 exact h_.get) : G := w ⟨h⟩
theorem uk (h : H) (w : Hd H → G := by
 intro h_
 refine dE ?_
 refine sS [2, 3, 4] [2, 3] ?_
 exact h_.get) : G := w ⟨h⟩
theorem Ib (h : H) (w : Hd H → G := by
 intro h_
 refine aJ ?_
 refine sP [0, 1, 5, 6, 7, 8, 9, 10, 11, 12, 13, 14, 15, 2900, 5000] [0, 6, 8, 13, 900] ?_
 exact h_.get) : G := w ⟨h⟩
theorem rp (h : H) (w : Hd H → G := by
 intro h_
 refine rK ?_
 refine sT [1, 2] [1] ?_
 exact h_.get) : G := w ⟨h⟩
theorem Ic (h : H) (w : Hd H → G := by
 intro h_
 refine rA ?_ (x := bl (by decide) lx (by exact nl rfl))
 refine rA ?_ (x := lE [val _] aq)
 exact h_.get) : G := w ⟨h⟩
theorem ul (h : H) (w : Hd H → G := by
 intro h_
 refine aX ?_
 refine sS [0, 1, 5] [] ?_
 exact h_.get) : G := w ⟨h⟩
theorem um (h : H) (w : Hd H → G := by
 intro h_
 refine sS [0, 1, 4, 5] [] ?_
 refine bw ?_
 exact h_.get) : G := w ⟨h⟩
theorem Ie (h : H) (w : Hd H → G := by
 intro h_
 refine rA ?_ (x := fj (.inr rfl) (by decide) (fR (t := 52) (e := 4)))
 refine sS [0, 2] [] ?_
 exact h_.get) : G := w ⟨h⟩
theorem oX (h : H) (w : Hd H → G := by
 intro h_
 refine aM ?_
 refine bw ?_
 exact h_.get) : G := w ⟨h⟩
theorem If (h : H) (w : Hd H → G := by
 intro h_
 refine rA ?_ (x := fj (.inr rfl) (by decide) (fR (t := 3) (e := 1)))
 refine sT [1, 2] [1] ?_
 exact h_.get) : G := w ⟨h⟩
theorem Ig (h : H) (w : Hd H → G := by
 intro h_
 refine aJ ?_
 refine sO [(0, _), (1, _), (4, _), (5000, _)] [(0, (192, [sl o _, val _, val _]))] ?_
 exact h_.get) : G := w ⟨h⟩
theorem rq (h : H) (w : Hd H → G := by
 intro h_
 refine dU 4095 ?_
 refine dU 8191 ?_
 exact h_.get) : G := w ⟨h⟩
theorem yo (h : H) (w : Hd H → G := by
 intro h_
 refine ma ?_
 refine rA ?_ (x := fU (by decide))
 exact h_.get) : G := w ⟨h⟩
theorem un (h : H) (w : Hd H → G := by
 intro h_
 refine rK ?_
 refine sT [2, 3, 4] [2, 3] ?_
 exact h_.get) : G := w ⟨h⟩
theorem uo (h : H) (w : Hd H → G := by
 intro h_
 refine zt g4 ?_
 refine rA ?_ (x := aA g4)
 exact h_.get) : G := w ⟨h⟩
theorem up (h : H) (w : Hd H → G := by
 intro h_
 refine zt gf ?_
 refine rA ?_ (x := aA gf)
 exact h_.get) : G := w ⟨h⟩
theorem Ih (h : H) (w : Hd H → G := by
 intro h_
 refine sR ?_
 refine eS ?_
 refine sO [(0, _), (1, _), (4, _), (5000, _)] [(0, (192, [sl o _, val _, val _]))] ?_
 exact h_.get) : G := w ⟨h⟩
theorem yp (h : H) (w : Hd H → G := by
 intro h_
 refine rB gc ?_ (x := aA gd)
 refine rA ?_ (x := ay gc)
 exact h_.get) : G := w ⟨h⟩
theorem yq (h : H) (w : Hd H → G := by
 intro h_
 refine rB gc ?_ (x := ay gd)
 refine rA ?_ (x := ay gc)
 exact h_.get) : G := w ⟨h⟩
theorem Ii (h : H) (w : Hd H → G := by
 intro h_
 refine sO [(1, _), (2, _)] [(1, (52, [val _, val _, sl _ _, sl _ _])), (2, _)] ?_
 refine aM ?_
 exact h_.get) : G := w ⟨h⟩
theorem nu (h : H) (w : Hd H → G := by
 intro h_
 refine tJ ?_
 refine rM ?_
 exact h_.get) : G := w ⟨h⟩
theorem uq (h : H) (w : Hd H → G := by
 intro h_
 refine dT 4095 ga ?_
 refine dT 4095 ga ?_
 exact h_.get) : G := w ⟨h⟩
theorem yr (h : H) (w : Hd H → G := by
 intro h_
 refine rB ga ?_ (x := co)
 refine rA ?_ (x := ay ga)
 exact h_.get) : G := w ⟨h⟩
theorem yt (h : H) (w : Hd H → G := by
 intro h_
 refine rB gc ?_ (x := co)
 refine rA ?_ (x := ay gc)
 exact h_.get) : G := w ⟨h⟩
theorem yu (h : H) (w : Hd H → G := by
 intro h_
 refine rB gc ?_ (x := dD)
 refine rA ?_ (x := ay gc)
 exact h_.get) : G := w ⟨h⟩
theorem Ij (h : H) (w : Hd H → G := by
 intro h_
 refine dH ?_
 refine sO [(1, _), (2, _), (3, _)] [(1, _), (2, _), (3, (26, [sl _ _, val _]))] ?_
 exact h_.get) : G := w ⟨h⟩
theorem ur (h : H) (w : Hd H → G := by
 intro h_
 refine eS ?_
 refine sT [1, 2, 4] [2] ?_
 exact h_.get) : G := w ⟨h⟩
theorem nw (h : H) (w : Hd H → G := by
 intro h_
 refine rM ?_
 refine cK ?_
 exact h_.get) : G := w ⟨h⟩
theorem ut (h : H) (w : Hd H → G := by
 intro h_
 refine rB ga ?_ (x := sM)
 refine rB ga ?_ (x := cb)
 refine rA ?_ (x := aA ga)
 exact h_.get) : G := w ⟨h⟩
theorem Ik (h : H) (w : Hd H → G := by
 intro h_
 refine rA ?_ (x := fj (.inr rfl) (by decide) (fR (t := 268) (e := 3)))
 refine sS [0, 1, 4] [] ?_
 refine rA ?_ (x := bd (qs := []) (by decide) fw nU (by decide) rfl rfl rfl rfl rfl (by exact nl rfl) (by exact ⟨⟩) rfl)
 exact h_.get) : G := w ⟨h⟩
theorem yv (h : H) (w : Hd H → G := by
 intro h_
 refine rB gc ?_ (x := co)
 refine rB gc ?_ (x := sM)
 exact h_.get) : G := w ⟨h⟩
theorem yw (h : H) (w : Hd H → G := by
 intro h_
 refine rB gb ?_ (x := sM)
 refine rB gb ?_ (x := dD)
 exact h_.get) : G := w ⟨h⟩
theorem yx (h : H) (w : Hd H → G := by
 intro h_
 refine rB gb ?_ (x := sM)
 refine rB gb ?_ (x := er)
 exact h_.get) : G := w ⟨h⟩
theorem yy (h : H) (w : Hd H → G := by
 intro h_
 refine b9 bP ?_
 refine dA 0 ?_ (x := lF jP)
 exact h_.get) : G := w ⟨h⟩
theorem uu (h : H) (w : Hd H → G := by
 intro h_
 refine i3 ?_
 refine rA ?_ (x := cb)
 exact h_.get) : G := w ⟨h⟩
theorem uv (h : H) (w : Hd H → G := by
 intro h_
 refine fZ ?_
 refine rA ?_ (x := co)
 exact h_.get) : G := w ⟨h⟩
theorem uw (h : H) (w : Hd H → G := by
 intro h_
 refine bu ?_
 refine rA ?_ (x := dD)
 exact h_.get) : G := w ⟨h⟩
theorem oY (h : H) (w : Hd H → G := by
 intro h_
 refine i4 ?_
 refine ti ?_
 exact h_.get) : G := w ⟨h⟩
theorem oZ (h : H) (w : Hd H → G := by
 intro h_
 refine fZ ?_
 refine cj ?_
 exact h_.get) : G := w ⟨h⟩
theorem o6 (h : H) (w : Hd H → G := by
 intro h_
 refine oN ?_
 refine bw ?_
 refine sP [0, 2, 3] [] ?_
 exact h_.get) : G := w ⟨h⟩
theorem o7 (h : H) (w : Hd H → G := by
 intro h_
 refine aJ ?_
 refine sS [0, 2, 3] [] ?_
 refine bw ?_
 refine sP [0, 2, 3, 4] [] ?_
 exact h_.get) : G := w ⟨h⟩
theorem o8 (h : H) (w : Hd H → G := by
 intro h_
 refine bu ?_
 refine i5 ?_
 refine rA ?_ (x := cb)
 exact h_.get) : G := w ⟨h⟩
theorem o9 (h : H) (w : Hd H → G := by
 intro h_
 refine md ?_
 refine dA 3 ?_ (x := aD (by decide) a3 (by exact ⟨⟩) (by exact rfl) (by exact aE (by omega) rfl) (by exact rfl))
 refine dA 7 ?_ (x := lE [val _] aq)
 exact h_.get) : G := w ⟨h⟩
theorem yz (h : H) (w : Hd H → G := by
 intro h_
 refine dA 30 ?_ (x := lE [val _] aq)
 refine dG ?_
 exact h_.get) : G := w ⟨h⟩
theorem pb (h : H) (w : Hd H → G := by
 intro h_
 refine rA ?_ (x := aD (by decide) iq (by exact ⟨⟩) (by exact rfl) (by exact aE (by omega) rfl) (by exact rfl))
 refine rA ?_ (x := lE [val _, val _, sl .v _, sl .v _, val _, val _, sl .v _] nG)
 refine rX ?_ (x := (bB (by decide) kF uH))
 refine rA ?_ (x := aQ (ag := true) (vs := [val _, val _, sl _ _, sl _ _, val _, val _, sl _ _]) nG (by exact ⟨⟩) (by exact rfl) (by exact nl rfl))
 exact h_.get) : G := w ⟨h⟩
theorem pc (h : H) (w : Hd H → G := by
 intro h_
 refine rA ?_ (x := b8 (ms := [sl _ _]) (qs := [sl .v _]) (by decide) aZ (fun _ => rfl) (by exact nl rfl) (by exact rfl) (by exact (ab.cons PV.to_none ab.nil)) (by exact (ae.cons (bor_sl _) ae.nil)))
 refine rM ?_
 refine xf ?_
 exact h_.get) : G := w ⟨h⟩
theorem yA (h : H) (w : Hd H → G := by
 intro h_
 refine b9 bP ?_
 refine dA 0 ?_ (x := cM Cp.ptr)
 exact h_.get) : G := w ⟨h⟩
theorem Il (h : H) (w : Hd H → G := by
 intro h_
 refine dB 274877906943 gc ?_ (x := vM false [sl .v _])
 refine dB 274877906943 gc ?_ (x := sM)
 exact h_.get) : G := w ⟨h⟩
end Go.Proofs.YtmekkgdboplbjaaGreat.M
