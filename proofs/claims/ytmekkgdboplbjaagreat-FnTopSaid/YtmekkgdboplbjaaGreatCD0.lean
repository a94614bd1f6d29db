/- Short names for what the printed proofs say often. No condition. -/
import Derived.Test.YtmekkgdboplbjaaGreatCC0
set_option linter.all false
namespace Go.Proofs.YtmekkgdboplbjaaGreat.M
open Go Go.RowKit
variable {G H : Prop}
def BL (h : G := by
 refine db ?_
 exact rb (by simp [aK, *])) : G := h
def ID (h : G := by
 refine sR ?_
 refine rK ?_
 refine sS [0, 1, 2, 6] [] ?_
 refine jS ?_
 refine rA ?_ (x := iy)
 refine rM ?_
 refine cx 10 (fun ga sga => ?_) (fun ga sga => ?_)
 refine rB ga ?_ (x := sM)
 refine rB ga ?_ (x := sM)
 refine rB ga ?_ (x := ix)
 refine rA ?_ (x := aO ga)
 exact BL
 refine mz ?_
 exact BL) : G := h
def IE (h : G := by
 refine cm ?_
 exact rb ((qZ (P := fun y => y == x) hlt (by simpa using ‹_ = x›)).symm)) : G := h
def IF (h : G := by
 refine nx (k + 1) (by exact ⟨by omega, qY ha ‹_› (by simpa using ‹¬ _›)⟩)) : G := h
def IG (h : G := by
 refine cm ?_
 exact rb (by exact (PY (by rw [show xs.length = k by omega]; exact ha)).symm)) : G := h
def xN (h : G := by
 refine cT ?_
 exact (aI (by exact rfl) tI)) : G := h
def IH (h : G := by
 refine cm ?_
 exact rb (by simp [cf, Qd, kE (P := jU) hlt hno])) : G := h
def II (h : G := by
 refine nx (k + 1) (by exact ⟨by omega, zw ha hlt hyes⟩)) : G := h
def uQ (h : G := by
 refine cF ?_
 exact II) : G := h
def BM (h : G := by
 refine db ?_
 exact rb (by simp [cf, Qd, hall, *])) : G := h
def IJ (h : G := by
 refine pq ?_
 refine yP ?_
 refine rA ?_ (x := aO ga)
 exact BM) : G := h
def pj (h : G := by
 refine cb ?_
 exact II) : G := h
def IK (h : G := by
 refine db ?_
 exact rb (by simp [mG, *])) : G := h
def IL (h : G := by
 refine cT ?_
 exact (bw 2 (bw _ (aI (by exact rfl) (aI (by exact rfl) (aI fj (aI (fun h => nomatch h) tI))))))) : G := h
def IM (h : G := by
 refine dA 63 ?_ (x := bh (ag := true) (vs := [val _, sl _ _]) fj (by exact tI) (by exact rfl) (by exact nl rfl))
 exact IL) : G := h
def IN (h : G := by
 refine nx (k + 1) (by omega) (e := (by exact aI (by exact bG (by rw [tP hlt, bj]; rfl)) (aI (by exact rfl) tI)))) : G := h
def uR (h : G := by
 refine jQ ?_
 exact (aI (by refine bG ?_; rw [hend, cj]) tI)) : G := h
def BN (h : G := by
 refine cb ?_
 exact IN) : G := h
def BO (h : G := by
 refine bq ?_
 refine sS [0, 2, 3, 4] [] ?_
 exact uR) : G := h
def BP (h : G := by
 have hend : k = x.length := by omega
 exact BO) : G := h
def uS (h : G := by
 refine sS [0, 1, 4] [] ?_
 refine cm ?_
 exact rb (by exact (tN (fun e => by subst e; simp at *)).symm)) : G := h
def BQ (h : G := by
 refine cm ?_
 exact rb (by exact (tN (VZ hlt hlt2 (by intro e; simp [e, lQ] at *))).symm)) : G := h
def sr (h : G := by
 refine sS [0, 1, 5] [] ?_
 exact BQ) : G := h
def IP (h : G := by
 refine nx (k + 1) (by exact ⟨by omega, ra ha hlt hlt2 (by simp_all)⟩)) : G := h
def IQ (h : G := by
 refine cm ?_
 exact rb (by exact (rc (tL hl (by rw [show x.length = k by omega]; exact ha))).symm)) : G := h
def BR (h : G := by
 refine vW ?_
 exact IQ) : G := h
def IR (h : G := by
 refine bq ?_
 refine sS [0, 1, 12, 13] [] ?_
 exact IQ) : G := h
def xO (h : G := by
 refine db ?_
 exact rb (by rw [Bool.eq_iff_iff]; simp only [fh, We]; simp_all [fh])) : G := h
def IS (h : G := by
 have hend : k = x.length ∨ k = y.length := by omega
 refine vW ?_
 refine gS ?_
 refine gS ?_
 refine rA ?_ (x := dq)
 refine db ?_
 exact rb (by rw [ha.2, decide_eq_decide]; rcases Nat.lt_or_ge k x.length with h1 | h1 <;> rcases Nat.lt_or_ge k y.length with h2 | h2 <;> (first | omega | (rw [abU h1 h2]; omega) | (rw [abV h1 h2]; omega) | (rw [abW h1 h2]; omega)))) : G := h
def IT (h : G := by
 refine db ?_
 exact rb (by unfold dH dg fw; dsimp only; (first | rw [decide_eq_decide] | skip); repeat' split; all_goals (first | omega | rfl | simp_all))) : G := h
def IU (h : G := by
 have hins : dO (dH dg) (x.take (i + 1)) = (dO (dH dg) (x.take i)).take j ++ x[i] :: (dO (dH dg) (x.take i)).drop j := by rw [cC hlt, AN, abO (qd).ord (Gy (qd).ord (qd).irr _) (by omega) haj hst]
 refine bq ?_
 refine sS [0, 2, 3, 4, 5] [] ?_
 refine rA ?_ (x := bP (qs := []) (by decide) fD gJ (by decide) rfl rfl rfl rfl rfl (by exact nl rfl) (by exact tI) rfl)
 refine jp ?_
 refine rA ?_ (x := se (i := 0) (j := j) (ys := ((dO (dH dg) (x.take i)).take j)) (q := (0 : Int)) (by decide) fD (by exact rfl) (by exact tI) (by omega) (by omega) (by omega) (by omega) (fun _ => rfl) (by simp))
 refine ML ?_
 refine sS [0, 2, 3, 4, 5, 6] [] ?_
 refine qS ?_
 refine vb ?_
 refine rA ?_ (x := cL [(true, [val _, sl _ _])] [(true, [val _, sl .v _])] Ex (hs := by exact (aN.view (ag := true) (ak (aB ao.nil)) (aj.cons (bor_val _) (aj.cons (bor_sl _) aj.nil)) ((Fm (by omega))))))
 refine tt ?_
 refine sG [0, 2, 3, 4, 5, 6] [] ?_
 refine qS ?_
 refine rA ?_ (x := se (i := j) (j := (dO (dH dg) (x.take i)).length) (ys := ((dO (dH dg) (x.take i)).drop j)) (r := (((dO (dH dg) (x.take i)).length : Nat) : Int)) (by decide) fD (by exact tI) (by exact rfl) (by omega) (by omega) (by omega) (by omega) (fun _ => rfl) (by rw [cj]))
 refine ML ?_
 refine sG [0, 2, 3, 4, 5] [] ?_
 refine cb ?_
 refine nx (i + 1) (by omega) (e := (by exact aI (by exact bG (by rw [hins]; simp only [bj, List.map_cons, List.map_nil, bu, List.nil_append, List.cons_append]; try rfl)) (aI (by exact bk (by omega)) tI)))) : G := h
def qt (h : G := by
 refine db ?_
 exact rb (by first | (simp_all [kF, aK]; done) | (simp_all [kF, aK]; omega))) : G := h
def IV (h : G := by
 have hbad : dG ⟨0, 0, 0⟩ kF lR x.aeB = false := pG hlt (Bool.eq_false_iff.2 fun hx => by
  have hx := iz.1 hx
  rw [hgk] at hx
  obtain ⟨hx1, hx2⟩ := hx
  first
  | (simp_all; done)
  | (simp only [decide_eq_true_eq, lR] at *; by_cases h0 : k = 0 <;> (try rw [hgp (by omega)] at hx2) <;> omega))
 refine sS [1, 3] [1] ?_
 refine cm ?_
 exact rb (by simp [ck, ls, hbad])) : G := h
def IW (h : G := by
 refine nx (k + 1) (by exact ⟨by omega, by rw [wq, ha, Bool.true_and]; refine iz.2 ⟨by rw [hgk]; first | assumption | simp_all, ?_⟩; rcases Nat.eq_zero_or_pos k with h0 | h0; (· exact .inl h0); (· right; rw [hgk, hgp h0]; first | (simp only [decide_eq_true_eq, lR] at *; omega) | (simp_all; done))⟩)) : G := h
def IX (h : G := by
 refine wa ?_
 refine cb ?_
 exact IW) : G := h
def xP (h : G := by
 refine db ?_
 exact rb (by first | (simp_all [ck, ls]; done) | (simp_all [ck, ls]; rfl) | (simp_all [ck, ls]; omega) | (simp_all [ck, ls]; intros; omega))) : G := h
def xQ (h : G := by
 refine cT ?_
 exact rb (by first | exact hbad0.symm | (simp [ck, ls, hbad]; done) | (simp [ck, lS, hn3]; done) | (simp_all [ck, ls, lS]; done) | (simp_all [ck, ls, lS]; rfl) | (simp_all [ck, ls, lS]; omega) | (simp_all [ck, ls, lS]; intros; omega))) : G := h
def BS (h : G := by
 have hbad0 : ck x = false := by first | (simp_all [ck]; done) | (simp_all [ck]; rfl) | (simp_all [ck]; omega) | (simp_all [ck]; intros; omega)
 refine sS [1, 2] [1] ?_
 refine rK ?_
 exact xQ) : G := h
def IY (h : G := by
 have hbad : dG ⟨0, 0, 0⟩ kF lR x.aeB = false := pG hlt (Bool.eq_false_iff.2 fun hx => by
  have hx := iz.1 hx
  rw [hgk] at hx
  obtain ⟨hx1, hx2⟩ := hx
  first
  | (simp_all; done)
  | (simp only [decide_eq_true_eq, lR] at *; by_cases h0 : k = 0 <;> (try rw [hgp (by omega)] at hx2) <;> omega))
 refine sS [1, 3, 4, 24, 25, 26] [1, 4] ?_
 refine rK ?_
 exact xQ) : G := h
def IZ (h : G := by
 refine bb ?_
 refine sG [1, 3, 4, 24, 25, 26] [1, 4] ?_
 refine cF ?_
 exact IW) : G := h
def BT (h : G := by
 refine cT ?_
 exact rb (by first | (simp_all [gF, rf]; done) | (simp_all [gF, rf]; rfl) | (simp_all [gF, rf]; omega) | (simp_all [gF, rf]; intros; omega))) : G := h
def jM (h : G := by
 refine rS ?_
 exact BT) : G := h
def BU (h : G := by
 refine rA ?_ (x := aO gc)
 exact jM) : G := h
def BV (h : G := by
 refine rB gc ?_ (x := lF pK)
 refine vp ?_
 exact BU) : G := h
def uT (h : G := by
 refine oj ?_
 exact jM) : G := h
def Ja (h : G := by
 refine yT ?_
 refine gt ?_
 refine cx 27 (fun gc sgc => ?_) (fun gc sgc => ?_)
 exact BV
 exact uT) : G := h
def Jb (h : G := by
 refine bb ?_
 refine sS [1, 2, 3, 16] [1] ?_
 refine rK ?_
 exact BT) : G := h
def BW (h : G := by
 refine db ?_
 exact rb (by first | (simp_all [dL]; done) | (simp_all [dL]; rfl) | (simp_all [dL]; omega) | (simp_all [dL]; intros; omega))) : G := h
def Jc (h : G := by
 refine sn 0 1 fun hl0_1 => ?_
 refine vk ?_
 refine rK ?_
 refine sT [1, 2, 4] [2] ?_
 refine rA ?_ (x := lF kH)
 refine oo ?_
 refine rA ?_ (x := ix)
 refine rM ?_
 refine cx 9 (fun ga sga => ?_) (fun ga sga => ?_)
 refine rB ga ?_ (x := lF iB)
 refine vh ?_
 refine rB ga ?_ (x := sM)
 refine cx 13 (fun gb sgb => ?_) (fun gb sgb => ?_)
 refine zt gb ?_
 refine rB ga ?_ (x := aO gb)
 refine rA ?_ (x := aO ga)
 exact BW
 refine rB gb ?_ (x := lF iB)
 refine rB gb ?_ (x := lD [val _] az)
 refine Ed ?_
 refine rB ga ?_ (x := aF gb)
 refine rA ?_ (x := aO ga)
 exact BW
 refine mz ?_
 exact BW) : G := h
def Jd (h : G := by
 refine db ?_
 exact rb (by first | (simp_all [rx]; done) | (simp_all [rx]; rfl) | (simp_all [rx]; omega) | (simp_all [rx]; intros; omega))) : G := h
def sw (h : G := by
 refine db ?_
 exact rb (by first | (simp_all [fa]; done) | (simp_all [fa]; omega) | (rw [Bool.eq_iff_iff]; simp_all [fa]; done) | (rw [Bool.eq_iff_iff]; simp_all [fa]; omega))) : G := h
def xR (h : G := by
 refine db ?_
 exact rb (by first | (simp_all [dv]; done) | (simp_all [dv]; rfl) | (simp_all [dv]; omega) | (simp_all [dv]; intros; omega))) : G := h
def lJ (h : G := by
 refine cm ?_
 exact rb (hbad.symm)) : G := h
def BX (h : G := by
 have hbad : bQ s = false := by first | (simp_all [bQ, mM]; done) | (simp_all [bQ, mM]; omega)
 refine sS [1, 2] [1] ?_
 exact lJ) : G := h
def Je (h : G := by
 refine mE ?_
 exact BX) : G := h
def Jf (h : G := by
 refine nx (m + 1) (by refine ⟨by omega, ?_⟩; rw [Xb, hfr, Bool.true_and]; exact hap)) : G := h
def BY (h : G := by
 have hvo : dv s.Now s.aey[k][j] = false := by first | (simp_all [dv, fF]; done) | (simp_all [dv, fF]; omega)
 have hbad := zN hag.1 (QC (by rw [hag.2]; exact hvo))
 refine sS [1, 3, 5, 7, 23, 24, 25, 32, 33, 34] [1, 7] ?_
 exact lJ) : G := h
def Jg (h : G := by
 have hap : fa ((bg s).getD ((dw s k).length + j) v0) ((bg s).getD m v0) = false := by
  rw [hag.2] at hma ⊢
  by_cases hid : s.aey[k][j].Id = ((bg s).getD m v0).Id
  ·rw [beq_iff_eq.2 hid, Bool.true_and] at hma; simp_all
  ·simp_all
 have hbad := zN hag.1 (QD hlt3 hap)
 refine sS [1, 3, 5, 7, 9, 23, 24, 25, 32, 33, 34, 66, 67, 68] [1, 7, 9] ?_
 exact lJ) : G := h
def BZ (h : G := by
 have hap : fa ((bg s).getD ((dw s k).length + j) v0) ((bg s).getD m v0) = true := by
  rw [hag.2] at hma ⊢
  by_cases hid : s.aey[k][j].Id = ((bg s).getD m v0).Id
  ·rw [beq_iff_eq.2 hid, Bool.true_and] at hma; simp_all
  ·rw [beq_false_of_ne hid, Bool.false_and] at hma; simpa using hma.symm
 refine bb ?_
 refine sG [1, 3, 5, 7, 9, 23, 24, 25, 32, 33, 34, 66, 67, 68] [1, 7, 9] ?_
 refine cF ?_
 exact Jf) : G := h
def Jh (h : G := by
 refine zf ge ?_
 refine rA ?_ (x := aF ge)
 refine eX ?_
 exact BZ) : G := h
def Ji (h : G := by
 have hend3 : m = (dw s k).length + j := by omega
 refine bq ?_
 refine sH [1, 3, 5, 7, 23, 24, 25, 32, 33, 34, 66, 67, 68] [1, 7] ?_
 refine rA ?_ (x := tM)
 refine rA ?_ (x := lD [val _, sl .v _, val _, val _] fq)
 refine rA ?_ (x := bP (qs := [(true, [val _, sl _ _, val _, val _])]) (by decide) cy fE (by decide) rfl rfl rfl rfl rfl (by exact nl rfl) (by exact (aI (by exact tI) tI)) rfl)
 refine CC ?_
 refine sG [1, 3, 5, 7, 23, 24, 25, 32, 33, 34, 66, 67, 68] [1, 7] ?_
 refine cF ?_
 refine nx (j + 1) (by refine ⟨by omega, ?_⟩; rw [← Nat.add_assoc, QB, hg, Bool.true_and]; unfold mc; rw [hag.2, hvo, Bool.true_and, ← hend3]; rw [hend3] at hfr ⊢; exact hfr) (e := (by exact aI (by exact bG (by rw [cC hlt2]; simp only [bj, bu]; rfl)) (aI (by exact rfl) tI)))) : G := h
def xS (h : G := by
 refine cm ?_
 exact rb (by exact (Wg hlt (Bool.eq_false_iff.2 fun hx => by have hx := zB.1 hx; rw [hgk] at hx; (try simp only [aK, Bool.and_eq_false_iff, decide_eq_false_iff_not] at *); omega)).symm)) : G := h
def Jj (h : G := by
 refine cv ?_
 refine sS [0, 3, 4, 5, 6, 7] [] ?_
 exact xS) : G := h
def Jk (h : G := by
 refine nx (k + 1) (by exact ⟨by omega, by rw [Wf, ha, Bool.true_and]; exact zB.2 (by rw [hgk]; (try simp only [aK, aS, decide_eq_true_eq] at *); omega)⟩)) : G := h
def Jl (h : G := by
 refine bb ?_
 refine sG [0, 3, 4, 5, 6, 7] [] ?_
 refine cF ?_
 exact Jk) : G := h
def Jm (h : G := by
 refine cm ?_
 exact rb (by subst hend; exact ha.symm)) : G := h
def Jn (h : G := by
 refine qP ?_
 refine cb ?_
 exact Jk) : G := h
def Jo (h : G := by
 refine sG [0, 1, 4, 5, 6] [] ?_
 refine cb ?_
 refine nx (k + 1) (by exact ⟨by omega, fun _ => hok2⟩) (e := (by exact aI (by exact bG (by rw [tP hlt, dV, bj]; simp [hc, am])) (aI (by exact rfl) tI)))) : G := h
def Ca (h : G := by
 have hfin : (k = a.length ∧ (dM a && dM b) = true) ∨ (k = 0 ∧ (a.length = 0 ∨ (dM a && dM b) = false)) := by
  by_cases h0k : 0 < k
  ·left
   have := ha h0k
   refine ⟨?_, this⟩
   rw [aS] at this
   by_cases hka : k = a.length
   ·exact hka
   ·have : k < a.length := by omega
    simp_all
  ·right
   refine ⟨by omega, ?_⟩
   by_cases hka : a.length = 0
   ·exact .inl hka
   ·right
    have : k < a.length := by omega
    cases h1 : dM a <;> cases h2 : dM b <;> simp_all
 refine vK ?_
 refine jQ ?_
 exact (aI (by refine bG ?_; rw [Wk ha hfin]) tI)) : G := h
def Jp (h : G := by
 have hbad : dG tU ck rt l = false := pG hlt (Bool.eq_false_iff.2 fun hx => by
  have hx := iz.1 hx
  rw [hgk] at hx
  obtain ⟨hx1, hx2⟩ := hx
  first
  | (simp_all; done)
  | (simp only [decide_eq_true_eq, rt] at *; by_cases h0 : k = 0 <;> (try rw [hgp (by omega)] at hx2) <;> omega))
 refine tq ?_
 exact rb (by simp [dK, hbad])) : G := h
def Jq (h : G := by
 refine qP ?_
 refine cb ?_
 refine nx (k + 1) (by exact ⟨by omega, by rw [wq, ha, Bool.true_and]; refine iz.2 ⟨by rw [hgk]; first | assumption | simp_all, ?_⟩; rcases Nat.eq_zero_or_pos k with h0 | h0; (· exact .inl h0); (· right; rw [hgk, hgp h0]; first | (simp only [decide_eq_true_eq, rt] at *; omega) | (simp_all; done))⟩)) : G := h
def Jr (h : G := by
 refine cm ?_
 exact rb (by simp [iU, kE (P := (iA f v)) hlt hno])) : G := h
def Js (h : G := by
 have hyes : iA f v q.aeB[k] = true := by simp_all [iA]
 refine bb ?_
 refine sG [1, 2, 3, 7] [3] ?_
 exact pj) : G := h
def Jt (h : G := by
 refine cm ?_
 exact rb (by simp [iU, hall, *])) : G := h
def Ju (h : G := by
 refine sG [0, 1, 2, 6, 7, 8] [] ?_
 refine cb ?_
 refine nx (k + 1) (by exact ⟨by omega, fun _ => hok⟩) (e := (by exact aI (by first | exact bG (by rw [WM hlt hc, bj]; rfl) | exact bG (by rw [WN hlt hc])) (aI (by exact rfl) tI)))) : G := h
def xT (h : G := by
 have hfin : (k = l.length ∧ (dK l && (aK f 0 2 && aK v 0 99)) = true) ∨ (k = 0 ∧ (l.length = 0 ∨ (dK l && (aK f 0 2 && aK v 0 99)) = false)) := by
  by_cases h0k : 0 < k
  ·left
   have h1 := ha h0k
   refine ⟨?_, h1⟩
   by_cases hka : k = l.length
   ·exact hka
   ·exfalso
    have hlt_ : k < l.length := by omega
    have hlt2_ : (k : Int) < (l.length : Int) := by omega
    first | omega | simp_all
  ·right
   refine ⟨by omega, ?_⟩
   by_cases hka : l.length = 0
   ·exact .inl hka
   ·right
    have hlt_ : k < l.length := by omega
    have hlt2_ : (k : Int) < (l.length : Int) := by omega
    rw [← Bool.not_eq_true]; intro hc_; simp_all
 refine bq ?_
 refine sS [0, 1, 2, 6, 7, 8] [] ?_
 refine jQ ?_
 exact (aI (by refine bG ?_; rw [WO hfin]) tI)) : G := h
def Jv (h : G := by
 have hok : (dK l && aK f 0 2) = false := by simp_all
 refine sS [0, 1, 4, 5] [] ?_
 refine jQ ?_
 exact (aI (by refine bG ?_; unfold gK; rw [if_neg (by rw [hok]; simp)]; rfl) tI)) : G := h
def Jw (h : G := by
 refine cb ?_
 refine nx (k + 1) (by omega) (e := (by exact aI (by first | exact bG (by rw [du, WR hls, bj, ← hse]; exact rfl) | exact bG (by rw [du, WQ hls])) (aI (by exact rfl) tI)))) : G := h
def Jx (h : G := by
 have hls : mK (du l f k) (fY l f (k : Int)) = false := by
  by_cases h0 : (du l f k).length = 0
  ·simp [mK, h0]
  ·simp_all [mK]
 refine sG [0, 1, 4, 5, 6, 7, 8] [] ?_
 refine rA ?_ (x := tM)
 refine jS ?_
 refine rA ?_ (x := tM)
 refine rA ?_ (x := dp (qs := [(false, [val _]), (false, [val _]), (false, [sl _ _])]) (cs := [val _, val _, sl _ _]) (by decide) Ai ZL acE (by exact rfl) (by exact (aI (by exact tI) (aI (by exact tI) (aI (by exact tI) tI)))) rfl (by exact rfl))
 refine rA ?_ (x := bP (qs := [(true, [val _, val _, sl _ _])]) (by decide) nB Ai (by decide) rfl rfl rfl rfl rfl (by exact nl rfl) (by exact (aI (by exact tI) tI)) rfl)
 refine rA ?_ (x := en (by decide) nB Ai rfl rfl (by decide) rfl (by simp only [aw, aM, List.length_cons, List.length_nil]; omega) (by simp only [aw, aM, List.length_cons, List.length_nil]; omega))
 refine rA ?_ (x := tA)
 refine sG [0, 1, 4, 5, 6, 8] [] ?_
 exact Jw) : G := h
def Jy (h : G := by
 refine nx (k + 1) (by exact ⟨by omega, qY ha hlt hno⟩)) : G := h
def Jz (h : G := by
 refine cb ?_
 exact Jy) : G := h
def JA (h : G := by
 refine cT ?_
 exact (bw 2 (bw _ (aI (by exact rfl) (aI (by exact rfl) (aI eQ (aI (fun h => nomatch h) tI))))))) : G := h
def JB (h : G := by
 have hno : (aK (o.getD k 0) 0 2 && !bB (o.take k) (o.getD k 0)) = false := by rw [← hgk]; simp_all
 refine tq ?_
 exact rb ((WZ hl3 (by omega) hno).symm)) : G := h
def JC (h : G := by
 have hfin : k = o.length ∨ (fu x r o k).1 = [] := by
  by_cases hka : k = o.length
  ·exact .inl hka
  ·right
   have hlt_ : k < o.length := by omega
   have hlt2_ : (k : Int) < (o.length : Int) := by omega
   first | omega | (rw [← List.length_eq_zero_iff]; first | omega | (simp_all; done))
 have hpe := Xa (x := x) (r := r) hfin
 refine bq ?_
 refine sT [2, 3, 4, 6, 7, 8, 9, 10] [3, 4] ?_
 refine wl ?_
 refine rA ?_ (x := tA)
 refine db ?_
 exact (aI (by refine bG ?_; rw [hpe]) (aI (by refine bk ?_; rw [hpe]) tI))) : G := h
def Cb (h : G := by
 have hbad : bZ x = false := by first | (simp_all [bZ, lx, aK]; done) | (simp_all [bZ, lx, aK]; rfl) | (simp_all [bZ, lx, aK]; omega) | (simp_all [bZ, lx, aK]; intros; omega)
 refine sS [1, 2, 3] [1] ?_
 exact lJ) : G := h
def nZ (h : G := by
 refine cv ?_
 exact Cb) : G := h
def JD (h : G := by
 refine cm ?_
 exact rb ((Xe hlt hno).symm)) : G := h
def JE (h : G := by
 have hno : kg x k = false := by simp_all [kg]
 refine sS [1, 3, 4, 33, 34] [1] ?_
 exact JD) : G := h
def JF (h : G := by
 refine nx (k + 1) (by exact ⟨by omega, by rw [Xd, ha, hyes]; rfl⟩)) : G := h
def JG (h : G := by
 refine db ?_
 exact rb (by simp_all [bZ])) : G := h
def JH (h : G := by
 have hno : kg x k = false := by simp_all [kg]
 refine sS [1, 3, 4] [1] ?_
 exact JD) : G := h
def xU (h : G := by
 refine rM ?_
 refine db ?_
 exact (aI (by refine bk ?_; rw [hend, cj]; rfl) tI)) : G := h
def JI (h : G := by
 refine sG [1, 2, 3, 4, 5, 6, 7, 17, 18, 19] [1] ?_
 refine wl ?_
 refine ll ?_
 refine sG [1, 2, 3, 4, 5, 6, 7, 17, 18, 19] [1] ?_
 refine cF ?_
 refine nx (k + 1) (by omega) (e := (by exact aI (by first | exact bG (by rw [List.range_succ, bj, bj]; simp only [List.map_cons, List.map_nil]; unfold fZ; rw [← df hrl, if_pos hc];  rfl) | exact bG (by rw [List.range_succ, bj, bj]; simp only [List.map_cons, List.map_nil]; unfold fZ; rw [← df hrl, if_neg hc];  rfl) | exact bG (by rw [List.range_succ, bj, bj]; simp only [List.map_cons, List.map_nil]; unfold fZ; rw [← df hrl, if_neg hc, Int.add_zero];  rfl)) (aI (by exact rfl) tI)))) : G := h
def JJ (h : G := by
 refine sG [1, 2, 3, 4, 5, 6] [1] ?_
 refine wl ?_
 refine ll ?_
 refine sG [1, 2, 3, 4, 5, 6] [1] ?_
 refine cb ?_
 refine nx (k + 1) (by exact ⟨by omega, fun _ => hok⟩) (e := (by exact aI (by first | exact bG (by rw [List.range_succ, bj, bj]; simp only [List.map_cons, List.map_nil]; unfold fZ; rw [← df hrl, if_pos hc]; rw [Int.add_comm (x.Base.tdiv _)]; rfl) | exact bG (by rw [List.range_succ, bj, bj]; simp only [List.map_cons, List.map_nil]; unfold fZ; rw [← df hrl, if_neg hc]; rw [Int.add_comm (x.Base.tdiv _)]; rfl) | exact bG (by rw [List.range_succ, bj, bj]; simp only [List.map_cons, List.map_nil]; unfold fZ; rw [← df hrl, if_neg hc, Int.add_zero]; rw [Int.add_comm (x.Base.tdiv _)]; rfl)) (aI (by exact rfl) tI)))) : G := h
def JK (h : G := by
 have hfin : (k = x.Ids.length ∧ bZ x = true) ∨ (k = 0 ∧ (x.Ids.length = 0 ∨ bZ x = false)) := by
  by_cases h0k : 0 < k
  ·left
   have h1 := ha h0k
   refine ⟨?_, h1⟩
   by_cases hka : k = x.Ids.length
   ·exact hka
   ·exfalso
    have : k < x.Ids.length := by omega
    simp_all
  ·right
   refine ⟨by omega, ?_⟩
   by_cases hka : x.Ids.length = 0
   ·exact .inl hka
   ·right
    have : k < x.Ids.length := by omega
    cases h1 : bZ x <;> simp_all
 refine bq ?_
 refine sT [1, 2, 3, 4, 5] [1] ?_
 refine jQ ?_
 exact (aI (by refine bG ?_; rw [Xg hfin]) tI)) : G := h
def JL (h : G := by
 refine nx (k2 + 1) (by omega) (e := (by exact aI (by first | exact bk (by rw [ki, ← Int.add_assoc]; congr 1; unfold kO; rw [← df htl, if_pos hc, ← df hlt2]) | exact bk (by rw [ki]; unfold kO; rw [← df htl, if_neg hc, Int.add_zero])) (aI (by exact rfl) tI)))) : G := h
def JM (h : G := by
 refine sG [0, 1, 4, 5, 7, 8, 9, 10, 11, 12, 17, 18, 19] [7] ?_
 refine cF ?_
 exact JL) : G := h
def JN (h : G := by
 refine nx (k + 1) (by omega) (e := (by exact aI (by exact bk (by rw [EF hlt, hend2]; rfl)) (aI (by exact rfl) tI)))) : G := h
def JO (h : G := by
 refine sG [0, 1, 4, 5, 6, 7, 8] [] ?_
 refine cb ?_
 exact JL) : G := h
def JP (h : G := by
 have hbad : dG 0 (kP s.aey.length) kQ a.aeI = false := pG hlt (Bool.eq_false_iff.2 fun hx => by
  have hx := iz.1 hx
  rw [hgk] at hx
  obtain ⟨hx1, hx2⟩ := hx
  first
  | (simp_all; done)
  | (simp only [decide_eq_true_eq, kQ, kP, aK, aS, Bool.and_eq_false_iff, decide_eq_false_iff_not] at *; by_cases h0 : k = 0 <;> (try rw [hgp (by omega)] at hx2) <;> omega))
 refine sS [2, 3, 5, 6, 8, 9, 10] [2, 3] ?_
 refine cm ?_
 exact rb (by simp [fc, kR, hbad])) : G := h
def JQ (h : G := by
 refine nx (k + 1) (by exact ⟨by omega, by rw [wq, ha, Bool.true_and]; refine iz.2 ⟨by rw [hgk]; first | assumption | simp_all, ?_⟩; rcases Nat.eq_zero_or_pos k with h0 | h0; (· exact .inl h0); (· right; rw [hgk, hgp h0]; first | (simp only [decide_eq_true_eq, kQ, kP, aK, aS, Bool.and_eq_false_iff, decide_eq_false_iff_not] at *; omega) | (simp_all; done))⟩)) : G := h
def JR (h : G := by
 refine bb ?_
 refine sG [2, 3, 5, 6, 8, 9, 10] [2, 3] ?_
 refine cF ?_
 exact JQ) : G := h
def qu (h : G := by
 refine db ?_
 exact rb (by first | (simp_all [fc, kR]; done) | (simp_all [fc, kR]; rfl) | (simp_all [fc, kR]; omega) | (simp_all [fc, kR]; intros; omega))) : G := h
def JS (h : G := by
 have hbad : dG 0 (kP n) kQ l = false := pG hlt (Bool.eq_false_iff.2 fun hx => by
  have hx := iz.1 hx
  rw [hgk] at hx
  obtain ⟨hx1, hx2⟩ := hx
  first
  | (simp_all; done)
  | (simp only [decide_eq_true_eq, kQ, kP, aK, aS, Bool.and_eq_false_iff, decide_eq_false_iff_not] at *; by_cases h0 : k = 0 <;> (try rw [hgp (by omega)] at hx2) <;> omega))
 refine sS [0, 1, 5] [] ?_
 refine cm ?_
 exact rb (by simp [kR, hbad])) : G := h
def JT (h : G := by
 refine tD ?_
 exact JQ) : G := h
def qv (h : G := by
 refine db ?_
 exact rb (by first | (simp_all [fc]; done) | (simp_all [fc]; rfl) | (simp_all [fc]; omega) | (simp_all [fc]; intros; omega))) : G := h
def JU (h : G := by
 have hbad := Xj hpr
 refine sS [1, 2] [1] ?_
 exact lJ) : G := h
def Cc (h : G := by
 have hpr : iY e = false := by first | (simp_all [iY]; done) | (simp_all [iY]; omega) | (rw [← Bool.not_eq_true]; intro hc_; simp [iY] at hc_; simp_all; done) | (rw [← Bool.not_eq_true]; intro hc_; simp [iY] at hc_; omega)
 exact JU) : G := h
def oa (h : G := by
 refine cv ?_
 exact Cc) : G := h
def Cd (h : G := by
 have hpr : iY e = false := by unfold iY; rw [hp1]; first | (simp_all; done) | (simp_all; omega)
 exact JU) : G := h
def sx (h : G := by
 refine cm ?_
 exact rb (hbad2.symm)) : G := h
def JV (h : G := by
 have hbad : dG ii (fc e.Store) ly e.aez = false := pG hlt (Bool.eq_false_iff.2 fun hx => by
  have hx := iz.1 hx
  rw [hgk] at hx
  obtain ⟨hx1, hx2⟩ := hx
  first
  | (simp_all; done)
  | (simp only [decide_eq_true_eq, ly] at *; by_cases h0 : k = 0 <;> (try rw [hgp (by omega)] at hx2) <;> omega))
 have hbad2 := QH hbad
 refine sS [1, 3, 4, 53, 54, 55] [1, 4] ?_
 exact sx) : G := h
def JW (h : G := by
 refine nx (k + 1) (by exact ⟨by omega, by rw [wq, ha, Bool.true_and]; refine iz.2 ⟨by rw [hgk]; first | assumption | simp_all, ?_⟩; rcases Nat.eq_zero_or_pos k with h0 | h0; (· exact .inl h0); (· right; rw [hgk, hgp h0]; first | (simp only [decide_eq_true_eq, ly] at *; omega) | (simp_all; done))⟩)) : G := h
def JX (h : G := by
 refine bb ?_
 refine sG [1, 3, 4, 53, 54, 55] [1, 4] ?_
 refine cF ?_
 exact JW) : G := h
def xV (h : G := by
 have hno : (gj e.Store.Now) e.Done[k] = false := by first | (simp_all [gj]; done) | (simp_all [gj]; omega)
 have hbad2 := QI (kE hlt hno)
 refine sS [1, 6, 53, 54, 55, 85, 86, 87] [1, 6] ?_
 exact sx) : G := h
def JY (h : G := by
 refine cm ?_
 exact rb ((QK hpr hall hfa hla).symm)) : G := h
def JZ (h : G := by
 have hbad : dG ii (fc e.Store) ly e.aez = false := pG hlt (Bool.eq_false_iff.2 fun hx => by
  have hx := iz.1 hx
  rw [hgk] at hx
  obtain ⟨hx1, hx2⟩ := hx
  first
  | (simp_all; done)
  | (simp only [decide_eq_true_eq, ly] at *; by_cases h0 : k = 0 <;> (try rw [hgp (by omega)] at hx2) <;> omega))
 have hbad2 := QH hbad
 refine sS [1, 3] [1] ?_
 exact sx) : G := h
def Ka (h : G := by
 refine wa ?_
 refine cb ?_
 exact JW) : G := h
def xW (h : G := by
 have hno : (gj e.Store.Now) e.Done[k] = false := by first | (simp_all [gj]; done) | (simp_all [gj]; omega)
 have hbad2 := QI (kE hlt hno)
 refine sS [1, 3, 4, 5] [1, 5] ?_
 exact sx) : G := h
def Kb (h : G := by
 have hyes : iA f v q.aeB[k] = true := by simp_all [iA]
 refine bb ?_
 refine sG [1, 2, 3, 8, 10, 11, 12] [3, 8] ?_
 exact uQ) : G := h
def Kc (h : G := by
 refine cT ?_
 exact (bw 2 (bw _ (aI (by exact rfl) (aI (by exact rfl) (aI iX (aI (fun h => nomatch h) tI))))))) : G := h
def Kd (h : G := by
 refine yh ?_
 refine cT ?_
 exact (bw 2 (bw _ (aI (by exact rfl) (aI (by refine dZ ?_; rw [hend, cj]; exact rfl) (aI cW (aI (fun h => nomatch h) tI))))))) : G := h
def Ke (h : G := by
 refine nx (k + 1) (by omega) (f := (by exact aI (by rw [tP hlt]; simp only [bj]; exact rfl) tI))) : G := h
def xX (h : G := by
 refine pE ?_
 exact Ke) : G := h
def Ce (h : G := by
 refine bd ?_
 refine cF ?_
 exact Ke) : G := h
def Kf (h : G := by
 refine qx ?_
 refine cT ?_
 exact (bw 2 (bw _ (aI (by exact rfl) (aI (by refine dZ ?_; rw [hend2, cj]; exact rfl) (aI bU (aI (fun h => nomatch h) tI))))))) : G := h
def Kg (h : G := by
 refine sG [1, 2, 4, 5, 6, 7, 8, 9, 11, 19, 20, 21, 27, 28, 29, 2900, 6000] [2, 4, 6, 11, 900] ?_
 refine cF ?_
 refine nx (j + 1) (by omega) (e := (by exact aI (by first | exact bG (by rw [QY hlj (by rw [hz3]; exact hnd), bj]; exact rfl) | exact bG (by rw [QZ hlj (by rw [hz3]; exact hnd)])) (aI (by exact bk (by omega)) tI)))) : G := h
def Kh (h : G := by
 refine dA 511 ?_ (x := sA)
 refine Dm ?_
 refine nx (m + 1) (by omega) (e := (by exact aI (by exact fS (by rw [Xs hlm, hg]; rfl)) (aI (by exact bk (by omega)) tI)))) : G := h
def Ki (h : G := by
 refine Dm ?_
 refine nx (j + 1) (by omega) (e := (by exact aI (by first | exact bk (by rw [Xw hls hlj2 hnd]) | exact bk (by rw [Xx hls hlj2 hnd]; omega)) (aI (by first | exact bG (by rw [QY hlj (by rw [hz3]; exact hnd), bj]; exact rfl) | exact bG (by rw [QZ hlj (by rw [hz3]; exact hnd)])) (aI (by exact bk (by omega)) tI))))) : G := h
def Kj (h : G := by
 refine nx (k + 1) (by omega) (e := (by exact aI (by first | exact bG (by rw [ZY hlt hne, bj]; rfl) | exact bG (by rw [ZZ hlt hne])) (aI (by exact rfl) tI)))) : G := h
def Kk (h : G := by
 refine sG [0, 1, 4, 5, 7, 9, 10, 11] [] ?_
 refine cF ?_
 exact Kj) : G := h
def Kl (h : G := by
 refine sG [0, 1, 4, 5, 6] [] ?_
 refine cb ?_
 exact Kj) : G := h
def Km (h : G := by
 refine sG [1, 2, 3, 6, 7, 9, 15, 16, 17] [3, 9] ?_
 refine cF ?_
 refine nx (k + 1) (by omega) (e := (by exact aI (by first | exact bG (by rw [As hlt hv, bj]; rfl) | exact bG (by rw [FF hlt hv])) (aI (by exact rfl) tI)))) : G := h
def Kn (h : G := by
 refine nx (k + 1) (by omega) (e := (by exact aI (by exact bG (by rw [hts, bj]; rfl)) (aI (by exact rfl) tI)))) : G := h
def Ko (h : G := by
 refine db ?_
 exact rb (by first | (simp_all [lz]; done) | (simp_all [lz]; rfl) | (simp_all [lz]; omega) | (simp_all [lz]; intros; omega))) : G := h
def Kp (h : G := by
 have hbad : rz e i = false := by first | (simp_all [rz]; done) | (simp_all [rz]; omega)
 refine sS [1, 2, 4] [2] ?_
 exact lJ) : G := h
def Kq (h : G := by
 refine db ?_
 exact rb (by unfold rz; rw [hok.1, hok.2, ← hgd]; first | (simp_all [lz]; done) | (simp_all [lz]; omega))) : G := h
def Kr (h : G := by
 refine sG [1, 2, 3, 4] [1] ?_
 refine cb ?_
 refine nx (k + 1) (by exact ⟨by omega, fun _ => hok⟩) (e := (by exact aI (by first | exact bG (by rw [QM hlt hc, bj]; rfl) | exact bG (by rw [QN hlt hc])) (aI (by exact rfl) tI)))) : G := h
def Ks (h : G := by
 have hc : ew e e.aez[k] = false := by simp_all [ew]
 refine bb ?_
 exact Kr) : G := h
def Kt (h : G := by
 have hfin : (k = e.aez.length ∧ aX e = true) ∨ (k = 0 ∧ (e.aez.length = 0 ∨ aX e = false)) := by
  by_cases h0k : 0 < k
  ·left
   have h1 := ha h0k
   refine ⟨?_, h1⟩
   by_cases hka : k = e.aez.length
   ·exact hka
   ·exfalso
    have hlt_ : k < e.aez.length := by omega
    have hlt2_ : (k : Int) < (e.aez.length : Int) := by omega
    first | omega | simp_all
  ·right
   refine ⟨by omega, ?_⟩
   by_cases hka : e.aez.length = 0
   ·exact .inl hka
   ·right
    have hlt_ : k < e.aez.length := by omega
    have hlt2_ : (k : Int) < (e.aez.length : Int) := by omega
    rw [← Bool.not_eq_true]; intro hc_; simp_all
 refine bq ?_
 refine sT [1, 2, 3, 4] [1] ?_
 refine jQ ?_
 exact (aI (by refine bG ?_; rw [Xm hfin]) tI)) : G := h
def Ku (h : G := by
 refine sG [1, 2, 3, 5, 12, 13, 14] [1, 5] ?_
 refine cF ?_
 refine nx (k + 1) (by omega) (e := (by exact aI (by first | exact bG (by rw [QM hlt hc, bj]; rfl) | exact bG (by rw [QN hlt hc])) (aI (by exact rfl) tI)))) : G := h
def Kv (h : G := by
 have hc : ew e e.aez[k] = false := by simp_all [ew]
 refine bb ?_
 exact Ku) : G := h
def Kw (h : G := by
 refine rM ?_
 refine db ?_
 exact (aI (by refine bk ?_; rw [EK hlt ha hy]) tI)) : G := h
def Kx (h : G := by
 refine cm ?_
 exact (aI (by refine bk ?_; rw [Xn ha]) tI)) : G := h
def Ky (h : G := by
 have hbad : dN q r = false := by simp_all [dN]
 refine sS [2, 3, 4] [2, 3] ?_
 exact lJ) : G := h
def xY (h : G := by
 refine db ?_
 exact rb (by first | (simp_all [dN]; done) | (unfold dN; simp_all))) : G := h
def Kz (h : G := by
 have hend : cf r = true → ck q = true → q.aeB.all (lV r) = true := fun h1 h2 => jr (by rw [show q.aeB.length = k by first | (simp_all; done) | (simp_all; omega)]; exact ha)
 refine yW ?_
 refine Dd ?_
 refine rM ?_
 refine cx 41 (fun gc sgc => ?_) (fun gc sgc => ?_)
 refine rB gc ?_ (x := lD [val _, val _, sl .v _, sl .v _] eQ)
 refine rB gc ?_ (x := cL [(true, [val _, val _, sl _ _, sl _ _])] [(true, [val _, val _, sl .v _, sl .v _])] tQ (hs := by exact ur))
 refine rA ?_ (x := aO gc)
 exact xY
 refine oj ?_
 exact xY) : G := h
def uU (h : G := by
 have hno : im e = false := by first | (simp_all [im]; done) | (simp_all [im]; omega) | (rw [← Bool.not_eq_true]; intro hc_; obtain ⟨h1_, h2_, h3_, h4_⟩ := wH hc_; first | omega | (simp_all; done) | (simp_all; omega))
 refine sS [1, 2, 3, 4] [1, 2, 4] ?_
 refine qx ?_
 refine cm ?_
 exact (bw 2 (bw _ (aI (by exact rfl) (aI (by refine dZ ?_; rw [RU hno]; exact rfl) (aI bU (aI (fun h => nomatch h) (aI (by refine fS ?_; rw [hno]) tI)))))))) : G := h
def KA (h : G := by
 refine nn ?_
 refine cv ?_
 exact uU) : G := h
def KB (h : G := by
 refine qN ?_
 refine cv ?_
 exact uU) : G := h
def KC (h : G := by
 refine qL ?_
 refine cv ?_
 exact uU) : G := h
def KD (h : G := by
 refine sG [1, 2, 3, 4, 5, 6, 8, 9, 10, 11, 13, 57, 58, 59, 77, 78, 79, 2900, 6100] [1, 2, 4, 6, 10, 13, 900] ?_
 refine cF ?_
 refine nx (j + 1) (by omega) (e := (by exact aI (by first | exact bk (by rw [RY hjv hm, aM]; simp only [List.length_cons, List.length_nil]; omega) | exact bk (by rw [RZ hjv hm])) (aI (by exact bk (by omega)) (aI (by exact rfl) tI)))) (f := (by exact aI (by first | (rw [RY hjv hm, ← hz3]; simp only [bj, bu]; exact rfl) | (rw [RZ hjv hm]; exact rfl)) tI))) : G := h
def KE (h : G := by
 refine nx (m + 1) (by omega) (e := (by exact aI (by first | exact bG (by rw [ZU hm1 hep, hga, bj]; exact rfl) | exact bG (by rw [ZV hm1 hep])) (aI (by exact bk (by omega)) (aI (by exact rfl) tI)))) (f := (by exact aI (by first | (rw [ZW hm1 hep, hga]; simp only [bj, bu]; exact rfl) | (rw [ZX hm1 hep]; exact rfl)) tI))) : G := h
def KF (h : G := by
 refine bd ?_
 refine cF ?_
 exact KE) : G := h
def KG (h : G := by
 refine vP ?_
 refine rA ?_ (x := dQ)
 refine sc ?_ ?_ <;> intro hbf
 have hep : dz (cR e (parts e).length)[m] = true := by rw [hga]; simpa [dz] using hbf
 refine sG [1, 2, 3, 4, 5, 6, 14, 16, 57, 58, 59, 145, 146, 147, 6200] [1, 2, 4, 6, 16] ?_
 refine NB ?_
 refine rA ?_ (x := lF gV)
 refine rA ?_ (x := cP (ms := [val _, val _, sl _ _, sl _ _]) (qs := [val _, val _, sl .v _, sl .v _]) (by decide) eQ (fun h => nomatch h) (by exact nl rfl) (by exact rfl) (by exact (ak (ak (aB (aB ao.nil))))) (by exact lq))
 refine DO ?_
 refine rA ?_ (x := lF ju)
 refine rA ?_ (x := lD [val _] az)
 refine Nz ?_
 refine rA ?_ (x := dp (qs := [(true, [val _, val _, sl _ _, sl _ _]), (false, [val _]), (false, [val _]), (false, [sl _ _])]) (cs := [val _, val _, sl _ _, sl _ _, val _, val _, sl _ _]) (by decide) nw zL adj (by exact rfl) (by exact (aI (by exact tI) (aI (by exact tI) (aI (by exact tI) (aI (by exact tI) tI))))) rfl (by exact rfl))
 refine MO ?_
 refine Pk ?_
 refine sO [(1, _), (2, _), (3, _), (4, _), (5, _), (6, _), (14, _), (16, _), (57, _), (58, _), (59, _), (145, _), (146, _), (147, _), (6200, _)] [(1, _), (2, _), (4, (32, [sl _ _, val _, val _, sl _ _, sl _ _, sl _ _, sl _ _, val _])), (6, _), (16, (108, [val _, val _, sl _ _, sl _ _, val _, sl _ _, val _, val _, val _, sl _ _]))] ?_
 exact KF
 have hep : dz (cR e (parts e).length)[m] = false := by rw [hga]; simpa [dz] using hbf
 refine sG [1, 2, 3, 4, 5, 6, 14, 16, 57, 58, 59, 145, 146, 147, 6200] [1, 2, 4, 6, 16] ?_
 refine rA ?_ (x := tM)
 refine yj ?_
 refine uZ ?_
 refine sO [(1, _), (2, _), (3, _), (4, _), (5, _), (6, _), (14, _), (16, _), (57, _), (58, _), (59, _), (145, _), (146, _), (147, _), (6200, _)] [(1, _), (2, _), (4, _), (6, _), (16, (108, [val _, val _, sl _ _, sl _ _, val _, sl _ _, val _, val _, val _, sl _ _]))] ?_
 exact KF) : G := h
def KH (h : G := by
 refine bd ?_
 refine yl ?_
 refine yn ?_
 refine sO [(1, _), (2, _), (3, _), (4, _), (5, _), (6, _), (14, _), (16, _), (57, _), (58, _), (59, _), (145, _), (146, _), (147, _), (6200, _)] [(1, _), (2, _), (4, _), (6, _), (16, (108, [nv _ (val _), nv _ (val _), nv _ (sl _ _), nv _ (sl _ _), nv _ (val _), nv _ (sl _ _), nv _ (val _), nv _ (val _), nv _ (val _), nv _ (sl _ _)]))] ?_
 refine BF (d := 16) (G := 6200) (e := 10) (f := (aT aD ab ab aE ab)) (z := za[m]) (zs := (za.drop (m + 1))) (by exact rfl) (by exact (Nm.nv (Nm.nv (Nm.nv (Nm.nv (Nm.nv (Nm.nv (Nm.nv (Nm.nv (Nm.nv (Nm.nv Nm.nil))))))))))) (fun _ => rfl) (by rw [← List.drop_eq_getElem_cons hltz]; exact rfl) ?_
 refine CE ?_
 refine bd ?_
 refine rA ?_ (x := lF ju)
 refine om ?_
 refine rA ?_ (x := lF ju)
 refine my ?_
 refine CE ?_
 refine bd ?_
 refine rA ?_ (x := lF ju)
 refine rA ?_ (x := lD [val _] az)
 refine rA ?_ (x := lF gG)
 refine vz ?_
 refine PL ?_
 refine rA ?_ (x := dQ)
 refine sc ?_ ?_ <;> intro hbe
 have hga : (cR e (parts e).length)[m] = (⟨za[m].1.aeA, za[m].1.Time, za[m].1.aeI, za[m].1.Age + 1, 0, za[m].1.Cap, za[m].1.Rows⟩ : aez) := by rw [ue hm1 hm2, ← hz3]; exact FC hbe
 refine sG [1, 2, 3, 4, 5, 6, 14, 16, 57, 58, 59, 145, 146, 147, 6200] [1, 2, 4, 6, 16] ?_
 refine Dh ?_
 refine CE ?_
 refine bd ?_
 exact KG
 have hga : (cR e (parts e).length)[m] = (⟨za[m].1.aeA, za[m].1.Time, za[m].1.aeI, za[m].1.Age + 1, za[m].1.Sent, za[m].1.Cap, za[m].1.Rows⟩ : aez) := by rw [ue hm1 hm2, ← hz3]; exact FD hbe
 refine bb ?_
 refine sS [1, 2, 3, 4, 5, 6, 14, 16, 57, 58, 59, 145, 146, 147, 6200] [1, 2, 4, 6, 16] ?_
 exact KG) : G := h
def KI (h : G := by
 refine cT ?_
 exact (bw 2 (bw _ (aI (by exact rfl) (aI (by refine dZ ?_; rw [Am hok]; exact rfl) (aI bU (aI (fun h => nomatch h) (aI (by refine fS ?_; rw [hok]) tI)))))))) : G := h
def KJ (h : G := by
 refine bd ?_
 refine rA ?_ (x := tM)
 refine sD ?_
 refine be ?_
 refine NC ?_
 refine rA ?_ (x := lF mJ)
 refine om ?_
 refine rA ?_ (x := lF gG)
 refine vz ?_
 refine PL ?_
 refine rA ?_ (x := lF mJ)
 refine my ?_
 refine NC ?_
 refine rA ?_ (x := lF lv)
 refine om ?_
 refine rA ?_ (x := lF lv)
 refine my ?_
 refine sO [(1, _), (2, _), (3, _), (4, _), (5, _), (6, _), (57, _), (58, _), (59, _), (146, _), (147, _)] [(1, _), (2, _), (4, (32, [sl _ _, val _, val _, sl _ _, sl _ _, sl _ _, sl _ _, val _])), (6, _)] ?_
 refine qj ?_
 refine wA ?_ (x := cP (ms := [sl _ _, val _, val _, sl _ _, sl _ _, sl _ _, sl _ _, val _]) (qs := [any, val _, val _, any, any, any, any, val _]) (by decide) bU (fun h => nomatch h) (by exact nl rfl) (by exact rfl) (by exact (ao.cons PV.to_any (ak (ak (ao.cons PV.to_any (ao.cons PV.to_any (ao.cons PV.to_any (ao.cons PV.to_any (ak ao.nil))))))))) (by exact lq))
 refine wO [(1, _), (2, _), (3, _), (4, _), (5, _), (6, _), (57, _), (58, _), (59, _), (146, _), (147, _), (202, _)] [(1, _), (2, _), (4, (32, [any, val _, val _, any, any, any, any, val _])), (6, _)] ?_
 refine Bx (L := (Lw w0.heap.size)) (qs := [(true, [sl _ _, val _, val _, sl _ _, sl _ _, sl _ _, sl _ _, val _])]) (as_ := [(true, [sl _ _, val _, val _, sl _ _, sl _ _, sl _ _, sl _ _, val _])]) (by decide) ES (by exact ⟨rfl, ⟨⟩⟩) (by exact (aI (by exact tI) tI)) (by decide) (by exact lq) (by exact (GP (e := gN e) (by omega))) (fun x hx => hx) (by exact lq) (by exact lq) ?_
 refine wA ?_ (x := bh (ag := true) (vs := [sl _ _, val _, val _, sl _ _, sl _ _, sl _ _, sl _ _, val _]) bU (by exact tI) (by exact rfl) (by exact nl rfl))
 refine wA ?_ (x := kA)
 refine pi ?_
 exact KI) : G := h
def KK (h : G := by
 refine sG [1, 2, 4, 5, 6] [2] ?_
 refine cb ?_
 refine nx (k + 1) (by omega) (e := (by exact aI (by first | exact bG (by rw [ab8 hlt hc, bj]; rfl) | exact bG (by rw [ab9 hlt hc])) (aI (by exact rfl) tI)))) : G := h
def KL (h : G := by
 refine sG [0, 1, 4, 5, 6] [] ?_
 refine cb ?_
 refine nx (k + 1) (by omega) (e := (by exact aI (by first | exact bG (by rw [As hlt hc, bj]; rfl) | exact bG (by rw [FF hlt hc])) (aI (by exact rfl) tI)))) : G := h
def KM (h : G := by
 have hno : (aX e && aK l 0 32) = false := by first | (simp_all; done) | (cases h1_ : aX e <;> cases h2_ : aK l 0 32 <;> simp_all)
 refine sS [1, 2, 4] [2] ?_
 refine cm ?_
 exact (aI (by refine bk ?_; unfold wZ; rw [if_neg (by rw [hno]; simp)]) tI)) : G := h
def KN (h : G := by
 refine db ?_
 exact (aI (by refine bk ?_; unfold wZ; rw [if_pos hok]; first | rw [if_pos hz] | rw [if_neg hz]) tI)) : G := h
def KO (h : G := by
 refine cF ?_
 refine nx (k + 1) (by exact ⟨by omega, zw ha hlt hys⟩)) : G := h
def KP (h : G := by
 refine cF ?_
 refine nx (k + 1) (by omega) (e := (by exact aI (by exact bk (by rw [EF hlt, hco]; try simp)) (aI (by exact rfl) tI)))) : G := h
def KQ (h : G := by
 refine sG [0, 1, 4, 5, 7, 8, 9, 10, 11, 12, 13, 14, 22, 23, 24] [7] ?_
 refine cF ?_
 refine nx (k2 + 1) (by omega) (e := (by exact aI (by first | exact bk (by rw [Th]; unfold qe; rw [← df htl, if_pos hc, ← df hrl]) | exact bk (by rw [Th]; unfold qe; rw [← df htl, if_neg hc, Int.add_zero])) (aI (by first | exact fS (by rw [Ti]; unfold wS; rw [← df htl, hc, Bool.or_true]) | exact fS (by rw [Ti]; unfold wS; rw [← df htl, Bool.eq_false_iff.2 hc, Bool.or_false])) (aI (by exact bk (by omega)) tI))))) : G := h
def KR (h : G := by
 refine sG [0, 1, 4, 5, 7, 8, 9, 12, 13, 14, 22, 23, 24] [7] ?_
 exact KP) : G := h
def sy (h : G := by
 have hno : jE e q l = false := by first | (simp_all [jE]; done) | (simp_all [jE]; omega) | (rw [← Bool.not_eq_true]; intro hc_; obtain ⟨h1_, h2_, h3_, h4_, h5_⟩ := rN hc_; first | omega | (simp_all; done) | (simp_all [aK]; omega))
 refine sS [2, 3, 4, 6, 7, 8] [3, 4, 6, 8] ?_
 refine qx ?_
 refine cm ?_
 exact (bw 6 (bw _ (aI (by exact rfl) (aI (by refine dZ ?_; rw [uk hno]; exact rfl) (aI bU (aI (fun h => nomatch h) (aI (by refine fS ?_; rw [uk hno]) tI)))))))) : G := h
def KS (h : G := by
 refine zl ?_
 refine cv ?_
 exact sy) : G := h
def KT (h : G := by
 refine zt g8 ?_
 refine rA ?_ (x := aO g8)
 refine cv ?_
 exact sy) : G := h
def KU (h : G := by
 refine zc ?_
 refine cv ?_
 exact sy) : G := h
def KV (h : G := by
 refine zt gd ?_
 refine rA ?_ (x := aO gd)
 refine cv ?_
 exact sy) : G := h
def KW (h : G := by
 refine nx (k + 1) (by omega) (f := (by exact aI (by rw [aa7, bj]; exact rfl) tI))) : G := h
def KX (h : G := by
 refine sG [2, 3, 4, 6, 7, 8, 9, 11, 13, 54, 55, 67, 68, 69, 6200, 6300] [3, 4, 6, 8, 9, 13] ?_
 refine cF ?_
 refine nx (m + 1) (by omega) (e := (by exact aI (by first | exact bG (by rw [aa8 hmz hlz, bj]; rfl) | exact bG (by rw [aa9 hmz hlz])) (aI (by exact bk (by omega)) tI)))) : G := h
def KY (h : G := by
 refine tB ?_
 refine cm ?_
 exact (bw 6 (bw _ (aI (by exact rfl) (aI (by refine dZ ?_; rw [wN hok]; exact rfl) (aI bU (aI (fun h => nomatch h) (aI (by refine fS ?_; rw [wN hok]) tI)))))))) : G := h
def Cf (h : G := by
 refine sP [2, 3, 4, 6, 7, 8, 9, 10, 11, 12, 13, 6200, 6300] [3, 4, 6, 8, 9] ?_
 refine da cG ?_
 refine Nx ?_
 refine eY ?_
 refine dA 12 ?_ (x := aU (by decide) cg (by exact tI) (by exact rfl) (by exact aW (by omega) rfl) (by exact rfl))
 refine dA 28 ?_ (x := nS (qs := [nv _ (val _), nv _ (val _), nv _ (sl .v _), nv _ (sl .v _), nv _ (val _), nv _ (sl .v _), nv _ (val _), nv _ (val _), nv _ (val _), nv _ (sl .v _)]) (by decide) gv (fun h => nomatch h) (by exact nl rfl) (by exact (ak (ak (ak (ak (ak (ak (ak (ak (ak (ak ao.nil))))))))))) (by exact lq))
 refine dA 60 ?_ (x := bP (qs := [(true, [nv _ (val _), nv _ (val _), nv _ (sl _ _), nv _ (sl _ _), nv _ (val _), nv _ (sl _ _), nv _ (val _), nv _ (val _), nv _ (val _), nv _ (sl _ _)])]) (by decide) cg gI (by decide) rfl rfl rfl rfl rfl (by exact nl rfl) (by exact (aI (by exact tI) tI)) rfl)
 refine dA 127 ?_ (x := en (by decide) cg gI rfl rfl (by decide) rfl (by simp only [aw, aM, List.length_cons, List.length_nil]; omega) (by simp only [aw, aM, List.length_cons, List.length_nil]; omega))
 refine dA 255 ?_ (x := lF ee)
 refine dA 511 ?_ (x := bh (ag := false) (vs := [sl _ _]) dR (by exact tI) (by exact rfl) (by exact nl rfl))
 refine Nt ?_
 refine cb ?_
 refine nx (m + 1) (by omega) (e := (by exact aI (by exact fS (by first | (rw [decide_eq_decide]; omega) | (rw [decide_eq_true (show (dC e.aez q.Id) < m + 1 by omega)]; done))) (aI (by exact bk (by omega)) tI))) (f := (by exact aI (by first | (rw [abe hmz hpm]; simp only [bj]; exact rfl) | (rw [abd hmz hpm]; simp only [bj]; exact rfl)) tI))) : G := h
def KZ (h : G := by
 refine cV (d := 8) (by exact rfl) (show _ = [sl bz (e.Store.aey.map (aG aV ab)), val (vI e.Store.Now), val (vI e.aeD), sl ab (e.Order.map am), sl ce ((za.take (dC e.aez q.Id) ++ (cJ e q l, kNew) :: za.drop (dC e.aez q.Id)).map ff), sl bT (e.Done.map (bn aD ab aE ab)), sl bY (e.aeL.map (bl ab ab ab)), val (vI e.Steps)] from by first | (rw [← abf hpl]; first | done | exact rfl) | (rw [← abg hpl]; simp only [bj]; exact rfl)) ?_
 refine sP [2, 3, 4, 6, 7, 8, 9, 10, 11, 12, 13, 6200, 6300] [3, 4, 6, 8, 9] ?_
 refine If (G := 6300) (H := 6200) (e := 10) (f := (aT aD ab ab aE ab)) (by exact rfl) (by exact rfl) (by exact rfl) ?_
 refine sP [2, 3, 4, 6, 7, 8, 9, 10, 11, 12, 13, 6300] [3, 4, 6, 8, 9] ?_
 refine BH (d := 8) (t := 108) (e := 10) (G := 6300) (A := [sl _ _, val _, val _, sl _ _]) (B := [sl _ _, sl _ _, val _]) (f := (aT aD ab ab aE ab)) (g := (fun z : aez => [val (vI z.aeA.Id), val (vI z.aeA.aeE), sl .v (z.aeA.aeB.map bH), sl .v (z.aeA.Out.map am), val (vI z.Time), sl .v (z.aeI.map am), val (vI z.Age), val (vI z.Sent), val (vI z.Cap), sl .v (z.Rows.map (bI ab))])) (fN := ff) (ys := (za.take (dC e.aez q.Id) ++ (cJ e q l, kNew) :: za.drop (dC e.aez q.Id))) [] (jD e q l) (by exact rfl) (by exact rfl) (fun _ _ => rfl) (fun _ => rfl) (fun _ => rfl) (SE) (SF hoe hza) ?_
 refine sO [(2, _), (3, _), (4, _), (6, _), (7, _), (8, _), (9, _), (10, _), (11, _), (12, _), (13, _)] [(3, _), (4, _), (6, _), (8, (32, [sl _ _, val _, val _, sl _ _, sl _ _, sl _ _, sl _ _, val _])), (9, _)] ?_
 exact KY) : G := h
def Cg (h : G := by
 have hno : jG e id = false := by first | (simp_all [jG]; done) | (simp_all [jG]; omega) | (rw [← Bool.not_eq_true]; intro hc_; unfold jG at hc_; simp only [aS, decide_eq_true_eq] at hc_; obtain ⟨h1_, h2_⟩ := hc_; first | omega | (simp_all; done) | (simp_all; omega))
 refine sS [1, 2, 4, 5, 6, 7] [2, 4, 6] ?_
 refine qx ?_
 refine cm ?_
 exact (bw 4 (bw _ (aI (by exact rfl) (aI (by refine dZ ?_; rw [wP hno]; exact rfl) (aI bU (aI (fun h => nomatch h) (aI (by refine fS ?_; rw [wP hno]) tI)))))))) : G := h
def La (h : G := by
 refine mE ?_
 exact Cg) : G := h
def Lb (h : G := by
 refine cT ?_
 exact (bw 4 (bw _ (aI (by exact rfl) (aI (by refine dZ ?_; rw [Gk hok hf]; exact rfl) (aI bU (aI (fun h => nomatch h) (aI (by refine fS ?_; rw [Gk hok hf]) tI)))))))) : G := h
def Lc (h : G := by
 refine jS ?_
 refine rS ?_
 refine db ?_
 exact (aI (by refine bk ?_; rw [hfa.1]) (aI (by refine bk ?_; rw [hfa.2]) tI))) : G := h
def Ld (h : G := by
 refine nx (j + 1) (by exact ⟨by omega, qY hc hlt2 hno2⟩) (e := (by exact aI (by exact bk (by omega)) tI))) : G := h
def Le (h : G := by
 have hno2 : gk id s.aey[i][j] = false := by first | (simp_all [gk]; done) | (unfold gk; simp_all)
 refine bb ?_
 refine sG [1, 2, 6, 7, 8, 9, 11, 12, 13, 18, 19, 20] [2, 9] ?_
 refine cF ?_
 exact Ld) : G := h
def Lf (h : G := by
 refine nx (i + 1) (by exact ⟨by omega, qY ha hlt hno1⟩) (e := (by exact aI (by exact bk (by omega)) tI))) : G := h
def Lg (h : G := by
 refine rK ?_
 refine cm ?_
 exact (aI (by refine bk ?_; rw [hfn.1]) (aI (by refine bk ?_; rw [hfn.2]) tI))) : G := h
def Lh (h : G := by
 have hno2 : gk id s.aey[i][j] = false := by first | (simp_all [gk]; done) | (unfold gk; simp_all)
 refine bb ?_
 refine sG [1, 2, 6, 7] [2] ?_
 refine cb ?_
 exact Ld) : G := h
def Li (h : G := by
 refine Py ?_
 exact (bw 4 (bw _ (aI (by exact rfl) (aI (by refine dZ ?_; rw [rE hno]; exact rfl) (aI cW (aI (fun h => nomatch h) (aI (by refine fS ?_; rw [rE hno]) tI)))))))) : G := h
def Ch (h : G := by
 refine rA ?_ (x := cP (ms := [sl _ _, val _]) (qs := [sl .v _, val _]) (by decide) cW (fun h => nomatch h) (by exact nl rfl) (by exact rfl) (by exact (aB (ak ao.nil))) (by exact (aj.cons (bor_sl _) (aj.cons (bor_val _) aj.nil))))
 exact Li) : G := h
def xZ (h : G := by
 have hno : gZ s u = false := by rw [← Bool.not_eq_true]; intro hc_; obtain ⟨h1_, h2_, h3_, h4_, h5_⟩ := oU hc_; first | omega | (simp_all; done) | (simp_all; omega)
 refine sS [2, 3, 4, 5, 6] [2, 3, 4, 6] ?_
 exact Ch) : G := h
def Lj (h : G := by
 refine vq ?_
 refine cv ?_
 exact xZ) : G := h
def Lk (h : G := by
 refine vY ?_
 refine cv ?_
 exact xZ) : G := h
def Ll (h : G := by
 refine dJ ?_
 refine sP [2, 3, 4, 5, 6, 7, 8, 9] [2, 3, 4, 6] ?_
 refine xM (s := 9) (by exact rfl) (show _ = RV.slc ab ((il s u).map am) from by first | (rw [hv2]; done) | (rw [hv2]; exact rfl)) ?_
 refine sG [2, 3, 4, 5, 6, 7, 8, 9] [2, 3, 4, 6] ?_
 refine px ?_
 refine sc ?_ ?_ <;> intro hbe
 have hk2 : u.Kind = 2 := by first | exact hbe | simpa using hbe
 have hok := Aa hos hou hnw hkd (.inl hk2)
 refine sS [2, 3, 4, 5, 6, 7, 8, 9] [2, 3, 4, 6] ?_
 refine tJ ?_
 exact (bw 4 (bw _ (aI (by exact rfl) (aI (by refine dZ ?_; rw [oS hok hk2]; exact rfl) (aI cW (aI (fun h => nomatch h) (aI (by refine fS ?_; rw [oS hok hk2]) tI)))))))
 have hk2 : ¬ u.Kind = 2 := by first | exact hbe | simpa using hbe
 have hu0 : 0 < (cH s u).length := by omega
 refine eG ?_
 refine be ?_
 refine sP [2, 3, 4, 5, 6, 7, 8, 9] [2, 3, 4, 6] ?_
 refine jL (d := 6) (t := 26) (D := 910) (G := 2910) (E := 139) (e := 1) (L := (Lw w0.heap.size)) (A := []) (B := [val _]) (es := ((cH s u)).map (aG aV ab)) (by exact rfl) (iN hu0) (by exact rfl) (by exact rfl) rfl (by exact rfl) (fun x hx => hx) (by exact lq) (by exact lq) (by exact ar.nil) (by exact lc) (ar.map fun x => (ar.cons (lcl_own (ar.map fun x => (ar.cons lcl_val (ar.cons (lcl_own (ar.map fun x => (ar.cons lcl_val ar.nil))) (ar.cons lcl_val (ar.cons lcl_val ar.nil)))))) ar.nil)) fun uu910 cp910 jk910 hlD910 hcp910 hjk910 => ?_
 rw [aw] at hlD910 hcp910 hjk910
 refine cV (d := 910) (by exact rfl) (show _ = bE (aG aV ab) ((cH s u)) jk910 from rfl) ?_
 refine sO [(2, _), (3, _), (4, _), (5, _), (6, _), (7, _), (8, _), (9, _), (2910, _)] [(2, _), (3, _), (4, _), (6, (26, [val _, val _])), (910, (139, bE (aG aV ab) _ _))] ?_
 refine bd ?_
 refine sX ?_
 refine rA ?_ (x := HK (G := 2910) (by decide) eP)
 refine eo ?_
 refine sP [2, 3, 4, 5, 6, 7, 8, 9, 87, 88, 89, 2910] [2, 3, 4, 6, 910] ?_
 refine sL [2, 3, 4, 6, 7, 8, 9, 87, 88, 2910] [2, 3, 4, 6, 910] (fun m : Nat => m ≤ s.aey.length ∧ (s.aey.take m).any gY = false) (fun m : Nat => [(89, RV.int (m : Int))]) (fun m : Nat => []) (fun m : Nat => s.aey.length - m) 0 (by exact ⟨by omega, rfl⟩) (by exact aI (by exact rfl) tI) (by exact tI) ?_
 rintro m ⟨hm, ha⟩
 refine cn ?_
 refine sc ?_ ?_ <;> intro hbf
 try simp only [aw] at hbf
 have hlt : m < s.aey.length := by omega
 have hum : m < (cH s u).length := by omega
 have hua := zX s u hum hlt
 have hs4m := hs4 _ (List.getElem_mem hlt)
 refine dh ?_
 refine sO [(2, _), (3, _), (4, _), (6, _), (7, _), (8, _), (9, _), (87, _), (88, _), (89, _), (2910, _)] [(2, (26, [sl (.lo _) _, val _])), (3, (56, [val _, val _, sl (.lo _) _, val _, val _])), (4, (26, [sl _ _, val _])), (6, (26, [val _, val _])), (910, (139, bE (aG aV ab) _ _))] ?_
 refine cV (d := 910) (by exact rfl) (iM (f := (aG aV ab)) (xs := (cH s u)) (k := m) hum) ?_
 have hA910 := jl (f := (aG aV ab)) (e := 1) (xs := (cH s u)) (k := m) (fun _ => rfl) (Nat.le_of_lt hum)
 refine sO [(2, _), (3, _), (4, _), (6, _), (7, _), (8, _), (9, _), (87, _), (88, _), (89, _), (2910, _)] [(2, _), (3, _), (4, _), (6, _), (910, (139, _ ++ ([sl _ _] ++ _)))] ?_
 refine VS (d := 910) (A := _) (B := [] ++ _) (by exact rfl) fun vN => ?_
 refine sO [(2, _), (3, _), (4, _), (6, _), (7, _), (8, _), (9, _), (87, _), (88, _), (89, _), (2910, _)] [(2, _), (3, _), (4, _), (6, _), (910, (139, _ ++ ([nv _ (sl _ _)] ++ _)))] ?_
 refine lP ?_
 refine rA ?_ (x := iw (k := m) (G := 2910) (by decide) eP (by exact tI) (by omega) (by first | (rw [aw]; exact hum) | exact hum))
 refine rA ?_ (x := qk (o := 0) (qs := [nv _ (sl .v _)]) (by omega) (by decide) ie (fun _ => rfl) (by exact nl rfl) (by exact (ak ao.nil)) (by exact (aj.cons (bor_nv (bor_sl _)) aj.nil)))
 refine rS ?_
 refine rA ?_ (x := iL (r' := RV.sv false [nv _ (sl .v _)]) (.inr rfl) (by decide) (by exact Cp.sv (ak ao.nil) (aj.cons (bor_nv (bor_sl _)) aj.nil)))
 refine sS [2, 3, 4, 6, 7, 8, 9, 10, 11, 87, 88, 89, 2910] [2, 3, 4, 6, 910] ?_
 refine Oj ?_
 refine rA ?_ (x := dq)
 refine sc ?_ ?_ <;> intro hbg
 have hsm : gY s.aey[m] = true := by unfold gY; rw [decide_eq_true_eq]; omega
 have hrm := Rg hlt ha hsm
 have hok := Aa hos hou hnw hkd (.inr (by omega))
 have hpv := pW (v := jb s u) hum
 refine be ?_
 refine sP [2, 3, 4, 6, 7, 8, 9, 10, 11, 87, 88, 89, 2910] [2, 3, 4, 6, 910] ?_
 refine VU (d := 910) (G := 6400) (A := _) (B := [] ++ _) (by exact rfl) (by exact rfl) nh (bor_sl _) ?_
 refine sO [(2, _), (3, _), (4, _), (6, _), (7, _), (8, _), (9, _), (10, _), (11, _), (87, _), (88, _), (89, _), (2910, _), (6400, _)] [(2, _), (3, _), (4, _), (6, _), (910, (139, _ ++ ([sl _ _] ++ _)))] ?_
 refine sd (s := 11) (G := 6400) (by exact rfl) (by exact (Nm.nv Nm.nil)) rfl (by decide) (by exact rfl) ?_
 refine sP [2, 3, 4, 6, 7, 8, 9, 10, 11, 87, 88, 89, 2910] [2, 3, 4, 6, 910] ?_
 refine da cG ?_
 refine wf ?_
 refine dA 0 ?_ (x := tM)
 refine dA 0 ?_ (x := lF ic)
 refine dA 16 ?_ (x := lF jZ)
 refine dA 48 ?_ (x := lD [val _] az)
 refine dA 0 ?_ (x := tM)
 refine DJ ?_
 refine dA 1008 ?_ (x := dp (qs := [(false, [val _]), (false, [sl _ _]), (false, [val _]), (false, [val _])]) (cs := [val _, sl _ _, val _, val _]) (by decide) fE ny TZ (by exact rfl) (by exact (aI (by exact tI) (aI (by exact tI) (aI (by exact tI) (aI (bM rfl) tI))))) rfl (by exact rfl))
 refine dA 2032 ?_ (x := bP (qs := [(true, [val _, sl _ _, val _, val _])]) (by decide) cy fE (by decide) rfl rfl rfl rfl rfl (by exact nl rfl) (by exact (aI (by exact tI) tI)) rfl)
 refine dA 4088 ?_ (x := en (by decide) cy fE rfl rfl (by decide) rfl (by simp only [aw, aM, List.length_cons, List.length_nil]; omega) (by simp only [aw, aM, List.length_cons, List.length_nil]; omega))
 refine dA 8191 ?_ (x := iw (k := m) (G := 2910) (by decide) eP (by exact tI) (by omega) (by first | (rw [aw]; exact hum) | exact hum))
 refine dA 16383 ?_ (x := nd (o := 0) (ag := false) (vs := [sl _ _]) (by omega) ie (by exact tI) (by exact rfl) (by exact nl rfl))
 refine cV (d := 910) (by exact rfl) (ng ((cH s u)[m] ++ [jb s u]) hum (by simp only [aG, bj]; exact rfl)) ?_
 refine nX (d := 6) (D := 910) (G := 2910) (e := 1) (A := []) (B := [val _]) (es := (((cH s u)).set m ((cH s u)[m] ++ [jb s u])).map (aG aV ab)) (by exact rfl) (by exact rfl) (by exact rfl) rfl (by rw [aw, List.length_set, aw]) (by intro c hc; obtain ⟨y, _, rfl⟩ := List.mem_map.1 hc; exact rfl) (by rw [aw]; exact hjk910) ?_
 refine be ?_
 refine sO [(2, _), (3, _), (4, _), (6, _), (7, _), (8, _), (10, _), (87, _), (88, _), (89, _)] [(2, _), (3, _), (4, _), (6, (26, [sl _ _, val _]))] ?_
 refine bd ?_
 refine tJ ?_
 exact (bw 4 (bw _ (aI (by exact rfl) (aI (by refine dZ ?_; rw [rF hok hk2 hrm, hpv]; exact rfl) (aI cW (aI (fun h => nomatch h) (aI (by refine fS ?_; rw [rF hok hk2 hrm]) tI)))))))
 have hns : gY s.aey[m] = false := by unfold gY; rw [decide_eq_false_iff_not]; omega
 refine bb ?_
 refine sP [2, 3, 4, 6, 7, 8, 9, 10, 11, 87, 88, 89, 2910] [2, 3, 4, 6, 910] ?_
 refine VT (d := 910) (A := _) (B := [] ++ _) (by exact rfl) ?_
 refine sO [(2, _), (3, _), (4, _), (6, _), (7, _), (8, _), (9, _), (10, _), (11, _), (87, _), (88, _), (89, _), (2910, _)] [(2, _), (3, _), (4, _), (6, _), (910, (139, _ ++ ([sl _ _] ++ _)))] ?_
 refine cV (d := 910) (by exact rfl) (show _ = bE (aG aV ab) (cH s u) jk910 from (iM (f := (aG aV ab)) (xs := (cH s u)) (k := m) hum).symm) ?_
 refine sO [(2, _), (3, _), (4, _), (6, _), (7, _), (8, _), (9, _), (10, _), (11, _), (87, _), (88, _), (89, _), (2910, _)] [(2, _), (3, _), (4, _), (6, _), (910, (139, bE (aG aV ab) _ _))] ?_
 refine bd ?_
 refine cF ?_
 refine nx (m + 1) (by exact ⟨by omega, qY ha hlt hns⟩) (e := (by exact aI (by exact bk (by omega)) tI))
 try simp only [aw] at hbf
 have hend : m = s.aey.length := by omega
 have hrn := Rh (by rw [hend, cj] at ha; exact ha)
 have hno : gZ s u = false := by rw [← Bool.not_eq_true]; intro hc_; obtain ⟨h1_, h2_, h3_, h4_, h5_⟩ := oU hc_; first | omega | (simp_all; done) | (simp_all; omega)
 refine er ?_
 refine sO [(2, _), (3, _), (4, _), (6, _), (7, _), (8, _), (9, _), (87, _), (88, _), (89, _), (2910, _)] [(2, (26, [sl (.lo _) _, val _])), (3, (56, [val _, val _, sl (.lo _) _, val _, val _])), (4, (26, [sl _ _, val _])), (6, (26, [val _, val _])), (910, (139, bE (aG aV ab) _ _))] ?_
 refine Dg ?_
 exact Li) : G := h
def Lm (h : G := by
 refine dJ ?_
 refine sP [2, 3, 4, 5, 6, 7, 8, 9] [2, 3, 4, 6] ?_
 refine cV (d := 6) (by exact rfl) (show _ = [sl bz ((cH s u).map (aG aV ab)), val (vI (s.Now + 1))] from by first | (rw [hu1]; done) | (rw [hu1]; exact rfl)) ?_
 refine sP [2, 3, 4, 5, 6, 7, 8, 9] [2, 3, 4, 6] ?_
 refine xM (s := 9) (by exact rfl) (show _ = RV.slc ab ((fe s u).map am) from by first | (rw [hu2]; done) | (rw [hu2]; exact rfl)) ?_
 refine sG [2, 3, 4, 5, 6, 7, 8, 9] [2, 3, 4, 6] ?_
 refine px ?_
 refine sc ?_ ?_ <;> intro hbd
 have hk3 : u.Kind = 3 := by first | exact hbd | simpa using hbd
 have hge3 : 0 ≤ ci s u.Row.Id := by omega
 have hv3 := zZ (u := u) hos hge3
 have hf3 := EP hou hk3
 have hfl : u.Field.toNat < (fe s u).length := by omega
 have hv2 : il s u = (fe s u).set u.Field.toNat u.Value := if_pos hk3
 refine sP [2, 3, 4, 5, 6, 7, 8, 9] [2, 3, 4, 6] ?_
 refine HI (s := 9) (D := 930) (G := 2930) (E := 3) (e := 1) (L := (Lw w0.heap.size)) (es := ((fe s u)).map am) (by exact rfl) (iN hfl) (by exact rfl) (by exact rfl) rfl (by exact rfl) (fun x hx => hx) (by exact lq) (by exact lq) (ar.map fun x => (ar.cons lcl_val ar.nil)) fun uu930 cp930 jk930 hlD930 hcp930 hjk930 => ?_
 rw [aw] at hlD930 hcp930 hjk930
 refine cV (d := 930) (by exact rfl) (iM (k := u.Field.toNat) hfl) ?_
 have hA930 := jl (f := am) (e := 1) (xs := (fe s u)) (k := u.Field.toNat) (fun _ => rfl) (Nat.le_of_lt hfl)
 refine sO [(2, _), (3, _), (4, _), (5, _), (6, _), (7, _), (8, _), (9, _), (2930, _)] [(2, _), (3, _), (4, _), (6, _), (930, (3, _ ++ ([val _] ++ _)))] ?_
 refine bd ?_
 refine rA ?_ (x := vM false [val _])
 refine DR ?_
 refine DS ?_
 refine CB ?_
 refine cV (d := 930) (by exact rfl) (ng u.Value hfl (by exact rfl)) ?_
 refine HJ (s := 9) (D := 930) (G := 2930) (e := 1) (es := (((fe s u)).set u.Field.toNat u.Value).map am) (by exact rfl) (by exact rfl) (by exact rfl) rfl (by decide) (by rw [aw, List.length_set, aw]) (by intro c hc; obtain ⟨y, _, rfl⟩ := List.mem_map.1 hc; exact rfl) (by rw [aw]; exact hjk930) ?_
 exact Ll
 have hk3n : ¬ u.Kind = 3 := by first | exact hbd | simpa using hbd
 have hv2 : il s u = fe s u := if_neg hk3n
 refine bb ?_
 exact Ll) : G := h
def Ln (h : G := by
 have hno : gZ s u = false := by rw [← Bool.not_eq_true]; intro hc_; obtain ⟨h1_, h2_, h3_, h4_, h5_⟩ := oU hc_; by_cases h1 : 0 ≤ ci s u.Row.Id <;> by_cases h2 : u.Kind = 1 <;> by_cases h3 : u.Kind = 2 <;> by_cases h4 : 0 ≤ ik s.aey <;> by_cases h6 : ci s u.Row.Id < 0 <;> (first | omega | (simp_all; done) | (simp_all; omega))
 refine sS [2, 3, 4, 5, 6, 7, 8, 9] [2, 3, 4, 6] ?_
 exact Ch) : G := h
def Lo (h : G := by
 refine tJ ?_
 exact (bw 4 (bw _ (aI (by exact rfl) (aI (by refine dZ ?_; first | (rw [rF hok hk2 hrm, hpv]; exact rfl) | (rw [oS hok hk2]; exact rfl)) (aI cW (aI (fun h => nomatch h) (aI (by refine fS ?_; first | (rw [rF hok hk2 hrm]; done) | (rw [oS hok hk2]; done)) tI)))))))) : G := h
def Lp (h : G := by
 obtain ⟨r, hr, hrm, hr4⟩ := zV (hrr.resolve_left hk2)
 have hru : r < (cH s u).length := by omega
 have hua := zX s u hru hr
 have hpv := pW (v := jb s u) hru
 refine sP [2, 3, 4, 5, 6, 7, 8, 9, 10] [2, 3, 4, 6, 10] ?_
 refine jL (d := 6) (t := 26) (D := 940) (G := 2940) (E := 139) (e := 1) (L := (Lw w0.heap.size)) (A := []) (B := [val _]) (es := ((cH s u)).map (aG aV ab)) (by exact rfl) (iN hru) (by exact rfl) (by exact rfl) rfl (by exact rfl) (fun x hx => hx) (by exact lq) (by exact lq) (by exact ar.nil) (by exact lc) (ar.map fun x => (ar.cons (lcl_own (ar.map fun x => (ar.cons lcl_val (ar.cons (lcl_own (ar.map fun x => (ar.cons lcl_val ar.nil))) (ar.cons lcl_val (ar.cons lcl_val ar.nil)))))) ar.nil)) fun uu940 cp940 jk940 hlD940 hcp940 hjk940 => ?_
 rw [aw] at hlD940 hcp940 hjk940
 refine cV (d := 940) (by exact rfl) (iM (k := r) hru) ?_
 have hA940 := jl (f := (aG aV ab)) (e := 1) (xs := (cH s u)) (k := r) (fun _ => rfl) (Nat.le_of_lt hru)
 refine sO [(2, _), (3, _), (4, _), (5, _), (6, _), (7, _), (8, _), (9, _), (10, _), (2940, _)] [(2, _), (3, _), (4, _), (6, (26, [val _, val _])), (10, _), (940, (139, _ ++ ([sl _ _] ++ _)))] ?_
 refine da cG ?_
 refine wf ?_
 refine dA 0 ?_ (x := lF jX)
 refine dA 8 ?_ (x := lD [val _] kc)
 refine dA 0 ?_ (x := sM)
 refine dA 56 ?_ (x := iw (k := r) (G := 2940) (by decide) eP (by exact tI) (by omega) (by first | (rw [aw]; exact hru) | exact hru))
 refine dA 120 ?_ (x := Bp (o := 0) (ms := [sl _ _]) (qs := [sl .v _]) (by omega) (by decide) ie (fun _ => rfl) (by exact nl rfl) (by exact rfl) (by exact (aB ao.nil)) (by exact (aj.cons (bor_sl _) aj.nil)))
 refine dA 0 ?_ (x := cP (ms := [val _, sl _ _, val _, val _]) (qs := [val _, sl .v _, val _, val _]) (by decide) fq (fun h => nomatch h) (by exact nl rfl) (by exact rfl) (by exact (ak (aB (ak (ak ao.nil))))) (by exact lq))
 refine dA 256 ?_ (x := bP (qs := [(true, [val _, sl _ _, val _, val _])]) (by decide) cy fE (by decide) rfl rfl rfl rfl rfl (by exact nl rfl) (by exact (aI (by exact tI) tI)) rfl)
 refine dA 1016 ?_ (x := en (by decide) cy fE rfl rfl (by decide) rfl (by simp only [aw, aM, List.length_cons, List.length_nil]; omega) (by simp only [aw, aM, List.length_cons, List.length_nil]; omega))
 refine dA 2047 ?_ (x := iw (k := r) (G := 2940) (by decide) eP (by exact tI) (by omega) (by first | (rw [aw]; exact hru) | exact hru))
 refine dA 4095 ?_ (x := nd (o := 0) (ag := false) (vs := [sl _ _]) (by omega) ie (by exact tI) (by exact rfl) (by exact nl rfl))
 refine cV (d := 940) (by exact rfl) (ng ((cH s u)[r] ++ [jb s u]) hru (by simp only [aG, bj]; exact rfl)) ?_
 refine nX (d := 6) (D := 940) (G := 2940) (e := 1) (A := []) (B := [val _]) (es := (((cH s u)).set r ((cH s u)[r] ++ [jb s u])).map (aG aV ab)) (by exact rfl) (by exact rfl) (by exact rfl) rfl (by rw [aw, List.length_set, aw]) (by intro c hc; obtain ⟨y, _, rfl⟩ := List.mem_map.1 hc; exact rfl) (by rw [aw]; exact hjk940) ?_
 refine be ?_
 refine sO [(2, _), (3, _), (4, _), (5, _), (6, _), (7, _), (8, _), (9, _), (10, _)] [(2, _), (3, _), (4, _), (6, (26, [sl _ _, val _])), (10, (184, [val _, sl _ _, val _, val _]))] ?_
 refine bd ?_
 exact Lo) : G := h
def Lq (h : G := by
 refine bb ?_
 refine sS [2, 3, 4, 5, 6, 7, 8, 9, 10] [2, 3, 4, 6, 10] ?_
 exact Lo) : G := h
def Lr (h : G := by
 refine Nq ?_
 refine DQ ?_
 refine rA ?_ (x := dr)
 refine sc ?_ ?_ <;> intro hbe
 have hk2 : ¬ u.Kind = 2 := by first | exact hbe | simpa using hbe
 exact Lp
 have hk2 : u.Kind = 2 := by first | exact hbe | simpa using hbe
 exact Lq) : G := h
def Ls (h : G := by
 refine NQ ?_
 refine sG [2, 3, 4, 5, 6, 7, 8, 9, 10] [2, 3, 4, 6, 10] ?_
 refine px ?_
 refine sc ?_ ?_ <;> intro hbd
 have hk3 : u.Kind = 3 := by first | exact hbd | simpa using hbd
 have hge3 : 0 ≤ ci s u.Row.Id := by omega
 have hv3 := zZ (u := u) hos hge3
 have hf3 := EP hou hk3
 have hfl : u.Field.toNat < (fe s u).length := by omega
 have hv2 : il s u = (fe s u).set u.Field.toNat u.Value := if_pos hk3
 refine sP [2, 3, 4, 5, 6, 7, 8, 9, 10] [2, 3, 4, 6, 10] ?_
 refine jL (d := 10) (t := 184) (D := 930) (G := 2930) (E := 3) (e := 1) (L := (Lw w0.heap.size)) (A := [val _]) (B := [val _, val _]) (es := ((fe s u)).map am) (by exact rfl) (iN hfl) (by exact rfl) (by exact rfl) rfl (by exact rfl) (fun x hx => hx) (by exact lq) (by exact lq) (by exact lc) (by exact lc) (ar.map fun x => (ar.cons lcl_val ar.nil)) fun uu930 cp930 jk930 hlD930 hcp930 hjk930 => ?_
 rw [aw] at hlD930 hcp930 hjk930
 refine cV (d := 930) (by exact rfl) (iM (k := u.Field.toNat) hfl) ?_
 have hA930 := jl (f := am) (e := 1) (xs := (fe s u)) (k := u.Field.toNat) (fun _ => rfl) (Nat.le_of_lt hfl)
 refine NM ?_
 refine rA ?_ (x := lF lu)
 refine rA ?_ (x := lD [val _] bF)
 refine DR ?_
 refine DS ?_
 refine CB ?_
 refine MQ ?_
 refine yu ?_
 exact Lr
 have hk3n : ¬ u.Kind = 3 := by first | exact hbd | simpa using hbd
 have hv2 : il s u = fe s u := if_neg hk3n
 refine eG ?_
 refine yJ ?_
 exact Lr) : G := h
def Lt (h : G := by
 refine Nq ?_
 refine DQ ?_
 refine rA ?_ (x := dr)
 refine sc ?_ ?_ <;> intro hbd
 have hk2 : ¬ u.Kind = 2 := by first | exact hbd | simpa using hbd
 exact Lp
 have hk2 : u.Kind = 2 := by first | exact hbd | simpa using hbd
 exact Lq) : G := h
def Lu (h : G := by
 refine NQ ?_
 refine sG [2, 3, 4, 5, 6, 7, 8, 9, 10] [2, 3, 4, 6, 10] ?_
 refine px ?_
 refine sc ?_ ?_ <;> intro hbc
 have hk3 : u.Kind = 3 := by first | exact hbc | simpa using hbc
 have hge3 : 0 ≤ ci s u.Row.Id := by omega
 have hv3 := zZ (u := u) hos hge3
 have hf3 := EP hou hk3
 have hfl : u.Field.toNat < (fe s u).length := by omega
 have hv2 : il s u = (fe s u).set u.Field.toNat u.Value := if_pos hk3
 refine sP [2, 3, 4, 5, 6, 7, 8, 9, 10] [2, 3, 4, 6, 10] ?_
 refine jL (d := 10) (t := 184) (D := 930) (G := 2930) (E := 3) (e := 1) (L := (Lw w0.heap.size)) (A := [val _]) (B := [val _, val _]) (es := ((fe s u)).map am) (by exact rfl) (iN hfl) (by exact rfl) (by exact rfl) rfl (by exact rfl) (fun x hx => hx) (by exact lq) (by exact lq) (by exact lc) (by exact lc) (ar.map fun x => (ar.cons lcl_val ar.nil)) fun uu930 cp930 jk930 hlD930 hcp930 hjk930 => ?_
 rw [aw] at hlD930 hcp930 hjk930
 refine cV (d := 930) (by exact rfl) (iM (k := u.Field.toNat) hfl) ?_
 have hA930 := jl (f := am) (e := 1) (xs := (fe s u)) (k := u.Field.toNat) (fun _ => rfl) (Nat.le_of_lt hfl)
 refine NM ?_
 refine rA ?_ (x := lF lu)
 refine rA ?_ (x := lD [val _] bF)
 refine DR ?_
 refine DS ?_
 refine CB ?_
 refine MQ ?_
 refine yu ?_
 exact Lt
 have hk3n : ¬ u.Kind = 3 := by first | exact hbc | simpa using hbc
 have hv2 : il s u = fe s u := if_neg hk3n
 refine eG ?_
 refine yJ ?_
 exact Lt) : G := h
def Ci (h : G := by
 refine sG [0, 1, 5, 6, 7, 8, 9, 10, 11, 12, 13, 14, 15, 2900, 5000] [0, 6, 8, 13, 900] ?_
 refine cb ?_
 refine nx (j + 1) (by omega) (e := (by exact aI (by first | exact bk (by rw [Sf hj2 hvv hmm, aM]; simp only [List.length_cons, List.length_nil]; omega) | exact bk (by rw [Aw hj2 (.inl hvv)]) | exact bk (by rw [Aw hj2 (.inr hmm)])) (aI (by exact bk (by omega)) tI))) (f := (by exact aI (by first | (rw [Sf hj2 hvv hmm, ← hz4]; simp only [bj, bu]; exact rfl) | (rw [Aw hj2 (.inl hvv)]; exact rfl) | (rw [Aw hj2 (.inr hmm)]; exact rfl)) tI))) : G := h
def ya (h : G := by
 refine cb ?_
 exact KE) : G := h
def Lv (h : G := by
 refine vP ?_
 refine rA ?_ (x := dQ)
 refine sc ?_ ?_ <;> intro hbd
 have hep : dz (cR e (parts e).length)[m] = true := by rw [hga]; simpa [dz] using hbd
 refine sP [0, 3, 4, 5, 6, 5000, 6200] [0, 6] ?_
 refine uN (d := 6) (G := 6300) (by exact rfl) (by exact rfl) (ak (ak (aB (aB (ak (aB (ak (ak (ak (aB ao.nil)))))))))) (by exact lq) fun us hRN => ?_
 obtain ⟨_, _, hRN⟩ := hRN
 obtain ⟨uA_0, uA_1, uA_2, uA_3, uA_4, uA_5, uA_6, uA_7, uA_8, uA_9, rfl⟩ := Qa hRN.len
 clear hRN
 refine sO [(0, _), (3, _), (4, _), (5, _), (6, _), (5000, _), (6200, _), (6300, _)] [(0, _), (6, (108, [nv _ (val _), nv _ (val _), nv _ (sl _ _), nv _ (sl _ _), nv _ (val _), nv _ (sl _ _), nv _ (val _), nv _ (val _), nv _ (val _), nv _ (sl _ _)]))] ?_
 refine Ei ?_
 refine vw ?_
 refine Nw ?_
 refine Nc ?_
 refine NH ?_
 refine NI ?_
 refine NE ?_
 refine My ?_
 refine Nf ?_
 refine OQ ?_
 refine sO [(0, _), (3, _), (4, _), (5, _), (6, _), (5000, _), (6200, _), (6300, _)] [(0, (32, [sl _ _, val _, val _, sl _ _, sl _ _, sl _ _, sl _ _, val _])), (6, _)] ?_
 refine BG (d := 0) (G := 6300) (A := [sl _ _, val _, val _, sl _ _, sl _ _]) (B := [sl _ _, val _]) (p := sl bT (((e.Done ++ gm e (parts e).length m).map (bn aD ab aE ab)) ++ [[val (vI (⟨za[m].1.aeA, za[m].1.Time, za[m].1.Age + 1, za[m].1.Rows⟩ : fi).aeA.Id), val (vI (⟨za[m].1.aeA, za[m].1.Time, za[m].1.Age + 1, za[m].1.Rows⟩ : fi).aeA.aeE), sl aD ((⟨za[m].1.aeA, za[m].1.Time, za[m].1.Age + 1, za[m].1.Rows⟩ : fi).aeA.aeB.map bH), sl ab ((⟨za[m].1.aeA, za[m].1.Time, za[m].1.Age + 1, za[m].1.Rows⟩ : fi).aeA.Out.map am), val (vI (⟨za[m].1.aeA, za[m].1.Time, za[m].1.Age + 1, za[m].1.Rows⟩ : fi).Time), val (vI (⟨za[m].1.aeA, za[m].1.Time, za[m].1.Age + 1, za[m].1.Rows⟩ : fi).Steps), sl aE ((⟨za[m].1.aeA, za[m].1.Time, za[m].1.Age + 1, za[m].1.Rows⟩ : fi).Rows.map (bI ab))]])) (by exact rfl) (by exact rfl) (fun z k_ => Ix (by exact (Nm.nv (Nm.nv (Nm.nv (Nm.nv (Nm.val (Nm.val (Nm.nv Nm.nil)))))))) (by exact (dt.keep (dt.keep (dt.keep (dt.keep (dt.lit rfl (dt.lit rfl (dt.drop (dt.drop (dt.drop (dt.drop (dt.drop (dt.keep dt.nil))))))))))))) z k_) ?_
 refine sG [0, 3, 4, 5, 6, 5000, 6200] [0, 6] ?_
 exact ya
 have hep : dz (cR e (parts e).length)[m] = false := by rw [hga]; simpa [dz] using hbd
 refine sG [0, 3, 4, 5, 6, 5000, 6200] [0, 6] ?_
 refine rA ?_ (x := tM)
 refine yj ?_
 refine uZ ?_
 refine yq ?_
 exact ya) : G := h
def Lx (h : G := by
 refine uM (bx := 0) (L := AU) (qs := []) (as_ := []) (by decide) EU rfl (by exact rfl) (by exact rfl) (by exact tI) (by exact tI) (by decide) (by exact tI) (by exact (GQ (e := gN e) (by omega))) (fun x hx => hx.elim) (by exact lq) (by exact (aI (.inl rfl) tI)) ?_
 refine pi ?_
 exact ⟨(by exact rfl), rfl, tI⟩) : G := h
def Ly (h : G := by
 refine vP ?_
 refine rA ?_ (x := dQ)
 refine sc ?_ ?_ <;> intro hbd
 have hep : dz (cR e (parts e).length)[m] = true := by rw [hga]; simpa [dz] using hbd
 refine sP [0, 2, 3, 4, 5, 6, 5000, 6200] [0, 6] ?_
 refine uN (d := 6) (G := 6300) (by exact rfl) (by exact rfl) (ak (ak (aB (aB (ak (aB (ak (ak (ak (aB ao.nil)))))))))) (by exact lq) fun us hRN => ?_
 obtain ⟨_, _, hRN⟩ := hRN
 obtain ⟨uA_0, uA_1, uA_2, uA_3, uA_4, uA_5, uA_6, uA_7, uA_8, uA_9, rfl⟩ := Qa hRN.len
 clear hRN
 refine sO [(0, _), (2, _), (3, _), (4, _), (5, _), (6, _), (5000, _), (6200, _), (6300, _)] [(0, _), (6, (108, [nv _ (val _), nv _ (val _), nv _ (sl _ _), nv _ (sl _ _), nv _ (val _), nv _ (sl _ _), nv _ (val _), nv _ (val _), nv _ (val _), nv _ (sl _ _)]))] ?_
 refine Ei ?_
 refine vw ?_
 refine Nw ?_
 refine Nc ?_
 refine NH ?_
 refine NI ?_
 refine NE ?_
 refine My ?_
 refine Nf ?_
 refine OQ ?_
 refine sO [(0, _), (2, _), (3, _), (4, _), (5, _), (6, _), (5000, _), (6200, _), (6300, _)] [(0, (32, [sl _ _, val _, val _, sl _ _, sl _ _, sl _ _, sl _ _, val _])), (6, _)] ?_
 refine BG (d := 0) (G := 6300) (A := [sl _ _, val _, val _, sl _ _, sl _ _]) (B := [sl _ _, val _]) (p := sl bT (((e.Done ++ gm e (parts e).length m).map (bn aD ab aE ab)) ++ [[val (vI (⟨za[m].1.aeA, za[m].1.Time, za[m].1.Age + 1, za[m].1.Rows⟩ : fi).aeA.Id), val (vI (⟨za[m].1.aeA, za[m].1.Time, za[m].1.Age + 1, za[m].1.Rows⟩ : fi).aeA.aeE), sl aD ((⟨za[m].1.aeA, za[m].1.Time, za[m].1.Age + 1, za[m].1.Rows⟩ : fi).aeA.aeB.map bH), sl ab ((⟨za[m].1.aeA, za[m].1.Time, za[m].1.Age + 1, za[m].1.Rows⟩ : fi).aeA.Out.map am), val (vI (⟨za[m].1.aeA, za[m].1.Time, za[m].1.Age + 1, za[m].1.Rows⟩ : fi).Time), val (vI (⟨za[m].1.aeA, za[m].1.Time, za[m].1.Age + 1, za[m].1.Rows⟩ : fi).Steps), sl aE ((⟨za[m].1.aeA, za[m].1.Time, za[m].1.Age + 1, za[m].1.Rows⟩ : fi).Rows.map (bI ab))]])) (by exact rfl) (by exact rfl) (fun z k_ => Ix (by exact (Nm.nv (Nm.nv (Nm.nv (Nm.nv (Nm.val (Nm.val (Nm.nv Nm.nil)))))))) (by exact (dt.keep (dt.keep (dt.keep (dt.keep (dt.lit rfl (dt.lit rfl (dt.drop (dt.drop (dt.drop (dt.drop (dt.drop (dt.keep dt.nil))))))))))))) z k_) ?_
 refine sG [0, 2, 3, 4, 5, 6, 5000, 6200] [0, 6] ?_
 exact ya
 have hep : dz (cR e (parts e).length)[m] = false := by rw [hga]; simpa [dz] using hbd
 refine sG [0, 2, 3, 4, 5, 6, 5000, 6200] [0, 6] ?_
 refine rA ?_ (x := tM)
 refine yj ?_
 refine uZ ?_
 refine yp ?_
 exact ya) : G := h
def Lz (h : G := by
 refine nx (k + 1) (by exact ⟨by omega, ra ha hlt hlt2 (by simp_all [Wm])⟩)) : G := h
def yb (h : G := by
 refine db ?_
 exact rb (by rw [Bool.eq_iff_iff]; simp only [fh, Qj]; simp_all [fh, Ep])) : G := h
def yc (h : G := by
 refine db ?_
 exact rb (by rw [Bool.eq_iff_iff]; simp only [fh, Wn]; simp_all [fh, Ep])) : G := h
def yd (h : G := by
 refine sS [2, 3, 4] [2, 3] ?_
 refine cm ?_
 exact rb (by exact (tN (fun e => by subst e; simp_all [lQ])).symm)) : G := h
def ye (h : G := by
 refine db ?_
 exact rb (by first | (rw [Bool.eq_iff_iff]; simp_all [lT]; done) | (rw [Bool.eq_iff_iff]; simp_all [lT]; omega) | (simp_all [lT]; done) | (simp_all [lT]; rfl) | (simp_all [lT]; omega) | (simp_all [lT]; intros; omega))) : G := h
def uV (h : G := by
 refine db ?_
 exact rb (by first | (rw [Bool.eq_iff_iff]; simp_all [lU]; done) | (rw [Bool.eq_iff_iff]; simp_all [lU]; omega) | (simp_all [lU]; done) | (simp_all [lU]; rfl) | (simp_all [lU]; omega) | (simp_all [lU]; intros; omega))) : G := h
def LA (h : G := by
 refine cT ?_
 exact rb (by first | (simp_all [fp]; done) | (simp_all [fp]; rfl) | (simp_all [fp]; omega) | (simp_all [fp]; intros; omega))) : G := h
def jN (h : G := by
 refine rS ?_
 exact LA) : G := h
def Cj (h : G := by
 refine rB gd ?_ (x := lF pL)
 refine yN ?_
 refine rA ?_ (x := aO gd)
 exact jN) : G := h
def yf (h : G := by
 refine ov ?_
 exact jN) : G := h
def LB (h : G := by
 refine cT ?_
 exact rb (by first | (simp_all [fp, zC, zD]; done) | (simp_all [fp, zC, zD]; rfl) | (simp_all [fp, zC, zD]; omega) | (simp_all [fp, zC, zD]; intros; omega))) : G := h
def fy (h : G := by
 refine rS ?_
 exact LB) : G := h
def LC (h : G := by
 refine rB gd ?_ (x := sM)
 refine pC ?_
 refine cx 38 (fun ge sge => ?_) (fun ge sge => ?_)
 refine rB ge ?_ (x := lF pL)
 refine rB ge ?_ (x := lD [val _] az)
 refine rB ge ?_ (x := dQ)
 refine rA ?_ (x := aO ge)
 exact fy
 refine zf ge ?_
 refine rA ?_ (x := aF ge)
 exact fy) : G := h
def LD (h : G := by
 refine rB gd ?_ (x := lF pL)
 refine yN ?_
 refine rA ?_ (x := aO gd)
 exact fy) : G := h
def LF (h : G := by
 refine bb ?_
 refine sS [1, 2, 3, 4, 19] [1] ?_
 refine rK ?_
 exact LB) : G := h
def Ck (h : G := by
 refine rS ?_
 refine nx (k + 1) (by omega) (e := (by exact aI (by exact bk (by omega)) tI))) : G := h
def LG (h : G := by
 refine lP ?_
 refine rA ?_ (x := jm)
 exact Ck) : G := h
def Cl (h : G := by
 have hend : k = kt n := by unfold kt at hk ⊢; first | omega | (simp_all; omega)
 refine bq ?_
 refine sT [1, 2, 4, 5, 6] [2, 4, 5] ?_
 refine qx ?_
 refine cT ?_
 exact (bw 4 (bw _ (aI (by exact rfl) (aI (by refine dZ ?_; unfold gB; rw [← hend]; exact rfl) (aI bU (aI (fun h => nomatch h) tI))))))) : G := h
def LH (h : G := by
 refine mD ?_
 exact Cl) : G := h
def LI (h : G := by
 refine qx ?_
 refine cm ?_
 exact (bw 4 (bw _ (aI (by exact rfl) (aI (by refine dZ ?_; rw [AG hno]; exact rfl) (aI bU (aI (fun h => nomatch h) (aI (by refine fS ?_; rw [AG hno]) tI)))))))) : G := h
def Cm (h : G := by
 have hno : (aX e && (cQ e.Store u).2) = false := by first | (simp_all; done) | (cases h1_ : aX e <;> cases h2_ : (cQ e.Store u).2 <;> simp_all)
 refine sS [2, 3, 4, 5, 6, 7, 8] [2, 3, 4, 6, 7] ?_
 exact LI) : G := h
def LJ (h : G := by
 refine cT ?_
 exact (bw 4 (bw _ (aI (by exact rfl) (aI (by refine dZ ?_; rw [AH hok]; exact rfl) (aI bU (aI (fun h => nomatch h) (aI (by refine fS ?_; rw [AH hok]) tI)))))))) : G := h
def LK (h : G := by
 refine rA ?_ (x := bh (ag := true) (vs := [sl _ _, val _, val _, sl _ _, sl _ _, sl _ _, sl _ _, val _]) bU (by exact tI) (by exact rfl) (by exact nl rfl))
 refine cm ?_
 exact (bw 4 (bw _ (aI (by exact rfl) (aI (by refine dZ ?_; rw [wQ hno]; exact rfl) (aI bU (aI (fun h => nomatch h) (aI (by refine fS ?_; rw [wQ hno]) tI)))))))) : G := h
def LL (h : G := by
 have hno : (aX e && fp x) = false := by first | (simp_all; done) | (cases h1_ : aX e <;> cases h2_ : fp x <;> simp_all)
 refine sS [2, 3, 4, 5] [2, 3, 4] ?_
 refine Cz ?_
 exact LK) : G := h
def LM (h : G := by
 refine cT ?_
 exact (bw 4 (bw _ (aI (by exact rfl) (aI (by refine dZ ?_; first | (rw [AJ hok hk1]; first | done | exact rfl) | (rw [AK hok hk2]; first | done | exact rfl) | (rw [Gr hok hk3]; first | done | exact rfl) | (rw [Gs hok hk1n hk2n hk3n]; first | done | exact rfl)) (aI bU (aI (fun h => nomatch h) (aI (by refine fS ?_; first | (rw [AJ hok hk1]; first | done | exact rfl) | (rw [AK hok hk2]; first | done | exact rfl) | (rw [Gr hok hk3]; first | done | exact rfl) | (rw [Gs hok hk1n hk2n hk3n]; first | done | exact rfl)) tI)))))))) : G := h
def LN (h : G := by
 refine rA ?_ (x := bh (ag := true) (vs := [sl _ _, val _, val _, sl _ _, sl _ _, sl _ _, sl _ _, val _]) bU (by exact tI) (by exact rfl) (by exact nl rfl))
 refine rS ?_
 exact LM) : G := h
def Cn (h : G := by
 refine yk ?_
 exact LN) : G := h
def LO (h : G := by
 have hno : (aX e && fp x) = false := by first | (simp_all; done) | (cases h1_ : aX e <;> cases h2_ : fp x <;> simp_all)
 refine sS [2, 3, 4, 5, 6] [2, 3, 4, 6] ?_
 refine rA ?_ (x := cP (ms := [sl _ _, val _, val _, sl _ _, sl _ _, sl _ _, sl _ _, val _]) (qs := [sl .v _, val _, val _, sl .v _, sl .v _, sl .v _, sl .v _, val _]) (by decide) bU (fun h => nomatch h) (by exact nl rfl) (by exact rfl) (by exact (aB (ak (ak (aB (aB (aB (aB (ak ao.nil))))))))) (by exact lq))
 exact LK) : G := h
def LP (h : G := by
 refine be ?_
 refine sO [(2, _), (3, _), (4, _), (5, _), (6, _), (7, _), (20, _)] [(2, _), (3, _), (4, _), (6, (32, [sl _ _, val _, val _, sl _ _, sl _ _, sl _ _, sl _ _, val _]))] ?_
 refine bd ?_
 refine rA ?_ (x := cP (ms := [sl _ _, val _, val _, sl _ _, sl _ _, sl _ _, sl _ _, val _]) (qs := [sl .v _, val _, val _, sl .v _, sl .v _, sl .v _, sl .v _, val _]) (by decide) bU (fun h => nomatch h) (by exact nl rfl) (by exact rfl) (by exact (aB (ak (ak (aB (aB (aB (aB (ak ao.nil))))))))) (by exact lq))
 refine rM ?_
 exact LN) : G := h
def Co (h : G := by
 refine rA ?_ (x := tM)
 refine zss ?_
 refine rS ?_
 exact LP) : G := h
def uW (h : G := by
 refine db ?_
 exact rb (by rw [Bool.eq_iff_iff]; simp only [fh, Wr]; first | (simp_all [fh, zE]; done) | (simp_all [fh, zE, and_assoc]; done))) : G := h
def qw (h : G := by
 refine db ?_
 exact rb (by rw [Bool.eq_iff_iff]; simp only [fh, Ws]; first | (simp_all [fh, zE]; done) | (simp_all [fh, zE, and_assoc]; done))) : G := h
def uX (h : G := by
 refine cm ?_
 exact rb ((tN hne).symm)) : G := h
def LQ (h : G := by
 have hne : ¬ x = y := by intro e_; subst e_; simp_all
 refine sS [2, 3, 4] [2, 3] ?_
 exact uX) : G := h
def LR (h : G := by
 have hne : ¬ x = y := by intro e_; subst e_; simp_all [lQ]
 refine sS [2, 3, 5] [2, 3] ?_
 exact uX) : G := h
def LS (h : G := by
 refine bb ?_
 refine sG [2, 3, 5] [2, 3] ?_
 refine cb ?_
 refine nx (k + 1) (by exact ⟨by omega, ra ha0 hlt0 hlu0 heq⟩)) : G := h
def LU (h : G := by
 have hne : ¬ x = y := by intro e_; subst e_; simp_all [lQ]
 refine sS [2, 3, 4] [2, 3] ?_
 exact uX) : G := h
def sz (h : G := by
 refine cv ?_
 exact LU) : G := h
def yg (h : G := by
 have hne : ¬ x = y := by intro e_; subst e_; simp_all [lQ]
 refine sS [2, 3, 5, 6, 7, 8] [2, 3, 7, 8] ?_
 exact uX) : G := h
def LV (h : G := by
 have hend : k = min code.length 4000 := by omega
 refine bq ?_
 refine sS [0, 2, 3, 4] [] ?_
 refine jp ?_
 refine rA ?_ (x := dp (qs := [(false, [sl _ _]), (false, [val _])]) (cs := [sl _ _, val _, val _]) (by decide) ZJ ZK ad5 (by exact rfl) (by exact (aI (by exact tI) (aI (by exact tI) tI))) rfl (by exact rfl))
 refine rX ?_ (x := (eD (ag := true) (cs := [sl _ _, val _, val _]) (by decide) (by exact tI)))
 refine rA ?_ (x := cA Cp.ptr)
 refine cT ?_
 exact ⟨31, by exact rfl, by subst hend; exact rfl⟩) : G := h
def LW (h : G := by
 refine rM ?_
 refine db ?_
 exact ⟨(by rw [hr]; exact rfl), rfl, (aI (by refine bk ?_; rw [hr]; rfl) tI)⟩) : G := h
def LX (h : G := by
 refine cT ?_
 exact ⟨(by rw [hr]; exact rfl), rfl, (aI (by refine bk ?_; rw [hr]; try rfl) tI)⟩) : G := h
def LY (h : G := by
 refine cb ?_
 refine nx (k + 1) (by omega) (e := (by exact aI (by exact bk (by omega)) tI)) (f := (by exact aI (by rw [eL, hcn]; rfl) (aI (by rw [eL, hcn]; try first | exact rfl | (simp only [bj]; exact rfl)) tI)))) : G := h
def LZ (h : G := by
 refine sG [0, 1, 4, 5, 6, 7, 8, 9, 5000] [0, 4, 5] ?_
 refine rA ?_ (x := lF lW)
 refine rA ?_ (x := cP (ms := [sl _ _]) (qs := [sl .v _]) (by decide) lZ (fun _ => rfl) (by exact nl rfl) (by exact rfl) (by exact (aB ao.nil)) (by exact (aj.cons (bor_sl _) aj.nil)))
 refine jS ?_
 refine rM ?_
 refine rA ?_ (x := dp (qs := [(false, [val _]), (false, [val _]), (false, [val _])]) (cs := [val _, val _, val _]) (by decide) pO Qs aea (by exact rfl) (by exact (aI (by exact tI) (aI (by exact tI) (aI (by exact tI) tI)))) rfl (by exact rfl))
 refine rA ?_ (x := bP (qs := [(true, [val _, val _, val _])]) (by decide) gH pO (by decide) rfl rfl rfl rfl rfl (by exact nl rfl) (by exact (aI (by exact tI) tI)) rfl)
 refine rA ?_ (x := en (by decide) gH pO rfl rfl (by decide) rfl (by simp only [aw, aM, List.length_cons, List.length_nil]; omega) (by simp only [aw, aM, List.length_cons, List.length_nil]; omega))
 refine Ph ?_
 refine sO [(0, _), (1, _), (4, _), (5, _), (6, _), (7, _), (8, _), (9, _), (5000, _)] [(0, _), (4, _), (5, (52, [val _, val _, sl _ _, sl _ _]))] ?_
 refine bd ?_
 exact LY) : G := h
def Ma (h : G := by
 have hbad : dG pY cf pZ l = false := pG hlt (Bool.eq_false_iff.2 fun hx => by
  have hx := iz.1 hx
  rw [hgk] at hx
  obtain ⟨hx1, hx2⟩ := hx
  first
  | (simp_all; done)
  | (simp only [decide_eq_true_eq, pZ] at *; by_cases h0 : k = 0 <;> (try rw [hgp (by omega)] at hx2) <;> omega))
 refine tq ?_
 exact rb (by simp [io, hbad])) : G := h
def Mb (h : G := by
 refine qP ?_
 refine cb ?_
 refine nx (k + 1) (by exact ⟨by omega, by rw [wq, ha, Bool.true_and]; refine iz.2 ⟨by rw [hgk]; first | assumption | simp_all, ?_⟩; rcases Nat.eq_zero_or_pos k with h0 | h0; (· exact .inl h0); (· right; rw [hgk, hgp h0]; first | (simp only [decide_eq_true_eq, pZ] at *; omega) | (simp_all; done))⟩)) : G := h
def Cq (h : G := by
 have hno : mR rows n = false := by rw [← Bool.not_eq_true]; intro hc_; obtain ⟨h1_, h2_, h3_⟩ := Ga hc_; have h4_ : aK n 1 8 = true := (by simp [aK]; omega); (first | omega | (simp_all; done) | (simp_all; omega))
 refine OB ?_
 refine Py ?_
 exact (bw 4 (bw _ (aI (by exact rfl) (aI (by refine dZ ?_; rw [So hno]; exact rfl) (aI cW (aI (fun h => nomatch h) (aI (by refine fS ?_; rw [So hno]) tI)))))))) : G := h
def Mc (h : G := by
 refine sS [0, 3, 4, 5, 6, 29, 5000] [0, 3, 4] ?_
 refine rA ?_ (x := cM Cp.ptr)
 refine iT ?_
 refine rA ?_ (x := hO (bx := 0) (qs := [(false, [val _])]) (as_ := [(false, [val _])]) (by decide) Rz rfl (by exact (aI (by exact tI) tI)) (by exact (aI (aI rfl (ak ao.nil)) tI)) (by exact (aj.cons (hbo _) (aj.cons (bor_val _) (aj.cons (bor_val _) aj.nil)))) (by exact (gR (aj.cons (bor_val _) aj.nil) gr)) (by exact (Uh hbo)))
 refine MX ?_
 refine cT ?_
 exact ⟨(by rw [Ss h0_, huk]; exact rfl), rfl, (bw 4 (bw _ (aI (by exact rfl) (aI (by refine dZ ?_; rw [Ss h0_, huk]; exact rfl) (aI ma (aI (fun h => nomatch h) tI))))))⟩) : G := h
def Md (h : G := by
 refine sS [0, 3, 4, 5, 6, 29, 5000] [0, 3, 4] ?_
 refine Om ?_
 refine MX ?_
 refine cT ?_
 exact ⟨(by rw [Su h0_ h1_, huk]; exact rfl), rfl, (bw 4 (bw _ (aI (by exact rfl) (aI (by refine dZ ?_; rw [Su h0_ h1_, hu]; exact rfl) (aI ma (aI (fun h => nomatch h) tI))))))⟩) : G := h
def Me (h : G := by
 refine bb ?_
 refine sS [0, 3, 4, 5, 6, 29, 5000] [0, 3, 4] ?_
 refine iT ?_
 refine rS ?_
 refine sS [0, 3, 4, 5, 6, 7, 29, 5000] [0, 3, 4] ?_
 refine Om ?_
 refine rM ?_
 refine iT ?_
 refine rA ?_ (x := dp (qs := [(false, [val _]), (true, [val _, sl _ _]), (false, [val _]), (false, [val _])]) (cs := [val _, val _, sl _ _, val _, val _]) (by decide) zI zJ Ui (by exact rfl) (by exact (aI (bM rfl) (aI (by exact tI) (aI (by exact tI) (aI (by exact tI) tI))))) rfl (by exact rfl))
 refine rA ?_ (x := bh (ag := true) (vs := [val _, val _, sl _ _, val _, val _]) ma (by exact tI) (by exact rfl) (by exact nl rfl))
 refine cT ?_
 exact ⟨(by rw [Sv h0_ h1_, huk]; exact rfl), rfl, (bw 4 (bw _ (aI (by exact rfl) (aI (by refine dZ ?_; rw [Sv h0_ h1_, huk, hu]; exact rfl) (aI ma (aI (fun h => nomatch h) tI))))))⟩) : G := h
def Mf (h : G := by
 refine be ?_
 refine sS [0, 3, 4, 5, 6, 5000] [0, 3, 4] ?_
 refine iT ?_
 refine mp ?_
 refine yO ?_
 refine sc ?_ ?_ <;> intro hbb
 have h0_ : (cI c s).1 = 0 := by rw [huk]; first | exact hbb | simpa using hbb
 exact Mc
 have h0_ : ¬ (cI c s).1 = 0 := by rw [huk]; first | exact hbb | simpa using hbb
 refine yO ?_
 refine sc ?_ ?_ <;> intro hbc
 have h1_ : (cI c s).1 = 1 := by rw [huk]; first | exact hbc | simpa using hbc
 exact Md
 have h1_ : ¬ (cI c s).1 = 1 := by rw [huk]; first | exact hbc | simpa using hbc
 exact Me) : G := h
def Mg (h : G := by
 refine cT ?_
 exact (bw 2 (bw _ (aI (by exact rfl) (aI (by exact rfl) (aI bU (aI (fun h => nomatch h) (aI (by exact rfl) tI)))))))) : G := h
def Mh (h : G := by
 refine cT ?_
 exact ⟨(by first | (rw [SO hk0]; exact rfl) | (rw [SP hk0 hk2]; exact rfl) | (rw [SQ hk0 hk2 hk3]; exact rfl) | (rw [SR hk0 hk2 hk3]; exact rfl)), rfl, (bw 4 (bw _ (aI (by exact rfl) (aI (by refine dZ ?_; first | (rw [SO hk0]; exact rfl) | (rw [SP hk0 hk2]; exact rfl) | (rw [SQ hk0 hk2 hk3]; exact rfl) | (rw [SR hk0 hk2 hk3]; exact rfl)) (aI tT (aI (fun h => nomatch h) tI))))))⟩) : G := h
def Mi (h : G := by
 refine rA ?_ (x := bh (ag := true) (vs := [val _, val _, val _, sl _ _, sl _ _, val _, val _, val _, val _, sl _ _, val _, val _, val _]) tT (by exact tI) (by exact rfl) (by exact nl rfl))
 exact Mh) : G := h
def Mj (h : G := by
 refine rA ?_ (x := dp (qs := [(false, [val _]), (false, [val _])]) (cs := [val _, val _, val _, sl _ _, sl _ _, val _, val _, val _, val _, sl _ _, val _, val _, val _]) (by decide) rp zK GR (by exact rfl) (by exact (aI (bM rfl) (aI (by exact tI) tI))) rfl (by exact rfl))
 exact Mi) : G := h
def Mk (h : G := by
 refine sc ?_ ?_ <;> intro hbb
 have hk0 : (cq c).1 = 0 ∨ (cq c).1 = 1 := by first | assumption | exact .inr hbb | exact .inr (by simpa using hbb)
 refine sS [0, 3, 4, 7, 5000] [0, 3, 4] ?_
 refine rA ?_ (x := cM Cp.ptr)
 refine iT ?_
 refine rA ?_ (x := hO (bx := 0) (qs := [(false, [val _])]) (as_ := [(false, [val _])]) (by decide) YE rfl (by exact (aI (by exact tI) tI)) (by exact (aI (aI rfl (ak ao.nil)) tI)) (by exact (aj.cons (hbo _) (aj.cons (bor_val _) (aj.cons (bor_val _) aj.nil)))) (by exact (gR (aj.cons (bor_val _) aj.nil) gr)) (by exact (aec hbo)))
 refine rX ?_ (x := (cr (by decide) kJ oK))
 refine yx ?_
 refine sO [(0, _), (3, _), (4, _), (5, _), (7, _), (5000, _)] [(0, _), (3, _), (4, _), (5, (52, [val _, val _, sl _ _, sl _ _]))] ?_
 refine da cG ?_
 refine dA 0 ?_ (x := cP (ms := [val _, val _, sl _ _, sl _ _]) (qs := [val _, val _, sl .v _, sl .v _]) (by decide) eQ (fun h => nomatch h) (by exact nl rfl) (by exact rfl) (by exact (ak (ak (aB (aB ao.nil))))) (by exact lq))
 refine dA 0 ?_ (x := cM Cp.ptr)
 refine dA 0 ?_ (x := bP (qs := [(false, [val _]), (false, [val _]), (false, [val _]), (false, [val _])]) (by decide) bC eg (by decide) rfl rfl rfl rfl rfl (by exact nl rfl) (by exact (aI (bM rfl) (aI (bM rfl) (aI (bM rfl) (aI (bM rfl) tI))))) rfl)
 refine dA 6 ?_ (x := hO (bx := 0) (qs := [(false, [sl _ _])]) (as_ := [(false, [sl .v _])]) (by decide) Rr rfl (by exact (aI (by exact tI) tI)) (by exact (aI (aI rfl (aB ao.nil)) tI)) (by exact (aj.cons (hbo _) (aj.cons (bor_val _) (aj.cons (bor_val _) aj.nil)))) (by exact (gR (aj.cons (bor_sl _) aj.nil) gr)) (by exact (Uf (l := [0, 0, 1, 2]) hbo (by decide) (by decide))))
 refine dA 15 ?_ (x := dp (qs := [(false, [val _]), (true, [val _, val _, sl _ _, sl _ _]), (false, [val _])]) (cs := [val _, val _, val _, sl _ _, sl _ _, val _, val _, val _, val _, sl _ _, val _, val _, val _]) (by decide) rp zK GR (by exact rfl) (by exact (aI (bM rfl) (aI (by exact tI) (aI (by exact tI) tI)))) rfl (by exact rfl))
 refine dA 31 ?_ (x := bh (ag := true) (vs := [val _, val _, val _, sl _ _, sl _ _, val _, val _, val _, val _, sl _ _, val _, val _, val _]) tT (by exact tI) (by exact rfl) (by exact nl rfl))
 exact Mh
 have hk0 : ¬ ((cq c).1 = 0 ∨ (cq c).1 = 1) := by intro hc_; rcases hc_ with hc_ | hc_ <;> first | exact hk00 hc_ | exact hbb hc_ | (simp_all; done)
 refine Ea ?_
 refine sc ?_ ?_ <;> intro hbc
 have hk2 : (cq c).1 = 2 := hbc
 refine sS [0, 3, 4, 7, 5000] [0, 3, 4] ?_
 refine iT ?_
 exact Mj
 have hk2 : ¬ (cq c).1 = 2 := hbc
 refine Ea ?_
 refine sc ?_ ?_ <;> intro hbd
 have hk3 : (cq c).1 = 3 := hbd
 refine sS [0, 3, 4, 7, 5000] [0, 3, 4] ?_
 refine iT ?_
 refine rA ?_ (x := jm)
 exact Mj
 have hk3 : ¬ (cq c).1 = 3 := hbd
 refine bb ?_
 refine sS [0, 3, 4, 7, 5000] [0, 3, 4] ?_
 refine rA ?_ (x := cM Cp.ptr)
 refine rA ?_ (x := lD [sl .v _, val _] cW)
 refine rA ?_ (x := hO (bx := 0) (qs := [(true, [sl _ _, val _])]) (as_ := [(true, [sl .v _, val _])]) (by decide) Rv rfl (by exact (aI (by exact tI) tI)) (by exact (aI (aI rfl (aB (ak ao.nil))) tI)) (by exact (aj.cons (hbo _) (aj.cons (bor_val _) (aj.cons (bor_val _) aj.nil)))) (by exact (gR (aj.cons (bor_sl _) (aj.cons (bor_val _) aj.nil)) gr)) (by exact (Uj hbo (by assumption))))
 refine rA ?_ (x := dp (qs := [(false, [val _]), (true, [val _, val _, sl _ _, val _, val _])]) (cs := [val _, val _, val _, sl _ _, sl _ _, val _, val _, val _, val _, sl _ _, val _, val _, val _]) (by decide) rp zK GR (by exact rfl) (by exact (aI (bM rfl) (aI (by exact tI) tI))) rfl (by exact rfl))
 exact Mi) : G := h
def Cr (h : G := by
 refine sG [0, 3, 4, 5, 6, 7, 8, 9, 10, 11, 12, 13, 14] [3, 8, 10] ?_
 refine cb ?_
 refine nx (j + 1) (by omega) (e := (by exact aI (by first | exact bk (acn hjl hc).symm | exact bk (aco hjl hc).symm) (aI (by exact bk (by omega)) tI)))) : G := h
def Ml (h : G := by
 refine sG [0, 3, 4, 5, 6, 7, 8, 9, 10, 11, 12, 13, 14] [3, 8, 10] ?_
 refine rM ?_
 refine rS ?_
 exact Cr) : G := h
def Mm (h : G := by
 exact absurd hgd.1 (by first | (simpa [kX] using gc) | (have hh := gc; simp at hh; unfold kX; omega))) : G := h
def Mn (h : G := by
 refine bb ?_
 refine sG [0, 3, 4, 5, 6, 7, 8, 9, 10, 11, 12, 13, 14] [3, 8, 10] ?_
 refine cb ?_
 refine nx (q + 1) (by exact ⟨by omega, by omega⟩) (e := (by exact aI (by exact bk (by omega)) tI))) : G := h
def Mo (h : G := by
 refine bq ?_
 refine sQ [0, 3, 4, 5, 6, 7, 8, 9, 10, 11, 12] [3, 8, 10] ?_
 refine IC (d := 10) [sl .v _, val _, val _, sl .v _, sl .v _, sl .v _, sl .v _, val _] (by exact rfl) (by exact (ao.cons (PV.to_map (fun _ => (ao.cons (PV.to_map (fun _ => (ak (ao.cons (PV.to_map (fun _ => (ak ao.nil))) (ak (ak ao.nil)))))) ao.nil))) (ak (ak (ao.cons (PV.to_map (fun _ => (ak ao.nil))) (ao.cons (PV.to_map (fun _ => (ak (ak (ao.cons (PV.to_map (fun _ => (ak (ak (ak ao.nil))))) (ao.cons (PV.to_map (fun _ => (ak ao.nil))) (ak (ao.cons (PV.to_map (fun _ => (ak ao.nil))) (ak (ak (ak (ao.cons (PV.to_map (fun _ => (ak (ao.cons (PV.to_map (fun _ => (ak ao.nil))) ao.nil)))) ao.nil)))))))))))) (ao.cons (PV.to_map (fun _ => (ak (ak (ao.cons (PV.to_map (fun _ => (ak (ak (ak ao.nil))))) (ao.cons (PV.to_map (fun _ => (ak ao.nil))) (ak (ak (ao.cons (PV.to_map (fun _ => (ak (ao.cons (PV.to_map (fun _ => (ak ao.nil))) ao.nil)))) ao.nil))))))))) (ao.cons (PV.to_map (fun _ => (ak (ak (ao.cons (PV.to_map (fun _ => (ak ao.nil))) (ao.cons (PV.to_map (fun _ => (ak ao.nil))) (ao.cons (PV.to_map (fun _ => (ak ao.nil))) ao.nil))))))) (ak ao.nil))))))))) (by exact lq) ?_
 refine sO [(0, _), (3, _), (4, _), (5, _), (6, _), (7, _), (8, _), (9, _), (10, _), (11, _), (12, _)] [(3, _), (8, _), (10, (32, [sl _ _, val _, val _, sl _ _, sl _ _, sl _ _, sl _ _, val _]))] ?_
 refine bd ?_
 refine rA ?_ (x := lD [sl .v _, val _, val _, sl .v _, sl .v _, sl .v _, sl .v _, val _] bU)
 refine rA ?_ (x := bh (ag := true) (vs := [sl _ _, val _, val _, sl _ _, sl _ _, sl _ _, sl _ _, val _]) bU (by exact tI) (by exact rfl) (by exact nl rfl))
 refine sO [(0, _), (3, _), (4, _), (5, _), (6, _), (7, _), (8, _), (9, _), (10, _), (11, _), (12, _)] [(3, (32, [sl _ _, val _, val _, sl _ _, sl _ _, sl _ _, sl _ _, val _])), (8, _), (10, _)] ?_
 refine pE ?_
 refine nx (m + 1) (by omega) (e := (by exact aI (by exact rfl) (aI (by exact rfl) (aI (by exact bk (by omega)) tI)))) (f := (by exact aI (by first | exact rfl | (rw [hxe]; exact rfl)) tI))) : G := h
def Mp (h : G := by
 refine dJ ?_
 refine Nh ?_
 refine Nd ?_
 refine Mv ?_
 refine sG [0, 3, 4, 5, 6, 7, 8, 9, 10, 11] [3, 8, 10] ?_
 refine sW ?_
 refine tC ?_
 refine MC ?_
 rintro q ⟨hq0, hq1⟩
 refine de ?_
 refine we ?_
 refine sc ?_ ?_ <;> intro hbe
 have hql : q < (aY (aZ (ax code hb)) (aQ (ax code hb)) (m + 1)).e.Done.length := by omega
 have hgd := TC hnw hq0 hql
 have hwf := di (f := ia) hql
 have hwf2 : fC (aY (aZ (ax code hb)) (aQ (ax code hb)) (m + 1)).e.Done ≤ bp (aY (aZ (ax code hb)) (aQ (ax code hb)) (m + 1)).e := by { unfold bp; omega }
 unfold fC at hwf2
 have hwf3 : dj (aY (aZ (ax code hb)) (aQ (ax code hb)) (m + 1)).e.Done[q].Rows ≤ ia (aY (aZ (ax code hb)) (aQ (ax code hb)) (m + 1)).e.Done[q] := by { unfold ia; omega }
 have hti1 := wY (c := (ax code hb)) (m + 1) hlt
 have hla := AP (aY (aZ (ax code hb)) (aQ (ax code hb)) (m + 1)).ids (aY (aZ (ax code hb)) (aQ (ax code hb)) (m + 1)).e.Done[q].aeA.Id (aY (aZ (ax code hb)) (aQ (ax code hb)) (m + 1)).ids.length
 have hlw := hti1.hl
 have hl0 := hgd.1
 unfold kX at hl0
 have hlk : (ip (aY (aZ (ax code hb)) (aQ (ax code hb)) (m + 1)).ids (aY (aZ (ax code hb)) (aQ (ax code hb)) (m + 1)).e.Done[q].aeA.Id (aY (aZ (ax code hb)) (aQ (ax code hb)) (m + 1)).ids.length).toNat < (aY (aZ (ax code hb)) (aQ (ax code hb)) (m + 1)).want.length := by omega
 refine bi ?_
 refine sT [0, 3, 4, 5, 6, 7, 8, 9, 10, 11, 12] [3, 8, 10] ?_
 refine eH ?_
 refine sS [0, 3, 4, 5, 6, 7, 8, 9, 10, 11, 12, 13] [3, 8, 10] ?_
 refine ca ?_
 refine MD ?_
 rintro j hj
 refine jR ?_
 refine sc ?_ ?_ <;> intro hbf
 have hjl : j < (aY (aZ (ax code hb)) (aQ (ax code hb)) (m + 1)).ids.length := by omega
 refine dh ?_
 refine sQ [0, 3, 4, 5, 6, 7, 8, 9, 10, 11, 12, 13, 14] [3, 8, 10] ?_
 refine ox ?_
 refine dA 0 ?_ (x := lF jY)
 refine dA 16 ?_ (x := lD [sl .v _] kd)
 refine dA 0 ?_ (x := sM)
 refine Od ?_
 refine PO ?_
 refine dA 2047 ?_ (x := dQ)
 refine sc ?_ ?_ <;> intro hbg
 have hc := hbg
 exact Ml
 have hc := hbg
 refine bb ?_
 exact Cr
 have hje : j = (aY (aZ (ax code hb)) (aQ (ax code hb)) (m + 1)).ids.length := by omega
 subst hje
 refine er ?_
 refine sQ [0, 3, 4, 5, 6, 7, 8, 9, 10, 11, 12, 13, 14] [3, 8, 10] ?_
 refine qE ?_
 refine dA 1 ?_ (x := dq)
 refine dA 3 ?_ (x := sM)
 refine dx 128 (fun gc sgc => ?_) (fun gc sgc => ?_)
 exact Mm
 refine dB 7 gc ?_ (x := lF jY)
 refine dB 15 gc ?_ (x := lD [sl .v _] kd)
 refine dB 7 gc ?_ (x := sM)
 refine NZ ?_
 refine Nu ?_
 refine dB 7 gc ?_ (x := vM false [sl .v _])
 refine dB 7 gc ?_ (x := sM)
 refine MV ?_
 refine OC ?_
 refine dA 65535 ?_ (x := aF gc)
 refine sc ?_ ?_ <;> intro hbg
 exact absurd hbg (by have h2_ := hgd.2; unfold kX at h2_; rw [mg hlk] at h2_; rw [h2_]; first | (unfold iH; simp [lQ]; done) | (simp [iH, lQ]; done))
 exact Mn
 exact Mo) : G := h
def Mq (h : G := by
 refine sG [0, 3, 4, 5, 6, 7, 15, 16, 17, 18, 19, 20, 21] [3] ?_
 refine cb ?_
 refine nx (t + 1) (by omega) (e := (by exact aI (by first | exact bG (by rw [Tk, if_pos hbt, bj]; rfl) | exact bG (by rw [Tk, if_neg hbt])) (aI (by first | exact bk (by rw [uo, if_pos hbt]) | exact bk (by rw [uo, if_neg hbt, Int.add_zero])) (aI (by exact bk (by omega)) tI))))) : G := h
def Cs (h : H) (w : ah G H := by
 intro z
 refine rA ?_ (x := bP (qs := [(false, [val _])]) (by decide) bC eg (by decide) rfl rfl rfl rfl rfl (by exact nl rfl) (by exact (aI (by exact tI) tI)) rfl)
 refine rA ?_ (x := en (by decide) bC eg rfl rfl (by decide) rfl (by simp only [aw, aM, List.length_cons, List.length_nil]; omega) (by simp only [aw, aM, List.length_cons, List.length_nil]; omega))
 exact z.g) : G := ai w h
def qx (h : H) (w : ah G H := by
 intro z
 refine rA ?_ (x := cP (ms := [sl _ _, val _, val _, sl _ _, sl _ _, sl _ _, sl _ _, val _]) (qs := [sl .v _, val _, val _, sl .v _, sl .v _, sl .v _, sl .v _, val _]) (by decide) bU (fun h => nomatch h) (by exact nl rfl) (by exact rfl) (by exact (aB (ak (ak (aB (aB (aB (aB (ak ao.nil))))))))) (by exact lq))
 refine rA ?_ (x := bh (ag := true) (vs := [sl _ _, val _, val _, sl _ _, sl _ _, sl _ _, sl _ _, val _]) bU (by exact tI) (by exact rfl) (by exact nl rfl))
 exact z.g) : G := ai w h
def iT (h : H) (w : ah G H := by
 intro z
 refine rA ?_ (x := cM Cp.ptr)
 refine rA ?_ (x := hO (bx := 0) (qs := [(false, [val _])]) (as_ := [(false, [val _])]) (by decide) wF rfl (by exact (aI (bM rfl) tI)) (by exact (aI (aI rfl (ak ao.nil)) tI)) (by exact (aj.cons (hbo _) (aj.cons (bor_val _) (aj.cons (bor_val _) aj.nil)))) (by exact (gR (aj.cons (bor_val _) aj.nil) gr)) (by exact (xb hbo (by omega))))
 exact z.g) : G := ai w h
def eG (h : H) (w : ah G H := by
 intro z
 refine bb ?_
 refine be ?_
 exact z.g) : G := ai w h
def yh (h : H) (w : ah G H := by
 intro z
 refine rA ?_ (x := cP (ms := [sl _ _, val _]) (qs := [sl .v _, val _]) (by decide) cW (fun h => nomatch h) (by exact nl rfl) (by exact rfl) (by exact (aB (ak ao.nil))) (by exact (aj.cons (bor_sl _) (aj.cons (bor_val _) aj.nil))))
 refine rA ?_ (x := bh (ag := true) (vs := [sl _ _, val _]) cW (by exact tI) (by exact rfl) (by exact nl rfl))
 exact z.g) : G := ai w h
def bi (h : H) (w : ah G H := by
 intro z
 refine eG ?_
 refine mp ?_
 exact z.g) : G := ai w h
def ob (h : H) (w : ah G H := by
 intro z
 refine rX ?_ (x := (cr (by decide) kI kK))
 refine rA ?_ (x := bh (ag := true) (vs := [sl _ _, val _, val _, sl _ _, sl _ _, sl _ _, sl _ _, val _]) bU (by exact tI) (by exact rfl) (by exact nl rfl))
 exact z.g) : G := ai w h
def jO (h : H) (w : ah G H := by
 intro z
 refine sR ?_
 refine rX ?_ (x := (eD (ag := true) (cs := [sl _ _, val _, val _, sl _ _, sl _ _, sl _ _, sl _ _, val _]) (by decide) (by exact tI)))
 exact z.g) : G := ai w h
def Mr (h : H) (w : ah G H := by
 intro z
 refine rA ?_ (x := bP (qs := [(true, [val _, sl _ _])]) (by decide) fD gJ (by decide) rfl rfl rfl rfl rfl (by exact nl rfl) (by exact (aI (by exact tI) tI)) rfl)
 refine rA ?_ (x := en (by decide) fD gJ rfl rfl (by decide) rfl (by simp only [aw, aM, List.length_cons, List.length_nil]; omega) (by simp only [aw, aM, List.length_cons, List.length_nil]; omega))
 exact z.g) : G := ai w h
def pk (h : H) (w : ah G H := by
 intro z
 refine rA ?_ (x := aU (by decide) bC (by exact tI) (by exact rfl) (by exact aW (by omega) rfl) (by exact rfl))
 refine rA ?_ (x := lE [val _] az)
 exact z.g) : G := ai w h
def yi (h : H) (w : ah G H := by
 intro z
 refine rA ?_ (x := gp (qs := [nv _ (val _), nv _ (val _), nv _ (sl .v _), nv _ (sl .v _), nv _ (val _), nv _ (sl .v _), nv _ (val _), nv _ (val _), nv _ (val _), nv _ (sl .v _)]) (by decide) gv (fun h => nomatch h) (by exact nl rfl) (by exact (ak (ak (ak (ak (ak (ak (ak (ak (ak (ak ao.nil))))))))))) (by exact lq))
 refine rA ?_ (x := bP (qs := [(true, [nv _ (val _), nv _ (val _), nv _ (sl _ _), nv _ (sl _ _), nv _ (val _), nv _ (sl _ _), nv _ (val _), nv _ (val _), nv _ (val _), nv _ (sl _ _)])]) (by decide) cg gI (by decide) rfl rfl rfl rfl rfl (by exact nl rfl) (by exact (aI (by exact tI) tI)) rfl)
 exact z.g) : G := ai w h
def yj (h : H) (w : ah G H := by
 intro z
 refine rA ?_ (x := cP (ms := [val _, val _, sl _ _, sl _ _, val _, sl _ _, val _, val _, val _, sl _ _]) (qs := [val _, val _, sl .v _, sl .v _, val _, sl .v _, val _, val _, val _, sl .v _]) (by decide) gv (fun h => nomatch h) (by exact nl rfl) (by exact rfl) (by exact (ak (ak (aB (aB (ak (aB (ak (ak (ak (aB ao.nil))))))))))) (by exact lq))
 refine rA ?_ (x := bP (qs := [(true, [val _, val _, sl _ _, sl _ _, val _, sl _ _, val _, val _, val _, sl _ _])]) (by decide) cg gI (by decide) rfl rfl rfl rfl rfl (by exact nl rfl) (by exact (aI (by exact tI) tI)) rfl)
 exact z.g) : G := ai w h
def eY (h : H) (w : ah G H := by
 intro z
 refine dA 0 ?_ (x := vM false [sl .v _])
 refine dA 0 ?_ (x := sM)
 exact z.g) : G := ai w h
def yk (h : H) (w : ah G H := by
 intro z
 refine rA ?_ (x := xn (cs := [sl _ _, val _, val _, sl _ _, sl _ _, sl _ _, sl _ _, val _]) (qs := [sl .v _, val _, val _, sl .v _, sl .v _, sl .v _, sl .v _, val _]) (by decide) (by exact rfl) (by exact (aB (ak (ak (aB (aB (aB (aB (ak ao.nil))))))))) (by exact lq))
 refine rA ?_ (x := nf (cs := [val _]) (by decide) (by exact rfl) (by exact (aj.cons (bor_val _) aj.nil)))
 exact z.g) : G := ai w h
def lh (h : H) (w : ah G H := by
 intro z
 refine rA ?_ (x := jm)
 refine rS ?_
 exact z.g) : G := ai w h
def yl (h : H) (w : ah G H := by
 intro z
 refine rA ?_ (x := aU (by decide) cg (by exact tI) (by exact rfl) (by exact aW (by omega) rfl) (by exact rfl))
 refine rA ?_ (x := nS (qs := [nv _ (val _), nv _ (val _), nv _ (sl .v _), nv _ (sl .v _), nv _ (val _), nv _ (sl .v _), nv _ (val _), nv _ (val _), nv _ (val _), nv _ (sl .v _)]) (by decide) gv (fun h => nomatch h) (by exact nl rfl) (by exact (ak (ak (ak (ak (ak (ak (ak (ak (ak (ak ao.nil))))))))))) (by exact lq))
 exact z.g) : G := ai w h
def uY (h : H) (w : ah G H := by
 intro z
 refine rA ?_ (x := bP (qs := []) (by decide) bC eg (by decide) rfl rfl rfl rfl rfl (by exact nl rfl) (by exact tI) rfl)
 refine rA ?_ (x := tA)
 exact z.g) : G := ai w h
def gS (h : H) (w : ah G H := by
 intro z
 refine rA ?_ (x := vM false [sl .v _])
 refine rA ?_ (x := lN bC)
 exact z.g) : G := ai w h
def mw (h : H) (w : ah G H := by
 intro z
 refine rX ?_ (x := (cr (by decide) oI oJ))
 refine rA ?_ (x := bh (ag := true) (vs := [sl _ _, val _]) cW (by exact tI) (by exact rfl) (by exact nl rfl))
 exact z.g) : G := ai w h
def Ms (h : H) (w : ah G H := by
 intro z
 refine sP [1, 2, 3, 4, 5, 6, 14, 57, 58, 59, 145, 146, 147, 6200] [1, 2, 4, 6] ?_
 refine sL [1, 2, 3, 4, 5, 6, 57, 58, 59, 145, 146] [1, 2, 6] (fun m : Nat => m ≤ e.aez.length) (fun m : Nat => [(14, RV.slc ce ((ko e (parts e).length m).map (aT aD ab ab aE ab))), (147, RV.int (m : Int)), (6200, RV.gh (bm 10 (za.drop m)) (bK (aT aD ab ab aE ab) (za.drop m)))]) (fun m : Nat => [(4, (32, [sl bz (e.Store.aey.map (aG aV ab)), val (vI e.Store.Now), val (vI e.aeD), sl ab (e.Order.map am), sl .v (za.map ff), sl bT ((e.Done ++ gm e (parts e).length m).map (bn aD ab aE ab)), sl bY ((gz e (parts e).length).map (bl ab ab ab)), val (vI e.Steps)]))]) (fun m : Nat => e.aez.length - m) 0 (by omega) (by exact aI (by exact rfl) (aI (by exact rfl) (aI (by exact rfl) tI))) (by exact aI (by show _ = some (32, [sl bz (e.Store.aey.map (aG aV ab)), val (vI e.Store.Now), val (vI e.aeD), sl ab (e.Order.map am), sl .v (za.map ff), sl bT ((e.Done ++ gm e (parts e).length 0).map (bn aD ab aE ab)), sl bY ((gz e (parts e).length).map (bl ab ab ab)), val (vI e.Steps)]); rw [show gm e (parts e).length 0 = [] from rfl, dP]; first | (rw [hled]; simp only [bj]; exact rfl) | (rw [hled]; exact rfl)) tI) ?_
 exact z.g) : G := ai w h
def Mt (h : H) (w : ah G H := by
 intro z
 refine rM ?_
 refine rA ?_ (x := hO (bx := 0) (qs := [(false, [val _])]) (as_ := [(false, [val _])]) (by decide) wF rfl (by exact (aI (by exact tI) tI)) (by exact (aI (aI rfl (ak ao.nil)) tI)) (by exact (aj.cons (hbo _) (aj.cons (bor_val _) (aj.cons (bor_val _) aj.nil)))) (by exact (gR (aj.cons (bor_val _) aj.nil) gr)) (by exact (xb hbo (by omega))))
 exact z.g) : G := ai w h
def oe (h : H) (w : ah G H := by
 intro z
 refine rA ?_ (x := lF jX)
 refine rA ?_ (x := lD [sl .v _] kc)
 exact z.g) : G := ai w h
def jo (h : H) (w : ah G H := by
 intro z
 refine sR ?_
 refine rX ?_ (x := (eD (ag := true) (cs := [sl _ _, val _]) (by decide) (by exact tI)))
 exact z.g) : G := ai w h
def sB (h : H) (w : ah G H := by
 intro z
 refine rA ?_ (x := lD [sl .v _, val _, val _, sl .v _, sl .v _, sl .v _, sl .v _, val _] bU)
 refine rA ?_ (x := cL [(true, [sl _ _, val _, val _, sl _ _, sl _ _, sl _ _, sl _ _, val _])] [(true, [sl .v _, val _, val _, sl .v _, sl .v _, sl .v _, sl .v _, val _])] RC (hs := by exact (TQ (by omega))))
 exact z.g) : G := ai w h
def og (h : H) (w : ah G H := by
 intro z
 refine bd ?_
 refine rA ?_ (x := lD [sl (.lo _) _, val _, val _, sl (.lo _) _, sl (.lo _) _, sl (.lo _) _, sl (.lo _) _, val _] bU)
 exact z.g) : G := ai w h
def eo (h : H) (w : ah G H := by
 intro z
 refine rA ?_ (x := kM)
 refine mp ?_
 exact z.g) : G := ai w h
def ca (h : H) (w : ah G H := by
 intro z
 refine rK ?_
 refine mp ?_
 exact z.g) : G := ai w h
def mx (h : H) (w : ah G H := by
 intro z
 refine rA ?_ (x := lF ee)
 refine rA ?_ (x := lD [sl .v _] dR)
 exact z.g) : G := ai w h
def qy (h : H) (w : ah G H := by
 intro z
 refine rX ?_ (x := (cr (by decide) gI rq))
 refine rA ?_ (x := bh (ag := true) (vs := [val _, val _, sl _ _, sl _ _, val _, sl _ _, val _, val _, val _, sl _ _]) gv (by exact tI) (by exact rfl) (by exact nl rfl))
 exact z.g) : G := ai w h
def qz (h : H) (w : ah G H := by
 intro z
 refine rA ?_ (x := aU (by decide) cg (by exact tI) (by exact rfl) (by exact aW (by omega) rfl) (by exact rfl))
 refine rA ?_ (x := lE [val _, val _, sl .v _, sl .v _, val _, sl .v _, val _, val _, val _, sl .v _] gv)
 exact z.g) : G := ai w h
def Mu (h : H) (w : ah G H := by
 intro z
 refine rA ?_ (x := lD [val _] az)
 refine rA ?_ (x := cL [(false, [val _]), (false, [val _]), (false, [val _])] [(false, [val _]), (false, [val _]), (false, [val _])] kG (hs := by exact kT))
 exact z.g) : G := ai w h
def eH (h : H) (w : ah G H := by
 intro z
 refine rK ?_
 refine be ?_
 exact z.g) : G := ai w h
def nk (h : H) (w : ah G H := by
 intro z
 refine sR ?_
 refine rX ?_ (x := (eD (ag := true) (cs := [val _, val _, sl _ _, sl _ _]) (by decide) (by exact tI)))
 exact z.g) : G := ai w h
def de (h : H) (w : ah G H := by
 intro z
 refine be ?_
 refine sR ?_
 refine rM ?_
 exact z.g) : G := ai w h
def my (h : H) (w : ah G H := by
 intro z
 refine rA ?_ (x := bh (ag := false) (vs := [val _]) az (by exact tI) (by exact rfl) (by exact nl rfl))
 refine be ?_
 exact z.g) : G := ai w h
def mz (h : H) (w : ah G H := by
 intro z
 refine zf ga ?_
 refine rA ?_ (x := aF ga)
 exact z.g) : G := ai w h
def uZ (h : H) (w : ah G H := by
 intro z
 refine rA ?_ (x := en (by decide) cg gI rfl rfl (by decide) rfl (by simp only [aw, aM, List.length_cons, List.length_nil]; omega) (by simp only [aw, aM, List.length_cons, List.length_nil]; omega))
 refine rA ?_ (x := tA)
 exact z.g) : G := ai w h
def qA (h : H) (w : ah G H := by
 intro z
 refine rA ?_ (x := aU (by decide) fL (by exact tI) (by exact rfl) (by exact aW (by omega) rfl) (by exact rfl))
 refine rA ?_ (x := lE [val _, val _, sl .v _, sl .v _, sl .v _] iX)
 exact z.g) : G := ai w h
def Ct (h : H) (w : ah G H := by
 intro z
 refine cV (d := 920) (by exact rfl) (ng (s.aey[i].set k (ja (s.Now + 1) s.aey[i][k])) hi (by exact rfl)) ?_
 refine nX (d := 6) (D := 920) (G := 2920) (e := 1) (A := []) (B := [val _]) (es := ((s.aey).set i (s.aey[i].set k (ja (s.Now + 1) s.aey[i][k]))).map (aG aV ab)) (by exact rfl) (by exact rfl) (by exact rfl) rfl (by rw [aw, List.length_set, aw]) (by intro c hc; obtain ⟨y, _, rfl⟩ := List.mem_map.1 hc; exact rfl) (by rw [aw]; exact hjk920) ?_
 exact z.g) : G := ai w h
def cF (h : H) (w : ah G H := by
 intro z
 refine rA ?_ (x := jm)
 refine rM ?_
 exact z.g) : G := ai w h
def Mv (h : H) (w : ah G H := by
 intro z
 refine sP [0, 3, 4, 5, 6, 7, 8, 9, 10, 11] [3, 8, 10] ?_
 refine cV (d := 8) (by exact rfl) (show _ = [sl bz ((aY (aZ (ax code hb)) (aQ (ax code hb)) (m + 1)).e.Store.aey.map (aG aV ab)), val (vI (aY (aZ (ax code hb)) (aQ (ax code hb)) (m + 1)).e.Store.Now), val (vI (aY (aZ (ax code hb)) (aQ (ax code hb)) (m + 1)).e.aeD), sl ab ((aY (aZ (ax code hb)) (aQ (ax code hb)) (m + 1)).e.Order.map am), sl ce ((aY (aZ (ax code hb)) (aQ (ax code hb)) (m + 1)).e.aez.map (aT aD ab ab aE ab)), sl bT ((aY (aZ (ax code hb)) (aQ (ax code hb)) (m + 1)).e.Done.map (bn aD ab aE ab)), sl bY ((aY (aZ (ax code hb)) (aQ (ax code hb)) (m + 1)).e.aeL.map (bl ab ab ab)), val (vI (aY (aZ (ax code hb)) (aQ (ax code hb)) (m + 1)).e.Steps)] from by first | (rw [hxe]; done) | (rw [hxe]; exact rfl)) ?_
 exact z.g) : G := ai w h
def sC (h : H) (w : ah G H := by
 intro z
 refine rA ?_ (x := aU (by decide) eP (by exact tI) (by exact rfl) (by exact aW (by omega) rfl) (by exact rfl))
 refine rA ?_ (x := lE [sl .v _] ie)
 exact z.g) : G := ai w h
def Cu (h : H) (w : ah G H := by
 intro z
 refine rA ?_ (x := bP (qs := []) (by decide) fD gJ (by decide) rfl rfl rfl rfl rfl (by exact nl rfl) (by exact tI) rfl)
 refine rA ?_ (x := tA)
 exact z.g) : G := ai w h
def pn (h : H) (w : ah G H := by
 intro z
 refine rA ?_ (x := aF gb)
 refine rM ?_
 exact z.g) : G := ai w h
def Cv (h : H) (w : ah G H := by
 intro z
 refine rA ?_ (x := lE [sl .v _] bF)
 refine rA ?_ (x := it (by decide) bC eg rfl rfl (by decide) (by first | (intro cs hcs; obtain ⟨x, _, rfl⟩ := List.mem_map.1 hcs; exact rfl) | simp) (by first | (intro cs hcs; obtain ⟨x, _, rfl⟩ := List.mem_map.1 hcs; exact (aj.cons (bor_val _) aj.nil)) | simp) (by simp only [aw, aM, List.length_cons, List.length_nil]; omega) (by simp only [aw, aM, List.length_cons, List.length_nil]; omega))
 exact z.g) : G := ai w h
def Cw (h : H) (w : ah G H := by
 intro z
 refine cV (d := 921) (by exact rfl) (ng (ja (s.Now + 1) s.aey[i][k]) hk (by exact rfl)) ?_
 refine nX (d := 920) (D := 921) (G := 2921) (e := 4) (A := _) (B := [] ++ _) (es := ((s.aey[i]).set k (ja (s.Now + 1) s.aey[i][k])).map (eN ab)) (by exact rfl) (by exact rfl) (by exact rfl) rfl (by rw [aw, List.length_set, aw]) (by intro c hc; obtain ⟨y, _, rfl⟩ := List.mem_map.1 hc; exact rfl) (by rw [aw]; exact hjk921) ?_
 exact z.g) : G := ai w h
def cm (h : H) (w : ah G H := by
 intro z
 refine rK ?_
 refine cT ?_
 exact z.g) : G := ai w h
def gt (h : H) (w : ah G H := by
 intro z
 refine rA ?_ (x := aO gb)
 refine rM ?_
 exact z.g) : G := ai w h
def oh (h : H) (w : ah G H := by
 intro z
 refine rA ?_ (x := lD [sl .v _] bF)
 refine rA ?_ (x := lN bC)
 exact z.g) : G := ai w h
def cb (h : H) (w : ah G H := by
 intro z
 refine rM ?_
 refine lh ?_
 exact z.g) : G := ai w h
def jP (h : H) (w : ah G H := by
 intro z
 refine rA ?_ (x := aO ga)
 refine rM ?_
 exact z.g) : G := ai w h
def dJ (h : H) (w : ah G H := by
 intro z
 refine be ?_
 refine be ?_
 exact z.g) : G := ai w h
def jp (h : H) (w : ah G H := by
 intro z
 refine rA ?_ (x := vM false [sl .v _])
 refine rM ?_
 exact z.g) : G := ai w h
def lK (h : H) (w : ah G H := by
 intro z
 refine rA ?_ (x := dQ)
 refine rS ?_
 exact z.g) : G := ai w h
def sD (h : H) (w : ah G H := by
 intro z
 refine rA ?_ (x := lF ee)
 refine rA ?_ (x := bh (ag := false) (vs := [sl _ _]) dR (by exact tI) (by exact rfl) (by exact nl rfl))
 exact z.g) : G := ai w h
def sE (h : H) (w : ah G H := by
 intro z
 refine rX ?_ (x := (cr (by decide) kf rr))
 refine rA ?_ (x := bh (ag := true) (vs := [val _, val _, sl _ _, sl _ _, sl _ _]) iX (by exact tI) (by exact rfl) (by exact nl rfl))
 exact z.g) : G := ai w h
def sI (h : H) (w : ah G H := by
 intro z
 refine rB ga ?_ (x := cL [(false, [val _]), (false, [val _]), (false, [val _])] [(false, [val _]), (false, [val _]), (false, [val _])] kG (hs := by exact kT))
 refine rB ga ?_ (x := nT)
 exact z.g) : G := ai w h
def ym (h : H) (w : ah G H := by
 intro z
 refine rA ?_ (x := lD [sl .v _, val _, val _, sl .v _, sl .v _, sl .v _, sl .v _, val _] bU)
 refine rA ?_ (x := cL [(true, [sl _ _, val _, val _, sl _ _, sl _ _, sl _ _, sl _ _, val _])] [(true, [sl .v _, val _, val _, sl .v _, sl .v _, sl .v _, sl .v _, val _])] RG (hs := by exact (TW (by omega))))
 exact z.g) : G := ai w h
def yn (h : H) (w : ah G H := by
 intro z
 refine rX ?_ (x := (cr (by decide) gI rq))
 refine rA ?_ (x := bh (ag := true) (vs := [nv _ (val _), nv _ (val _), nv _ (sl _ _), nv _ (sl _ _), nv _ (val _), nv _ (sl _ _), nv _ (val _), nv _ (val _), nv _ (val _), nv _ (sl _ _)]) gv (by exact tI) (by exact rfl) (by exact nl rfl))
 exact z.g) : G := ai w h
def Mw (h : H) (w : ah G H := by
 intro z
 refine rA ?_ (x := bP (qs := []) (by decide) cy fE (by decide) rfl rfl rfl rfl rfl (by exact nl rfl) (by exact tI) rfl)
 refine rA ?_ (x := tA)
 exact z.g) : G := ai w h
def lL (h : H) (w : ah G H := by
 intro z
 refine rA ?_ (x := cM Cp.ptr)
 refine rA ?_ (x := iP (by decide))
 exact z.g) : G := ai w h
def va (h : H) (w : ah G H := by
 intro z
 refine sR ?_
 refine rX ?_ (x := (eD (ag := true) (cs := [sl (.lo _) _, val _, val _, sl (.lo _) _, sl (.lo _) _, sl (.lo _) _, sl (.lo _) _, val _]) (by decide) (by exact tI)))
 exact z.g) : G := ai w h
def po (h : H) (w : ah G H := by
 intro z
 refine sR ?_
 refine rX ?_ (x := (eD (ag := true) (cs := [val _, val _, sl _ _, sl _ _, sl _ _]) (by decide) (by exact tI)))
 exact z.g) : G := ai w h
def pp (h : H) (w : ah G H := by
 intro z
 refine rA ?_ (x := vM false [sl .v _])
 refine rA ?_ (x := lN cy)
 exact z.g) : G := ai w h
def vb (h : H) (w : ah G H := by
 intro z
 refine rA ?_ (x := aU (by decide) fD (by exact tI) (by exact rfl) (by exact aW (by omega) rfl) (by exact rfl))
 refine rA ?_ (x := lE [val _, sl .v _] fj)
 exact z.g) : G := ai w h
def Mx (h : H) (w : ah G H := by
 intro z
 refine sP [1, 2, 4, 5, 6] [2, 4, 5] ?_
 refine sL [1, 2, 4, 5] [2, 4] (fun k : Nat => k ≤ kt n) (fun k : Nat => [(6, RV.int (k : Int))]) (fun k : Nat => [(5, (32, [sl bz ((iG e k).Store.aey.map (aG aV ab)), val (vI (iG e k).Store.Now), val (vI (iG e k).aeD), sl ab ((iG e k).Order.map am), sl ce ((iG e k).aez.map (aT aD ab ab aE ab)), sl bT ((iG e k).Done.map (bn aD ab aE ab)), sl bY ((iG e k).aeL.map (bl ab ab ab)), val (vI (iG e k).Steps)]))]) (fun k : Nat => kt n - k) 0 (by omega) (by exact aI (by exact rfl) tI) (by exact aI (by exact rfl) tI) ?_
 exact z.g) : G := ai w h
def dh (h : H) (w : ah G H := by
 intro z
 refine bi ?_
 refine be ?_
 exact z.g) : G := ai w h
def vc (h : H) (w : ah G H := by
 intro z
 refine rB ga ?_ (x := lD [val _] az)
 refine rB ga ?_ (x := cL [(false, [val _]), (false, [val _]), (false, [val _])] [(false, [val _]), (false, [val _]), (false, [val _])] fX (hs := by exact gl))
 exact z.g) : G := ai w h
def sJ (h : H) (w : ah G H := by
 intro z
 refine rA ?_ (x := aU (k := k2) (by decide) bC (by exact tI) (by rfl) (by exact aW (by omega) rfl) (by exact rfl))
 refine rA ?_ (x := lE [val _] az)
 exact z.g) : G := ai w h
def oi (h : H) (w : ah G H := by
 intro z
 refine rA ?_ (x := vM false [sl .v _])
 refine rA ?_ (x := lN fD)
 exact z.g) : G := ai w h
def vd (h : H) (w : ah G H := by
 intro z
 refine rA ?_ (x := lD [val _] az)
 refine rA ?_ (x := cL [(false, [val _]), (false, [val _]), (false, [val _])] [(false, [val _]), (false, [val _]), (false, [val _])] fX (hs := by exact gl))
 exact z.g) : G := ai w h
def ve (h : H) (w : ah G H := by
 intro z
 refine rX ?_ (x := (cr (by decide) fE ny))
 refine rA ?_ (x := bh (ag := true) (vs := [val _, sl _ _, val _, val _]) fq (by exact tI) (by exact rfl) (by exact nl rfl))
 exact z.g) : G := ai w h
def vf (h : H) (w : ah G H := by
 intro z
 refine rA ?_ (x := lF jY)
 refine rA ?_ (x := lD [sl .v _] kd)
 exact z.g) : G := ai w h
def Cx (h : H) (w : ah G H := by
 intro z
 refine rA ?_ (x := iw (k := i) (G := 2900) (by decide) eP (by exact tI) (by first | rfl | omega) (by simp only [aw]; omega))
 refine rA ?_ (x := Vq (f := lA) (e := 1) (k := i) (qs := [sl .v _]) (fun _ => rfl) rfl (by omega) (by decide) ie (fun _ => rfl) (by exact (aB ao.nil)) (by exact (aj.cons (bor_sl _) aj.nil)))
 exact z.g) : G := ai w h
def cn (h : H) (w : ah G H := by
 intro z
 refine sR ?_
 refine rA ?_ (x := dq)
 refine be ?_
 exact z.g) : G := ai w h
def vg (h : H) (w : ah G H := by
 intro z
 refine rA ?_ (x := aU (by decide) cy (by exact tI) (by exact rfl) (by exact aW (by omega) rfl) (by exact rfl))
 refine rA ?_ (x := lE [val _, sl .v _, val _, val _] fq)
 exact z.g) : G := ai w h
def Cy (h : H) (w : ah G H := by
 intro z
 refine dA 7 ?_ (x := iw (k := i) (G := 2920) (by decide) eP (by exact tI) (by omega) (by first | (rw [aw]; exact hi) | exact hi))
 refine dA 15 ?_ (x := qk (o := 0) (qs := [val _]) (by omega) (by decide) ie (fun _ => rfl) (by exact nl rfl) (by exact (ak ao.nil)) (by exact (aj.cons (bor_val _) aj.nil)))
 exact z.g) : G := ai w h
def My (h : H) (w : ah G H := by
 intro z
 refine dA 8160 ?_ (x := dp (qs := [(true, [nv _ (val _), nv _ (val _), nv _ (sl _ _), nv _ (sl _ _)]), (false, [val _]), (false, [val _]), (false, [nv _ (sl _ _)])]) (cs := [nv _ (val _), nv _ (val _), nv _ (sl _ _), nv _ (sl _ _), val _, val _, nv _ (sl _ _)]) (by decide) nw zL adK (by exact rfl) (by exact (aI (by exact tI) (aI (by exact tI) (aI (by exact tI) (aI (by exact tI) tI))))) rfl (by exact rfl))
 refine dA 16352 ?_ (x := bP (qs := [(true, [nv _ (val _), nv _ (val _), nv _ (sl _ _), nv _ (sl _ _), val _, val _, nv _ (sl _ _)])]) (by decide) jw nw (by decide) rfl rfl rfl rfl rfl (by exact nl rfl) (by exact (aI (by exact tI) tI)) rfl)
 exact z.g) : G := ai w h
def Mz (h : H) (w : ah G H := by
 intro z
 refine dX 6 ?_ (x := (aU (by decide) pM (by exact tI) (by exact rfl) (by exact aW (by omega) rfl) (by exact rfl)))
 refine dX 14 ?_ (x := (nS (qs := [val _, val _, val _, sl .v _, sl .v _, val _, val _, val _, val _, sl .v _, val _, val _, val _]) (by decide) tT (fun h => nomatch h) (by exact nl rfl) (by exact (ak (ak (ak (aB (aB (ak (ak (ak (ak (aB (ak (ak (ak ao.nil)))))))))))))) (by exact lq)))
 exact z.g) : G := ai w h
def MA (h : H) (w : ah G H := by
 intro z
 refine sO [(1, _), (2, _), (3, _), (4, _), (5, _), (6, _), (8, _), (9, _), (10, _), (11, _), (57, _), (58, _), (59, _), (77, _), (78, _), (79, _), (2900, _), (6100, _)] [(1, (32, [sl (.lo _) _, val _, val _, sl (.lo _) _, sl (.lo _) _, sl (.lo _) _, sl (.lo _) _, val _])), (2, (32, [sl _ _, val _, val _, sl _ _, sl _ _, sl _ _, sl _ _, val _])), (4, (32, [sl _ _, val _, val _, sl _ _, val _, sl _ _, sl _ _, val _])), (6, (70, [val _, val _, sl _ _, sl _ _, sl _ _])), (10, (108, [val _, val _, sl _ _, sl _ _, val _, sl _ _, val _, val _, val _, sl _ _])), (900, (108, _ ++ ([val _, val _, sl _ _, sl _ _, val _, sl _ _, val _, val _, val _, sl _ _] ++ _)))] ?_
 refine bd ?_
 exact z.g) : G := ai w h
def MB (h : H) (w : ah G H := by
 intro z
 refine rA ?_ (x := bP (qs := [(false, [val _]), (false, [val _]), (false, [val _])]) (by decide) bC eg (by decide) rfl rfl rfl rfl rfl (by exact nl rfl) (by exact (aI (bM rfl) (aI (bM rfl) (aI (bM rfl) tI)))) rfl)
 refine rA ?_ (x := hO (bx := 0) (qs := [(false, [sl _ _])]) (as_ := [(false, [sl .v _])]) (by decide) Rr rfl (by exact (aI (by exact tI) tI)) (by exact (aI (aI rfl (aB ao.nil)) tI)) (by exact (aj.cons (hbo _) (aj.cons (bor_val _) (aj.cons (bor_val _) aj.nil)))) (by exact (gR (aj.cons (bor_sl _) aj.nil) gr)) (by exact (Uf (l := [3, 6, 100]) hbo (by decide) (by decide))))
 exact z.g) : G := ai w h
def zip (h : H) (w : ah G H := by
 intro z
 refine rA ?_ (x := lD [val _, val _, sl .v _, sl .v _, sl .v _] iX)
 refine rA ?_ (x := cL [(true, [val _, val _, sl _ _, sl _ _, sl _ _])] [(true, [val _, val _, sl .v _, sl .v _, sl .v _])] XU (hs := by exact acP))
 exact z.g) : G := ai w h
def vh (h : H) (w : ah G H := by
 intro z
 refine rB ga ?_ (x := lD [val _] az)
 refine rB ga ?_ (x := dQ)
 exact z.g) : G := ai w h
def db (h : H) (w : ah G H := by
 intro z
 refine rS ?_
 refine cT ?_
 exact z.g) : G := ai w h
def fz (h : H) (w : ah G H := by
 intro z
 refine rA ?_ (x := nT)
 refine rM ?_
 exact z.g) : G := ai w h
def MC (h : H) (w : ah G H := by
 intro z
 refine sP [0, 3, 4, 5, 6, 7, 8, 9, 10, 11, 12] [3, 8, 10] ?_
 refine sL [0, 3, 4, 5, 6, 7, 8, 9, 10, 11] [3, 8, 10] (fun q : Nat => (aY (aZ (ax code hb)) (aQ (ax code hb)) m).e.Done.length ≤ q ∧ q ≤ (aY (aZ (ax code hb)) (aQ (ax code hb)) (m + 1)).e.Done.length) (fun q : Nat => [(12, RV.int (q : Int))]) (fun q : Nat => []) (fun q : Nat => (aY (aZ (ax code hb)) (aQ (ax code hb)) (m + 1)).e.Done.length - q) (aY (aZ (ax code hb)) (aQ (ax code hb)) m).e.Done.length (by exact ⟨Nat.le_refl _, hdl⟩) (by exact aI (by exact bk (by first | rfl | simp)) tI) (by exact tI) ?_
 exact z.g) : G := ai w h
def MD (h : H) (w : ah G H := by
 intro z
 refine sP [0, 3, 4, 5, 6, 7, 8, 9, 10, 11, 12, 13, 14] [3, 8, 10] ?_
 refine sL [0, 3, 4, 5, 6, 7, 8, 9, 10, 11, 12] [3, 8, 10] (fun j : Nat => j ≤ (aY (aZ (ax code hb)) (aQ (ax code hb)) (m + 1)).ids.length) (fun j : Nat => [(13, RV.int (ip (aY (aZ (ax code hb)) (aQ (ax code hb)) (m + 1)).ids (aY (aZ (ax code hb)) (aQ (ax code hb)) (m + 1)).e.Done[q].aeA.Id j)), (14, RV.int (j : Int))]) (fun j : Nat => []) (fun j : Nat => (aY (aZ (ax code hb)) (aQ (ax code hb)) (m + 1)).ids.length - j) 0 (by omega) (by exact aI (by exact rfl) (aI (by exact rfl) tI)) (by exact tI) ?_
 exact z.g) : G := ai w h
def sK (h : H) (w : ah G H := by
 intro z
 refine rA ?_ (x := lF Ey)
 refine rA ?_ (x := lD [val _, val _, sl .v _, sl .v _] eQ)
 exact z.g) : G := ai w h
def er (h : H) (w : ah G H := by
 intro z
 refine bq ?_
 refine be ?_
 exact z.g) : G := ai w h
def Cz (h : H) (w : ah G H := by
 intro z
 refine rA ?_ (x := lD [sl .v _, val _, val _, sl .v _, sl .v _, sl .v _, sl .v _, val _] bU)
 refine rA ?_ (x := cL [(true, [sl _ _, val _, val _, sl _ _, sl _ _, sl _ _, sl _ _, val _])] [(true, [sl .v _, val _, val _, sl .v _, sl .v _, sl .v _, sl .v _, val _])] RE (hs := by exact (TV (by omega))))
 exact z.g) : G := ai w h
def CA (h : H) (w : ah G H := by
 intro z
 refine rA ?_ (x := lD [sl .v _, val _, val _, sl .v _, sl .v _, sl .v _, sl .v _, val _] bU)
 refine rA ?_ (x := cL [(true, [sl _ _, val _, val _, sl _ _, sl _ _, sl _ _, sl _ _, val _])] [(true, [sl .v _, val _, val _, sl .v _, sl .v _, sl .v _, sl .v _, val _])] Ab (hs := by exact (AR (by omega))))
 exact z.g) : G := ai w h
def lM (h : H) (w : ah G H := by
 intro z
 refine oe ?_
 refine rA ?_ (x := lN eP)
 exact z.g) : G := ai w h
def vi (h : H) (w : ah G H := by
 intro z
 refine rA ?_ (x := bP (qs := []) (by decide) cg gI (by decide) rfl rfl rfl rfl rfl (by exact nl rfl) (by exact tI) rfl)
 refine rA ?_ (x := tA)
 exact z.g) : G := ai w h
def yo (h : H) (w : ah G H := by
 intro z
 refine rB gb ?_ (x := lD [val _] az)
 refine rB gb ?_ (x := cL [(false, [val _]), (false, [val _]), (false, [val _])] [(false, [val _]), (false, [val _]), (false, [val _])] kG (hs := by exact kT))
 exact z.g) : G := ai w h
def CB (h : H) (w : ah G H := by
 intro z
 refine rA ?_ (x := iw (k := u.Field.toNat) (G := 2930) (by decide) bC (by exact tI) (by omega) (by first | (rw [aw]; exact hfl) | exact hfl))
 refine rA ?_ (x := nd (o := 0) (ag := false) (vs := [val _]) (by omega) az (by exact tI) (by exact rfl) (by exact nl rfl))
 exact z.g) : G := ai w h
def oj (h : H) (w : ah G H := by
 intro z
 refine zf gc ?_
 refine rA ?_ (x := aF gc)
 exact z.g) : G := ai w h
def vj (h : H) (w : ah G H := by
 intro z
 refine sR ?_
 refine rX ?_ (x := (eD (ag := true) (cs := [val _, sl _ _]) (by decide) (by exact tI)))
 exact z.g) : G := ai w h
def ME (h : H) (w : ah G H := by
 intro z
 refine sO [(2, _), (3, _), (4, _), (6, _), (7, _), (8, _), (9, _), (11, _), (54, _), (55, _), (67, _), (68, _), (69, _), (6200, _), (6300, _)] [(3, (32, [sl _ _, val _, val _, sl _ _, sl _ _, sl _ _, sl _ _, val _])), (4, (52, [val _, val _, sl _ _, sl _ _])), (6, (32, [sl _ _, val _, val _, sl _ _, sl _ _, sl _ _, sl _ _, val _])), (8, (32, [sl _ _, val _, val _, sl _ _, sl _ _, sl _ _, sl _ _, val _])), (9, (108, [nv _ (val _), nv _ (val _), nv _ (sl _ _), nv _ (sl _ _), nv _ (val _), nv _ (sl _ _), nv _ (val _), nv _ (val _), nv _ (val _), nv _ (sl _ _)]))] ?_
 refine bd ?_
 exact z.g) : G := ai w h
def MF (h : H) (w : ah G H := by
 intro z
 refine cV (d := 900) (by exact rfl) (congrArg (fun z_ => bE (aG aV ab) z_ jk900) (show (ij zss keep i).map (List.map Prod.fst) = s.aey.map (kS keep) from by rw [hend, EL]; exact Xt hzss)) ?_
 refine nX (d := 6) (D := 900) (G := 2900) (e := 1) (A := []) (B := [val _]) (es := ((s.aey.map (kS keep))).map (aG aV ab)) (by exact rfl) (by exact rfl) (by exact rfl) rfl (by simp) (by intro c hc; obtain ⟨y, _, rfl⟩ := List.mem_map.1 hc; exact rfl) (by rw [aw]; exact hjk900) ?_
 exact z.g) : G := ai w h
def mA (h : H) (w : ah G H := by
 intro z
 refine rA ?_ (x := lF iV)
 refine rA ?_ (x := lD [sl .v _] iW)
 exact z.g) : G := ai w h
def CC (h : H) (w : ah G H := by
 intro z
 refine rA ?_ (x := en (by decide) cy fE rfl rfl (by decide) rfl (by simp only [aw, aM, List.length_cons, List.length_nil]; omega) (by simp only [aw, aM, List.length_cons, List.length_nil]; omega))
 refine rA ?_ (x := tA)
 exact z.g) : G := ai w h
def MG (h : H) (w : ah G H := by
 intro z
 refine dJ ?_
 refine sO [(2, _), (3, _), (4, _), (6, _), (7, _), (8, _), (9, _), (10, _), (11, _), (12, _), (13, _), (6200, _), (6300, _)] [(3, (32, [sl _ _, val _, val _, sl _ _, sl _ _, sl _ _, sl _ _, val _])), (4, (52, [val _, val _, sl _ _, sl _ _])), (6, (32, [sl _ _, val _, val _, sl _ _, sl _ _, sl _ _, sl _ _, val _])), (8, (32, [sl _ _, val _, val _, sl _ _, sl _ _, sl _ _, sl _ _, val _])), (9, (108, [nv _ (val _), nv _ (val _), nv _ (sl _ _), nv _ (sl _ _), nv _ (val _), nv _ (sl _ _), nv _ (val _), nv _ (val _), nv _ (val _), nv _ (sl _ _)]))] ?_
 exact z.g) : G := ai w h
def yp (h : H) (w : ah G H := by
 intro z
 refine sO [(0, _), (2, _), (3, _), (4, _), (5, _), (6, _), (5000, _), (6200, _)] [(0, _), (6, (108, [val _, val _, sl _ _, sl _ _, val _, sl _ _, val _, val _, val _, sl _ _]))] ?_
 refine bd ?_
 exact z.g) : G := ai w h
def vk (h : H) (w : ah G H := by
 intro z
 refine sR ?_
 refine rX ?_ (x := (eD (ag := true) (cs := [val _, sl _ _, val _, val _]) (by decide) (by exact tI)))
 exact z.g) : G := ai w h
def CD (h : H) (w : ah G H := by
 intro z
 refine sP [0, 1, 4, 5] [] ?_
 refine sL [0, 1] [] (fun k : Nat => k ≤ x.length ∧ x.take k = y.take k) (fun k : Nat => [(5, RV.int (k : Int))]) (fun k : Nat => []) (fun k : Nat => x.length - k) 0 (by exact ⟨by omega, by simp⟩) (by exact aI (by exact rfl) tI) (by exact tI) ?_
 exact z.g) : G := ai w h
def lO (h : H) (w : ah G H := by
 intro z
 refine rB ga ?_ (x := nT)
 refine rA ?_ (x := aF ga)
 exact z.g) : G := ai w h
def CE (h : H) (w : ah G H := by
 intro z
 refine be ?_
 refine sO [(1, _), (2, _), (3, _), (4, _), (5, _), (6, _), (14, _), (16, _), (57, _), (58, _), (59, _), (145, _), (146, _), (147, _), (6200, _)] [(1, _), (2, _), (4, _), (6, _), (16, (108, [val _, val _, sl _ _, sl _ _, val _, sl _ _, val _, val _, val _, sl _ _]))] ?_
 exact z.g) : G := ai w h
def CF (h : H) (w : ah G H := by
 intro z
 refine rA ?_ (x := en (by decide) cg gI rfl rfl (by decide) rfl (by simp only [aw, aM, List.length_cons, List.length_nil]; omega) (by simp only [aw, aM, List.length_cons, List.length_nil]; omega))
 refine sD ?_
 exact z.g) : G := ai w h
def MH (h : H) (w : ah G H := by
 intro z
 refine dX 0 ?_ (x := (gp (qs := [sl .v _, val _, val _, sl .v _, sl .v _, sl .v _, sl .v _, val _]) (by decide) bU (fun h => nomatch h) (by exact nl rfl) (by exact (aB (ak (ak (aB (aB (aB (aB (ak ao.nil))))))))) (by exact lq)))
 refine dX 0 ?_ (x := (iL (r' := RV.sv false [sl .v _]) (.inl rfl) (by decide) (by exact Cp.sv (aB ao.nil) (aj.cons (bor_sl _) aj.nil))))
 exact z.g) : G := ai w h
def yq (h : H) (w : ah G H := by
 intro z
 refine sO [(0, _), (3, _), (4, _), (5, _), (6, _), (5000, _), (6200, _)] [(0, _), (6, (108, [val _, val _, sl _ _, sl _ _, val _, sl _ _, val _, val _, val _, sl _ _]))] ?_
 refine bd ?_
 exact z.g) : G := ai w h
def MI (h : H) (w : ah G H := by
 intro z
 refine dA 48 ?_ (x := lD [sl (.lo _) _] bF)
 refine dA 120 ?_ (x := it (by decide) bC eg rfl rfl (by decide) (by first | (intro cs hcs; obtain ⟨x, _, rfl⟩ := List.mem_map.1 hcs; exact rfl) | simp) (by first | (intro cs hcs; obtain ⟨x, _, rfl⟩ := List.mem_map.1 hcs; exact (aj.cons (bor_val _) aj.nil)) | simp) (by simp only [aw, aM, List.length_cons, List.length_nil]; omega) (by simp only [aw, aM, List.length_cons, List.length_nil]; omega))
 exact z.g) : G := ai w h
def MJ (h : H) (w : ah G H := by
 intro z
 refine dA 1920 ?_ (x := lE [sl .v _] bF)
 refine dA 4032 ?_ (x := it (by decide) bC eg rfl rfl (by decide) (by first | (intro cs hcs; obtain ⟨x, _, rfl⟩ := List.mem_map.1 hcs; exact rfl) | simp) (by first | (intro cs hcs; obtain ⟨x, _, rfl⟩ := List.mem_map.1 hcs; exact (aj.cons (bor_val _) aj.nil)) | simp) (by simp only [aw, aM, List.length_cons, List.length_nil]; omega) (by simp only [aw, aM, List.length_cons, List.length_nil]; omega))
 exact z.g) : G := ai w h
def MK (h : H) (w : ah G H := by
 intro z
 refine dA 512 ?_ (x := lD [sl .v _] bF)
 refine dA 2032 ?_ (x := it (by decide) bC eg rfl rfl (by decide) (by first | (intro cs hcs; obtain ⟨x, _, rfl⟩ := List.mem_map.1 hcs; exact rfl) | simp) (by first | (intro cs hcs; obtain ⟨x, _, rfl⟩ := List.mem_map.1 hcs; exact (aj.cons (bor_val _) aj.nil)) | simp) (by simp only [aw, aM, List.length_cons, List.length_nil]; omega) (by simp only [aw, aM, List.length_cons, List.length_nil]; omega))
 exact z.g) : G := ai w h
def yr (h : H) (w : ah G H := by
 intro z
 refine sO [(1, _), (2, _), (3, _), (4, _), (5, _)] [(1, _), (2, _), (3, _), (5, (108, [val _, val _, sl _ _, sl _ _, val _, sl _ _, val _, val _, val _, sl _ _]))] ?_
 refine bd ?_
 exact z.g) : G := ai w h
def ML (h : H) (w : ah G H := by
 intro z
 refine rA ?_ (x := it (by decide) fD gJ rfl rfl (by decide) (by first | (intro cs hcs; obtain ⟨x, _, rfl⟩ := List.mem_map.1 hcs; exact rfl) | simp) (by first | (intro cs hcs; obtain ⟨x, _, rfl⟩ := List.mem_map.1 hcs; exact (aj.cons (bor_val _) (aj.cons (bor_sl _) aj.nil))) | simp) (by simp only [aw, aM, List.length_cons, List.length_nil]; omega) (by simp only [aw, aM, List.length_cons, List.length_nil]; omega))
 refine rA ?_ (x := tA)
 exact z.g) : G := ai w h
def CG (h : H) (w : ah G H := by
 intro z
 refine og ?_
 refine rA ?_ (x := cL [(true, [sl (.lo _) _, val _, val _, sl (.lo _) _, sl (.lo _) _, sl (.lo _) _, sl (.lo _) _, val _])] [(true, [sl .v _, val _, val _, sl .v _, sl .v _, sl .v _, sl .v _, val _])] RE (hs := by exact (TV (by omega))))
 exact z.g) : G := ai w h
def yt (h : H) (w : ah G H := by
 intro z
 refine rB ga ?_ (x := cL [(false, [val _]), (false, [val _]), (false, [val _])] [(false, [val _]), (false, [val _]), (false, [val _])] fX (hs := by exact gl))
 refine lO ?_
 exact z.g) : G := ai w h
def CH (h : H) (w : ah G H := by
 intro z
 refine rA ?_ (x := cL [(true, [sl (.lo _) _, val _, val _, sl (.lo _) _, sl (.lo _) _, sl (.lo _) _, sl (.lo _) _, val _])] [(true, [sl .v _, val _, val _, sl .v _, sl .v _, sl .v _, sl .v _, val _])] RC (hs := by exact (TQ (by omega))))
 refine fz ?_
 exact z.g) : G := ai w h
def MM (h : H) (w : ah G H := by
 intro z
 refine rA ?_ (x := gp (qs := [nv _ (val _), nv _ (sl .v _), nv _ (val _), nv _ (val _)]) (by decide) fq (fun h => nomatch h) (by exact nl rfl) (by exact (ak (ak (ak (ak ao.nil))))) (by exact lq))
 refine rA ?_ (x := bP (qs := [(true, [nv _ (val _), nv _ (sl _ _), nv _ (val _), nv _ (val _)])]) (by decide) cy fE (by decide) rfl rfl rfl rfl rfl (by exact nl rfl) (by exact (aI (by exact tI) tI)) rfl)
 exact z.g) : G := ai w h
def CI (h : H) (w : ah G H := by
 intro z
 refine og ?_
 refine rA ?_ (x := cL [(true, [sl (.lo _) _, val _, val _, sl (.lo _) _, sl (.lo _) _, sl (.lo _) _, sl (.lo _) _, val _])] [(true, [sl .v _, val _, val _, sl .v _, sl .v _, sl .v _, sl .v _, val _])] RG (hs := by exact (TW (by omega))))
 exact z.g) : G := ai w h
def MN (h : H) (w : ah G H := by
 intro z
 refine sO [(1, _), (2, _), (3, _), (4, _), (5, _), (6, _), (8, _), (9, _), (10, _), (11, _), (57, _), (58, _), (59, _), (77, _), (78, _), (79, _), (6100, _)] [(1, _), (2, _), (4, _), (6, (70, [val _, val _, sl _ _, sl _ _, sl _ _])), (10, _)] ?_
 refine bd ?_
 exact z.g) : G := ai w h
def yu (h : H) (w : ah G H := by
 intro z
 refine dJ ?_
 refine sO [(2, _), (3, _), (4, _), (5, _), (6, _), (7, _), (8, _), (9, _), (10, _)] [(2, _), (3, _), (4, _), (6, _), (10, (184, [val _, sl _ _, val _, val _]))] ?_
 exact z.g) : G := ai w h
def qB (h : H) (w : ah G H := by
 intro z
 refine rB gb ?_ (x := lD [val _] az)
 refine rB gb ?_ (x := dQ)
 exact z.g) : G := ai w h
def vl (h : H) (w : ah G H := by
 intro z
 refine rA ?_ (x := bh (ag := false) (vs := [sl _ _]) bF (by exact tI) (by exact rfl) (by exact nl rfl))
 refine be ?_
 exact z.g) : G := ai w h
def om (h : H) (w : ah G H := by
 intro z
 refine rA ?_ (x := lD [val _] az)
 refine rA ?_ (x := jm)
 exact z.g) : G := ai w h
def qC (h : H) (w : ah G H := by
 intro z
 refine sR ?_
 refine rA ?_ (x := kx (.inr rfl) (by decide) (lG (t := 3) (e := 1)))
 exact z.g) : G := ai w h
def yv (h : H) (w : ah G H := by
 intro z
 refine dA 48 ?_ (x := aU (by decide) bC (by exact tI) (by exact rfl) (by exact aW (by omega) rfl) (by exact rfl))
 refine dA 112 ?_ (x := lE [val _] az)
 exact z.g) : G := ai w h
def MO (h : H) (w : ah G H := by
 intro z
 refine rA ?_ (x := bP (qs := [(true, [val _, val _, sl _ _, sl _ _, val _, val _, sl _ _])]) (by decide) jw nw (by decide) rfl rfl rfl rfl rfl (by exact nl rfl) (by exact (aI (by exact tI) tI)) rfl)
 refine rA ?_ (x := en (by decide) jw nw rfl rfl (by decide) rfl (by simp only [aw, aM, List.length_cons, List.length_nil]; omega) (by simp only [aw, aM, List.length_cons, List.length_nil]; omega))
 exact z.g) : G := ai w h
def hY (h : H) (w : ah G H := by
 intro z
 refine rA ?_ (x := aO gc)
 refine rM ?_
 exact z.g) : G := ai w h
def CJ (h : H) (w : ah G H := by
 intro z
 refine rA ?_ (x := lF ee)
 refine rA ?_ (x := cP (ms := [sl _ _]) (qs := [sl .v _]) (by decide) dR (fun _ => rfl) (by exact nl rfl) (by exact rfl) (by exact (aB ao.nil)) (by exact (aj.cons (bor_sl _) aj.nil)))
 exact z.g) : G := ai w h
def MP (h : H) (w : ah G H := by
 intro z
 refine rA ?_ (x := dp (qs := []) (cs := [val _, val _, sl _ _, val _, val _]) (by decide) zI zJ WK (by exact rfl) (by exact tI) rfl (by exact rfl))
 refine rA ?_ (x := cL [(true, [val _, val _, sl _ _, val _, val _]), (true, [val _, val _, sl _ _, val _, val _])] [(true, [val _, val _, sl .v _, val _, val _]), (true, [val _, val _, sl .v _, val _, val _])] Wz (hs := by exact (adP (x := x.aeC) (y := ⟨0, ⟨0, []⟩, 0, 0⟩))))
 exact z.g) : G := ai w h
def MQ (h : H) (w : ah G H := by
 intro z
 refine cV (d := 930) (by exact rfl) (ng u.Value hfl (by exact rfl)) ?_
 refine nX (d := 10) (D := 930) (G := 2930) (e := 1) (A := [val _]) (B := [val _, val _]) (es := (((fe s u)).set u.Field.toNat u.Value).map am) (by exact rfl) (by exact rfl) (by exact rfl) rfl (by rw [aw, List.length_set, aw]) (by intro c hc; obtain ⟨y, _, rfl⟩ := List.mem_map.1 hc; exact rfl) (by rw [aw]; exact hjk930) ?_
 exact z.g) : G := ai w h
def MR (h : H) (w : ah G H := by
 intro z
 refine rA ?_ (x := cP (ms := [val _, val _, sl _ _, sl _ _]) (qs := [val _, val _, sl .v _, sl .v _]) (by decide) eQ (fun h => nomatch h) (by exact nl rfl) (by exact rfl) (by exact (ak (ak (aB (aB ao.nil))))) (by exact lq))
 refine rA ?_ (x := bh (ag := true) (vs := [val _, val _, sl _ _, sl _ _]) eQ (by exact tI) (by exact rfl) (by exact nl rfl))
 exact z.g) : G := ai w h
def pq (h : H) (w : ah G H := by
 intro z
 refine rB ga ?_ (x := lF jv)
 refine rB ga ?_ (x := lD [sl .v _] bF)
 exact z.g) : G := ai w h
def CK (h : H) (w : ah G H := by
 intro z
 refine rB gc ?_ (x := lD [val _, val _, sl .v _, val _, val _] ma)
 refine rB gc ?_ (x := cL [(true, [val _, val _, sl _ _, val _, val _])] [(true, [val _, val _, sl .v _, val _, val _])] WA (hs := by exact adR))
 exact z.g) : G := ai w h
def yw (h : H) (w : ah G H := by
 intro z
 refine bd ?_
 refine rA ?_ (x := lD [sl (.lo _) _, val _] cW)
 exact z.g) : G := ai w h
def MS (h : H) (w : ah G H := by
 intro z
 refine rA ?_ (x := bP (qs := [(false, [sl _ _])]) (by decide) eP zH (by decide) rfl rfl rfl rfl rfl (by exact nl rfl) (by exact (aI (by exact tI) tI)) rfl)
 refine rA ?_ (x := en (by decide) eP zH rfl rfl (by decide) rfl (by simp only [aw, aM, List.length_cons, List.length_nil]; omega) (by simp only [aw, aM, List.length_cons, List.length_nil]; omega))
 exact z.g) : G := ai w h
def yx (h : H) (w : ah G H := by
 intro z
 refine rA ?_ (x := bh (ag := true) (vs := [val _, val _, sl _ _, sl _ _]) eQ (by exact tI) (by exact rfl) (by exact nl rfl))
 refine be ?_
 exact z.g) : G := ai w h
def yy (h : H) (w : ah G H := by
 intro z
 refine rA ?_ (x := lF gG)
 refine rA ?_ (x := bh (ag := true) (vs := [sl _ _, val _]) cW (by exact tI) (by exact rfl) (by exact nl rfl))
 exact z.g) : G := ai w h
def vm (h : H) (w : ah G H := by
 intro z
 refine rA ?_ (x := lF wx)
 refine rA ?_ (x := lD [val _, val _, sl .v _, val _, val _] ma)
 exact z.g) : G := ai w h
def MT (h : H) (w : ah G H := by
 intro z
 refine rA ?_ (x := cM Cp.ptr)
 refine rA ?_ (x := hO (bx := 0) (qs := [(false, [val _])]) (as_ := [(false, [val _])]) (by decide) Ry rfl (by exact (aI (bM rfl) tI)) (by exact (aI (aI rfl (ak ao.nil)) tI)) (by exact (aj.cons (hbo _) (aj.cons (bor_val _) (aj.cons (bor_val _) aj.nil)))) (by exact (gR (aj.cons (bor_val _) aj.nil) gr)) (by exact (Ug hbo (by omega))))
 exact z.g) : G := ai w h
def MU (h : H) (w : ah G H := by
 intro z
 refine sP [1, 3, 5, 7, 23, 24, 25, 32, 33, 34, 66, 67, 68] [1, 7] ?_
 refine sL [1, 3, 5, 7, 23, 24, 25, 32, 33, 34, 66, 67] [1, 7] (fun m : Nat => m ≤ (dw s k).length + j ∧ fR (bg s) ((dw s k).length + j) m = true) (fun m : Nat => [(68, RV.int (m : Int))]) (fun m : Nat => []) (fun m : Nat => (dw s k).length + j - m) 0 (by exact ⟨by omega, rfl⟩) (by exact aI (by exact rfl) tI) (by exact tI) ?_
 exact z.g) : G := ai w h
def MV (h : H) (w : ah G H := by
 intro z
 refine dB 3079 gc ?_ (x := aU (k := (ip (aY (aZ (ax code hb)) (aQ (ax code hb)) (m + 1)).ids (aY (aZ (ax code hb)) (aQ (ax code hb)) (m + 1)).e.Done[q].aeA.Id (aY (aZ (ax code hb)) (aQ (ax code hb)) (m + 1)).ids.length).toNat) (by decide) Ag (by exact tI) (by omega) (by exact aW hlk rfl) (by exact rfl))
 refine dB 7175 gc ?_ (x := lE [sl .v _] jx)
 exact z.g) : G := ai w h
def hZ (h : H) (w : ah G H := by
 intro z
 refine rS ?_
 refine be ?_
 exact z.g) : G := ai w h
def MW (h : H) (w : ah G H := by
 intro z
 refine sO [(1, _), (2, _), (3, _), (4, _), (5, _), (6, _), (57, _), (58, _), (59, _)] [(1, (32, [sl (.lo _) _, val _, val _, sl (.lo _) _, sl (.lo _) _, sl (.lo _) _, sl (.lo _) _, val _])), (2, (32, [sl _ _, val _, val _, sl _ _, sl _ _, sl _ _, sl _ _, val _])), (4, (32, [sl _ _, val _, val _, sl _ _, sl _ _, sl _ _, sl _ _, val _])), (6, (70, [val _, val _, sl _ _, sl _ _, sl _ _]))] ?_
 refine bd ?_
 exact z.g) : G := ai w h
def yz (h : H) (w : ah G H := by
 intro z
 refine sG [2, 3, 4, 5, 6, 7, 20] [2, 3, 4, 6] ?_
 refine rA ?_ (x := lD [sl .v _, val _, val _, sl .v _, sl .v _, sl .v _, sl .v _, val _] bU)
 exact z.g) : G := ai w h
def vn (h : H) (w : ah G H := by
 intro z
 refine rA ?_ (x := lF lW)
 refine rA ?_ (x := lD [sl .v _] lZ)
 exact z.g) : G := ai w h
def vo (h : H) (w : ah G H := by
 intro z
 refine rX ?_ (x := (cr (by decide) kI kK))
 refine eH ?_
 exact z.g) : G := ai w h
def CL (h : H) (w : ah G H := by
 intro z
 refine rB gc ?_ (x := lD [val _] az)
 refine rB gc ?_ (x := cL [(false, [val _]), (false, [val _]), (false, [val _])] [(false, [val _]), (false, [val _]), (false, [val _])] kG (hs := by exact kT))
 exact z.g) : G := ai w h
def CM (h : H) (w : ah G H := by
 intro z
 refine rB gd ?_ (x := lD [val _] az)
 refine rB gd ?_ (x := cL [(false, [val _]), (false, [val _]), (false, [val _])] [(false, [val _]), (false, [val _]), (false, [val _])] kG (hs := by exact kT))
 exact z.g) : G := ai w h
def yA (h : H) (w : ah G H := by
 intro z
 refine jp ?_
 refine rA ?_ (x := aU (by decide) mP (by exact tI) (by exact rfl) (by exact aW (by omega) rfl) (by exact rfl))
 exact z.g) : G := ai w h
def CN (h : H) (w : ah G H := by
 intro z
 refine rB gd ?_ (x := lD [val _] az)
 refine rB gd ?_ (x := cL [(false, [val _]), (false, [val _]), (false, [val _])] [(false, [val _]), (false, [val _]), (false, [val _])] fX (hs := by exact gl))
 exact z.g) : G := ai w h
def oo (h : H) (w : ah G H := by
 intro z
 refine rA ?_ (x := lD [val _] az)
 refine rM ?_
 exact z.g) : G := ai w h
def qD (h : H) (w : ah G H := by
 intro z
 refine dA 0 ?_ (x := cM Cp.ptr)
 refine dA 32 ?_ (x := iP (by decide))
 exact z.g) : G := ai w h
def CO (h : H) (w : ah G H := by
 intro z
 refine dA 0 ?_ (x := sM)
 refine dA 992 ?_ (x := iw (k := i) (G := 2900) (by decide) cg (by exact tI) (by first | exact hf2 | omega) (by first | (rw [aw]; exact hil) | exact hil))
 exact z.g) : G := ai w h
def MX (h : H) (w : ah G H := by
 intro z
 refine rA ?_ (x := dp (qs := [(false, [val _]), (true, [val _, sl _ _])]) (cs := [val _, val _, sl _ _, val _, val _]) (by decide) zI zJ Ui (by exact rfl) (by exact (aI (bM rfl) (aI (by exact tI) tI))) rfl (by exact rfl))
 refine rA ?_ (x := bh (ag := true) (vs := [val _, val _, sl _ _, val _, val _]) ma (by exact tI) (by exact rfl) (by exact nl rfl))
 exact z.g) : G := ai w h
def vp (h : H) (w : ah G H := by
 intro z
 refine rB gc ?_ (x := lD [val _] az)
 refine rB gc ?_ (x := dQ)
 exact z.g) : G := ai w h
def vq (h : H) (w : ah G H := by
 intro z
 refine zt g2 ?_
 refine rA ?_ (x := aO g2)
 exact z.g) : G := ai w h
def fU (h : H) (w : ah G H := by
 intro z
 refine zf gb ?_
 refine pn ?_
 exact z.g) : G := ai w h
def CP (h : H) (w : ah G H := by
 intro z
 refine rB gb ?_ (x := lF lW)
 refine rB gb ?_ (x := lD [sl .v _] lZ)
 exact z.g) : G := ai w h
def pt (h : H) (w : ah G H := by
 intro z
 refine rA ?_ (x := lF jZ)
 refine rA ?_ (x := lD [val _] az)
 exact z.g) : G := ai w h
def CQ (h : H) (w : ah G H := by
 intro z
 refine dA 64 ?_ (x := lD [val _] az)
 refine dA 255 ?_ (x := iw (k := k) (G := 2921) (by decide) cy (by exact tI) (by omega) (by first | (rw [aw]; exact hk) | exact hk))
 exact z.g) : G := ai w h
def yB (h : H) (w : ah G H := by
 intro z
 refine sS [2, 3, 4, 5, 17] [2, 3, 4] ?_
 refine rA ?_ (x := lD [sl .v _, val _, val _, sl .v _, sl .v _, sl .v _, sl .v _, val _] bU)
 exact z.g) : G := ai w h
def vr (h : H) (w : ah G H := by
 intro z
 refine rA ?_ (x := cd (by decide) ib (by exact nl rfl))
 refine rA ?_ (x := lE [val _] az)
 exact z.g) : G := ai w h
def CR (h : H) (w : ah G H := by
 intro z
 refine rA ?_ (x := aU (k := k) (by decide) cy (by exact tI) (by omega) (by exact aW hk rfl) (by exact rfl))
 refine rA ?_ (x := cd (by decide) lu (by exact nl rfl))
 exact z.g) : G := ai w h
def yC (h : H) (w : ah G H := by
 intro z
 refine sR ?_
 refine rX ?_ (x := (eD (ag := true) (cs := [val _, val _, sl _ _, val _, val _]) (by decide) (by exact tI)))
 exact z.g) : G := ai w h
def MY (h : H) (w : ah G H := by
 intro z
 refine BF (d := 6) (G := 6200) (e := 10) (f := (aT aD ab ab aE ab)) (z := za[m]) (zs := (za.drop (m + 1))) (by exact rfl) (by exact (Nm.nv (Nm.nv (Nm.nv (Nm.nv (Nm.nv (Nm.nv (Nm.nv (Nm.nv (Nm.nv (Nm.nv Nm.nil))))))))))) (fun _ => rfl) (by rw [← List.drop_eq_getElem_cons hltz]; exact rfl) ?_
 refine be ?_
 exact z.g) : G := ai w h
def MZ (h : H) (w : ah G H := by
 intro z
 refine rA ?_ (x := iw (k := i) (G := 2900) (by decide) eP (by exact tI) (by first | rfl | omega) (by simp only [aw]; omega))
 refine rA ?_ (x := Vr (f := lA) (e := 1) (k := i) (ag := false) (vs := [sl _ _]) _ (fun _ => rfl) rfl (by first | omega | (simp only [List.length_set]; omega)) ie (by exact tI) (by exact rfl))
 exact z.g) : G := ai w h
def pu (h : H) (w : ah G H := by
 intro z
 refine da cG ?_
 refine eY ?_
 exact z.g) : G := ai w h
def CS (h : H) (w : ah G H := by
 intro z
 refine rB gb ?_ (x := cL [(false, [val _]), (false, [val _]), (false, [val _])] [(false, [val _]), (false, [val _]), (false, [val _])] fX (hs := by exact gl))
 refine gt ?_
 exact z.g) : G := ai w h
def CT (h : H) (w : ah G H := by
 intro z
 refine rB gb ?_ (x := lD [sl .v _] bF)
 refine rB gb ?_ (x := cL [(false, [sl _ _]), (false, [sl _ _])] [(false, [sl .v _]), (false, [sl .v _])] rh (hs := by exact rG))
 exact z.g) : G := ai w h
def Na (h : H) (w : ah G H := by
 intro z
 refine rA ?_ (x := nS (qs := [nv _ (val _), nv _ (sl .v _), nv _ (val _), nv _ (val _)]) (by decide) fq (fun h => nomatch h) (by exact nl rfl) (by exact (ak (ak (ak (ak ao.nil))))) (by exact lq))
 refine rX ?_ (x := (cr (by decide) fE ny))
 exact z.g) : G := ai w h
def CU (h : H) (w : ah G H := by
 intro z
 refine rM ?_
 refine rA ?_ (x := cL [(false, [val _]), (false, [val _]), (false, [val _])] [(false, [val _]), (false, [val _]), (false, [val _])] kG (hs := by exact kT))
 exact z.g) : G := ai w h
def CV (h : H) (w : ah G H := by
 intro z
 refine rX ?_ (x := (cr (by decide) gJ mb))
 refine rA ?_ (x := bh (ag := true) (vs := [val _, sl _ _]) fj (by exact tI) (by exact rfl) (by exact nl rfl))
 exact z.g) : G := ai w h
def CW (h : H) (w : ah G H := by
 intro z
 refine dA 511 ?_ (x := lF iB)
 refine dA 1023 ?_ (x := nd (o := 3) (ag := false) (vs := [val _]) (by omega) az (by exact tI) (by exact rfl) (by exact nl rfl))
 exact z.g) : G := ai w h
def vt (h : H) (w : ah G H := by
 intro z
 refine sR ?_
 refine rA ?_ (x := kx (.inr rfl) (by decide) (lG (t := 54) (e := 2)))
 exact z.g) : G := ai w h
def sN (h : H) (w : ah G H := by
 intro z
 refine dB 1023 gb ?_ (x := vM false [sl .v _])
 refine dB 1023 gb ?_ (x := sM)
 exact z.g) : G := ai w h
def oq (h : H) (w : ah G H := by
 intro z
 refine de ?_
 refine rA ?_ (x := vM false [sl .v _])
 exact z.g) : G := ai w h
def vu (h : H) (w : ah G H := by
 intro z
 refine rA ?_ (x := lF gV)
 refine rA ?_ (x := lD [val _, val _, sl .v _, sl .v _] eQ)
 exact z.g) : G := ai w h
def vv (h : H) (w : ah G H := by
 intro z
 refine rA ?_ (x := lF wy)
 refine rA ?_ (x := lD [val _, val _, sl .v _, sl .v _] eQ)
 exact z.g) : G := ai w h
def Nb (h : H) (w : ah G H := by
 intro z
 refine sS [2, 3, 4, 5, 6, 7, 8] [2, 3, 4, 6, 7] ?_
 refine rA ?_ (x := cP (ms := [sl _ _, val _]) (qs := [any, val _]) (by decide) cW (fun h => nomatch h) (by exact nl rfl) (by exact rfl) (by exact (ao.cons PV.to_any (ak ao.nil))) (by exact (aj.cons (bor_any) (aj.cons (bor_val _) aj.nil))))
 exact z.g) : G := ai w h
def yD (h : H) (w : ah G H := by
 intro z
 refine sQ [1, 2] [1, 2] ?_
 refine da cG ?_
 exact z.g) : G := ai w h
def sU (h : H) (w : ah G H := by
 intro z
 refine rA ?_ (x := lF gG)
 refine rA ?_ (x := lD [sl .v _, val _] cW)
 exact z.g) : G := ai w h
def Nc (h : H) (w : ah G H := by
 intro z
 refine dA 0 ?_ (x := lF gV)
 refine dA 32 ?_ (x := gp (qs := [nv _ (val _), nv _ (val _), nv _ (sl .v _), nv _ (sl .v _)]) (by decide) eQ (fun h => nomatch h) (by exact nl rfl) (by exact (ak (ak (ak (ak ao.nil))))) (by exact lq))
 exact z.g) : G := ai w h
def Nd (h : H) (w : ah G H := by
 intro z
 refine sP [0, 3, 4, 5, 6, 7, 8, 9, 10, 11] [3, 8, 10] ?_
 refine xM (s := 6) (by exact rfl) (show _ = RV.slc (.own 59 1) ((aY (aZ (ax code hb)) (aQ (ax code hb)) (m + 1)).want.map (Qc aE .v)) from by first | (rw [hi2]; done) | (rw [hi2]; exact rfl) | (rw [hi2, bj]; exact rfl)) ?_
 exact z.g) : G := ai w h
def sV (h : H) (w : ah G H := by
 intro z
 refine rB gc ?_ (x := lF pJ)
 refine rB gc ?_ (x := lD [sl .v _] bF)
 exact z.g) : G := ai w h
def CX (h : H) (w : ah G H := by
 intro z
 refine rX ?_ (x := (eD (ag := true) (cs := [val _, val _, sl _ _, sl _ _, val _, sl _ _, val _, val _, val _, sl _ _]) (by decide) (by exact tI)))
 refine rK ?_
 exact z.g) : G := ai w h
def CY (h : H) (w : ah G H := by
 intro z
 refine sO [(1, _), (2, _), (3, _), (4, _), (6, _), (7, _)] [(1, _), (2, _), (3, _), (7, (63, [val _, val _, sl _ _, sl _ _, val _, val _, sl _ _]))] ?_
 refine bd ?_
 exact z.g) : G := ai w h
def Nf (h : H) (w : ah G H := by
 intro z
 refine dA 32766 ?_ (x := en (by decide) jw nw rfl rfl (by decide) rfl (by simp only [aw, aM, List.length_cons, List.length_nil]; omega) (by simp only [aw, aM, List.length_cons, List.length_nil]; omega))
 refine dA 65535 ?_ (x := iP (by decide))
 exact z.g) : G := ai w h
def Ng (h : H) (w : ah G H := by
 intro z
 refine sO [(1, _), (2, _), (3, _), (4, _), (5, _), (6, _), (8, _), (9, _), (10, _), (11, _), (57, _), (58, _), (59, _), (77, _), (78, _), (79, _), (2900, _), (6100, _)] [(1, _), (2, _), (4, _), (6, _), (10, (108, [val _, val _, sl _ _, sl _ _, val _, sl _ _, val _, val _, val _, sl _ _])), (900, _)] ?_
 refine bd ?_
 exact z.g) : G := ai w h
def CZ (h : H) (w : ah G H := by
 intro z
 refine sR ?_
 refine rX ?_ (x := (eD (ag := true) (cs := [sl (.lo _) _, val _]) (by decide) (by exact tI)))
 exact z.g) : G := ai w h
def Da (h : H) (w : ah G H := by
 intro z
 refine rA ?_ (x := lD [sl .v _, val _] cW)
 refine rA ?_ (x := cL [(true, [sl _ _, val _])] [(true, [sl .v _, val _])] ZC (hs := by exact acB (by omega)))
 exact z.g) : G := ai w h
def lj (h : H) (w : ah G H := by
 intro z
 refine eH ?_
 refine sT [1, 2] [1] ?_
 exact z.g) : G := ai w h
def gu (h : H) (w : ah G H := by
 intro z
 refine mz ?_
 refine rM ?_
 exact z.g) : G := ai w h
def Nh (h : H) (w : ah G H := by
 intro z
 refine sP [0, 3, 4, 5, 6, 7, 8, 9, 10, 11] [3, 8, 10] ?_
 refine xM (s := 5) (by exact rfl) (show _ = RV.slc ab ((aY (aZ (ax code hb)) (aQ (ax code hb)) (m + 1)).ids.map am) from by first | (rw [hi1]; done) | (rw [hi1]; exact rfl) | (rw [hi1, bj]; exact rfl)) ?_
 exact z.g) : G := ai w h
def ll (h : H) (w : ah G H := by
 intro z
 refine Cs ?_
 refine rA ?_ (x := tA)
 exact z.g) : G := ai w h
def Db (h : H) (w : ah G H := by
 intro z
 refine sK ?_
 refine rA ?_ (x := cL [(true, [val _, val _, sl _ _, sl _ _])] [(true, [val _, val _, sl .v _, sl .v _])] WB (hs := by exact adQ))
 exact z.g) : G := ai w h
def yE (h : H) (w : ah G H := by
 intro z
 refine rA ?_ (x := lD [val _] az)
 refine mp ?_
 exact z.g) : G := ai w h
def Dc (h : H) (w : ah G H := by
 intro z
 refine rA ?_ (x := lD [val _, sl .v _] fj)
 refine rA ?_ (x := cL [(true, [val _, sl _ _])] [(true, [val _, sl .v _])] Ev (hs := by exact Fk))
 exact z.g) : G := ai w h
def Ni (h : H) (w : ah G H := by
 intro z
 refine sP [0, 1, 4, 12, 13] [] ?_
 refine sL [0, 1, 12] [] (fun k : Nat => k ≤ x.length ∧ x.take k = y.take k) (fun k : Nat => [(13, RV.int (k : Int))]) (fun k : Nat => []) (fun k : Nat => x.length - k) 0 (by exact ⟨by omega, by simp⟩) (by exact aI (by exact rfl) tI) (by exact tI) ?_
 exact z.g) : G := ai w h
def Dd (h : H) (w : ah G H := by
 intro z
 refine rA ?_ (x := lD [val _, sl .v _] fj)
 refine rA ?_ (x := cL [(true, [val _, sl _ _])] [(true, [val _, sl .v _])] wu (hs := by exact wG))
 exact z.g) : G := ai w h
def De (h : H) (w : ah G H := by
 intro z
 refine dA 0 ?_ (x := sM)
 refine dA 7 ?_ (x := aU (by decide) gH (by exact tI) (by exact rfl) (by exact aW (by omega) rfl) (by exact rfl))
 exact z.g) : G := ai w h
def Nj (h : H) (w : ah G H := by
 intro z
 refine vo ?_
 refine sO [(2, _), (3, _), (4, _), (5, _)] [(2, (32, [sl (.lo _) _, val _, val _, sl (.lo _) _, sl (.lo _) _, sl (.lo _) _, sl (.lo _) _, val _])), (3, (56, [val _, val _, sl (.lo _) _, val _, val _])), (4, (32, [sl _ _, val _, val _, sl _ _, sl _ _, sl _ _, sl _ _, val _]))] ?_
 exact z.g) : G := ai w h
def Nk (h : H) (w : ah G H := by
 intro z
 refine cV (d := 900) (by exact rfl) (show _ = bE (aG aV ab) (s.aey) jk900 from rfl) ?_
 refine sO [(1, _), (2, _), (4, _), (5, _), (6, _), (2900, _)] [(2, _), (4, _), (6, (26, [val _, val _])), (900, (139, bE (aG aV ab) _ _))] ?_
 exact z.g) : G := ai w h
def Nl (h : H) (w : ah G H := by
 intro z
 refine rA ?_ (x := cL [(true, [sl (.lo _) _, val _, val _, sl (.lo _) _, sl (.lo _) _, sl (.lo _) _, sl (.lo _) _, val _]), (false, [val _])] [(true, [sl .v _, val _, val _, sl .v _, sl .v _, sl .v _, sl .v _, val _]), (false, [val _])] Rt (hs := by exact TY))
 refine hZ ?_
 exact z.g) : G := ai w h
def Nn (h : H) (w : ah G H := by
 intro z
 refine sO [(1, _), (2, _), (4, _), (5, _), (6, _), (7, _), (8, _), (9, _), (19, _), (20, _), (21, _), (27, _), (28, _), (29, _), (2900, _), (6000, _)] [(2, (26, [sl (.lo _) _, val _])), (4, (26, [sl _ _, val _])), (6, (26, [val _, val _])), (900, (139, bE lA _ _))] ?_
 refine bd ?_
 exact z.g) : G := ai w h
def No (h : H) (w : ah G H := by
 intro z
 refine rB ge ?_ (x := lD [val _, sl .v _, val _, val _] fq)
 refine rB ge ?_ (x := cL [(true, [val _, sl _ _, val _, val _]), (true, [val _, sl _ _, val _, val _])] [(true, [val _, sl .v _, val _, val _]), (true, [val _, sl .v _, val _, val _])] Yw (hs := by exact acy))
 exact z.g) : G := ai w h
def yF (h : H) (w : ah G H := by
 intro z
 refine rA ?_ (x := kx (.inr rfl) (by decide) (lG (t := 3) (e := 1)))
 refine sT [1, 2] [1] ?_
 exact z.g) : G := ai w h
def sW (h : H) (w : ah G H := by
 intro z
 refine vf ?_
 refine rA ?_ (x := lN jw)
 exact z.g) : G := ai w h
def sX (h : H) (w : ah G H := by
 intro z
 refine rA ?_ (x := lF jX)
 refine rA ?_ (x := lD [val _] kc)
 exact z.g) : G := ai w h
def Df (h : H) (w : ah G H := by
 intro z
 refine rA ?_ (x := bh (ag := true) (vs := [val _, val _, val _]) pN (by exact tI) (by exact rfl) (by exact nl rfl))
 refine be ?_
 exact z.g) : G := ai w h
def Dg (h : H) (w : ah G H := by
 intro z
 refine yw ?_
 refine rA ?_ (x := cL [(true, [sl (.lo _) _, val _])] [(true, [sl .v _, val _])] Rs (hs := by exact (TU (by omega))))
 exact z.g) : G := ai w h
def Np (h : H) (w : ah G H := by
 intro z
 refine rA ?_ (x := bh (ag := false) (vs := [sl _ _]) bF (by exact tI) (by exact rfl) (by exact nl rfl))
 refine sO [(2, _), (3, _), (4, _), (5, _), (6, _), (7, _), (8, _), (9, _), (10, _)] [(2, _), (3, _), (4, _), (6, _), (10, (184, [val _, sl _ _, val _, val _]))] ?_
 exact z.g) : G := ai w h
def yG (h : H) (w : ah G H := by
 intro z
 refine sO [(0, _), (1, _), (4, _), (5000, _)] [(0, (192, [sl o _, val _, val _]))] ?_
 refine bd ?_
 exact z.g) : G := ai w h
def sY (h : H) (w : ah G H := by
 intro z
 refine rA ?_ (x := lF mJ)
 refine rA ?_ (x := lD [val _] az)
 exact z.g) : G := ai w h
def yH (h : H) (w : ah G H := by
 intro z
 refine oo ?_
 refine rA ?_ (x := xB (by decide) (by exact tI) (by exact tI) (by omega))
 exact z.g) : G := ai w h
def nn (h : H) (w : ah G H := by
 intro z
 refine zt g3 ?_
 refine rA ?_ (x := aO g3)
 exact z.g) : G := ai w h
def mB (h : H) (w : ah G H := by
 intro z
 refine rA ?_ (x := aF ga)
 refine rM ?_
 exact z.g) : G := ai w h
def Dh (h : H) (w : ah G H := by
 intro z
 refine rA ?_ (x := lF mI)
 refine rA ?_ (x := bh (ag := false) (vs := [val _]) az (bM rfl) (by exact rfl) (by exact nl rfl))
 exact z.g) : G := ai w h
def jq (h : H) (w : ah G H := by
 intro z
 refine zt ga ?_
 refine jP ?_
 exact z.g) : G := ai w h
def Di (h : H) (w : ah G H := by
 intro z
 refine rM ?_
 refine rA ?_ (x := aU (by decide) cg (by exact tI) (by exact rfl) (by exact aW (by omega) rfl) (by exact rfl))
 exact z.g) : G := ai w h
def Nq (h : H) (w : ah G H := by
 intro z
 refine cV (d := 10) (by exact rfl) (show _ = [val (vI u.Row.Id), sl ab ((il s u).map am), val (vI (s.Now + 1)), val (vI (-1))] from by first | (rw [hv2]; done) | (rw [hv2]; exact rfl)) ?_
 refine sG [2, 3, 4, 5, 6, 7, 8, 9, 10] [2, 3, 4, 6, 10] ?_
 exact z.g) : G := ai w h
def jQ (h : H) (w : ah G H := by
 intro z
 refine rA ?_ (x := tM)
 refine rA ?_ (x := tA)
 refine cT ?_
 exact z.g) : G := ai w h
def Nr (h : H) (w : ah G H := by
 intro z
 refine rA ?_ (x := cL [(true, [sl (.lo _) _, val _, val _, sl (.lo _) _, sl (.lo _) _, sl (.lo _) _, sl (.lo _) _, val _])] [(true, [sl .v _, val _, val _, sl .v _, sl .v _, sl .v _, sl .v _, val _])] Ab (hs := by exact (AR (by omega))))
 refine fz ?_
 exact z.g) : G := ai w h
def vw (h : H) (w : ah G H := by
 intro z
 refine dA 0 ?_ (x := cM Cp.ptr)
 refine dA 2 ?_ (x := iP (by decide))
 exact z.g) : G := ai w h
def Ns (h : H) (w : ah G H := by
 intro z
 refine sO [(2, _), (3, _), (4, _), (5, _), (6, _), (7, _), (8, _), (9, _), (10, _), (2920, _), (2921, _)] [(2, _), (3, _), (4, _), (6, _), (10, _), (920, (139, _ ++ ([val _] ++ _))), (921, (184, _ ++ ([val _, sl _ _, val _, val _] ++ _)))] ?_
 refine da cG ?_
 exact z.g) : G := ai w h
def ot (h : H) (w : ah G H := by
 intro z
 refine zf g10 ?_
 refine rA ?_ (x := aF g10)
 exact z.g) : G := ai w h
def Dj (h : H) (w : ah G H := by
 intro z
 refine rM ?_
 refine rA ?_ (x := aU (k := i) (by decide) eP (by exact tI) (by omega) (by exact aW hi rfl) (by exact rfl))
 exact z.g) : G := ai w h
def pv (h : H) (w : ah G H := by
 intro z
 refine sS [1, 2, 3, 4, 19] [1] ?_
 refine lK ?_
 exact z.g) : G := ai w h
def vz (h : H) (w : ah G H := by
 intro z
 refine rA ?_ (x := lF jX)
 refine rA ?_ (x := lD [sl (.lo _) _] kc)
 exact z.g) : G := ai w h
def sZ (h : H) (w : ah G H := by
 intro z
 refine sR ?_
 refine eH ?_
 refine sS [0, 2] [] ?_
 exact z.g) : G := ai w h
def Nt (h : H) (w : ah G H := by
 intro z
 refine sO [(2, _), (3, _), (4, _), (6, _), (7, _), (8, _), (9, _), (10, _), (11, _), (12, _), (13, _), (6200, _), (6300, _)] [(3, _), (4, _), (6, _), (8, (32, [sl _ _, val _, val _, sl _ _, sl _ _, sl _ _, sl _ _, val _])), (9, _)] ?_
 refine bd ?_
 exact z.g) : G := ai w h
def Nu (h : H) (w : ah G H := by
 intro z
 refine dB 255 gc ?_ (x := lE [sl .v _] jx)
 refine dB 511 gc ?_ (x := cL [(false, [sl _ _])] [(false, [sl .v _])] RB (hs := by exact (TI (x := (aY (aZ (ax code hb)) (aQ (ax code hb)) (m + 1)).e.Done[q].Rows) (by omega))))
 exact z.g) : G := ai w h
def Nv (h : H) (w : ah G H := by
 intro z
 refine bJ.stepC 0 (by exact tI) (by exact tI) (bX.of rfl (cr (by decide) kI kK)) (nV (cu.wr (cu.app (cu.app (cu.app (cu.app (cu.app (cu.of_ rfl) rfl) rfl) rfl) rfl) rfl) rfl)) (by kernel_rfl) (by intro L' h; exact Option.some.inj (show some _ = some L' from h)) ?_
 refine bJ.stepC 767 (by exact ⟨rfl, rfl, ⟨⟩⟩) (by exact ⟨rfl, ⟨⟩⟩) (bX.of rfl (bh (ag := true) (vs := [val _, val _, val _, val _, val _, val _, val _, val _]) bU (by exact tI) (by exact rfl) (by exact nl rfl))) gq (by kernel_rfl) (by intro L' h; exact nomatch (show (none : Option aC) = some L' from h)) ?_
 refine bJ.stepC 2047 (by exact ⟨rfl, ⟨⟩⟩) (by exact tI) (bX.of rfl (iL (.inr rfl) (by decide) (by exact Cp.sc))) gq (by kernel_rfl) (by intro L' h; exact nomatch (show (none : Option aC) = some L' from h)) ?_
 exact z.g) : G := ai w h
def Nw (h : H) (w : ah G H := by
 intro z
 refine dA 6 ?_ (x := lF jY)
 refine dA 14 ?_ (x := cP (ms := [sl _ _]) (qs := [sl .v _]) (by decide) kd (fun _ => rfl) (by exact nl rfl) (by exact rfl) (by exact (aB ao.nil)) (by exact (aj.cons (bor_sl _) aj.nil)))
 exact z.g) : G := ai w h
def vC (h : H) (w : ah G H := by
 intro z
 refine rB ga ?_ (x := lF mJ)
 refine rB ga ?_ (x := lD [val _] az)
 exact z.g) : G := ai w h
def Nx (h : H) (w : ah G H := by
 intro z
 refine dA 0 ?_ (x := lF ee)
 refine dA 1 ?_ (x := cP (ms := [sl _ _]) (qs := [sl .v _]) (by decide) dR (fun _ => rfl) (by exact nl rfl) (by exact rfl) (by exact (aB ao.nil)) (by exact (aj.cons (bor_sl _) aj.nil)))
 exact z.g) : G := ai w h
def Ny (h : H) (w : ah G H := by
 intro z
 refine dA 0 ?_ (x := lF iV)
 refine dA 1 ?_ (x := cP (ms := [sl _ _]) (qs := [sl .v _]) (by decide) iW (fun _ => rfl) (by exact nl rfl) (by exact rfl) (by exact (aB ao.nil)) (by exact (aj.cons (bor_sl _) aj.nil)))
 exact z.g) : G := ai w h
def Nz (h : H) (w : ah G H := by
 intro z
 refine rA ?_ (x := lF oE)
 refine rA ?_ (x := cP (ms := [sl _ _]) (qs := [sl .v _]) (by decide) jx (fun _ => rfl) (by exact nl rfl) (by exact rfl) (by exact (aB ao.nil)) (by exact (aj.cons (bor_sl _) aj.nil)))
 exact z.g) : G := ai w h
def ou (h : H) (w : ah G H := by
 intro z
 refine zf g9 ?_
 refine rA ?_ (x := aF g9)
 exact z.g) : G := ai w h
def ov (h : H) (w : ah G H := by
 intro z
 refine zf gd ?_
 refine rA ?_ (x := aF gd)
 exact z.g) : G := ai w h
def NA (h : H) (w : ah G H := by
 intro z
 refine rA ?_ (x := lF jX)
 refine rA ?_ (x := cP (ms := [sl _ _]) (qs := [sl .v _]) (by decide) kc (fun _ => rfl) (by exact nl rfl) (by exact rfl) (by exact (aB ao.nil)) (by exact (aj.cons (bor_sl _) aj.nil)))
 exact z.g) : G := ai w h
def NB (h : H) (w : ah G H := by
 intro z
 refine rA ?_ (x := lF jY)
 refine rA ?_ (x := cP (ms := [sl _ _]) (qs := [sl .v _]) (by decide) kd (fun _ => rfl) (by exact nl rfl) (by exact rfl) (by exact (aB ao.nil)) (by exact (aj.cons (bor_sl _) aj.nil)))
 exact z.g) : G := ai w h
def NC (h : H) (w : ah G H := by
 intro z
 refine sO [(1, _), (2, _), (3, _), (4, _), (5, _), (6, _), (57, _), (58, _), (59, _), (145, _), (146, _), (147, _), (6200, _)] [(1, _), (2, _), (4, (32, [sl _ _, val _, val _, sl _ _, sl _ _, sl _ _, sl _ _, val _])), (6, _)] ?_
 refine bd ?_
 exact z.g) : G := ai w h
def ND (h : H) (w : ah G H := by
 intro z
 refine sO [(1, _), (2, _), (4, _), (5, _), (6, _), (7, _), (8, _), (9, _), (10, _), (2900, _), (6000, _)] [(2, (26, [sl (.lo _) _, val _])), (4, (26, [sl _ _, val _])), (6, (26, [val _, val _])), (900, (139, bE lA _ _))] ?_
 refine bd ?_
 exact z.g) : G := ai w h
def NE (h : H) (w : ah G H := by
 intro z
 refine dA 0 ?_ (x := lF oE)
 refine dA 2048 ?_ (x := gp (qs := [nv _ (sl .v _)]) (by decide) jx (fun _ => rfl) (by exact nl rfl) (by exact (ak ao.nil)) (by exact (aj.cons (bor_nv (bor_sl _)) aj.nil)))
 exact z.g) : G := ai w h
def NF (h : H) (w : ah G H := by
 intro z
 refine vo ?_
 refine sO [(1, _), (2, _), (4, _), (5, _)] [(2, (32, [sl (.lo _) _, val _, val _, sl (.lo _) _, sl (.lo _) _, sl (.lo _) _, sl (.lo _) _, val _])), (4, (32, [sl _ _, val _, val _, sl _ _, sl _ _, sl _ _, sl _ _, val _]))] ?_
 exact z.g) : G := ai w h
def NG (h : H) (w : ah G H := by
 intro z
 refine rA ?_ (x := nf (cs := [val _]) (by decide) (by exact rfl) (by exact (aj.cons (bor_val _) aj.nil)))
 refine rA ?_ (x := nf (cs := [val _]) (by decide) (by exact rfl) (by exact (aj.cons (bor_val _) aj.nil)))
 exact z.g) : G := ai w h
def jR (h : H) (w : ah G H := by
 intro z
 refine de ?_
 refine gS ?_
 refine rA ?_ (x := dq)
 exact z.g) : G := ai w h
def vD (h : H) (w : ah G H := by
 intro z
 refine jO ?_
 refine rX ?_ (x := (cr (by decide) kI kK))
 exact z.g) : G := ai w h
def Dk (h : H) (w : ah G H := by
 intro z
 refine rX ?_ (x := (cr (by decide) oI oJ))
 refine eH ?_
 exact z.g) : G := ai w h
def px (h : H) (w : ah G H := by
 intro z
 refine rA ?_ (x := lF tR)
 refine rA ?_ (x := lD [val _] az)
 refine rA ?_ (x := dQ)
 exact z.g) : G := ai w h
def NH (h : H) (w : ah G H := by
 intro z
 refine dA 0 ?_ (x := lF pI)
 refine dA 128 ?_ (x := gp (qs := [val _]) (by decide) az (fun _ => rfl) (by exact nl rfl) (by exact (ao.cons (PV.nv_to (la _)) ao.nil)) (by exact (aj.cons (bor_val _) aj.nil)))
 exact z.g) : G := ai w h
def NI (h : H) (w : ah G H := by
 intro z
 refine dA 0 ?_ (x := lF ju)
 refine dA 512 ?_ (x := gp (qs := [val _]) (by decide) az (fun _ => rfl) (by exact nl rfl) (by exact (ao.cons (PV.nv_to (la _)) ao.nil)) (by exact (aj.cons (bor_val _) aj.nil)))
 exact z.g) : G := ai w h
def NJ (h : H) (w : ah G H := by
 intro z
 refine vo ?_
 refine sO [(1, _), (2, _), (3, _)] [(1, (32, [sl (.lo _) _, val _, val _, sl (.lo _) _, sl (.lo _) _, sl (.lo _) _, sl (.lo _) _, val _])), (2, (32, [sl _ _, val _, val _, sl _ _, sl _ _, sl _ _, sl _ _, val _]))] ?_
 exact z.g) : G := ai w h
def NK (h : H) (w : ah G H := by
 intro z
 refine bJ.stepC 63 (by exact ⟨rfl, ⟨⟩⟩) (by exact tI) (bX.of rfl (uy (.inl rfl) (by decide))) gq (by kernel_rfl) (by intro L' h; exact nomatch (show (none : Option aC) = some L' from h)) ?_
 refine bJ.stepC 127 (by exact ⟨rfl, ⟨⟩⟩) (by exact tI) (bX.of rfl (nf (cs := [val _, val _, val _, val _, val _, val _, val _, val _]) (by decide) (by exact rfl) (by exact lq))) gq (by kernel_rfl) (by intro L' h; exact nomatch (show (none : Option aC) = some L' from h)) ?_
 refine bJ.stepC 127 (by exact ⟨rfl, ⟨⟩⟩) (by exact tI) (bX.of rfl (nf (cs := [val _]) (by decide) (by exact rfl) (by exact (aj.cons (bor_val _) aj.nil)))) gq (by kernel_rfl) (by intro L' h; exact nomatch (show (none : Option aC) = some L' from h)) ?_
 exact z.g) : G := ai w h
def ow (h : H) (w : ah G H := by
 intro z
 refine sR ?_
 refine eH ?_
 refine sS [0, 1, 4] [] ?_
 exact z.g) : G := ai w h
def vE (h : H) (w : ah G H := by
 intro z
 refine rA ?_ (x := lF nt)
 refine rA ?_ (x := lD [val _] az)
 exact z.g) : G := ai w h
def vF (h : H) (w : ah G H := by
 intro z
 refine rA ?_ (x := lF ib)
 refine rA ?_ (x := lD [val _] az)
 exact z.g) : G := ai w h
def NL (h : H) (w : ah G H := by
 intro z
 refine sO [(1, _), (2, _), (3, _), (4, _), (5, _), (6, _), (14, _), (57, _), (58, _), (59, _), (6200, _)] [(1, _), (2, _), (4, (32, [sl _ _, val _, val _, sl _ _, sl _ _, sl _ _, sl _ _, val _])), (6, _)] ?_
 refine bd ?_
 exact z.g) : G := ai w h
def NM (h : H) (w : ah G H := by
 intro z
 refine sO [(2, _), (3, _), (4, _), (5, _), (6, _), (7, _), (8, _), (9, _), (10, _), (2930, _)] [(2, _), (3, _), (4, _), (6, _), (10, (184, [val _, val _, val _, val _])), (930, (3, _ ++ ([val _] ++ _)))] ?_
 refine bd ?_
 exact z.g) : G := ai w h
def NN (h : H) (w : ah G H := by
 intro z
 refine dA 1 ?_ (x := lD [val _, val _, sl .v _, sl .v _] eQ)
 refine dA 3 ?_ (x := cL [(true, [val _, val _, sl _ _, sl _ _])] [(true, [val _, val _, sl .v _, sl .v _])] Rw (hs := by exact TR (by omega)))
 exact z.g) : G := ai w h
def NO (h : H) (w : ah G H := by
 intro z
 refine rA ?_ (x := lD [val _] az)
 refine rA ?_ (x := dp (qs := [(false, [val _])]) (cs := [sl _ _, val _]) (by decide) oI oJ ac0 (by exact rfl) (by exact (aI (by exact tI) tI)) rfl (by exact rfl))
 exact z.g) : G := ai w h
def NP (h : H) (w : ah G H := by
 intro z
 refine sO [(0, _), (1, _), (4, _), (5, _), (6, _), (7, _), (10, _), (5000, _)] [(0, (192, [sl o _, val _, val _])), (4, (52, [val _, val _, sl _ _, sl _ _])), (5, (52, [val _, val _, sl _ _, sl _ _]))] ?_
 refine bd ?_
 exact z.g) : G := ai w h
def NQ (h : H) (w : ah G H := by
 intro z
 refine cV (d := 6) (by exact rfl) (show _ = [sl bz ((cH s u).map (aG aV ab)), val (vI (s.Now + 1))] from by first | (rw [hu1]; done) | (rw [hu1]; exact rfl)) ?_
 refine sP [2, 3, 4, 5, 6, 7, 8, 9, 10] [2, 3, 4, 6, 10] ?_
 refine cV (d := 10) (by exact rfl) (show _ = [val (vI u.Row.Id), sl ab ((fe s u).map am), val (vI (s.Now + 1)), val (vI (-1))] from by first | (rw [hu2]; done) | (rw [hu2]; exact rfl)) ?_
 exact z.g) : G := ai w h
def jS (h : H) (w : ah G H := by
 intro z
 refine rM ?_
 refine rM ?_
 exact z.g) : G := ai w h
def py (h : H) (w : ah G H := by
 intro z
 refine zf g6 ?_
 refine rA ?_ (x := aF g6)
 exact z.g) : G := ai w h
def pz (h : H) (w : ah G H := by
 intro z
 refine zf gb ?_
 refine rA ?_ (x := aF gb)
 exact z.g) : G := ai w h
def NR (h : H) (w : ah G H := by
 intro z
 refine dA 3 ?_ (x := aU (k := i) (by decide) cy (by exact tI) (by rfl) (by exact aW hlt2 (by rw [df (d := v0) hlt2])) (by exact rfl))
 refine dA 7 ?_ (x := lE [val _, sl .v _, val _, val _] fq)
 exact z.g) : G := ai w h
def NS (h : H) (w : ah G H := by
 intro z
 refine sO [(0, _), (1, _), (4, _), (5, _), (6, _), (7, _), (5000, _)] [(0, (192, [sl o _, val _, val _])), (4, (52, [val _, val _, sl _ _, sl _ _])), (5, (52, [val _, val _, sl _ _, sl _ _]))] ?_
 refine bd ?_
 exact z.g) : G := ai w h
def qE (h : H) (w : ah G H := by
 intro z
 refine da cG ?_
 refine dA 0 ?_ (x := sM)
 exact z.g) : G := ai w h
def NT (h : H) (w : ah G H := by
 intro z
 refine be ?_
 refine sO [(1, _), (3, _), (5, _), (7, _), (9, _), (23, _), (24, _), (25, _), (32, _), (33, _), (34, _), (66, _), (67, _), (68, _)] [(1, _), (7, _), (9, (184, [val _, sl _ _, val _, val _]))] ?_
 exact z.g) : G := ai w h
def qF (h : H) (w : ah G H := by
 intro z
 refine bd ?_
 refine rA ?_ (x := cM Cp.ptr)
 exact z.g) : G := ai w h
def NU (h : H) (w : ah G H := by
 intro z
 refine sO [(2, _), (3, _), (4, _), (5, _), (6, _), (7, _), (8, _)] [(2, _), (3, _), (4, _), (6, (32, [sl _ _, val _, val _, sl _ _, sl _ _, sl _ _, sl _ _, val _])), (7, (26, [any, val _]))] ?_
 refine qj ?_
 exact z.g) : G := ai w h
def NV (h : H) (w : ah G H := by
 intro z
 refine sT [1, 3, 5, 7, 23, 24, 25, 32, 33, 34, 66, 67, 68] [1, 7] ?_
 refine rA ?_ (x := aU (k := m) (by decide) cy (by exact tI) (by rfl) (by exact aW (by omega) (by rw [hsg])) (by exact rfl))
 exact z.g) : G := ai w h
def NW (h : H) (w : ah G H := by
 intro z
 refine rB ga ?_ (x := lD [val _, val _, sl .v _, sl .v _] eQ)
 refine rB ga ?_ (x := cL [(true, [val _, val _, sl _ _, sl _ _])] [(true, [val _, val _, sl .v _, sl .v _])] Et (hs := by exact GI))
 exact z.g) : G := ai w h
def Dl (h : H) (w : ah G H := by
 intro z
 refine vj ?_
 refine rX ?_ (x := (eD (ag := true) (cs := [val _, sl _ _]) (by decide) (by exact tI)))
 exact z.g) : G := ai w h
def NX (h : H) (w : ah G H := by
 intro z
 refine rA ?_ (x := lD [val _, sl .v _, val _, val _] fq)
 refine rA ?_ (x := cL [(true, [val _, sl _ _, val _, val _])] [(true, [val _, sl .v _, val _, val _])] Yn (hs := by exact acx (by omega)))
 exact z.g) : G := ai w h
def NY (h : H) (w : ah G H := by
 intro z
 refine rB gb ?_ (x := lD [val _, val _, sl .v _, sl .v _] eQ)
 refine rB gb ?_ (x := cL [(true, [val _, val _, sl _ _, sl _ _])] [(true, [val _, val _, sl .v _, sl .v _])] tQ (hs := by exact ur))
 exact z.g) : G := ai w h
def NZ (h : H) (w : ah G H := by
 intro z
 refine dB 63 gc ?_ (x := aU (by decide) jw (by exact tI) (by exact rfl) (by exact aW (by omega) rfl) (by exact rfl))
 refine dB 127 gc ?_ (x := cd (by decide) rn (by exact nl rfl))
 exact z.g) : G := ai w h
def Oa (h : H) (w : ah G H := by
 intro z
 refine sO [(2, _), (3, _), (4, _), (6, _), (7, _), (8, _), (9, _)] [(3, _), (4, _), (6, _), (8, _), (9, (108, [val _, val _, sl _ _, sl _ _, val _, sl _ _, val _, val _, val _, sl _ _]))] ?_
 refine bd ?_
 exact z.g) : G := ai w h
def Ob (h : H) (w : ah G H := by
 intro z
 refine rB gc ?_ (x := lD [val _] az)
 refine rB gc ?_ (x := cL [(false, [val _]), (false, [val _]), (false, [val _])] [(false, [val _]), (false, [val _]), (false, [val _])] fX (hs := by exact gl))
 exact z.g) : G := ai w h
def Oc (h : H) (w : ah G H := by
 intro z
 refine rB ge ?_ (x := lD [val _] az)
 refine rB ge ?_ (x := cL [(false, [val _]), (false, [val _]), (false, [val _])] [(false, [val _]), (false, [val _]), (false, [val _])] fX (hs := by exact gl))
 exact z.g) : G := ai w h
def Od (h : H) (w : ah G H := by
 intro z
 refine dA 112 ?_ (x := aU (by decide) jw (by exact tI) (by exact rfl) (by exact aW (by omega) rfl) (by exact rfl))
 refine dA 240 ?_ (x := cd (by decide) wy (by exact nl rfl))
 exact z.g) : G := ai w h
def Oe (h : H) (w : ah G H := by
 intro z
 refine dA 6 ?_ (x := aU (by decide) cy (by exact tI) (by exact rfl) (by exact aW (by omega) rfl) (by exact rfl))
 refine dA 14 ?_ (x := cd (by decide) nt (by exact nl rfl))
 exact z.g) : G := ai w h
def Of (h : H) (w : ah G H := by
 intro z
 refine dA 7 ?_ (x := aU (by decide) fL (by exact tI) (by exact rfl) (by exact aW (by omega) rfl) (by exact rfl))
 refine dA 15 ?_ (x := lE [val _, val _, sl .v _, sl .v _, sl .v _] iX)
 exact z.g) : G := ai w h
def Og (h : H) (w : ah G H := by
 intro z
 refine dA 7 ?_ (x := aU (k := k) (by decide) bC (by exact tI) (by rfl) (by exact aW (by omega) (by rw [df (d := 0) (by omega)])) (by exact rfl))
 refine dA 15 ?_ (x := lE [val _] az)
 exact z.g) : G := ai w h
def yI (h : H) (w : ah G H := by
 intro z
 refine rB gf ?_ (x := lF oE)
 refine rB gf ?_ (x := lD [sl .v _] jx)
 exact z.g) : G := ai w h
def pA (h : H) (w : ah G H := by
 intro z
 refine mx ?_
 refine rA ?_ (x := lN cg)
 refine rA ?_ (x := dq)
 exact z.g) : G := ai w h
def Oh (h : H) (w : ah G H := by
 intro z
 refine dA 63 ?_ (x := dp (qs := [(true, [val _, val _, sl _ _, sl _ _]), (false, [val _]), (false, [val _])]) (cs := [val _, val _, sl _ _, sl _ _, val _, sl _ _, val _, val _, val _, sl _ _]) (by decide) gI rq ady (by exact rfl) (by exact (aI (by exact tI) (aI (by exact tI) (aI (by exact tI) tI)))) rfl (by exact rfl))
 refine bJ.step 0 (by exact tI) (by exact tI) (bX.of rfl (cr (by decide) gI rq)) (nV (cu.of_ rfl)) (by kernel_rfl) ?_
 refine dA 255 ?_ (x := bh (ag := true) (vs := [val _, val _, sl _ _, sl _ _, val _, sl _ _, val _, val _, val _, sl _ _]) gv (by exact tI) (by exact rfl) (by exact nl rfl))
 exact z.g) : G := ai w h
def Oi (h : H) (w : ah G H := by
 intro z
 refine dA 3 ?_ (x := aU (by decide) cy (by exact tI) (by exact rfl) (by exact aW (by omega) rfl) (by exact rfl))
 refine dA 7 ?_ (x := cd (by decide) nt (by exact nl rfl))
 exact z.g) : G := ai w h
def Oj (h : H) (w : ah G H := by
 intro z
 refine rA ?_ (x := iL (r' := RV.sv false [sl .v _]) (.inl rfl) (by decide) (by exact Cp.sv (ao.cons (PV.nv_to nh) ao.nil) (aj.cons (bor_sl _) aj.nil)))
 refine rA ?_ (x := lN cy)
 exact z.g) : G := ai w h
def Ok (h : H) (w : ah G H := by
 intro z
 refine rA ?_ (x := bh (ag := true) (vs := [val _, val _, sl _ _, sl _ _, val _, sl _ _, val _, val _, val _, sl _ _]) gv (by exact tI) (by exact rfl) (by exact nl rfl))
 refine be ?_
 exact z.g) : G := ai w h
def qG (h : H) (w : ah G H := by
 intro z
 refine eH ?_
 refine sT [2, 3, 4] [2, 3] ?_
 exact z.g) : G := ai w h
def qH (h : H) (w : ah G H := by
 intro z
 refine zf g17 ?_
 refine rA ?_ (x := aF g17)
 exact z.g) : G := ai w h
def yJ (h : H) (w : ah G H := by
 intro z
 refine be ?_
 refine sP [2, 3, 4, 5, 6, 7, 8, 9, 10] [2, 3, 4, 6, 10] ?_
 exact z.g) : G := ai w h
def Ol (h : H) (w : ah G H := by
 intro z
 refine dA 0 ?_ (x := iL (r' := RV.sv false [sl .v _]) (.inl rfl) (by decide) (by exact Cp.sv (ao.cons (PV.nv_to nh) ao.nil) (aj.cons (bor_sl _) aj.nil)))
 refine dA 0 ?_ (x := sM)
 exact z.g) : G := ai w h
def Om (h : H) (w : ah G H := by
 intro z
 refine rM ?_
 refine rA ?_ (x := dp (qs := [(false, [val _])]) (cs := [val _, sl _ _]) (by decide) gJ mb aeg (by exact rfl) (by exact (aI (by exact tI) tI)) rfl (by exact rfl))
 exact z.g) : G := ai w h
def pB (h : H) (w : ah G H := by
 intro z
 refine rK ?_
 refine sT [1, 2] [1] ?_
 exact z.g) : G := ai w h
def qI (h : H) (w : ah G H := by
 intro z
 refine rA ?_ (x := tA)
 refine be ?_
 exact z.g) : G := ai w h
def pC (h : H) (w : ah G H := by
 intro z
 refine rA ?_ (x := aO gd)
 refine rM ?_
 exact z.g) : G := ai w h
def On (h : H) (w : ah G H := by
 intro z
 refine sS [2, 3, 4, 5, 6, 7, 8, 9, 10] [2, 3, 4, 6, 10] ?_
 refine rA ?_ (x := bP (qs := []) (by decide) bC eg (by decide) rfl rfl rfl rfl rfl (by exact nl rfl) (by exact tI) rfl)
 exact z.g) : G := ai w h
def yK (h : H) (w : ah G H := by
 intro z
 refine rB gc ?_ (x := lF iB)
 refine rB gc ?_ (x := lD [val _] az)
 exact z.g) : G := ai w h
def Oo (h : H) (w : ah G H := by
 intro z
 refine rB gc ?_ (x := sM)
 refine rB gc ?_ (x := cL [(false, [val _]), (false, [val _]), (false, [val _])] [(false, [val _]), (false, [val _]), (false, [val _])] fX (hs := by exact gl))
 exact z.g) : G := ai w h
def Oq (h : H) (w : ah G H := by
 intro z
 refine dA 15 ?_ (x := cL [(false, [val _]), (false, [val _]), (false, [val _])] [(false, [val _]), (false, [val _]), (false, [val _])] fX (hs := by exact gl))
 refine dA 31 ?_ (x := nT)
 exact z.g) : G := ai w h
def yL (h : H) (w : ah G H := by
 intro z
 refine rB ga ?_ (x := lF rm)
 refine rB ga ?_ (x := lD [val _] az)
 exact z.g) : G := ai w h
def Ot (h : H) (w : ah G H := by
 intro z
 refine rM ?_
 refine rA ?_ (x := cL [(true, [val _, sl _ _, val _, val _]), (false, [val _])] [(true, [val _, sl .v _, val _, val _]), (false, [val _])] EW (hs := by exact GJ))
 exact z.g) : G := ai w h
def Ou (h : H) (w : ah G H := by
 intro z
 refine jO ?_
 refine rX ?_ (x := (eD (ag := true) (cs := [val _, val _, val _, sl _ _, sl _ _, val _, val _, val _, val _, sl _ _, val _, val _, val _]) (by decide) (by exact tI)))
 exact z.g) : G := ai w h
def vG (h : H) (w : ah G H := by
 intro z
 refine sS [1, 2, 3] [1] ?_
 refine rA ?_ (x := lF lX)
 exact z.g) : G := ai w h
def lP (h : H) (w : ah G H := by
 intro z
 refine bd ?_
 refine rM ?_
 exact z.g) : G := ai w h
def Ov (h : H) (w : ah G H := by
 intro z
 refine sR ?_
 refine rX ?_ (x := (eD (ag := true) (cs := [val _, val _, val _, sl _ _, sl _ _, val _, val _, val _, val _, sl _ _, val _, val _, val _]) (by decide) (by exact tI)))
 exact z.g) : G := ai w h
def Ow (h : H) (w : ah G H := by
 intro z
 refine rA ?_ (x := cL [(false, [val _]), (false, [val _]), (false, [val _])] [(false, [val _]), (false, [val _]), (false, [val _])] fX (hs := by exact gl))
 refine rA ?_ (x := nT)
 exact z.g) : G := ai w h
def yM (h : H) (w : ah G H := by
 intro z
 refine rX ?_ (x := (cr (by decide) gJ mb))
 refine be ?_
 exact z.g) : G := ai w h
def qJ (h : H) (w : ah G H := by
 intro z
 refine rK ?_
 refine sT [2, 3, 4] [2, 3] ?_
 exact z.g) : G := ai w h
def qK (h : H) (w : ah G H := by
 intro z
 refine zf g5 ?_
 refine rA ?_ (x := aF g5)
 exact z.g) : G := ai w h
def qL (h : H) (w : ah G H := by
 intro z
 refine zt gc ?_
 refine rA ?_ (x := aO gc)
 exact z.g) : G := ai w h
def qM (h : H) (w : ah G H := by
 intro z
 refine zf g7 ?_
 refine rA ?_ (x := aF g7)
 exact z.g) : G := ai w h
def qN (h : H) (w : ah G H := by
 intro z
 refine zt g6 ?_
 refine rA ?_ (x := aO g6)
 exact z.g) : G := ai w h
def Dm (h : H) (w : ah G H := by
 intro z
 refine sG [1, 2, 4, 5, 6, 7, 8, 9, 10, 11, 12, 13, 2900, 6000] [2, 4, 6, 11, 900] ?_
 refine cb ?_
 exact z.g) : G := ai w h
def zss (h : H) (w : ah G H := by
 intro z
 refine yk ?_
 refine rA ?_ (x := bh (ag := true) (vs := [sl _ _, val _, val _, sl _ _, sl _ _, sl _ _, sl _ _, val _]) bU (by exact tI) (by exact rfl) (by exact nl rfl))
 exact z.g) : G := ai w h
def mC (h : H) (w : ah G H := by
 intro z
 refine zt gb ?_
 refine gt ?_
 exact z.g) : G := ai w h
def Ox (h : H) (w : ah G H := by
 intro z
 refine rA ?_ (x := bh (ag := true) (vs := [nv _ (val _), nv _ (sl _ _), nv _ (val _), nv _ (val _)]) fq (by exact tI) (by exact rfl) (by exact nl rfl))
 refine be ?_
 exact z.g) : G := ai w h
def Oy (h : H) (w : ah G H := by
 intro z
 refine rX ?_ (x := (cr (by decide) Ah Aj))
 refine rA ?_ (x := bh (ag := true) (vs := [sl _ _, sl _ _]) tZ (by exact tI) (by exact rfl) (by exact nl rfl))
 exact z.g) : G := ai w h
def Oz (h : H) (w : ah G H := by
 intro z
 refine rA ?_ (x := bh (ag := true) (vs := [sl _ _, val _, val _, sl _ _, sl _ _, sl _ _, sl _ _, val _]) bU (by exact tI) (by exact rfl) (by exact nl rfl))
 refine rK ?_
 exact z.g) : G := ai w h
def qO (h : H) (w : ah G H := by
 intro z
 refine sS [1, 2, 4] [1] ?_
 refine lK ?_
 exact z.g) : G := ai w h
def OA (h : H) (w : ah G H := by
 intro z
 refine rA ?_ (x := cL [(false, [val _]), (false, [val _]), (false, [val _])] [(false, [val _]), (false, [val _]), (false, [val _])] kG (hs := by exact kT))
 refine fz ?_
 exact z.g) : G := ai w h
def lm (h : H) (w : ah G H := by
 intro z
 refine oj ?_
 refine rM ?_
 exact z.g) : G := ai w h
def OB (h : H) (w : ah G H := by
 intro z
 refine sS [0, 1, 4, 5] [4] ?_
 refine rA ?_ (x := dp (qs := []) (cs := [sl _ _, val _]) (by decide) oI oJ aee (by exact rfl) (by exact tI) rfl (by exact rfl))
 exact z.g) : G := ai w h
def OC (h : H) (w : ah G H := by
 intro z
 refine dB 16383 gc ?_ (x := cL [(false, [sl _ _]), (false, [sl _ _])] [(false, [sl .v _]), (false, [sl .v _])] EY (hs := by exact Fo))
 refine dB 32767 gc ?_ (x := nT)
 exact z.g) : G := ai w h
def ta (h : H) (w : ah G H := by
 intro z
 refine da cG ?_
 refine dA 0 ?_ (x := tM)
 exact z.g) : G := ai w h
def OD (h : H) (w : ah G H := by
 intro z
 refine Dk ?_
 refine sO [(2, _), (3, _), (4, _), (5, _)] [(2, (26, [sl (.lo _) _, val _])), (3, (56, [val _, val _, sl (.lo _) _, val _, val _])), (4, (26, [sl _ _, val _]))] ?_
 exact z.g) : G := ai w h
def OE (h : H) (w : ah G H := by
 intro z
 refine dA 3 ?_ (x := aU (by decide) fD (by exact tI) (by exact rfl) (by exact aW (by omega) rfl) (by exact rfl))
 refine dA 7 ?_ (x := lE [val _, sl .v _] fj)
 exact z.g) : G := ai w h
def vH (h : H) (w : ah G H := by
 intro z
 refine rA ?_ (x := lN fL)
 refine rA ?_ (x := dq)
 exact z.g) : G := ai w h
def OF (h : H) (w : ah G H := by
 intro z
 refine sO [(2, _), (3, _), (4, _), (6, _), (7, _), (8, _)] [(3, _), (4, _), (6, _), (8, (32, [sl _ _, val _, val _, sl _ _, sl _ _, sl _ _, sl _ _, val _]))] ?_
 refine bd ?_
 exact z.g) : G := ai w h
def vJ (h : H) (w : ah G H := by
 intro z
 refine rB ga ?_ (x := sM)
 refine rB ga ?_ (x := dq)
 exact z.g) : G := ai w h
def OG (h : H) (w : ah G H := by
 intro z
 refine dA 30 ?_ (x := lE [val _] az)
 refine dA 0 ?_ (x := bP (qs := []) (by decide) bC eg (by decide) rfl rfl rfl rfl rfl (by exact nl rfl) (by exact tI) rfl)
 exact z.g) : G := ai w h
def qP (h : H) (w : ah G H := by
 intro z
 refine bb ?_
 refine sG [0, 3] [] ?_
 exact z.g) : G := ai w h
def qQ (h : H) (w : ah G H := by
 intro z
 refine bq ?_
 refine sS [0, 3] [] ?_
 exact z.g) : G := ai w h
def np (h : H) (w : ah G H := by
 intro z
 refine uY ?_
 refine be ?_
 exact z.g) : G := ai w h
def qR (h : H) (w : ah G H := by
 intro z
 refine de ?_
 refine rA ?_ (x := dq)
 exact z.g) : G := ai w h
def OH (h : H) (w : ah G H := by
 intro z
 refine dA 3 ?_ (x := lD [val _] az)
 refine dA 0 ?_ (x := bP (qs := []) (by decide) bC eg (by decide) rfl rfl rfl rfl rfl (by exact nl rfl) (by exact tI) rfl)
 exact z.g) : G := ai w h
def yN (h : H) (w : ah G H := by
 intro z
 refine rB gd ?_ (x := lD [val _] az)
 refine rB gd ?_ (x := dQ)
 exact z.g) : G := ai w h
def pD (h : H) (w : ah G H := by
 intro z
 refine da cG ?_
 refine dA 0 ?_ (x := cM Cp.ptr)
 refine dA 1 ?_ (x := iP (by decide))
 exact z.g) : G := ai w h
def tb (h : H) (w : ah G H := by
 intro z
 refine sS [1, 2, 3, 16] [1] ?_
 refine lK ?_
 exact z.g) : G := ai w h
def OI (h : H) (w : ah G H := by
 intro z
 refine sO [(1, _), (2, _), (4, _), (5, _), (6, _), (7, _)] [(2, _), (4, _), (6, (32, [sl _ _, val _, val _, sl _ _, sl _ _, sl _ _, sl _ _, val _]))] ?_
 refine qj ?_
 exact z.g) : G := ai w h
def OJ (h : H) (w : ah G H := by
 intro z
 refine vm ?_
 refine rA ?_ (x := cL [(true, [val _, val _, sl _ _, val _, val _])] [(true, [val _, val _, sl .v _, val _, val _])] Ql (hs := by exact TJ))
 exact z.g) : G := ai w h
def OK (h : H) (w : ah G H := by
 intro z
 refine sO [(2, _), (3, _), (4, _), (5, _), (6, _)] [(2, _), (3, _), (4, _), (6, (32, [sl _ _, val _, val _, sl _ _, sl _ _, sl _ _, sl _ _, val _]))] ?_
 refine bd ?_
 exact z.g) : G := ai w h
def tc (h : H) (w : ah G H := by
 intro z
 refine zf g19 ?_
 refine rA ?_ (x := aF g19)
 exact z.g) : G := ai w h
def OL (h : H) (w : ah G H := by
 intro z
 refine sR ?_
 refine rX ?_ (x := (eD (ag := true) (cs := [val _, val _, sl _ _, sl _ _, val _, sl _ _, val _, val _, val _, sl _ _]) (by decide) (by exact tI)))
 exact z.g) : G := ai w h
def OM (h : H) (w : ah G H := by
 intro z
 refine rA ?_ (x := lD [sl .v _, val _] cW)
 refine rA ?_ (x := cL [(true, [sl _ _, val _])] [(true, [sl .v _, val _])] EZ (hs := by exact GL (by omega)))
 exact z.g) : G := ai w h
def ON (h : H) (w : ah G H := by
 intro z
 refine rX ?_ (x := (eD (ag := true) (cs := [val _, val _, sl _ _, sl _ _]) (by decide) (by exact tI)))
 refine rX ?_ (x := (cr (by decide) kI kK))
 exact z.g) : G := ai w h
def mD (h : H) (w : ah G H := by
 intro z
 refine mz ?_
 refine eX ?_
 exact z.g) : G := ai w h
def mE (h : H) (w : ah G H := by
 intro z
 refine zt ga ?_
 refine rA ?_ (x := aO ga)
 refine cv ?_
 exact z.g) : G := ai w h
def OO (h : H) (w : ah G H := by
 intro z
 refine dJ ?_
 refine sO [(2, _), (3, _), (4, _), (5, _), (6, _), (7, _), (8, _), (9, _), (10, _)] [(2, _), (3, _), (4, _), (6, (26, [sl _ _, val _])), (10, _)] ?_
 exact z.g) : G := ai w h
def yO (h : H) (w : ah G H := by
 intro z
 refine sS [0, 3, 4, 5, 6, 29, 5000] [0, 3, 4] ?_
 refine lK ?_
 exact z.g) : G := ai w h
def OP (h : H) (w : ah G H := by
 intro z
 refine sS [1, 2, 4, 5, 6, 7] [2, 4, 6] ?_
 refine rA ?_ (x := lD [sl (.lo _) _, val _, val _, sl (.lo _) _, sl (.lo _) _, sl (.lo _) _, sl (.lo _) _, val _] bU)
 exact z.g) : G := ai w h
def OQ (h : H) (w : ah G H := by
 intro z
 refine dA 131071 ?_ (x := lF jY)
 refine dA 262143 ?_ (x := bh (ag := false) (vs := [sl _ _]) kd (by exact tI) (by exact rfl) (by exact nl rfl))
 exact z.g) : G := ai w h
def OR (h : H) (w : ah G H := by
 intro z
 refine be ?_
 refine sO [(1, _), (2, _), (4, _), (5, _), (6, _)] [(2, _), (4, _), (6, (32, [sl _ _, val _, val _, sl _ _, sl _ _, sl _ _, sl _ _, val _]))] ?_
 exact z.g) : G := ai w h
def td (h : H) (w : ah G H := by
 intro z
 refine zf g4 ?_
 refine rA ?_ (x := aF g4)
 exact z.g) : G := ai w h
def te (h : H) (w : ah G H := by
 intro z
 refine zf g8 ?_
 refine rA ?_ (x := aF g8)
 exact z.g) : G := ai w h
def OS (h : H) (w : ah G H := by
 intro z
 refine dA 1023 ?_ (x := dp (qs := [(false, [val _]), (false, [sl _ _]), (false, [val _]), (false, [val _])]) (cs := [val _, sl _ _, val _, val _]) (by decide) fE ny TZ (by exact rfl) (by exact (aI (by exact tI) (aI (by exact tI) (aI (by exact tI) (aI (bM rfl) tI))))) rfl (by exact rfl))
 refine bJ.step 0 (by exact tI) (by exact tI) (bX.of rfl (cr (by decide) fE ny)) (nV (cu.of_ rfl)) (by kernel_rfl) ?_
 refine dA 4095 ?_ (x := bh (ag := true) (vs := [val _, sl _ _, val _, val _]) fq (by exact tI) (by exact rfl) (by exact nl rfl))
 exact z.g) : G := ai w h
def qS (h : H) (w : ah G H := by
 intro z
 refine rA ?_ (x := tM)
 refine jp ?_
 exact z.g) : G := ai w h
def vK (h : H) (w : ah G H := by
 intro z
 refine bq ?_
 refine sS [0, 1, 4, 5, 6] [] ?_
 exact z.g) : G := ai w h
def OT (h : H) (w : ah G H := by
 intro z
 refine rA ?_ (x := cL [(true, [val _, val _, sl _ _, sl _ _])] [(true, [val _, val _, sl .v _, sl .v _])] Et (hs := by exact GI))
 refine fz ?_
 exact z.g) : G := ai w h
def Dn (h : H) (w : ah G H := by
 intro z
 refine da cG ?_
 refine dA 0 ?_ (x := lD [val _, val _, sl .v _, sl .v _] eQ)
 exact z.g) : G := ai w h
def OU (h : H) (w : ah G H := by
 intro z
 refine sK ?_
 refine rA ?_ (x := cL [(true, [val _, val _, sl _ _, sl _ _])] [(true, [val _, val _, sl .v _, sl .v _])] Et (hs := by exact GI))
 exact z.g) : G := ai w h
def OV (h : H) (w : ah G H := by
 intro z
 refine dA 4 ?_ (x := lD [sl .v _] bF)
 refine dA 12 ?_ (x := cL [(false, [sl _ _])] [(false, [sl .v _])] oD (hs := by exact oV (by omega)))
 exact z.g) : G := ai w h
def OW (h : H) (w : ah G H := by
 intro z
 refine dA 8 ?_ (x := lD [sl .v _] bF)
 refine dA 31 ?_ (x := cL [(false, [sl _ _])] [(false, [sl .v _])] oD (hs := by exact oV (by omega)))
 exact z.g) : G := ai w h
def yP (h : H) (w : ah G H := by
 intro z
 refine rB ga ?_ (x := lN bC)
 refine rB ga ?_ (x := dQ)
 exact z.g) : G := ai w h
def OX (h : H) (w : ah G H := by
 intro z
 refine rA ?_ (x := cL [(true, [val _, val _, sl _ _, sl _ _])] [(true, [val _, val _, sl .v _, sl .v _])] tQ (hs := by exact ur))
 refine rM ?_
 exact z.g) : G := ai w h
def OY (h : H) (w : ah G H := by
 intro z
 refine sO [(0, _), (2, _), (4, _), (6, _), (7, _), (8, _), (5000, _)] [(0, (192, [sl o _, val _, val _])), (4, (26, [sl _ _, val _]))] ?_
 refine bd ?_
 exact z.g) : G := ai w h
def mF (h : H) (w : ah G H := by
 intro z
 refine pk ?_
 refine rS ?_
 exact z.g) : G := ai w h
def tf (h : H) (w : ah G H := by
 intro z
 refine dF 1023 gb ?_
 refine dF 1023 gb ?_
 exact z.g) : G := ai w h
def OZ (h : H) (w : ah G H := by
 intro z
 refine sO [(1, _), (2, _), (4, _), (5, _)] [(2, _), (4, _), (5, (32, [sl _ _, val _, val _, sl _ _, sl _ _, sl _ _, sl _ _, val _]))] ?_
 refine bd ?_
 exact z.g) : G := ai w h
def Pa (h : H) (w : ah G H := by
 intro z
 refine rA ?_ (x := bP (qs := []) (by decide) mP kJ (by decide) rfl rfl rfl rfl rfl (by exact nl rfl) (by exact tI) rfl)
 refine qI ?_
 exact z.g) : G := ai w h
def Pb (h : H) (w : ah G H := by
 intro z
 refine sO [(2, _), (3, _), (4, _), (5, _), (6, _), (7, _), (8, _), (9, _)] [(2, _), (3, _), (4, _), (6, (26, [sl _ _, val _]))] ?_
 refine da cG ?_
 exact z.g) : G := ai w h
def Pc (h : H) (w : ah G H := by
 intro z
 refine dJ ?_
 refine sO [(1, _), (2, _), (3, _), (4, _)] [(1, _), (2, _), (4, (32, [sl _ _, val _, val _, sl _ _, sl _ _, sl _ _, sl _ _, val _]))] ?_
 exact z.g) : G := ai w h
def yQ (h : H) (w : ah G H := by
 intro z
 refine bb ?_
 refine sS [2, 3, 4, 5, 6] [2, 3, 4, 6] ?_
 exact z.g) : G := ai w h
def Pd (h : H) (w : ah G H := by
 intro z
 refine rA ?_ (x := bP (qs := []) (by decide) bC eg (by decide) rfl rfl rfl rfl rfl (by exact nl rfl) (by exact tI) rfl)
 refine rA ?_ (x := vM false [sl .v _])
 refine rA ?_ (x := it (by decide) bC eg rfl rfl (by decide) (by first | (intro cs hcs; obtain ⟨x, _, rfl⟩ := List.mem_map.1 hcs; exact rfl) | simp) (by first | (intro cs hcs; obtain ⟨x, _, rfl⟩ := List.mem_map.1 hcs; exact (aj.cons (bor_val _) aj.nil)) | simp) (by simp only [aw, aM, List.length_cons, List.length_nil]; omega) (by simp only [aw, aM, List.length_cons, List.length_nil]; omega))
 exact z.g) : G := ai w h
def Pe (h : H) (w : ah G H := by
 intro z
 refine jp ?_
 refine rA ?_ (x := cL [(false, [sl _ _]), (false, [val _])] [(false, [sl .v _]), (false, [val _])] Qk (hs := by exact RP))
 exact z.g) : G := ai w h
def Pf (h : H) (w : ah G H := by
 intro z
 refine rA ?_ (x := lF oE)
 refine rA ?_ (x := bh (ag := false) (vs := [sl _ _]) jx (by exact tI) (by exact rfl) (by exact nl rfl))
 exact z.g) : G := ai w h
def Do (h : H) (w : ah G H := by
 intro z
 refine rA ?_ (x := lF gG)
 refine rA ?_ (x := lD [sl (.lo _) _, val _] cW)
 exact z.g) : G := ai w h
def Pg (h : H) (w : ah G H := by
 intro z
 refine rA ?_ (x := lF jt)
 refine rA ?_ (x := bh (ag := false) (vs := [sl _ _]) bF (by exact tI) (by exact rfl) (by exact nl rfl))
 exact z.g) : G := ai w h
def tg (h : H) (w : ah G H := by
 intro z
 refine sS [0, 2, 3] [] ?_
 refine ca ?_
 refine sP [0, 2, 3, 4] [] ?_
 exact z.g) : G := ai w h
def th (h : H) (w : ah G H := by
 intro z
 refine dh ?_
 refine sP [0, 1, 5] [] ?_
 exact z.g) : G := ai w h
def ti (h : H) (w : ah G H := by
 intro z
 refine rB gb ?_ (x := nT)
 refine pn ?_
 exact z.g) : G := ai w h
def yR (h : H) (w : ah G H := by
 intro z
 refine dT 4194303 ga ?_
 refine dA 8388607 ?_ (x := aO ga)
 exact z.g) : G := ai w h
def Ph (h : H) (w : ah G H := by
 intro z
 refine rA ?_ (x := lF lW)
 refine rA ?_ (x := bh (ag := false) (vs := [sl _ _]) lZ (by exact tI) (by exact rfl) (by exact nl rfl))
 exact z.g) : G := ai w h
def Pi (h : H) (w : ah G H := by
 intro z
 refine rA ?_ (x := lF jX)
 refine rA ?_ (x := bh (ag := false) (vs := [sl _ _]) kc (by exact tI) (by exact rfl) (by exact nl rfl))
 exact z.g) : G := ai w h
def Pj (h : H) (w : ah G H := by
 intro z
 refine rA ?_ (x := lD [sl .v _] jx)
 refine rA ?_ (x := cL [(false, [sl _ _])] [(false, [sl .v _])] Yh (hs := by exact ZO (by omega)))
 exact z.g) : G := ai w h
def Pk (h : H) (w : ah G H := by
 intro z
 refine rA ?_ (x := lF jY)
 refine rA ?_ (x := bh (ag := false) (vs := [sl _ _]) kd (by exact tI) (by exact rfl) (by exact nl rfl))
 exact z.g) : G := ai w h
def tj (h : H) (w : ah G H := by
 intro z
 refine rB gb ?_ (x := sM)
 refine gt ?_
 exact z.g) : G := ai w h
def Dp (h : H) (w : ah G H := by
 intro z
 refine dA 0 ?_ (x := lF gG)
 refine dA 1 ?_ (x := lD [sl .v _, val _] cW)
 exact z.g) : G := ai w h
def Pm (h : H) (w : ah G H := by
 intro z
 refine sO [(1, _), (2, _), (4, _), (5, _), (6, _), (2900, _), (6000, _)] [(2, _), (4, _), (6, _), (900, (139, bE lA _ _))] ?_
 refine bd ?_
 exact z.g) : G := ai w h
def Pn (h : H) (w : ah G H := by
 intro z
 refine rA ?_ (x := lF mJ)
 refine rA ?_ (x := bh (ag := false) (vs := [val _]) az (by exact tI) (by exact rfl) (by exact nl rfl))
 exact z.g) : G := ai w h
def Po (h : H) (w : ah G H := by
 intro z
 refine rA ?_ (x := lF lv)
 refine rA ?_ (x := bh (ag := false) (vs := [val _]) az (by exact tI) (by exact rfl) (by exact nl rfl))
 exact z.g) : G := ai w h
def vL (h : H) (w : ah G H := by
 intro z
 refine CP ?_
 refine rB gb ?_ (x := lN gH)
 exact z.g) : G := ai w h
def vO (h : H) (w : ah G H := by
 intro z
 refine bi ?_
 refine sS [0, 1, 4, 5, 6] [] ?_
 exact z.g) : G := ai w h
def vP (h : H) (w : ah G H := by
 intro z
 refine rA ?_ (x := lF jt)
 refine oh ?_
 exact z.g) : G := ai w h
def Pp (h : H) (w : ah G H := by
 intro z
 refine sO [(1, _), (2, _), (3, _)] [(1, _), (2, _), (3, (32, [sl _ _, val _, val _, sl _ _, sl _ _, sl _ _, sl _ _, val _]))] ?_
 refine bd ?_
 exact z.g) : G := ai w h
def Pq (h : H) (w : ah G H := by
 intro z
 refine dJ ?_
 refine sO [(2, _), (3, _), (4, _), (5, _), (6, _), (7, _), (8, _)] [(2, _), (3, _), (4, _), (6, _), (7, (26, [sl _ _, val _]))] ?_
 exact z.g) : G := ai w h
def Pr (h : H) (w : ah G H := by
 intro z
 refine yw ?_
 refine rA ?_ (x := cL [(true, [sl (.lo _) _, val _])] [(true, [sl .v _, val _])] ET (hs := by exact (GO (by omega))))
 exact z.g) : G := ai w h
def tk (h : H) (w : ah G H := by
 intro z
 refine rA ?_ (x := aF gc)
 refine rM ?_
 exact z.g) : G := ai w h
def tl (h : H) (w : ah G H := by
 intro z
 refine rA ?_ (x := aF gd)
 refine rM ?_
 exact z.g) : G := ai w h
def tm (h : H) (w : ah G H := by
 intro z
 refine rA ?_ (x := aO ge)
 refine rM ?_
 exact z.g) : G := ai w h
def tn (h : H) (w : ah G H := by
 intro z
 refine rA ?_ (x := aF ge)
 refine rM ?_
 exact z.g) : G := ai w h
def Ps (h : H) (w : ah G H := by
 intro z
 refine rA ?_ (x := bh (ag := true) (vs := [sl _ _, sl _ _]) tZ (by exact tI) (by exact rfl) (by exact nl rfl))
 refine cT ?_
 exact z.g) : G := ai w h
def Pt (h : H) (w : ah G H := by
 intro z
 refine yw ?_
 refine rA ?_ (x := cL [(true, [sl (.lo _) _, val _])] [(true, [sl .v _, val _])] RJ (hs := by exact TM (by omega)))
 exact z.g) : G := ai w h
def Pu (h : H) (w : ah G H := by
 intro z
 refine yw ?_
 refine rA ?_ (x := cL [(true, [sl (.lo _) _, val _])] [(true, [sl .v _, val _])] EZ (hs := by exact GL (by omega)))
 exact z.g) : G := ai w h
def ox (h : H) (w : ah G H := by
 intro z
 refine pu ?_
 refine dA 3 ?_ (x := aU (by decide) bC (by exact tI) (by exact rfl) (by exact aW (by omega) rfl) (by exact rfl))
 refine dA 7 ?_ (x := lE [val _] az)
 exact z.g) : G := ai w h
def oy (h : H) (w : ah G H := by
 intro z
 refine vh ?_
 refine jP ?_
 exact z.g) : G := ai w h
def oz (h : H) (w : ah G H := by
 intro z
 refine mx ?_
 refine rA ?_ (x := lN cg)
 refine eo ?_
 exact z.g) : G := ai w h
def vQ (h : H) (w : ah G H := by
 intro z
 refine rA ?_ (x := lF gG)
 refine lM ?_
 exact z.g) : G := ai w h
def vR (h : H) (w : ah G H := by
 intro z
 refine rA ?_ (x := lF Qo)
 refine yE ?_
 exact z.g) : G := ai w h
def Pv (h : H) (w : ah G H := by
 intro z
 refine dA 16383 ?_ (x := bh (ag := false) (vs := [sl _ _]) bF (by exact tI) (by exact rfl) (by exact nl rfl))
 refine be ?_
 exact z.g) : G := ai w h
def yS (h : H) (w : ah G H := by
 intro z
 refine rA ?_ (x := lN mP)
 refine rA ?_ (x := dq)
 exact z.g) : G := ai w h
def pE (h : H) (w : ah G H := by
 intro z
 refine bd ?_
 refine cb ?_
 exact z.g) : G := ai w h
def nq (h : H) (w : ah G H := by
 intro z
 refine vq ?_
 refine rM ?_
 exact z.g) : G := ai w h
def Dq (h : H) (w : ah G H := by
 intro z
 refine rB gb ?_ (x := lF jt)
 refine rB gb ?_ (x := lD [sl .v _] bF)
 exact z.g) : G := ai w h
def to (h : H) (w : ah G H := by
 intro z
 refine rM ?_
 refine rA ?_ (x := dQ)
 exact z.g) : G := ai w h
def Pw (h : H) (w : ah G H := by
 intro z
 refine CZ ?_
 refine rX ?_ (x := (eD (ag := true) (cs := [val _, val _, sl (.lo _) _, val _, val _]) (by decide) (by exact tI)))
 exact z.g) : G := ai w h
def Px (h : H) (w : ah G H := by
 intro z
 refine va ?_
 refine rX ?_ (x := (eD (ag := true) (cs := [val _, val _, sl (.lo _) _, val _, val _]) (by decide) (by exact tI)))
 exact z.g) : G := ai w h
def Py (h : H) (w : ah G H := by
 intro z
 refine rA ?_ (x := bh (ag := true) (vs := [sl _ _, val _]) cW (by exact tI) (by exact rfl) (by exact nl rfl))
 refine cm ?_
 exact z.g) : G := ai w h
def vS (h : H) (w : ah G H := by
 intro z
 refine zf g11 ?_
 refine rA ?_ (x := aF g11)
 exact z.g) : G := ai w h
def vT (h : H) (w : ah G H := by
 intro z
 refine zf g20 ?_
 refine rA ?_ (x := aF g20)
 exact z.g) : G := ai w h
def vU (h : H) (w : ah G H := by
 intro z
 refine zf g18 ?_
 refine rA ?_ (x := aF g18)
 exact z.g) : G := ai w h
def Dr (h : H) (w : ah G H := by
 intro z
 refine rB gc ?_ (x := lF lY)
 refine rB gc ?_ (x := lD [sl .v _] bF)
 exact z.g) : G := ai w h
def Ds (h : H) (w : ah G H := by
 intro z
 refine rB gd ?_ (x := lF kb)
 refine rB gd ?_ (x := lD [sl .v _] bF)
 exact z.g) : G := ai w h
def Dt (h : H) (w : ah G H := by
 intro z
 refine rB ga ?_ (x := lF jX)
 refine rB ga ?_ (x := lD [sl .v _] kc)
 exact z.g) : G := ai w h
def Du (h : H) (w : ah G H := by
 intro z
 refine rB gb ?_ (x := lF wv)
 refine rB gb ?_ (x := lD [sl .v _] bF)
 exact z.g) : G := ai w h
def Dv (h : H) (w : ah G H := by
 intro z
 refine rB gd ?_ (x := lF jY)
 refine rB gd ?_ (x := lD [sl .v _] kd)
 exact z.g) : G := ai w h
def Dw (h : H) (w : ah G H := by
 intro z
 refine rB ge ?_ (x := lF iV)
 refine rB ge ?_ (x := lD [sl .v _] iW)
 exact z.g) : G := ai w h
def Dx (h : H) (w : ah G H := by
 intro z
 refine rB gc ?_ (x := lF ee)
 refine rB gc ?_ (x := lD [sl .v _] dR)
 exact z.g) : G := ai w h
def Dy (h : H) (w : ah G H := by
 intro z
 refine rB gi ?_ (x := lF rn)
 refine rB gi ?_ (x := lD [sl .v _] jx)
 exact z.g) : G := ai w h
def vV (h : H) (w : ah G H := by
 intro z
 refine rA ?_ (x := cM Cp.ptr)
 refine lL ?_
 exact z.g) : G := ai w h
def Pz (h : H) (w : ah G H := by
 intro z
 refine vb ?_
 refine rA ?_ (x := cL [(true, [val _, sl _ _])] [(true, [val _, sl .v _])] Ex (hs := by exact Fm (by omega)))
 exact z.g) : G := ai w h
def Dz (h : H) (w : ah G H := by
 intro z
 refine dB 2097151 gb ?_ (x := ix)
 refine dB 4194303 ga ?_ (x := aO gb)
 exact z.g) : G := ai w h
def PA (h : H) (w : ah G H := by
 intro z
 refine rA ?_ (x := cL [(false, [sl _ _])] [(false, [sl .v _])] RB (hs := by exact (TI (by omega))))
 refine rA ?_ (x := tA)
 exact z.g) : G := ai w h
def DA (h : H) (w : ah G H := by
 intro z
 refine dA 96 ?_ (x := lF ee)
 refine dA 224 ?_ (x := lD [val _] dR)
 exact z.g) : G := ai w h
def vW (h : H) (w : ah G H := by
 intro z
 refine bq ?_
 refine sS [0, 1, 5] [] ?_
 exact z.g) : G := ai w h
def tq (h : H) (w : ah G H := by
 intro z
 refine sS [0, 3] [] ?_
 refine cm ?_
 exact z.g) : G := ai w h
def tt (h : H) (w : ah G H := by
 intro z
 refine Mr ?_
 refine rA ?_ (x := tA)
 exact z.g) : G := ai w h
def DB (h : H) (w : ah G H := by
 intro z
 refine rB ga ?_ (x := lF zG)
 refine rB ga ?_ (x := lD [val _] az)
 exact z.g) : G := ai w h
def DC (h : H) (w : ah G H := by
 intro z
 refine dA 0 ?_ (x := lF lW)
 refine dA 1 ?_ (x := lD [sl .v _] lZ)
 exact z.g) : G := ai w h
def vX (h : H) (w : ah G H := by
 intro z
 refine sS [0, 1, 4, 5] [] ?_
 refine ca ?_
 refine sP [0, 1, 4, 5, 6] [] ?_
 exact z.g) : G := ai w h
def DD (h : H) (w : ah G H := by
 intro z
 refine rB ge ?_ (x := lF ri)
 refine rB ge ?_ (x := lD [val _] az)
 exact z.g) : G := ai w h
def PB (h : H) (w : ah G H := by
 intro z
 refine rA ?_ (x := bh (ag := false) (vs := [sl _ _]) bF (by exact tI) (by exact rfl) (by exact nl rfl))
 refine MN ?_
 exact z.g) : G := ai w h
def PC (h : H) (w : ah G H := by
 intro z
 refine rB gc ?_ (x := lD [sl .v _, val _, val _, sl .v _, sl .v _, sl .v _, sl .v _, val _] bU)
 refine rB gc ?_ (x := lF ib)
 exact z.g) : G := ai w h
def DE (h : H) (w : ah G H := by
 intro z
 refine rB gb ?_ (x := lF ww)
 refine rB gb ?_ (x := lD [val _] az)
 exact z.g) : G := ai w h
def DF (h : H) (w : ah G H := by
 intro z
 refine rB ga ?_ (x := lF fK)
 refine rB ga ?_ (x := lD [val _] az)
 exact z.g) : G := ai w h
def DG (h : H) (w : ah G H := by
 intro z
 refine dB 4194303 ga ?_ (x := aF gb)
 refine dA 8388607 ?_ (x := aF ga)
 exact z.g) : G := ai w h
def DH (h : H) (w : ah G H := by
 intro z
 refine rB gg ?_ (x := lF Qp)
 refine rB gg ?_ (x := lD [val _] az)
 exact z.g) : G := ai w h
def DI (h : H) (w : ah G H := by
 intro z
 refine rB gh ?_ (x := lF Ez)
 refine rB gh ?_ (x := lD [val _] az)
 exact z.g) : G := ai w h
def DJ (h : H) (w : ah G H := by
 intro z
 refine dA 0 ?_ (x := lF fK)
 refine dA 256 ?_ (x := lD [val _] az)
 exact z.g) : G := ai w h
def vY (h : H) (w : ah G H := by
 intro z
 refine zt gb ?_
 refine rA ?_ (x := aO gb)
 exact z.g) : G := ai w h
def DK (h : H) (w : ah G H := by
 intro z
 refine rA ?_ (x := aU (by decide) gH (by exact tI) (by exact rfl) (by exact aW (by omega) rfl) (by exact rfl))
 refine rA ?_ (x := lE [val _, val _, val _] pN)
 refine rX ?_ (x := (cr (by decide) pO Qs))
 exact z.g) : G := ai w h
def DL (h : H) (w : ah G H := by
 intro z
 refine dA 3 ?_ (x := lF ee)
 refine dA 7 ?_ (x := lD [val _] dR)
 exact z.g) : G := ai w h
def PD (h : H) (w : ah G H := by
 intro z
 refine rA ?_ (x := xB (by decide) (by exact tI) (by exact tI) (by omega))
 refine rA ?_ (x := iP (by decide))
 exact z.g) : G := ai w h
def tu (h : H) (w : ah G H := by
 intro z
 refine aq.s0f gb ?_
 refine pn ?_
 exact z.g) : G := ai w h
def PE (h : H) (w : ah G H := by
 intro z
 refine nk ?_
 refine rX ?_ (x := (eD (ag := true) (cs := [val _, val _, sl _ _, sl _ _]) (by decide) (by exact tI)))
 exact z.g) : G := ai w h
def PF (h : H) (w : ah G H := by
 intro z
 refine sO [(0, _), (1, _), (4, _), (5, _), (6, _), (7, _), (5000, _)] [(0, (192, [sl o _, val _, val _]))] ?_
 refine bd ?_
 exact z.g) : G := ai w h
def vZ (h : H) (w : ah G H := by
 intro z
 refine ca ?_
 refine sP [1, 2, 3] [1] ?_
 exact z.g) : G := ai w h
def DM (h : H) (w : ah G H := by
 intro z
 refine rA ?_ (x := lF jv)
 refine rA ?_ (x := lD [sl .v _] bF)
 exact z.g) : G := ai w h
def wa (h : H) (w : ah G H := by
 intro z
 refine bb ?_
 refine sG [1, 3] [1] ?_
 exact z.g) : G := ai w h
def oA (h : H) (w : ah G H := by
 intro z
 refine rA ?_ (x := lD [val _] az)
 refine rA ?_ (x := dQ)
 refine rM ?_
 exact z.g) : G := ai w h
def PG (h : H) (w : ah G H := by
 intro z
 refine vk ?_
 refine rX ?_ (x := (eD (ag := true) (cs := [val _, sl _ _, val _, val _]) (by decide) (by exact tI)))
 exact z.g) : G := ai w h
def wc (h : H) (w : ah G H := by
 intro z
 refine eH ?_
 refine sT [1, 2, 4] [2] ?_
 exact z.g) : G := ai w h
def tv (h : H) (w : ah G H := by
 intro z
 refine dU 1023 ?_
 refine dU 1023 ?_
 exact z.g) : G := ai w h
def PH (h : H) (w : ah G H := by
 intro z
 refine Dk ?_
 refine sO [(1, _), (2, _), (4, _), (5, _)] [(2, (26, [sl (.lo _) _, val _])), (4, (26, [sl _ _, val _]))] ?_
 exact z.g) : G := ai w h
def wd (h : H) (w : ah G H := by
 intro z
 refine eG ?_
 refine sS [0, 1, 4] [] ?_
 exact z.g) : G := ai w h
def DN (h : H) (w : ah G H := by
 intro z
 refine rB gb ?_ (x := lD [val _] az)
 refine rB gb ?_ (x := ix)
 exact z.g) : G := ai w h
def qT (h : H) (w : ah G H := by
 intro z
 refine be ?_
 refine yD ?_
 exact z.g) : G := ai w h
def we (h : H) (w : ah G H := by
 intro z
 refine sW ?_
 refine rA ?_ (x := dq)
 exact z.g) : G := ai w h
def DO (h : H) (w : ah G H := by
 intro z
 refine rA ?_ (x := lF pI)
 refine rA ?_ (x := lD [val _] az)
 exact z.g) : G := ai w h
def PI (h : H) (w : ah G H := by
 intro z
 refine dJ ?_
 refine sO [(2, _), (3, _), (4, _), (5, _), (6, _)] [(2, _), (3, _), (4, _), (6, (26, [sl _ _, val _]))] ?_
 exact z.g) : G := ai w h
def DP (h : H) (w : ah G H := by
 intro z
 refine rA ?_ (x := vM false [sl .v _])
 refine rA ?_ (x := lN gH)
 exact z.g) : G := ai w h
def PJ (h : H) (w : ah G H := by
 intro z
 refine da cG ?_
 refine dA 0 ?_ (x := lD [sl .v _, val _, val _, sl .v _, sl .v _, sl .v _, sl .v _, val _] bU)
 exact z.g) : G := ai w h
def DQ (h : H) (w : ah G H := by
 intro z
 refine rA ?_ (x := lF tR)
 refine rA ?_ (x := lD [val _] az)
 exact z.g) : G := ai w h
def DR (h : H) (w : ah G H := by
 intro z
 refine rA ?_ (x := lF ww)
 refine rA ?_ (x := lD [val _] az)
 exact z.g) : G := ai w h
def DS (h : H) (w : ah G H := by
 intro z
 refine rA ?_ (x := lF pK)
 refine rA ?_ (x := lD [val _] az)
 exact z.g) : G := ai w h
def yT (h : H) (w : ah G H := by
 intro z
 refine rB gb ?_ (x := lF ww)
 refine qB ?_
 exact z.g) : G := ai w h
def yU (h : H) (w : ah G H := by
 intro z
 refine rB gc ?_ (x := lF oH)
 refine vp ?_
 exact z.g) : G := ai w h
def PK (h : H) (w : ah G H := by
 intro z
 refine rX ?_ (x := (eD (ag := true) (cs := [val _, val _, val _]) (by decide) (by exact tI)))
 refine pB ?_
 exact z.g) : G := ai w h
def wf (h : H) (w : ah G H := by
 intro z
 refine dA 0 ?_ (x := lF jX)
 refine dA 1 ?_ (x := lD [val _] kc)
 refine dA 0 ?_ (x := sM)
 exact z.g) : G := ai w h
def yV (h : H) (w : ah G H := by
 intro z
 refine ca ?_
 refine sP [2, 3, 4, 5] [2, 3] ?_
 exact z.g) : G := ai w h
def yW (h : H) (w : ah G H := by
 intro z
 refine bq ?_
 refine sT [2, 3, 5] [2, 3] ?_
 exact z.g) : G := ai w h
def PL (h : H) (w : ah G H := by
 intro z
 refine rA ?_ (x := lN eP)
 refine rA ?_ (x := xB (by decide) (by exact tI) (by exact tI) (by omega))
 exact z.g) : G := ai w h
def wg (h : H) (w : ah G H := by
 intro z
 refine eG ?_
 refine sS [1, 2] [1] ?_
 exact z.g) : G := ai w h
def wh (h : H) (w : ah G H := by
 intro z
 refine rM ?_
 refine rA ?_ (x := jm)
 exact z.g) : G := ai w h
def PM (h : H) (w : ah G H := by
 intro z
 refine dJ ?_
 refine sO [(1, _), (2, _), (4, _), (5, _), (6, _)] [(2, _), (4, _), (6, (26, [sl _ _, val _]))] ?_
 exact z.g) : G := ai w h
def PN (h : H) (w : ah G H := by
 intro z
 refine sS [2, 3, 4, 6, 7, 8, 9, 11, 14, 54, 55, 67, 68, 69, 6200, 6300] [3, 4, 6, 8, 9] ?_
 refine rA ?_ (x := tM)
 exact z.g) : G := ai w h
def DT (h : H) (w : ah G H := by
 intro z
 refine sS [2, 3, 4, 5, 6, 7, 20] [2, 3, 4, 6] ?_
 refine lK ?_
 exact z.g) : G := ai w h
def PO (h : H) (w : ah G H := by
 intro z
 refine dA 496 ?_ (x := cd (by decide) ib (by exact nl rfl))
 refine dA 1008 ?_ (x := lE [val _] az)
 exact z.g) : G := ai w h
def DU (h : H) (w : ah G H := by
 intro z
 refine dB 127 ga ?_ (x := sM)
 refine dB 255 ga ?_ (x := dI)
 exact z.g) : G := ai w h
def PP (h : H) (w : ah G H := by
 intro z
 refine nk ?_
 refine rX ?_ (x := (eD (ag := true) (cs := [val _, sl _ _]) (by decide) (by exact tI)))
 exact z.g) : G := ai w h
def wi (h : H) (w : ah G H := by
 intro z
 refine sR ?_
 refine rK ?_
 refine sS [0, 2] [] ?_
 exact z.g) : G := ai w h
def qU (h : H) (w : ah G H := by
 intro z
 refine oh ?_
 refine eo ?_
 exact z.g) : G := ai w h
def qV (h : H) (w : ah G H := by
 intro z
 refine de ?_
 refine oi ?_
 refine rA ?_ (x := dq)
 exact z.g) : G := ai w h
def DV (h : H) (w : ah G H := by
 intro z
 refine rA ?_ (x := lF ic)
 refine rA ?_ (x := lF jZ)
 exact z.g) : G := ai w h
def yX (h : H) (w : ah G H := by
 intro z
 refine sS [1, 2, 3, 16] [1] ?_
 refine jS ?_
 exact z.g) : G := ai w h
def PQ (h : H) (w : ah G H := by
 intro z
 refine rA ?_ (x := aU (by decide) jw (by exact tI) (by exact rfl) (by exact aW (by omega) rfl) (by exact rfl))
 refine rA ?_ (x := lE [val _, val _, sl .v _, sl .v _, val _, val _, sl .v _] ro)
 refine rX ?_ (x := (cr (by decide) nw zL))
 refine rA ?_ (x := bh (ag := true) (vs := [val _, val _, sl _ _, sl _ _, val _, val _, sl _ _]) ro (by exact tI) (by exact rfl) (by exact nl rfl))
 exact z.g) : G := ai w h
def wj (h : H) (w : ah G H := by
 intro z
 refine rA ?_ (x := tM)
 refine rA ?_ (x := xn (cs := [sl _ _, val _]) (qs := [sl .v _, val _]) (by decide) (by exact rfl) (by exact (aB (ak ao.nil))) (by exact (aj.cons (bor_sl _) (aj.cons (bor_val _) aj.nil))))
 refine rA ?_ (x := nf (cs := [val _]) (by decide) (by exact rfl) (by exact (aj.cons (bor_val _) aj.nil)))
 exact z.g) : G := ai w h
def qW (h : H) (w : ah G H := by
 intro z
 refine rA ?_ (x := cP (ms := [sl _ _]) (qs := [sl .v _]) (by decide) bF (fun _ => rfl) (by exact nl rfl) (by exact rfl) (by exact (aB ao.nil)) (by exact (aj.cons (bor_sl _) aj.nil)))
 refine rM ?_
 refine Cs ?_
 exact z.g) : G := ai w h
def yY (h : H) (w : ah G H := by
 intro z
 refine zf g12 ?_
 refine rA ?_ (x := aF g12)
 exact z.g) : G := ai w h
def yZ (h : H) (w : ah G H := by
 intro z
 refine zf g13 ?_
 refine rA ?_ (x := aF g13)
 exact z.g) : G := ai w h
def zb (h : H) (w : ah G H := by
 intro z
 refine zf g16 ?_
 refine rA ?_ (x := aF g16)
 exact z.g) : G := ai w h
def zc (h : H) (w : ah G H := by
 intro z
 refine zt g11 ?_
 refine rA ?_ (x := aO g11)
 exact z.g) : G := ai w h
def zd (h : H) (w : ah G H := by
 intro z
 refine zt g12 ?_
 refine rA ?_ (x := aO g12)
 exact z.g) : G := ai w h
def ze (h : H) (w : ah G H := by
 intro z
 refine hZ ?_
 refine sS [1, 2, 3, 4] [1] ?_
 exact z.g) : G := ai w h
def zg (h : H) (w : ah G H := by
 intro z
 refine zf g21 ?_
 refine rA ?_ (x := aF g21)
 exact z.g) : G := ai w h
def zh (h : H) (w : ah G H := by
 intro z
 refine eG ?_
 refine sS [2, 3, 4] [2, 3] ?_
 exact z.g) : G := ai w h
def PR (h : H) (w : ah G H := by
 intro z
 refine be ?_
 refine sP [0, 1, 5, 6, 7, 8, 9, 10, 11, 12, 13, 14, 15, 2900, 5000] [0, 6, 8, 13, 900] ?_
 exact z.g) : G := ai w h
def zi (h : H) (w : ah G H := by
 intro z
 refine rA ?_ (x := cM Cp.ptr)
 refine Mt ?_
 exact z.g) : G := ai w h
def PS (h : H) (w : ah G H := by
 intro z
 refine rA ?_ (x := cd (by decide) nt (by exact nl rfl))
 refine rA ?_ (x := lE [val _] az)
 exact z.g) : G := ai w h
def zj (h : H) (w : ah G H := by
 intro z
 refine ca ?_
 refine sP [0, 1, 4, 5] [] ?_
 exact z.g) : G := ai w h
def tw (h : H) (w : ah G H := by
 intro z
 refine Cu ?_
 refine be ?_
 exact z.g) : G := ai w h
def tx (h : H) (w : ah G H := by
 intro z
 refine Mw ?_
 refine be ?_
 exact z.g) : G := ai w h
def zk (h : H) (w : ah G H := by
 intro z
 refine rM ?_
 refine rA ?_ (x := lF nu)
 exact z.g) : G := ai w h
def tz (h : H) (w : ah G H := by
 intro z
 refine PQ ?_
 refine be ?_
 exact z.g) : G := ai w h
def tB (h : H) (w : ah G H := by
 intro z
 refine bd ?_
 refine qx ?_
 exact z.g) : G := ai w h
def tC (h : H) (w : ah G H := by
 intro z
 refine rS ?_
 refine mp ?_
 exact z.g) : G := ai w h
def wk (h : H) (w : ah G H := by
 intro z
 refine dU 4095 ?_
 refine dU 8191 ?_
 exact z.g) : G := ai w h
def wl (h : H) (w : ah G H := by
 intro z
 refine rA ?_ (x := tM)
 refine rM ?_
 exact z.g) : G := ai w h
def DW (h : H) (w : ah G H := by
 intro z
 refine dA 0 ?_ (x := sM)
 refine dA 0 ?_ (x := lF fK)
 exact z.g) : G := ai w h
def DX (h : H) (w : ah G H := by
 intro z
 refine om ?_
 refine rA ?_ (x := iP (by decide))
 exact z.g) : G := ai w h
def zl (h : H) (w : ah G H := by
 intro z
 refine zt g4 ?_
 refine rA ?_ (x := aO g4)
 exact z.g) : G := ai w h
def zm (h : H) (w : ah G H := by
 intro z
 refine zt gf ?_
 refine rA ?_ (x := aO gf)
 exact z.g) : G := ai w h
def DY (h : H) (w : ah G H := by
 intro z
 refine rB gc ?_ (x := aO gd)
 refine rA ?_ (x := aF gc)
 exact z.g) : G := ai w h
def DZ (h : H) (w : ah G H := by
 intro z
 refine rB gc ?_ (x := aF gd)
 refine rA ?_ (x := aF gc)
 exact z.g) : G := ai w h
def PT (h : H) (w : ah G H := by
 intro z
 refine sO [(1, _), (2, _), (3, _)] [(1, _), (2, _), (3, (26, [sl _ _, val _]))] ?_
 refine bd ?_
 exact z.g) : G := ai w h
def Ea (h : H) (w : ah G H := by
 intro z
 refine sS [0, 3, 4, 7, 5000] [0, 3, 4] ?_
 refine lK ?_
 exact z.g) : G := ai w h
def PU (h : H) (w : ah G H := by
 intro z
 refine sO [(1, _), (2, _)] [(1, (52, [val _, val _, sl _ _, sl _ _])), (2, _)] ?_
 refine bd ?_
 exact z.g) : G := ai w h
def qX (h : H) (w : ah G H := by
 intro z
 refine Mu ?_
 refine rM ?_
 exact z.g) : G := ai w h
def zo (h : H) (w : ah G H := by
 intro z
 refine bq ?_
 refine sT [1, 3] [1] ?_
 exact z.g) : G := ai w h
def zp (h : H) (w : ah G H := by
 intro z
 refine hZ ?_
 refine sS [1, 2, 3] [1] ?_
 exact z.g) : G := ai w h
def Eb (h : H) (w : ah G H := by
 intro z
 refine rA ?_ (x := lN cy)
 refine rA ?_ (x := dq)
 exact z.g) : G := ai w h
def Ec (h : H) (w : ah G H := by
 intro z
 refine rB gc ?_ (x := dr)
 refine rB gc ?_ (x := sM)
 exact z.g) : G := ai w h
def Ed (h : H) (w : ah G H := by
 intro z
 refine rB gb ?_ (x := sM)
 refine rB gb ?_ (x := dI)
 exact z.g) : G := ai w h
def Ee (h : H) (w : ah G H := by
 intro z
 refine da cG ?_
 refine dA 0 ?_ (x := lF lY)
 exact z.g) : G := ai w h
def PW (h : H) (w : ah G H := by
 intro z
 refine jo ?_
 refine rA ?_ (x := kx (.inr rfl) (by decide) (lG (t := 54) (e := 2)))
 exact z.g) : G := ai w h
def Ef (h : H) (w : ah G H := by
 intro z
 refine sS [2, 3, 4, 5, 17] [2, 3, 4] ?_
 refine lK ?_
 exact z.g) : G := ai w h
def zq (h : H) (w : ah G H := by
 intro z
 refine vn ?_
 refine rA ?_ (x := lN gH)
 refine rA ?_ (x := dq)
 exact z.g) : G := ai w h
def zu (h : H) (w : ah G H := by
 intro z
 refine pp ?_
 refine rA ?_ (x := dq)
 exact z.g) : G := ai w h
def zv (h : H) (w : ah G H := by
 intro z
 refine de ?_
 refine rA ?_ (x := dI)
 exact z.g) : G := ai w h
def tD (h : H) (w : ah G H := by
 intro z
 refine bb ?_
 refine sG [0, 1, 5] [] ?_
 refine cb ?_
 exact z.g) : G := ai w h
def tE (h : H) (w : ah G H := by
 intro z
 refine sZ ?_
 refine ca ?_
 refine sP [0, 2, 3] [] ?_
 exact z.g) : G := ai w h
def tF (h : H) (w : ah G H := by
 intro z
 refine de ?_
 refine lM ?_
 refine rA ?_ (x := dq)
 exact z.g) : G := ai w h
def tG (h : H) (w : ah G H := by
 intro z
 refine de ?_
 refine rM ?_
 refine rA ?_ (x := dq)
 exact z.g) : G := ai w h
def Eg (h : H) (w : ah G H := by
 intro z
 refine sC ?_
 refine rA ?_ (x := vA false [sl .v _])
 exact z.g) : G := ai w h
def tH (h : H) (w : ah G H := by
 intro z
 refine pp ?_
 refine eo ?_
 exact z.g) : G := ai w h
def Eh (h : H) (w : ah G H := by
 intro z
 refine rA ?_ (x := vM false [sl .v _])
 refine rA ?_ (x := lN fL)
 refine eo ?_
 exact z.g) : G := ai w h
def tJ (h : H) (w : ah G H := by
 intro z
 refine yh ?_
 refine cm ?_
 exact z.g) : G := ai w h
def tK (h : H) (w : ah G H := by
 intro z
 refine ob ?_
 refine dJ ?_
 exact z.g) : G := ai w h
def Ei (h : H) (w : ah G H := by
 intro z
 refine da cG ?_
 refine dA 0 ?_ (x := cM Cp.ptr)
 exact z.g) : G := ai w h
def PX (h : H) (w : ah G H := by
 intro z
 refine dB 274877906943 gc ?_ (x := vM false [sl .v _])
 refine dB 274877906943 gc ?_ (x := sM)
 exact z.g) : G := ai w h
end Go.Proofs.YtmekkgdboplbjaaGreat.M
