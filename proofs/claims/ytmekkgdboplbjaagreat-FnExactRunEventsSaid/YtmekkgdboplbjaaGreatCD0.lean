/- Short names for what the printed proofs say often. No condition. -/
import Derived.Test.YtmekkgdboplbjaaGreatCC0
set_option linter.all false
namespace Go.Proofs.YtmekkgdboplbjaaGreat.M
open Go Go.RowKit
variable {G H : Prop}
def iq (h : G := by
 refine sS [1, 2, 4] [2] ?_
 refine cB ?_
 exact (aI (by refine bh ?_; exact (iG (by omega)).symm) tI)) : G := h
def FX (h : G := by
 have hn0 := fu (w := cf x.Values) (l := l) (by omega) hba
 exact iq) : G := h
def zI (h : G := by
 have hn0 := fu (w := cr x.acv) (l := l) (by omega) hba
 exact iq) : G := h
def tL (h : G := by
 refine eo ?_
 exact (aI (by exact rfl) tI)) : G := h
def mJ (h : G := by
 refine rA ?_ (x := tA)
 exact tL) : G := h
def FY (h : G := by
 refine eo ?_
 exact (bu 2 (bu _ (aI (by exact rfl) (aI (by exact rfl) (aI jJ (aI (fun h => nomatch h) tI))))))) : G := h
def FZ (h : G := by
 refine bf ?_
 refine rA ?_ (x := cz (ms := [val _, val _, sl _ _, sl _ _, sl _ _]) (qs := [val _, val _, sl .v _, sl .v _, sl .v _]) (by decide) jJ (fun h => nomatch h) (by exact nl rfl) (by exact rfl) (by exact (ap (ap (aH (aH (aH am.nil)))))) (by exact lq))
 refine rA ?_ (x := bg (ag := true) (vs := [val _, val _, sl _ _, sl _ _, sl _ _]) jJ (by exact tI) (by exact rfl) (by exact nl rfl))
 exact FY) : G := h
def zJ (h : G := by
 refine eo ?_
 exact (bu 2 (bu _ (aI (by exact rfl) (aI (by exact rfl) (aI fI (aI (fun h => nomatch h) tI))))))) : G := h
def Ga (h : G := by
 refine eo ?_
 exact (bu 2 (bu _ (aI (by exact rfl) (aI (by exact rfl) (aI fy (aI (fun h => nomatch h) tI))))))) : G := h
def Gb (h : G := by
 refine bf ?_
 refine rA ?_ (x := cz (ms := [val _, val _, sl _ _, sl _ _]) (qs := [val _, val _, sl .v _, sl .v _]) (by decide) fy (fun h => nomatch h) (by exact nl rfl) (by exact rfl) (by exact (ap (ap (aH (aH am.nil))))) (by exact lq))
 refine rA ?_ (x := bg (ag := true) (vs := [val _, val _, sl _ _, sl _ _]) fy (by exact tI) (by exact rfl) (by exact nl rfl))
 exact Ga) : G := h
def Gc (h : G := by
 refine bf ?_
 refine rA ?_ (x := cz (ms := [val _, val _, sl _ _, sl _ _, val _, sl _ _, val _, val _, val _, sl _ _]) (qs := [val _, val _, sl .v _, sl .v _, val _, sl .v _, val _, val _, val _, sl .v _]) (by decide) fW (fun h => nomatch h) (by exact nl rfl) (by exact rfl) (by exact (ap (ap (aH (aH (ap (aH (ap (ap (ap (aH am.nil))))))))))) (by exact lq))
 refine rA ?_ (x := bg (ag := true) (vs := [val _, val _, sl _ _, sl _ _, val _, sl _ _, val _, val _, val _, sl _ _]) fW (by exact tI) (by exact rfl) (by exact nl rfl))
 refine eo ?_
 exact (bu 2 (bu _ (aI (by exact rfl) (aI (by exact rfl) (aI fW (aI (fun h => nomatch h) tI))))))) : G := h
def Gd (h : G := by
 refine bf ?_
 refine rA ?_ (x := cz (ms := [val _, val _, sl _ _, sl _ _, val _, val _, sl _ _]) (qs := [val _, val _, sl .v _, sl .v _, val _, val _, sl .v _]) (by decide) ni (fun h => nomatch h) (by exact nl rfl) (by exact rfl) (by exact (ap (ap (aH (aH (ap (ap (aH am.nil)))))))) (by exact lq))
 refine rA ?_ (x := bg (ag := true) (vs := [val _, val _, sl _ _, sl _ _, val _, val _, sl _ _]) ni (by exact tI) (by exact rfl) (by exact nl rfl))
 refine eo ?_
 exact (bu 2 (bu _ (aI (by exact rfl) (aI (by exact rfl) (aI ni (aI (fun h => nomatch h) tI))))))) : G := h
def Ge (h : G := by
 refine pH ?_
 refine eo ?_
 exact (bu 2 (bu _ (aI (by exact rfl) (aI (by exact rfl) (aI bU (aI (fun h => nomatch h) tI))))))) : G := h
def nW (h : G := by
 refine lT ?_
 exact rb (by exact (sX (fun e => by subst e; omega)).symm)) : G := h
def Gf (h : G := by
 refine ot ?_
 exact rb ((sX (Mw hlt hlt2 hne)).symm)) : G := h
def Gg (h : G := by
 refine kZ ?_
 refine nx (k + 1) (by exact ⟨by omega, Cm ha hlt hlt2 heq⟩)) : G := h
def Gh (h : G := by
 refine cB ?_
 exact rb (by exact (jA (Si hl (by rw [show x.length = k by omega]; exact ha))).symm)) : G := h
def mK (h : G := by
 refine wZ ?_
 exact Gh) : G := h
def cq (h : G := by
 refine sS [2, 3, 4] [2, 3] ?_
 refine cB ?_
 exact rb (by exact (sX (fun e => by subst e; simp_all [iW])).symm)) : G := h
def pm (h : G := by
 refine dA 511 ?_ (x := nT)
 refine sc (fun hbc => ?_) (fun hbc => ?_)
 have hne : x[k] ≠ y[k] := by intro hxy; rw [hxy, iW] at hbc; simp at hbc
 exact Gf
 have heq : x[k] = y[k] := by exact gr.1 (by simpa using hbc)
 exact Gg) : G := h
def nX (h : G := by
 refine rA ?_ (x := cu)
 refine sc (fun hba => ?_) (fun hba => ?_)
 simp at hba
 refine bG ?_
 refine sS [0, 1, 4, 5] [] ?_
 refine lS ?_
 exact aI (by exact rfl) (bu _ (aI (.inl (by exact rfl)) (aI (by exact (Nm.nv Nm.nil)) (by exact (aN.nv aN.nil)))))) : G := h
def pn (h : G := by
 refine bG ?_
 refine sS [0, 1, 4, 5] [] ?_
 refine lS ?_
 exact aI (by exact bh (by first | rfl | rw [hend, cn])) (bu _ (aI (.inl (by exact rfl)) (aI (by exact (Nm.nv Nm.nil)) (by exact (aN.nv aN.nil)))))) : G := h
def Gi (h : G := by
 have hend : i = x.length := by omega
 refine bV (d := 999) (by exact rfl) (pj hend) ?_
 refine ph (s := 0) (D := 999) (e := 1) (by exact rfl) (by exact rfl) (by rw [aq, gP, aq]) (by intro c hc; obtain ⟨y, _, rfl⟩ := List.mem_map.1 hc; exact rfl) hjk ?_
 exact pn) : G := h
def po (h : G := by
 first | exact absurd rfl hbb | omega) : G := h
def Gj (h : G := by
 refine sG [0, 1, 5] [] ?_
 refine cW ?_
 refine nx (i + 1) (by omega) (e := (by exact aI (by exact bh (by rw [eE hlt]; rfl)) (aI (by exact rfl) tI)))) : G := h
def zK (h : G := by
 refine kZ ?_
 exact Gj) : G := h
def pp (h : G := by
 have hend : i = x.length := by omega
 refine pJ ?_
 exact (aI (by refine bh ?_; first | rfl | rw [hend, cn]) tI)) : G := h
def rP (h : G := by
 first | exact absurd rfl hbc | omega) : G := h
def tN (h : G := by
 first | exact absurd rfl hbd | omega) : G := h
def vW (h : G := by
 first | exact absurd rfl hbe | omega) : G := h
def zL (h : G := by
 first | exact absurd rfl hbf | omega) : G := h
def tO (h : G := by
 refine bm ?_
 exact Gj) : G := h
def Gk (h : G := by
 refine ir ?_
 refine rM ?_
 refine rS ?_
 exact tL) : G := h
def zM (h : G := by
 refine ew ?_
 exact rb (by simp [aW, *])) : G := h
def Gl (h : G := by
 refine sR ?_
 refine rK ?_
 refine sS [0, 1, 2, 6] [] ?_
 refine la ?_
 refine rA ?_ (x := iD)
 refine rM ?_
 refine cx 10 (fun ga sga => ?_) (fun ga sga => ?_)
 refine rB ga ?_ (x := sM)
 refine rB ga ?_ (x := sM)
 refine rB ga ?_ (x := iR)
 refine rA ?_ (x := aT ga)
 exact zM
 refine mL ?_
 exact zM) : G := h
def Gm (h : G := by
 refine cB ?_
 exact rb ((qZ (P := fun y => y == x) hlt (by simpa using ‹_ = x›)).symm)) : G := h
def Gn (h : G := by
 refine nx (k + 1) (by exact ⟨by omega, qY ha ‹_› (by simpa using ‹¬ _›)⟩)) : G := h
def Gp (h : G := by
 refine cB ?_
 exact rb (by exact (Mv (by rw [show xs.length = k by omega]; exact ha)).symm)) : G := h
def Gq (h : G := by
 refine cB ?_
 exact rb (by simp [dR, MO, lZ (P := ka) hlt hno])) : G := h
def Gr (h : G := by
 refine nx (k + 1) (by exact ⟨by omega, Cl ha hlt hyes⟩)) : G := h
def tP (h : G := by
 refine df ?_
 exact Gr) : G := h
def zN (h : G := by
 refine ew ?_
 exact rb (by simp [dR, MO, hall, *])) : G := h
def Gs (h : G := by
 refine sg ?_
 refine zip ?_
 refine rA ?_ (x := aT ga)
 exact zN) : G := h
def ql (h : G := by
 refine cW ?_
 exact Gr) : G := h
def Gt (h : G := by
 refine ew ?_
 exact rb (by simp [pP, *])) : G := h
def Gu (h : G := by
 refine dA 63 ?_ (x := bg (ag := true) (vs := [val _, sl _ _]) fI (by exact tI) (by exact rfl) (by exact nl rfl))
 exact zJ) : G := h
def Gv (h : G := by
 refine nx (k + 1) (by omega) (e := (by exact aI (by exact cG (by rw [uM hlt, bT]; rfl)) (aI (by exact rfl) tI)))) : G := h
def tQ (h : G := by
 refine ov ?_
 exact (aI (by refine cG ?_; rw [hend, cn]) tI)) : G := h
def zO (h : G := by
 refine cW ?_
 exact Gv) : G := h
def Gw (h : G := by
 refine bG ?_
 refine sS [0, 2, 3, 4] [] ?_
 exact tQ) : G := h
def zQ (h : G := by
 have hend : k = x.length := by omega
 exact Gw) : G := h
def qm (h : G := by
 refine ew ?_
 exact rb (by first | (simp_all [ld, aW]; done) | (simp_all [ld, aW]; omega))) : G := h
def Gx (h : G := by
 have hbad : fa ⟨0, 0, 0⟩ ld mY x.acw = false := rg hlt (Bool.eq_false_iff.2 fun hx => by
  have hx := mc.1 hx
  rw [hgk] at hx
  obtain ⟨hx1, hx2⟩ := hx
  first
  | (simp_all; done)
  | (simp only [decide_eq_true_eq, mY] at *; by_cases h0 : k = 0 <;> (try rw [hgp (by omega)] at hx2) <;> omega))
 refine sS [1, 3] [1] ?_
 refine cB ?_
 exact rb (by simp [cJ, le, hbad])) : G := h
def Gy (h : G := by
 refine nx (k + 1) (by exact ⟨by omega, by rw [xV, ha, Bool.true_and]; refine mc.2 ⟨by rw [hgk]; first | assumption | simp_all, ?_⟩; rcases Nat.eq_zero_or_pos k with h0 | h0; (· exact .inl h0); (· right; rw [hgk, hgp h0]; first | (simp only [decide_eq_true_eq, mY] at *; omega) | (simp_all; done))⟩)) : G := h
def Gz (h : G := by
 refine uE ?_
 refine cW ?_
 exact Gy) : G := h
def vX (h : G := by
 refine ew ?_
 exact rb (by first | (simp_all [cJ, le]; done) | (simp_all [cJ, le]; rfl) | (simp_all [cJ, le]; omega) | (simp_all [cJ, le]; intros; omega))) : G := h
def vY (h : G := by
 refine eo ?_
 exact rb (by first | exact hbad0.symm | (simp [cJ, le, hbad]; done) | (simp [cJ, md, hn3]; done) | (simp_all [cJ, le, md]; done) | (simp_all [cJ, le, md]; rfl) | (simp_all [cJ, le, md]; omega) | (simp_all [cJ, le, md]; intros; omega))) : G := h
def zR (h : G := by
 have hbad0 : cJ x = false := by first | (simp_all [cJ]; done) | (simp_all [cJ]; rfl) | (simp_all [cJ]; omega) | (simp_all [cJ]; intros; omega)
 refine sS [1, 2] [1] ?_
 refine rK ?_
 exact vY) : G := h
def GA (h : G := by
 have hbad : fa ⟨0, 0, 0⟩ ld mY x.acw = false := rg hlt (Bool.eq_false_iff.2 fun hx => by
  have hx := mc.1 hx
  rw [hgk] at hx
  obtain ⟨hx1, hx2⟩ := hx
  first
  | (simp_all; done)
  | (simp only [decide_eq_true_eq, mY] at *; by_cases h0 : k = 0 <;> (try rw [hgp (by omega)] at hx2) <;> omega))
 refine sS [1, 3, 4, 24, 25, 26] [1, 4] ?_
 refine rK ?_
 exact vY) : G := h
def GB (h : G := by
 refine bm ?_
 refine sG [1, 3, 4, 24, 25, 26] [1, 4] ?_
 refine df ?_
 exact Gy) : G := h
def zS (h : G := by
 refine eo ?_
 exact rb (by first | (simp_all [jD, sY]; done) | (simp_all [jD, sY]; rfl) | (simp_all [jD, sY]; omega) | (simp_all [jD, sY]; intros; omega))) : G := h
def jv (h : G := by
 refine rS ?_
 exact zS) : G := h
def zT (h : G := by
 refine rA ?_ (x := aT gc)
 exact jv) : G := h
def zU (h : G := by
 refine rB gc ?_ (x := lF nc)
 refine wV ?_
 exact zT) : G := h
def tR (h : G := by
 refine pw ?_
 exact jv) : G := h
def GC (h : G := by
 refine xv ?_
 refine gQ ?_
 refine cx 27 (fun gc sgc => ?_) (fun gc sgc => ?_)
 exact zU
 exact tR) : G := h
def GD (h : G := by
 refine bm ?_
 refine sS [1, 2, 3, 16] [1] ?_
 refine rK ?_
 exact zS) : G := h
def zV (h : G := by
 refine ew ?_
 exact rb (by first | (simp_all [eK]; done) | (simp_all [eK]; rfl) | (simp_all [eK]; omega) | (simp_all [eK]; intros; omega))) : G := h
def GF (h : G := by
 refine sn 0 1 fun hl0_1 => ?_
 refine qz ?_
 refine jW ?_
 refine BQ ?_
 refine rM ?_
 refine rA ?_ (x := iR)
 refine rM ?_
 refine cx 9 (fun ga sga => ?_) (fun ga sga => ?_)
 refine rB ga ?_ (x := lF gG)
 refine pv ?_
 refine rB ga ?_ (x := sM)
 refine cx 13 (fun gb sgb => ?_) (fun gb sgb => ?_)
 refine zt gb ?_
 refine rB ga ?_ (x := aT gb)
 refine rA ?_ (x := aT ga)
 exact zV
 refine rB gb ?_ (x := lF gG)
 refine rB gb ?_ (x := lD [val _] au)
 refine Cf ?_
 refine rB ga ?_ (x := aK gb)
 refine rA ?_ (x := aT ga)
 exact zV
 refine mL ?_
 exact zV) : G := h
def GG (h : G := by
 refine ew ?_
 exact rb (by first | (simp_all [rl]; done) | (simp_all [rl]; rfl) | (simp_all [rl]; omega) | (simp_all [rl]; intros; omega))) : G := h
def rQ (h : G := by
 refine ew ?_
 exact rb (by first | (simp_all [kq]; done) | (simp_all [kq]; omega) | (rw [Bool.eq_iff_iff]; simp_all [kq]; done) | (rw [Bool.eq_iff_iff]; simp_all [kq]; omega))) : G := h
def vZ (h : G := by
 refine ew ?_
 exact rb (by first | (simp_all [eQ]; done) | (simp_all [eQ]; rfl) | (simp_all [eQ]; omega) | (simp_all [eQ]; intros; omega))) : G := h
def kW (h : G := by
 refine cB ?_
 exact rb (hbad.symm)) : G := h
def zW (h : G := by
 have hbad : dI s = false := by first | (simp_all [dI, np]; done) | (simp_all [dI, np]; omega)
 refine sS [1, 2] [1] ?_
 exact kW) : G := h
def GH (h : G := by
 refine oH ?_
 exact zW) : G := h
def GI (h : G := by
 refine nx (m + 1) (by refine ⟨by omega, ?_⟩; rw [VF, hfr, Bool.true_and]; exact hap)) : G := h
def zX (h : G := by
 have hvo : eQ s.Now s.act[k][j] = false := by first | (simp_all [eQ, fX]; done) | (simp_all [eQ, fX]; omega)
 have hbad := yd hag.1 (NM (by rw [hag.2]; exact hvo))
 refine sS [1, 3, 5, 7, 23, 24, 25, 32, 33, 34] [1, 7] ?_
 exact kW) : G := h
def GJ (h : G := by
 have hap : kq ((ct s).getD ((dm s k).length + j) v0) ((ct s).getD m v0) = false := by
  rw [hag.2] at hma ⊢
  by_cases hid : s.act[k][j].Id = ((ct s).getD m v0).Id
  ·rw [beq_iff_eq.2 hid, Bool.true_and] at hma; simp_all
  ·simp_all
 have hbad := yd hag.1 (NN hlt3 hap)
 refine sS [1, 3, 5, 7, 9, 23, 24, 25, 32, 33, 34, 66, 67, 68] [1, 7, 9] ?_
 exact kW) : G := h
def zY (h : G := by
 have hap : kq ((ct s).getD ((dm s k).length + j) v0) ((ct s).getD m v0) = true := by
  rw [hag.2] at hma ⊢
  by_cases hid : s.act[k][j].Id = ((ct s).getD m v0).Id
  ·rw [beq_iff_eq.2 hid, Bool.true_and] at hma; simp_all
  ·rw [beq_false_of_ne hid, Bool.false_and] at hma; simpa using hma.symm
 refine bm ?_
 refine sG [1, 3, 5, 7, 9, 23, 24, 25, 32, 33, 34, 66, 67, 68] [1, 7, 9] ?_
 refine df ?_
 exact GI) : G := h
def GK (h : G := by
 refine xJ ?_
 refine fT ?_
 exact zY) : G := h
def GL (h : G := by
 have hend3 : m = (dm s k).length + j := by omega
 refine bG ?_
 refine sH [1, 3, 5, 7, 23, 24, 25, 32, 33, 34, 66, 67, 68] [1, 7] ?_
 refine rA ?_ (x := tM)
 refine rA ?_ (x := lD [val _, sl .v _, val _, val _] en)
 refine rA ?_ (x := cj (qs := [(true, [val _, sl _ _, val _, val _])]) (by decide) cv fz (by decide) rfl rfl rfl rfl rfl (by exact nl rfl) (by exact (aI (by exact tI) tI)) rfl)
 refine AA ?_
 refine sG [1, 3, 5, 7, 23, 24, 25, 32, 33, 34, 66, 67, 68] [1, 7] ?_
 refine df ?_
 refine nx (j + 1) (by refine ⟨by omega, ?_⟩; rw [← Nat.add_assoc, NL, hg, Bool.true_and]; unfold nn; rw [hag.2, hvo, Bool.true_and, ← hend3]; rw [hend3] at hfr ⊢; exact hfr) (e := (by exact aI (by exact cG (by rw [cy hlt2]; simp only [bT, bw]; rfl)) (aI (by exact rfl) tI)))) : G := h
def wa (h : G := by
 refine cB ?_
 exact rb (by exact (Td hlt (Bool.eq_false_iff.2 fun hx => by have hx := xU.1 hx; rw [hgk] at hx; (try simp only [aW, Bool.and_eq_false_iff, decide_eq_false_iff_not] at *); omega)).symm)) : G := h
def GM (h : G := by
 refine dr ?_
 refine sS [0, 3, 4, 5, 6, 7] [] ?_
 exact wa) : G := h
def GN (h : G := by
 refine nx (k + 1) (by exact ⟨by omega, by rw [Tc, ha, Bool.true_and]; exact xU.2 (by rw [hgk]; (try simp only [aW, bq, decide_eq_true_eq] at *); omega)⟩)) : G := h
def GO (h : G := by
 refine bm ?_
 refine sG [0, 3, 4, 5, 6, 7] [] ?_
 refine df ?_
 exact GN) : G := h
def GP (h : G := by
 refine cB ?_
 exact rb (by subst hend; exact ha.symm)) : G := h
def GQ (h : G := by
 refine sB ?_
 refine cW ?_
 exact GN) : G := h
def GR (h : G := by
 refine sG [0, 1, 4, 5, 6] [] ?_
 refine cW ?_
 refine nx (k + 1) (by exact ⟨by omega, fun _ => hok2⟩) (e := (by exact aI (by exact cG (by rw [uM hlt, fA, bT]; simp [hc, ak])) (aI (by exact rfl) tI)))) : G := h
def zZ (h : G := by
 have hfin : (k = a.length ∧ (dS a && dS b) = true) ∨ (k = 0 ∧ (a.length = 0 ∨ (dS a && dS b) = false)) := by
  by_cases h0k : 0 < k
  ·left
   have := ha h0k
   refine ⟨?_, this⟩
   rw [bq] at this
   by_cases hka : k = a.length
   ·exact hka
   ·have : k < a.length := by omega
    simp_all
  ·right
   refine ⟨by omega, ?_⟩
   by_cases hka : a.length = 0
   ·exact .inl hka
   ·right
    have : k < a.length := by omega
    cases h1 : dS a <;> cases h2 : dS b <;> simp_all
 refine bG ?_
 refine sS [0, 1, 4, 5, 6] [] ?_
 refine ov ?_
 exact (aI (by refine cG ?_; rw [Th ha hfin]) tI)) : G := h
def Aa (h : G := by
 refine lT ?_
 exact rb (by exact (sX (fun e => by subst e; simp at *)).symm)) : G := h
def Ab (h : G := by
 refine cB ?_
 exact rb (by exact (sX (Mw hlt hlt2 (by intro e; simp [e, iW] at *))).symm)) : G := h
def GS (h : G := by
 refine nx (k + 1) (by exact ⟨by omega, Cm ha hlt hlt2 (by simp_all)⟩)) : G := h
def GT (h : G := by
 refine bG ?_
 refine sS [0, 1, 12, 13] [] ?_
 exact Gh) : G := h
def GU (h : G := by
 refine ew ?_
 exact rb (by rw [Bool.eq_iff_iff]; simp only [gr, Tb]; simp_all [gr])) : G := h
def GV (h : G := by
 have hbad : fa td cJ rn l = false := rg hlt (Bool.eq_false_iff.2 fun hx => by
  have hx := mc.1 hx
  rw [hgk] at hx
  obtain ⟨hx1, hx2⟩ := hx
  first
  | (simp_all; done)
  | (simp only [decide_eq_true_eq, rn] at *; by_cases h0 : k = 0 <;> (try rw [hgp (by omega)] at hx2) <;> omega))
 refine uK ?_
 exact rb (by simp [dz, hbad])) : G := h
def GW (h : G := by
 refine sB ?_
 refine cW ?_
 refine nx (k + 1) (by exact ⟨by omega, by rw [xV, ha, Bool.true_and]; refine mc.2 ⟨by rw [hgk]; first | assumption | simp_all, ?_⟩; rcases Nat.eq_zero_or_pos k with h0 | h0; (· exact .inl h0); (· right; rw [hgk, hgp h0]; first | (simp only [decide_eq_true_eq, rn] at *; omega) | (simp_all; done))⟩)) : G := h
def GX (h : G := by
 refine cB ?_
 exact rb (by simp [iI, lZ (P := (iv f v)) hlt hno])) : G := h
def GY (h : G := by
 have hyes : iv f v q.acw[k] = true := by simp_all [iv]
 refine bm ?_
 refine sG [1, 2, 3, 7] [3] ?_
 exact ql) : G := h
def GZ (h : G := by
 refine cB ?_
 exact rb (by simp [iI, hall, *])) : G := h
def Ha (h : G := by
 refine sG [0, 1, 2, 6, 7, 8] [] ?_
 refine cW ?_
 refine nx (k + 1) (by exact ⟨by omega, fun _ => hok⟩) (e := (by exact aI (by first | exact cG (by rw [VI hlt hc, bT]; rfl) | exact cG (by rw [VJ hlt hc])) (aI (by exact rfl) tI)))) : G := h
def wc (h : G := by
 have hfin : (k = l.length ∧ (dz l && (aW f 0 2 && aW v 0 99)) = true) ∨ (k = 0 ∧ (l.length = 0 ∨ (dz l && (aW f 0 2 && aW v 0 99)) = false)) := by
  by_cases h0k : 0 < k
  ·left
   have h1 := ha h0k
   refine ⟨?_, h1⟩
   by_cases hka : k = l.length
   ·exact hka
   ·exfalso
    have hlt_ : k < l.length := by omega
    have hlt2_ : (k : Int) < (l.length : Int) := by omega
    first | omega | simp_all
  ·right
   refine ⟨by omega, ?_⟩
   by_cases hka : l.length = 0
   ·exact .inl hka
   ·right
    have hlt_ : k < l.length := by omega
    have hlt2_ : (k : Int) < (l.length : Int) := by omega
    rw [← Bool.not_eq_true]; intro hc_; simp_all
 refine bG ?_
 refine sS [0, 1, 2, 6, 7, 8] [] ?_
 refine ov ?_
 exact (aI (by refine cG ?_; rw [VK hfin]) tI)) : G := h
def Hb (h : G := by
 have hok : (dz l && aW f 0 2) = false := by simp_all
 refine sS [0, 1, 4, 5] [] ?_
 refine ov ?_
 exact (aI (by refine cG ?_; unfold gH; rw [if_neg (by rw [hok]; simp)]; rfl) tI)) : G := h
def Hc (h : G := by
 refine cW ?_
 refine nx (k + 1) (by omega) (e := (by exact aI (by first | exact cG (by rw [dj, VN hls, bT, ← hse]; exact rfl) | exact cG (by rw [dj, VM hls])) (aI (by exact rfl) tI)))) : G := h
def He (h : G := by
 have hls : mq (dj l f k) (fY l f (k : Int)) = false := by
  by_cases h0 : (dj l f k).length = 0
  ·simp [mq, h0]
  ·simp_all [mq]
 refine sG [0, 1, 4, 5, 6, 7, 8] [] ?_
 refine rA ?_ (x := tM)
 refine la ?_
 refine rA ?_ (x := tM)
 refine rA ?_ (x := fB (qs := [(false, [val _]), (false, [val _]), (false, [sl _ _])]) (cs := [val _, val _, sl _ _]) (by decide) yp XT ZD (by exact rfl) (by exact (aI (by exact tI) (aI (by exact tI) (aI (by exact tI) tI)))) rfl (by exact rfl))
 refine rA ?_ (x := cj (qs := [(true, [val _, val _, sl _ _])]) (by decide) nu yp (by decide) rfl rfl rfl rfl rfl (by exact nl rfl) (by exact (aI (by exact tI) tI)) rfl)
 refine rA ?_ (x := fe (by decide) nu yp rfl rfl (by decide) rfl (by simp only [aq, aV, List.length_cons, List.length_nil]; omega) (by simp only [aq, aV, List.length_cons, List.length_nil]; omega))
 refine rA ?_ (x := tA)
 refine sG [0, 1, 4, 5, 6, 8] [] ?_
 exact Hc) : G := h
def Hf (h : G := by
 refine nx (k + 1) (by exact ⟨by omega, qY ha hlt hno⟩)) : G := h
def Hg (h : G := by
 refine cW ?_
 exact Hf) : G := h
def Hh (h : G := by
 have hno : (aW (o.getD k 0) 0 2 && !ci (o.take k) (o.getD k 0)) = false := by rw [← hgk]; simp_all
 refine uK ?_
 exact rb ((VV hl3 (by omega) hno).symm)) : G := h
def Hi (h : G := by
 have hfin : k = o.length ∨ (fm x r o k).1 = [] := by
  by_cases hka : k = o.length
  ·exact .inl hka
  ·right
   have hlt_ : k < o.length := by omega
   have hlt2_ : (k : Int) < (o.length : Int) := by omega
   first | omega | (rw [← List.length_eq_zero_iff]; first | omega | (simp_all; done))
 have hpe := VW (x := x) (r := r) hfin
 refine bG ?_
 refine sT [2, 3, 4, 6, 7, 8, 9, 10] [3, 4] ?_
 refine rA ?_ (x := tM)
 refine rM ?_
 refine rA ?_ (x := tA)
 refine ew ?_
 exact (aI (by refine cG ?_; rw [hpe]) (aI (by refine bh ?_; rw [hpe]) tI))) : G := h
def Ac (h : G := by
 have hbad : fZ x = false := by first | (simp_all [fZ, mw, aW]; done) | (simp_all [fZ, mw, aW]; rfl) | (simp_all [fZ, mw, aW]; omega) | (simp_all [fZ, mw, aW]; intros; omega)
 refine sS [1, 2, 3] [1] ?_
 exact kW) : G := h
def nY (h : G := by
 refine dr ?_
 exact Ac) : G := h
def Hj (h : G := by
 refine cB ?_
 exact rb ((Wd hlt hno).symm)) : G := h
def Hk (h : G := by
 have hno : mu x k = false := by simp_all [mu]
 refine sS [1, 3, 4, 33, 34] [1] ?_
 exact Hj) : G := h
def Hl (h : G := by
 refine nx (k + 1) (by exact ⟨by omega, by rw [Wc, ha, hyes]; rfl⟩)) : G := h
def Hm (h : G := by
 refine ew ?_
 exact rb (by simp_all [fZ])) : G := h
def Hn (h : G := by
 have hno : mu x k = false := by simp_all [mu]
 refine sS [1, 3, 4] [1] ?_
 exact Hj) : G := h
def Ho (h : G := by
 have hbad : fa 0 (nr s.act.length) ns a.acD = false := rg hlt (Bool.eq_false_iff.2 fun hx => by
  have hx := mc.1 hx
  rw [hgk] at hx
  obtain ⟨hx1, hx2⟩ := hx
  first
  | (simp_all; done)
  | (simp only [decide_eq_true_eq, ns, nr, aW, bq, Bool.and_eq_false_iff, decide_eq_false_iff_not] at *; by_cases h0 : k = 0 <;> (try rw [hgp (by omega)] at hx2) <;> omega))
 refine sS [2, 3, 5, 6, 8, 9, 10] [2, 3] ?_
 refine cB ?_
 exact rb (by simp [gj, lx, hbad])) : G := h
def Hp (h : G := by
 refine nx (k + 1) (by exact ⟨by omega, by rw [xV, ha, Bool.true_and]; refine mc.2 ⟨by rw [hgk]; first | assumption | simp_all, ?_⟩; rcases Nat.eq_zero_or_pos k with h0 | h0; (· exact .inl h0); (· right; rw [hgk, hgp h0]; first | (simp only [decide_eq_true_eq, ns, nr, aW, bq, Bool.and_eq_false_iff, decide_eq_false_iff_not] at *; omega) | (simp_all; done))⟩)) : G := h
def Hq (h : G := by
 refine bm ?_
 refine sG [2, 3, 5, 6, 8, 9, 10] [2, 3] ?_
 refine df ?_
 exact Hp) : G := h
def qn (h : G := by
 refine ew ?_
 exact rb (by first | (simp_all [gj, lx]; done) | (simp_all [gj, lx]; rfl) | (simp_all [gj, lx]; omega) | (simp_all [gj, lx]; intros; omega))) : G := h
def Hr (h : G := by
 have hbad : fa 0 (nr n) ns l = false := rg hlt (Bool.eq_false_iff.2 fun hx => by
  have hx := mc.1 hx
  rw [hgk] at hx
  obtain ⟨hx1, hx2⟩ := hx
  first
  | (simp_all; done)
  | (simp only [decide_eq_true_eq, ns, nr, aW, bq, Bool.and_eq_false_iff, decide_eq_false_iff_not] at *; by_cases h0 : k = 0 <;> (try rw [hgp (by omega)] at hx2) <;> omega))
 refine ot ?_
 exact rb (by simp [lx, hbad])) : G := h
def Hs (h : G := by
 refine kZ ?_
 exact Hp) : G := h
def qo (h : G := by
 refine ew ?_
 exact rb (by first | (simp_all [gj]; done) | (simp_all [gj]; rfl) | (simp_all [gj]; omega) | (simp_all [gj]; intros; omega))) : G := h
def Ht (h : G := by
 have hbad := We hpr
 refine sS [1, 2] [1] ?_
 exact kW) : G := h
def Ad (h : G := by
 have hpr : jc e = false := by first | (simp_all [jc]; done) | (simp_all [jc]; omega) | (rw [← Bool.not_eq_true]; intro hc_; simp [jc] at hc_; simp_all; done) | (rw [← Bool.not_eq_true]; intro hc_; simp [jc] at hc_; omega)
 exact Ht) : G := h
def nZ (h : G := by
 refine dr ?_
 exact Ad) : G := h
def Ae (h : G := by
 have hpr : jc e = false := by unfold jc; rw [hp1]; first | (simp_all; done) | (simp_all; omega)
 exact Ht) : G := h
def rR (h : G := by
 refine cB ?_
 exact rb (hbad2.symm)) : G := h
def Hu (h : G := by
 have hbad : fa ic (gj e.Store) lv e.acu = false := rg hlt (Bool.eq_false_iff.2 fun hx => by
  have hx := mc.1 hx
  rw [hgk] at hx
  obtain ⟨hx1, hx2⟩ := hx
  first
  | (simp_all; done)
  | (simp only [decide_eq_true_eq, lv] at *; by_cases h0 : k = 0 <;> (try rw [hgp (by omega)] at hx2) <;> omega))
 have hbad2 := NZ hbad
 refine sS [1, 3, 4, 53, 54, 55] [1, 4] ?_
 exact rR) : G := h
def Hv (h : G := by
 refine nx (k + 1) (by exact ⟨by omega, by rw [xV, ha, Bool.true_and]; refine mc.2 ⟨by rw [hgk]; first | assumption | simp_all, ?_⟩; rcases Nat.eq_zero_or_pos k with h0 | h0; (· exact .inl h0); (· right; rw [hgk, hgp h0]; first | (simp only [decide_eq_true_eq, lv] at *; omega) | (simp_all; done))⟩)) : G := h
def Hw (h : G := by
 refine bm ?_
 refine sG [1, 3, 4, 53, 54, 55] [1, 4] ?_
 refine df ?_
 exact Hv) : G := h
def wd (h : G := by
 have hno : (gW e.Store.Now) e.Done[k] = false := by first | (simp_all [gW]; done) | (simp_all [gW]; omega)
 have hbad2 := Oa (lZ hlt hno)
 refine sS [1, 6, 53, 54, 55, 85, 86, 87] [1, 6] ?_
 exact rR) : G := h
def Hx (h : G := by
 refine cB ?_
 exact rb ((Wf hpr hall hfa hla).symm)) : G := h
def Hy (h : G := by
 have hbad : fa ic (gj e.Store) lv e.acu = false := rg hlt (Bool.eq_false_iff.2 fun hx => by
  have hx := mc.1 hx
  rw [hgk] at hx
  obtain ⟨hx1, hx2⟩ := hx
  first
  | (simp_all; done)
  | (simp only [decide_eq_true_eq, lv] at *; by_cases h0 : k = 0 <;> (try rw [hgp (by omega)] at hx2) <;> omega))
 have hbad2 := NZ hbad
 refine sS [1, 3] [1] ?_
 exact rR) : G := h
def Hz (h : G := by
 refine uE ?_
 refine cW ?_
 exact Hv) : G := h
def we (h : G := by
 have hno : (gW e.Store.Now) e.Done[k] = false := by first | (simp_all [gW]; done) | (simp_all [gW]; omega)
 have hbad2 := Oa (lZ hlt hno)
 refine sS [1, 3, 4, 5] [1, 5] ?_
 exact rR) : G := h
def HA (h : G := by
 have hyes : iv f v q.acw[k] = true := by simp_all [iv]
 refine bm ?_
 refine sG [1, 2, 3, 8, 10, 11, 12] [3, 8] ?_
 exact tP) : G := h
def HB (h : G := by
 refine qv ?_
 refine eo ?_
 exact (bu 2 (bu _ (aI (by exact rfl) (aI (by refine fE ?_; rw [hend, cn]; exact rfl) (aI dV (aI (fun h => nomatch h) tI))))))) : G := h
def HC (h : G := by
 refine nx (k + 1) (by omega) (f := (by exact aI (by rw [uM hlt]; simp only [bT]; exact rfl) tI))) : G := h
def wf (h : G := by
 refine fU ?_
 exact HC) : G := h
def Af (h : G := by
 refine bf ?_
 refine df ?_
 exact HC) : G := h
def HD (h : G := by
 refine qp ?_
 refine eo ?_
 exact (bu 2 (bu _ (aI (by exact rfl) (aI (by refine fE ?_; rw [hend2, cn]; exact rfl) (aI bU (aI (fun h => nomatch h) tI))))))) : G := h
def HE (h : G := by
 refine ew ?_
 exact rb (by first | (simp_all [nt]; done) | (simp_all [nt]; rfl) | (simp_all [nt]; omega) | (simp_all [nt]; intros; omega))) : G := h
def HF (h : G := by
 have hbad : rr e i = false := by first | (simp_all [rr]; done) | (simp_all [rr]; omega)
 refine sS [1, 2, 4] [2] ?_
 exact kW) : G := h
def HG (h : G := by
 refine ew ?_
 exact rb (by unfold rr; rw [hok.1, hok.2, ← hgd]; first | (simp_all [nt]; done) | (simp_all [nt]; omega))) : G := h
def HH (h : G := by
 refine sG [1, 2, 3, 4] [1] ?_
 refine cW ?_
 refine nx (k + 1) (by exact ⟨by omega, fun _ => hok⟩) (e := (by exact aI (by first | exact cG (by rw [Od hlt hc, bT]; rfl) | exact cG (by rw [Oe hlt hc])) (aI (by exact rfl) tI)))) : G := h
def HI (h : G := by
 have hc : jK e e.acu[k] = false := by simp_all [jK]
 refine bm ?_
 exact HH) : G := h
def HJ (h : G := by
 have hfin : (k = e.acu.length ∧ bk e = true) ∨ (k = 0 ∧ (e.acu.length = 0 ∨ bk e = false)) := by
  by_cases h0k : 0 < k
  ·left
   have h1 := ha h0k
   refine ⟨?_, h1⟩
   by_cases hka : k = e.acu.length
   ·exact hka
   ·exfalso
    have hlt_ : k < e.acu.length := by omega
    have hlt2_ : (k : Int) < (e.acu.length : Int) := by omega
    first | omega | simp_all
  ·right
   refine ⟨by omega, ?_⟩
   by_cases hka : e.acu.length = 0
   ·exact .inl hka
   ·right
    have hlt_ : k < e.acu.length := by omega
    have hlt2_ : (k : Int) < (e.acu.length : Int) := by omega
    rw [← Bool.not_eq_true]; intro hc_; simp_all
 refine bG ?_
 refine sT [1, 2, 3, 4] [1] ?_
 refine ov ?_
 exact (aI (by refine cG ?_; rw [Wi hfin]) tI)) : G := h
def HK (h : G := by
 refine sG [1, 2, 3, 5, 12, 13, 14] [1, 5] ?_
 refine df ?_
 refine nx (k + 1) (by omega) (e := (by exact aI (by first | exact cG (by rw [Od hlt hc, bT]; rfl) | exact cG (by rw [Oe hlt hc])) (aI (by exact rfl) tI)))) : G := h
def HL (h : G := by
 have hc : jK e e.acu[k] = false := by simp_all [jK]
 refine bm ?_
 exact HK) : G := h
def HM (h : G := by
 refine lS ?_
 exact (aI (by refine bh ?_; rw [CS hlt ha hy]) tI)) : G := h
def HN (h : G := by
 refine cB ?_
 exact (aI (by refine bh ?_; rw [Wj ha]) tI)) : G := h
def HO (h : G := by
 refine sG [1, 2, 4, 5, 6, 7, 8, 9, 11, 19, 20, 21, 27, 28, 29, 2900, 6000] [2, 4, 6, 11, 900] ?_
 refine df ?_
 refine nx (j + 1) (by omega) (e := (by exact aI (by first | exact cG (by rw [Oo hlj (by rw [hz3]; exact hnd), bT]; exact rfl) | exact cG (by rw [Oq hlj (by rw [hz3]; exact hnd)])) (aI (by exact bh (by omega)) tI)))) : G := h
def HP (h : G := by
 refine dA 511 ?_ (x := sA)
 refine Bw ?_
 refine nx (m + 1) (by omega) (e := (by exact aI (by exact gZ (by rw [Wo hlm, hg]; rfl)) (aI (by exact bh (by omega)) tI)))) : G := h
def HQ (h : G := by
 refine Bw ?_
 refine nx (j + 1) (by omega) (e := (by exact aI (by first | exact bh (by rw [Ws hls hlj2 hnd]) | exact bh (by rw [Wt hls hlj2 hnd]; omega)) (aI (by first | exact cG (by rw [Oo hlj (by rw [hz3]; exact hnd), bT]; exact rfl) | exact cG (by rw [Oq hlj (by rw [hz3]; exact hnd)])) (aI (by exact bh (by omega)) tI))))) : G := h
def HR (h : G := by
 refine nx (k + 1) (by omega) (e := (by exact aI (by first | exact cG (by rw [aaM hlt hne, bT]; rfl) | exact cG (by rw [aaN hlt hne])) (aI (by exact rfl) tI)))) : G := h
def HS (h : G := by
 refine sG [0, 1, 4, 5, 7, 9, 10, 11] [] ?_
 refine df ?_
 exact HR) : G := h
def HT (h : G := by
 refine sG [0, 1, 4, 5, 6] [] ?_
 refine cW ?_
 exact HR) : G := h
def HU (h : G := by
 refine sG [1, 2, 3, 6, 7, 9, 15, 16, 17] [3, 9] ?_
 refine df ?_
 refine nx (k + 1) (by omega) (e := (by exact aI (by first | exact cG (by rw [DA hlt hv, bT]; rfl) | exact cG (by rw [PO hlt hv])) (aI (by exact rfl) tI)))) : G := h
def HV (h : G := by
 refine nx (k + 1) (by omega) (e := (by exact aI (by exact cG (by rw [hts, bT]; rfl)) (aI (by exact rfl) tI)))) : G := h
def rT (h : G := by
 have hno : kP e q l = false := by first | (simp_all [kP]; done) | (simp_all [kP]; omega) | (rw [← Bool.not_eq_true]; intro hc_; obtain ⟨h1_, h2_, h3_, h4_, h5_⟩ := vd hc_; first | omega | (simp_all; done) | (simp_all [aW]; omega))
 refine sS [2, 3, 4, 6, 7, 8] [3, 4, 6, 8] ?_
 refine qp ?_
 refine cB ?_
 exact (bu 6 (bu _ (aI (by exact rfl) (aI (by refine fE ?_; rw [DF hno]; exact rfl) (aI bU (aI (fun h => nomatch h) (aI (by refine gZ ?_; rw [DF hno]) tI)))))))) : G := h
def HW (h : G := by
 refine zt g4 ?_
 refine rA ?_ (x := aT g4)
 refine dr ?_
 exact rT) : G := h
def HX (h : G := by
 refine zt g8 ?_
 refine rA ?_ (x := aT g8)
 refine dr ?_
 exact rT) : G := h
def HY (h : G := by
 refine zt g11 ?_
 refine rA ?_ (x := aT g11)
 refine dr ?_
 exact rT) : G := h
def HZ (h : G := by
 refine zt gd ?_
 refine rA ?_ (x := aT gd)
 refine dr ?_
 exact rT) : G := h
def Ia (h : G := by
 refine nx (k + 1) (by omega) (f := (by exact aI (by rw [aa7, bT]; exact rfl) tI))) : G := h
def Ib (h : G := by
 refine sG [2, 3, 4, 6, 7, 8, 9, 11, 13, 54, 55, 67, 68, 69, 6200, 6300] [3, 4, 6, 8, 9, 13] ?_
 refine df ?_
 refine nx (m + 1) (by omega) (e := (by exact aI (by first | exact cG (by rw [aa8 hmz hlz, bT]; rfl) | exact cG (by rw [aa9 hmz hlz])) (aI (by exact bh (by omega)) tI)))) : G := h
def Ic (h : G := by
 refine pH ?_
 refine cB ?_
 exact (bu 6 (bu _ (aI (by exact rfl) (aI (by refine fE ?_; rw [PX hok]; exact rfl) (aI bU (aI (fun h => nomatch h) (aI (by refine gZ ?_; rw [PX hok]) tI)))))))) : G := h
def Ag (h : G := by
 refine sP [2, 3, 4, 6, 7, 8, 9, 10, 11, 12, 13, 6200, 6300] [3, 4, 6, 8, 9] ?_
 refine dw dl ?_
 refine JY ?_
 refine eY ?_
 refine dA 12 ?_ (x := aY (by decide) bL (by exact tI) (by exact rfl) (by exact bc (by omega) rfl) (by exact rfl))
 refine dA 28 ?_ (x := nA (qs := [nv _ (val _), nv _ (val _), nv _ (sl .v _), nv _ (sl .v _), nv _ (val _), nv _ (sl .v _), nv _ (val _), nv _ (val _), nv _ (val _), nv _ (sl .v _)]) (by decide) fW (fun h => nomatch h) (by exact nl rfl) (by exact (ap (ap (ap (ap (ap (ap (ap (ap (ap (ap am.nil))))))))))) (by exact lq))
 refine dA 60 ?_ (x := cj (qs := [(true, [nv _ (val _), nv _ (val _), nv _ (sl _ _), nv _ (sl _ _), nv _ (val _), nv _ (sl _ _), nv _ (val _), nv _ (val _), nv _ (val _), nv _ (sl _ _)])]) (by decide) bL fJ (by decide) rfl rfl rfl rfl rfl (by exact nl rfl) (by exact (aI (by exact tI) tI)) rfl)
 refine dA 127 ?_ (x := fe (by decide) bL fJ rfl rfl (by decide) rfl (by simp only [aq, aV, List.length_cons, List.length_nil]; omega) (by simp only [aq, aV, List.length_cons, List.length_nil]; omega))
 refine dA 255 ?_ (x := lF el)
 refine dA 511 ?_ (x := bg (ag := false) (vs := [sl _ _]) ea (by exact tI) (by exact rfl) (by exact nl rfl))
 refine sO [(2, _), (3, _), (4, _), (6, _), (7, _), (8, _), (9, _), (10, _), (11, _), (12, _), (13, _), (6200, _), (6300, _)] [(3, _), (4, _), (6, _), (8, (32, [sl _ _, val _, val _, sl _ _, sl _ _, sl _ _, sl _ _, val _])), (9, _)] ?_
 refine fU ?_
 refine nx (m + 1) (by omega) (e := (by exact aI (by exact gZ (by first | (rw [decide_eq_decide]; omega) | (rw [decide_eq_true (show (ee e.acu q.Id) < m + 1 by omega)]; done))) (aI (by exact bh (by omega)) tI))) (f := (by exact aI (by first | (rw [abg hmz hpm]; simp only [bT]; exact rfl) | (rw [abf hmz hpm]; simp only [bT]; exact rfl)) tI))) : G := h
def Ie (h : G := by
 refine bV (d := 8) (by exact rfl) (show _ = [sl bo (e.Store.act.map (aC aS aa)), val (vI e.Store.Now), val (vI e.acy), sl aa (e.Order.map ak), sl bS ((za.take (ee e.acu q.Id) ++ (ed e q l, kNew) :: za.drop (ee e.acu q.Id)).map eS), sl bJ (e.Done.map (aX aw aa az aa)), sl bP (e.acG.map (aZ aa aa aa)), val (vI e.Steps)] from by first | (rw [← abh hpl]; first | done | exact rfl) | (rw [← abi hpl]; simp only [bT]; exact rfl)) ?_
 refine sP [2, 3, 4, 6, 7, 8, 9, 10, 11, 12, 13, 6200, 6300] [3, 4, 6, 8, 9] ?_
 refine FD (G := 6300) (H := 6200) (e := 10) (f := (aQ aw aa aa az aa)) (by exact rfl) (by exact rfl) (by exact rfl) ?_
 refine sP [2, 3, 4, 6, 7, 8, 9, 10, 11, 12, 13, 6300] [3, 4, 6, 8, 9] ?_
 refine Dm (d := 8) (t := 108) (e := 10) (G := 6300) (A := [sl _ _, val _, val _, sl _ _]) (B := [sl _ _, sl _ _, val _]) (f := (aQ aw aa aa az aa)) (g := (fun z : acu => [val (vI z.acv.Id), val (vI z.acv.acz), sl .v (z.acv.acw.map bj), sl .v (z.acv.Out.map ak), val (vI z.Time), sl .v (z.acD.map ak), val (vI z.Age), val (vI z.Sent), val (vI z.Cap), sl .v (z.Rows.map (bC aa))])) (fN := eS) (ys := (za.take (ee e.acu q.Id) ++ (ed e q l, kNew) :: za.drop (ee e.acu q.Id))) [] (ny e q l) (by exact rfl) (by exact rfl) (fun _ _ => rfl) (fun _ => rfl) (fun _ => rfl) (Qc) (Qd hoe hza) ?_
 refine sO [(2, _), (3, _), (4, _), (6, _), (7, _), (8, _), (9, _), (10, _), (11, _), (12, _), (13, _)] [(3, _), (4, _), (6, _), (8, (32, [sl _ _, val _, val _, sl _ _, sl _ _, sl _ _, sl _ _, val _])), (9, _)] ?_
 exact Ic) : G := h
def Ah (h : G := by
 have hno : kx e id = false := by first | (simp_all [kx]; done) | (simp_all [kx]; omega) | (rw [← Bool.not_eq_true]; intro hc_; unfold kx at hc_; simp only [bq, decide_eq_true_eq] at hc_; obtain ⟨h1_, h2_⟩ := hc_; first | omega | (simp_all; done) | (simp_all; omega))
 refine sS [1, 2, 4, 5, 6, 7] [2, 4, 6] ?_
 refine qp ?_
 refine cB ?_
 exact (bu 4 (bu _ (aI (by exact rfl) (aI (by refine fE ?_; rw [DG hno]; exact rfl) (aI bU (aI (fun h => nomatch h) (aI (by refine gZ ?_; rw [DG hno]) tI)))))))) : G := h
def If (h : G := by
 refine oH ?_
 exact Ah) : G := h
def Ig (h : G := by
 refine eo ?_
 exact (bu 4 (bu _ (aI (by exact rfl) (aI (by refine fE ?_; rw [DH hok hf]; exact rfl) (aI bU (aI (fun h => nomatch h) (aI (by refine gZ ?_; rw [DH hok hf]) tI)))))))) : G := h
def Ih (h : G := by
 refine la ?_
 refine rS ?_
 refine ew ?_
 exact (aI (by refine bh ?_; rw [hfa.1]) (aI (by refine bh ?_; rw [hfa.2]) tI))) : G := h
def Ii (h : G := by
 refine nx (j + 1) (by exact ⟨by omega, qY hc hlt2 hno2⟩) (e := (by exact aI (by exact bh (by omega)) tI))) : G := h
def Ij (h : G := by
 have hno2 : gL id s.act[i][j] = false := by first | (simp_all [gL]; done) | (unfold gL; simp_all)
 refine bm ?_
 refine sG [1, 2, 6, 7, 8, 9, 11, 12, 13, 18, 19, 20] [2, 9] ?_
 refine df ?_
 exact Ii) : G := h
def Ik (h : G := by
 refine nx (i + 1) (by exact ⟨by omega, qY ha hlt hno1⟩) (e := (by exact aI (by exact bh (by omega)) tI))) : G := h
def Il (h : G := by
 refine rK ?_
 refine cB ?_
 exact (aI (by refine bh ?_; rw [hfn.1]) (aI (by refine bh ?_; rw [hfn.2]) tI))) : G := h
def Im (h : G := by
 have hno2 : gL id s.act[i][j] = false := by first | (simp_all [gL]; done) | (unfold gL; simp_all)
 refine bm ?_
 refine sG [1, 2, 6, 7] [2] ?_
 refine cW ?_
 exact Ii) : G := h
def In (h : G := by
 refine rA ?_ (x := bg (ag := true) (vs := [sl _ _, val _]) dV (by exact tI) (by exact rfl) (by exact nl rfl))
 refine cB ?_
 exact (bu 4 (bu _ (aI (by exact rfl) (aI (by refine fE ?_; rw [DN hno]; exact rfl) (aI dV (aI (fun h => nomatch h) (aI (by refine gZ ?_; rw [DN hno]) tI)))))))) : G := h
def Ai (h : G := by
 refine rA ?_ (x := cz (ms := [sl _ _, val _]) (qs := [sl .v _, val _]) (by decide) dV (fun h => nomatch h) (by exact nl rfl) (by exact rfl) (by exact (aH (ap am.nil))) (by exact (an.cons (bor_sl _) (an.cons (bor_val _) an.nil))))
 exact In) : G := h
def wg (h : G := by
 have hno : jP s u = false := by rw [← Bool.not_eq_true]; intro hc_; obtain ⟨h1_, h2_, h3_, h4_, h5_⟩ := tl hc_; first | omega | (simp_all; done) | (simp_all; omega)
 refine sS [2, 3, 4, 5, 6] [2, 3, 4, 6] ?_
 exact Ai) : G := h
def Io (h : G := by
 refine xb ?_
 refine dr ?_
 exact wg) : G := h
def Ip (h : G := by
 refine xI ?_
 refine dr ?_
 exact wg) : G := h
def Iq (h : G := by
 refine fF ?_
 refine sP [2, 3, 4, 5, 6, 7, 8, 9] [2, 3, 4, 6] ?_
 refine Py (s := 9) (by exact rfl) (show _ = RV.slc aa ((jg s u).map ak) from by first | (rw [hv2]; done) | (rw [hv2]; exact rfl)) ?_
 refine sG [2, 3, 4, 5, 6, 7, 8, 9] [2, 3, 4, 6] ?_
 refine pC ?_
 refine sc (fun hbe => ?_) (fun hbe => ?_)
 have hk2 : u.Kind = 2 := by first | exact hbe | simpa using hbe
 have hok := yO hos hou hnw hkd (.inl hk2)
 refine sS [2, 3, 4, 5, 6, 7, 8, 9] [2, 3, 4, 6] ?_
 refine qv ?_
 refine cB ?_
 exact (bu 4 (bu _ (aI (by exact rfl) (aI (by refine fE ?_; rw [ve hok hk2]; exact rfl) (aI dV (aI (fun h => nomatch h) (aI (by refine gZ ?_; rw [ve hok hk2]) tI)))))))
 have hk2 : ¬ u.Kind = 2 := by first | exact hbe | simpa using hbe
 have hu0 : 0 < (dp s u).length := by omega
 refine dt ?_
 refine aP ?_
 refine sP [2, 3, 4, 5, 6, 7, 8, 9] [2, 3, 4, 6] ?_
 refine ju (d := 6) (t := 26) (D := 910) (G := 2910) (E := 139) (e := 1) (L := (Lw w0.heap.size)) (A := []) (B := [val _]) (es := ((dp s u)).map (aC aS aa)) (by exact rfl) (iC hu0) (by exact rfl) (by exact rfl) rfl (by exact rfl) (fun x hx => hx) (by exact lq) (by exact lq) (by exact ai.nil) (by exact lc) (ai.map fun x => (ai.cons (lcl_own (ai.map fun x => (ai.cons lcl_val (ai.cons (lcl_own (ai.map fun x => (ai.cons lcl_val ai.nil))) (ai.cons lcl_val (ai.cons lcl_val ai.nil)))))) ai.nil)) fun uu910 cp910 jk910 hlD910 hcp910 hjk910 => ?_
 rw [aq] at hlD910 hcp910 hjk910
 refine bV (d := 910) (by exact rfl) (show _ = bE (aC aS aa) ((dp s u)) jk910 from rfl) ?_
 refine sO [(2, _), (3, _), (4, _), (5, _), (6, _), (7, _), (8, _), (9, _), (2910, _)] [(2, _), (3, _), (4, _), (6, (26, [val _, val _])), (910, (139, bE (aC aS aa) _ _))] ?_
 refine bf ?_
 refine sh ?_
 refine rA ?_ (x := Fe (G := 2910) (by decide) di)
 refine dZ ?_
 refine sP [2, 3, 4, 5, 6, 7, 8, 9, 87, 88, 89, 2910] [2, 3, 4, 6, 910] ?_
 refine sL [2, 3, 4, 6, 7, 8, 9, 87, 88, 2910] [2, 3, 4, 6, 910] (fun m : Nat => m ≤ s.act.length ∧ (s.act.take m).any gY = false) (fun m : Nat => [(89, RV.int (m : Int))]) (fun m : Nat => []) (fun m : Nat => s.act.length - m) 0 (by exact ⟨by omega, rfl⟩) (by exact aI (by exact rfl) tI) (by exact tI) ?_
 rintro m ⟨hm, ha⟩
 refine cF ?_
 refine sc (fun hbf => ?_) (fun hbf => ?_)
 try simp only [aq] at hbf
 have hlt : m < s.act.length := by omega
 have hum : m < (dp s u).length := by omega
 have hua := Qm s u hum hlt
 have hs4m := hs4 _ (List.getElem_mem hlt)
 refine cO ?_
 refine sO [(2, _), (3, _), (4, _), (6, _), (7, _), (8, _), (9, _), (87, _), (88, _), (89, _), (2910, _)] [(2, (26, [sl (.lo _) _, val _])), (3, (56, [val _, val _, sl (.lo _) _, val _, val _])), (4, (26, [sl _ _, val _])), (6, (26, [val _, val _])), (910, (139, bE (aC aS aa) _ _))] ?_
 refine bV (d := 910) (by exact rfl) (iB (f := (aC aS aa)) (xs := (dp s u)) (k := m) hum) ?_
 have hA910 := iQ (f := (aC aS aa)) (e := 1) (xs := (dp s u)) (k := m) (fun _ => rfl) (Nat.le_of_lt hum)
 refine sO [(2, _), (3, _), (4, _), (6, _), (7, _), (8, _), (9, _), (87, _), (88, _), (89, _), (2910, _)] [(2, _), (3, _), (4, _), (6, _), (910, (139, _ ++ ([sl _ _] ++ _)))] ?_
 refine aam (d := 910) (A := _) (B := [] ++ _) (by exact rfl) fun vN => ?_
 refine sO [(2, _), (3, _), (4, _), (6, _), (7, _), (8, _), (9, _), (87, _), (88, _), (89, _), (2910, _)] [(2, _), (3, _), (4, _), (6, _), (910, (139, _ ++ ([nv _ (sl _ _)] ++ _)))] ?_
 refine oG ?_
 refine rA ?_ (x := io (k := m) (G := 2910) (by decide) di (by exact tI) (by omega) (by first | (rw [aq]; exact hum) | exact hum))
 refine rA ?_ (x := fR (o := 0) (qs := [nv _ (sl .v _)]) (by omega) (by decide) gx (fun _ => rfl) (by exact nl rfl) (by exact (ap am.nil)) (by exact (an.cons (bor_nv (bor_sl _)) an.nil)))
 refine rS ?_
 refine rA ?_ (x := be (r' := RV.sv false [nv _ (sl .v _)]) (.inr rfl) (by decide) (by exact Cp.sv (ap am.nil) (an.cons (bor_nv (bor_sl _)) an.nil)))
 refine sS [2, 3, 4, 6, 7, 8, 9, 10, 11, 87, 88, 89, 2910] [2, 3, 4, 6, 910] ?_
 refine rA ?_ (x := be (r' := RV.sv false [sl .v _]) (.inl rfl) (by decide) (by exact Cp.sv (am.cons (PV.nv_to jt) am.nil) (an.cons (bor_sl _) an.nil)))
 refine oj ?_
 refine sc (fun hbg => ?_) (fun hbg => ?_)
 have hsm : gY s.act[m] = true := by unfold gY; rw [decide_eq_true_eq]; omega
 have hrm := Qh hlt ha hsm
 have hok := yO hos hou hnw hkd (.inr (by omega))
 have hpv := DQ (v := kQ s u) hum
 refine aP ?_
 refine sP [2, 3, 4, 6, 7, 8, 9, 10, 11, 87, 88, 89, 2910] [2, 3, 4, 6, 910] ?_
 refine aao (d := 910) (G := 6400) (A := _) (B := [] ++ _) (by exact rfl) (by exact rfl) jt (bor_sl _) ?_
 refine sO [(2, _), (3, _), (4, _), (6, _), (7, _), (8, _), (9, _), (10, _), (11, _), (87, _), (88, _), (89, _), (2910, _), (6400, _)] [(2, _), (3, _), (4, _), (6, _), (910, (139, _ ++ ([sl _ _] ++ _)))] ?_
 refine vE (s := 11) (G := 6400) (by exact rfl) (by exact (Nm.nv Nm.nil)) rfl (by decide) (by exact rfl) ?_
 refine sP [2, 3, 4, 6, 7, 8, 9, 10, 11, 87, 88, 89, 2910] [2, 3, 4, 6, 910] ?_
 refine dw dl ?_
 refine uI ?_
 refine dA 0 ?_ (x := tM)
 refine dA 0 ?_ (x := lF hZ)
 refine dA 16 ?_ (x := lF kk)
 refine dA 48 ?_ (x := lD [val _] au)
 refine dA 0 ?_ (x := tM)
 refine BJ ?_
 refine dA 1008 ?_ (x := fB (qs := [(false, [val _]), (false, [sl _ _]), (false, [val _]), (false, [val _])]) (cs := [val _, sl _ _, val _, val _]) (by decide) fz lr Qt (by exact rfl) (by exact (aI (by exact tI) (aI (by exact tI) (aI (by exact tI) (aI (eV rfl) tI))))) rfl (by exact rfl))
 refine dA 2032 ?_ (x := cj (qs := [(true, [val _, sl _ _, val _, val _])]) (by decide) cv fz (by decide) rfl rfl rfl rfl rfl (by exact nl rfl) (by exact (aI (by exact tI) tI)) rfl)
 refine dA 4088 ?_ (x := fe (by decide) cv fz rfl rfl (by decide) rfl (by simp only [aq, aV, List.length_cons, List.length_nil]; omega) (by simp only [aq, aV, List.length_cons, List.length_nil]; omega))
 refine dA 8191 ?_ (x := io (k := m) (G := 2910) (by decide) di (by exact tI) (by omega) (by first | (rw [aq]; exact hum) | exact hum))
 refine dA 16383 ?_ (x := fD (o := 0) (ag := false) (vs := [sl _ _]) (by omega) gx (by exact tI) (by exact rfl) (by exact nl rfl))
 refine bV (d := 910) (by exact rfl) (mI ((dp s u)[m] ++ [kQ s u]) hum (by simp only [aC, bT]; exact rfl)) ?_
 refine nS (d := 6) (D := 910) (G := 2910) (e := 1) (A := []) (B := [val _]) (es := (((dp s u)).set m ((dp s u)[m] ++ [kQ s u])).map (aC aS aa)) (by exact rfl) (by exact rfl) (by exact rfl) rfl (by rw [aq, List.length_set, aq]) (by intro c hc; obtain ⟨y, _, rfl⟩ := List.mem_map.1 hc; exact rfl) (by rw [aq]; exact hjk910) ?_
 refine aP ?_
 refine sO [(2, _), (3, _), (4, _), (6, _), (7, _), (8, _), (10, _), (87, _), (88, _), (89, _)] [(2, _), (3, _), (4, _), (6, (26, [sl _ _, val _]))] ?_
 refine bf ?_
 refine qv ?_
 refine cB ?_
 exact (bu 4 (bu _ (aI (by exact rfl) (aI (by refine fE ?_; rw [vf hok hk2 hrm, hpv]; exact rfl) (aI dV (aI (fun h => nomatch h) (aI (by refine gZ ?_; rw [vf hok hk2 hrm]) tI)))))))
 have hns : gY s.act[m] = false := by unfold gY; rw [decide_eq_false_iff_not]; omega
 refine bm ?_
 refine sP [2, 3, 4, 6, 7, 8, 9, 10, 11, 87, 88, 89, 2910] [2, 3, 4, 6, 910] ?_
 refine aan (d := 910) (A := _) (B := [] ++ _) (by exact rfl) ?_
 refine sO [(2, _), (3, _), (4, _), (6, _), (7, _), (8, _), (9, _), (10, _), (11, _), (87, _), (88, _), (89, _), (2910, _)] [(2, _), (3, _), (4, _), (6, _), (910, (139, _ ++ ([sl _ _] ++ _)))] ?_
 refine bV (d := 910) (by exact rfl) (show _ = bE (aC aS aa) (dp s u) jk910 from (iB (f := (aC aS aa)) (xs := (dp s u)) (k := m) hum).symm) ?_
 refine sO [(2, _), (3, _), (4, _), (6, _), (7, _), (8, _), (9, _), (10, _), (11, _), (87, _), (88, _), (89, _), (2910, _)] [(2, _), (3, _), (4, _), (6, _), (910, (139, bE (aC aS aa) _ _))] ?_
 refine bf ?_
 refine df ?_
 refine nx (m + 1) (by exact ⟨by omega, qY ha hlt hns⟩) (e := (by exact aI (by exact bh (by omega)) tI))
 try simp only [aq] at hbf
 have hend : m = s.act.length := by omega
 have hrn := Qi (by rw [hend, cn] at ha; exact ha)
 have hno : jP s u = false := by rw [← Bool.not_eq_true]; intro hc_; obtain ⟨h1_, h2_, h3_, h4_, h5_⟩ := tl hc_; first | omega | (simp_all; done) | (simp_all; omega)
 refine it ?_
 refine sO [(2, _), (3, _), (4, _), (6, _), (7, _), (8, _), (9, _), (87, _), (88, _), (89, _), (2910, _)] [(2, (26, [sl (.lo _) _, val _])), (3, (56, [val _, val _, sl (.lo _) _, val _, val _])), (4, (26, [sl _ _, val _])), (6, (26, [val _, val _])), (910, (139, bE (aC aS aa) _ _))] ?_
 refine Bi ?_
 exact In) : G := h
def Ir (h : G := by
 refine fF ?_
 refine sP [2, 3, 4, 5, 6, 7, 8, 9] [2, 3, 4, 6] ?_
 refine bV (d := 6) (by exact rfl) (show _ = [sl bo ((dp s u).map (aC aS aa)), val (vI (s.Now + 1))] from by first | (rw [hu1]; done) | (rw [hu1]; exact rfl)) ?_
 refine sP [2, 3, 4, 5, 6, 7, 8, 9] [2, 3, 4, 6] ?_
 refine Py (s := 9) (by exact rfl) (show _ = RV.slc aa ((eT s u).map ak) from by first | (rw [hu2]; done) | (rw [hu2]; exact rfl)) ?_
 refine sG [2, 3, 4, 5, 6, 7, 8, 9] [2, 3, 4, 6] ?_
 refine pC ?_
 refine sc (fun hbd => ?_) (fun hbd => ?_)
 have hk3 : u.Kind = 3 := by first | exact hbd | simpa using hbd
 have hge3 : 0 ≤ cl s u.Row.Id := by omega
 have hv3 := yN (u := u) hos hge3
 have hf3 := DP hou hk3
 have hfl : u.Field.toNat < (eT s u).length := by omega
 have hv2 : jg s u = (eT s u).set u.Field.toNat u.Value := if_pos hk3
 refine sP [2, 3, 4, 5, 6, 7, 8, 9] [2, 3, 4, 6] ?_
 refine EZ (s := 9) (D := 930) (G := 2930) (E := 3) (e := 1) (L := (Lw w0.heap.size)) (es := ((eT s u)).map ak) (by exact rfl) (iC hfl) (by exact rfl) (by exact rfl) rfl (by exact rfl) (fun x hx => hx) (by exact lq) (by exact lq) (ai.map fun x => (ai.cons lcl_val ai.nil)) fun uu930 cp930 jk930 hlD930 hcp930 hjk930 => ?_
 rw [aq] at hlD930 hcp930 hjk930
 refine bV (d := 930) (by exact rfl) (iB (k := u.Field.toNat) hfl) ?_
 have hA930 := iQ (f := ak) (e := 1) (xs := (eT s u)) (k := u.Field.toNat) (fun _ => rfl) (Nat.le_of_lt hfl)
 refine sO [(2, _), (3, _), (4, _), (5, _), (6, _), (7, _), (8, _), (9, _), (2930, _)] [(2, _), (3, _), (4, _), (6, _), (930, (3, _ ++ ([val _] ++ _)))] ?_
 refine bf ?_
 refine rA ?_ (x := vM false [val _])
 refine rA ?_ (x := lF mj)
 refine uu ?_
 refine rA ?_ (x := lD [val _] au)
 refine Az ?_
 refine bV (d := 930) (by exact rfl) (mI u.Value hfl (by exact rfl)) ?_
 refine Fc (s := 9) (D := 930) (G := 2930) (e := 1) (es := (((eT s u)).set u.Field.toNat u.Value).map ak) (by exact rfl) (by exact rfl) (by exact rfl) rfl (by decide) (by rw [aq, List.length_set, aq]) (by intro c hc; obtain ⟨y, _, rfl⟩ := List.mem_map.1 hc; exact rfl) (by rw [aq]; exact hjk930) ?_
 exact Iq
 have hk3n : ¬ u.Kind = 3 := by first | exact hbd | simpa using hbd
 have hv2 : jg s u = eT s u := if_neg hk3n
 refine bm ?_
 exact Iq) : G := h
def Is (h : G := by
 have hno : jP s u = false := by rw [← Bool.not_eq_true]; intro hc_; obtain ⟨h1_, h2_, h3_, h4_, h5_⟩ := tl hc_; by_cases h1 : 0 ≤ cl s u.Row.Id <;> by_cases h2 : u.Kind = 1 <;> by_cases h3 : u.Kind = 2 <;> by_cases h4 : 0 ≤ il s.act <;> by_cases h6 : cl s u.Row.Id < 0 <;> (first | omega | (simp_all; done) | (simp_all; omega))
 refine sS [2, 3, 4, 5, 6, 7, 8, 9] [2, 3, 4, 6] ?_
 exact Ai) : G := h
def It (h : G := by
 refine qv ?_
 refine cB ?_
 exact (bu 4 (bu _ (aI (by exact rfl) (aI (by refine fE ?_; first | (rw [vf hok hk2 hrm, hpv]; exact rfl) | (rw [ve hok hk2]; exact rfl)) (aI dV (aI (fun h => nomatch h) (aI (by refine gZ ?_; first | (rw [vf hok hk2 hrm]; done) | (rw [ve hok hk2]; done)) tI)))))))) : G := h
def Iu (h : G := by
 obtain ⟨r, hr, hrm, hr4⟩ := Qj (hrr.resolve_left hk2)
 have hru : r < (dp s u).length := by omega
 have hua := Qm s u hru hr
 have hpv := DQ (v := kQ s u) hru
 refine sP [2, 3, 4, 5, 6, 7, 8, 9, 10] [2, 3, 4, 6, 10] ?_
 refine ju (d := 6) (t := 26) (D := 940) (G := 2940) (E := 139) (e := 1) (L := (Lw w0.heap.size)) (A := []) (B := [val _]) (es := ((dp s u)).map (aC aS aa)) (by exact rfl) (iC hru) (by exact rfl) (by exact rfl) rfl (by exact rfl) (fun x hx => hx) (by exact lq) (by exact lq) (by exact ai.nil) (by exact lc) (ai.map fun x => (ai.cons (lcl_own (ai.map fun x => (ai.cons lcl_val (ai.cons (lcl_own (ai.map fun x => (ai.cons lcl_val ai.nil))) (ai.cons lcl_val (ai.cons lcl_val ai.nil)))))) ai.nil)) fun uu940 cp940 jk940 hlD940 hcp940 hjk940 => ?_
 rw [aq] at hlD940 hcp940 hjk940
 refine bV (d := 940) (by exact rfl) (iB (k := r) hru) ?_
 have hA940 := iQ (f := (aC aS aa)) (e := 1) (xs := (dp s u)) (k := r) (fun _ => rfl) (Nat.le_of_lt hru)
 refine sO [(2, _), (3, _), (4, _), (5, _), (6, _), (7, _), (8, _), (9, _), (10, _), (2940, _)] [(2, _), (3, _), (4, _), (6, (26, [val _, val _])), (10, _), (940, (139, _ ++ ([sl _ _] ++ _)))] ?_
 refine dw dl ?_
 refine uI ?_
 refine dA 0 ?_ (x := lF kf)
 refine dA 8 ?_ (x := lD [val _] ko)
 refine dA 0 ?_ (x := sM)
 refine dA 56 ?_ (x := io (k := r) (G := 2940) (by decide) di (by exact tI) (by omega) (by first | (rw [aq]; exact hru) | exact hru))
 refine dA 120 ?_ (x := zu (o := 0) (ms := [sl _ _]) (qs := [sl .v _]) (by omega) (by decide) gx (fun _ => rfl) (by exact nl rfl) (by exact rfl) (by exact (aH am.nil)) (by exact (an.cons (bor_sl _) an.nil)))
 refine dA 0 ?_ (x := cz (ms := [val _, sl _ _, val _, val _]) (qs := [val _, sl .v _, val _, val _]) (by decide) en (fun h => nomatch h) (by exact nl rfl) (by exact rfl) (by exact (ap (aH (ap (ap am.nil))))) (by exact lq))
 refine dA 256 ?_ (x := cj (qs := [(true, [val _, sl _ _, val _, val _])]) (by decide) cv fz (by decide) rfl rfl rfl rfl rfl (by exact nl rfl) (by exact (aI (by exact tI) tI)) rfl)
 refine dA 1016 ?_ (x := fe (by decide) cv fz rfl rfl (by decide) rfl (by simp only [aq, aV, List.length_cons, List.length_nil]; omega) (by simp only [aq, aV, List.length_cons, List.length_nil]; omega))
 refine dA 2047 ?_ (x := io (k := r) (G := 2940) (by decide) di (by exact tI) (by omega) (by first | (rw [aq]; exact hru) | exact hru))
 refine dA 4095 ?_ (x := fD (o := 0) (ag := false) (vs := [sl _ _]) (by omega) gx (by exact tI) (by exact rfl) (by exact nl rfl))
 refine bV (d := 940) (by exact rfl) (mI ((dp s u)[r] ++ [kQ s u]) hru (by simp only [aC, bT]; exact rfl)) ?_
 refine nS (d := 6) (D := 940) (G := 2940) (e := 1) (A := []) (B := [val _]) (es := (((dp s u)).set r ((dp s u)[r] ++ [kQ s u])).map (aC aS aa)) (by exact rfl) (by exact rfl) (by exact rfl) rfl (by rw [aq, List.length_set, aq]) (by intro c hc; obtain ⟨y, _, rfl⟩ := List.mem_map.1 hc; exact rfl) (by rw [aq]; exact hjk940) ?_
 refine aP ?_
 refine sO [(2, _), (3, _), (4, _), (5, _), (6, _), (7, _), (8, _), (9, _), (10, _)] [(2, _), (3, _), (4, _), (6, (26, [sl _ _, val _])), (10, (184, [val _, sl _ _, val _, val _]))] ?_
 refine bf ?_
 exact It) : G := h
def Iv (h : G := by
 refine bm ?_
 refine sS [2, 3, 4, 5, 6, 7, 8, 9, 10] [2, 3, 4, 6, 10] ?_
 exact It) : G := h
def Iw (h : G := by
 refine JT ?_
 refine rA ?_ (x := lF lj)
 refine et ?_
 refine sc (fun hbe => ?_) (fun hbe => ?_)
 have hk2 : ¬ u.Kind = 2 := by first | exact hbe | simpa using hbe
 exact Iu
 have hk2 : u.Kind = 2 := by first | exact hbe | simpa using hbe
 exact Iv) : G := h
def Ix (h : G := by
 refine Kp ?_
 refine sG [2, 3, 4, 5, 6, 7, 8, 9, 10] [2, 3, 4, 6, 10] ?_
 refine pC ?_
 refine sc (fun hbd => ?_) (fun hbd => ?_)
 have hk3 : u.Kind = 3 := by first | exact hbd | simpa using hbd
 have hge3 : 0 ≤ cl s u.Row.Id := by omega
 have hv3 := yN (u := u) hos hge3
 have hf3 := DP hou hk3
 have hfl : u.Field.toNat < (eT s u).length := by omega
 have hv2 : jg s u = (eT s u).set u.Field.toNat u.Value := if_pos hk3
 refine sP [2, 3, 4, 5, 6, 7, 8, 9, 10] [2, 3, 4, 6, 10] ?_
 refine ju (d := 10) (t := 184) (D := 930) (G := 2930) (E := 3) (e := 1) (L := (Lw w0.heap.size)) (A := [val _]) (B := [val _, val _]) (es := ((eT s u)).map ak) (by exact rfl) (iC hfl) (by exact rfl) (by exact rfl) rfl (by exact rfl) (fun x hx => hx) (by exact lq) (by exact lq) (by exact lc) (by exact lc) (ai.map fun x => (ai.cons lcl_val ai.nil)) fun uu930 cp930 jk930 hlD930 hcp930 hjk930 => ?_
 rw [aq] at hlD930 hcp930 hjk930
 refine bV (d := 930) (by exact rfl) (iB (k := u.Field.toNat) hfl) ?_
 have hA930 := iQ (f := ak) (e := 1) (xs := (eT s u)) (k := u.Field.toNat) (fun _ => rfl) (Nat.le_of_lt hfl)
 refine Km ?_
 refine rA ?_ (x := lF jE)
 refine rA ?_ (x := lD [val _] bv)
 refine rA ?_ (x := lF mj)
 refine uu ?_
 refine rA ?_ (x := lD [val _] au)
 refine Az ?_
 refine Jz ?_
 refine wI ?_
 exact Iw
 have hk3n : ¬ u.Kind = 3 := by first | exact hbd | simpa using hbd
 have hv2 : jg s u = eT s u := if_neg hk3n
 refine dt ?_
 refine xj ?_
 exact Iw) : G := h
def Iy (h : G := by
 refine JT ?_
 refine rA ?_ (x := lF lj)
 refine et ?_
 refine sc (fun hbd => ?_) (fun hbd => ?_)
 have hk2 : ¬ u.Kind = 2 := by first | exact hbd | simpa using hbd
 exact Iu
 have hk2 : u.Kind = 2 := by first | exact hbd | simpa using hbd
 exact Iv) : G := h
def Iz (h : G := by
 refine Kp ?_
 refine sG [2, 3, 4, 5, 6, 7, 8, 9, 10] [2, 3, 4, 6, 10] ?_
 refine pC ?_
 refine sc (fun hbc => ?_) (fun hbc => ?_)
 have hk3 : u.Kind = 3 := by first | exact hbc | simpa using hbc
 have hge3 : 0 ≤ cl s u.Row.Id := by omega
 have hv3 := yN (u := u) hos hge3
 have hf3 := DP hou hk3
 have hfl : u.Field.toNat < (eT s u).length := by omega
 have hv2 : jg s u = (eT s u).set u.Field.toNat u.Value := if_pos hk3
 refine sP [2, 3, 4, 5, 6, 7, 8, 9, 10] [2, 3, 4, 6, 10] ?_
 refine ju (d := 10) (t := 184) (D := 930) (G := 2930) (E := 3) (e := 1) (L := (Lw w0.heap.size)) (A := [val _]) (B := [val _, val _]) (es := ((eT s u)).map ak) (by exact rfl) (iC hfl) (by exact rfl) (by exact rfl) rfl (by exact rfl) (fun x hx => hx) (by exact lq) (by exact lq) (by exact lc) (by exact lc) (ai.map fun x => (ai.cons lcl_val ai.nil)) fun uu930 cp930 jk930 hlD930 hcp930 hjk930 => ?_
 rw [aq] at hlD930 hcp930 hjk930
 refine bV (d := 930) (by exact rfl) (iB (k := u.Field.toNat) hfl) ?_
 have hA930 := iQ (f := ak) (e := 1) (xs := (eT s u)) (k := u.Field.toNat) (fun _ => rfl) (Nat.le_of_lt hfl)
 refine Km ?_
 refine rA ?_ (x := lF jE)
 refine rA ?_ (x := lD [val _] bv)
 refine rA ?_ (x := lF mj)
 refine uu ?_
 refine rA ?_ (x := lD [val _] au)
 refine Az ?_
 refine Jz ?_
 refine wI ?_
 exact Iy
 have hk3n : ¬ u.Kind = 3 := by first | exact hbc | simpa using hbc
 have hv2 : jg s u = eT s u := if_neg hk3n
 refine dt ?_
 refine xj ?_
 exact Iy) : G := h
def IA (h : G := by
 have hbad : fH q r = false := by simp_all [fH]
 refine sS [2, 3, 4] [2, 3] ?_
 exact kW) : G := h
def tS (h : G := by
 have hno : je e = false := by first | (simp_all [je]; done) | (simp_all [je]; omega) | (rw [← Bool.not_eq_true]; intro hc_; obtain ⟨h1_, h2_, h3_, h4_⟩ := yA hc_; first | omega | (simp_all; done) | (simp_all; omega))
 refine sS [1, 2, 3, 4] [1, 2, 4] ?_
 refine qp ?_
 refine cB ?_
 exact (bu 2 (bu _ (aI (by exact rfl) (aI (by refine fE ?_; rw [aaD hno]; exact rfl) (aI bU (aI (fun h => nomatch h) (aI (by refine gZ ?_; rw [hno]) tI)))))))) : G := h
def IB (h : G := by
 refine pD ?_
 refine dr ?_
 exact tS) : G := h
def IC (h : G := by
 refine uC ?_
 refine dr ?_
 exact tS) : G := h
def ID (h : G := by
 refine sy ?_
 refine dr ?_
 exact tS) : G := h
def IE (h : G := by
 refine sG [1, 2, 3, 4, 5, 6, 8, 9, 10, 11, 13, 57, 58, 59, 77, 78, 79, 2900, 6100] [1, 2, 4, 6, 10, 13, 900] ?_
 refine df ?_
 refine nx (j + 1) (by omega) (e := (by exact aI (by first | exact bh (by rw [PM hjv hm, aV]; simp only [List.length_cons, List.length_nil]; omega) | exact bh (by rw [PN hjv hm])) (aI (by exact bh (by omega)) (aI (by exact rfl) tI)))) (f := (by exact aI (by first | (rw [PM hjv hm, ← hz3]; simp only [bT, bw]; exact rfl) | (rw [PN hjv hm]; exact rfl)) tI))) : G := h
def IF (h : G := by
 refine nx (m + 1) (by omega) (e := (by exact aI (by first | exact cG (by rw [aaI hm1 hep, hga, bT]; exact rfl) | exact cG (by rw [aaJ hm1 hep])) (aI (by exact bh (by omega)) (aI (by exact rfl) tI)))) (f := (by exact aI (by first | (rw [aaK hm1 hep, hga]; simp only [bT, bw]; exact rfl) | (rw [aaL hm1 hep]; exact rfl)) tI))) : G := h
def IG (h : G := by
 refine bf ?_
 refine df ?_
 exact IF) : G := h
def IH (h : G := by
 refine ux ?_
 refine rA ?_ (x := eG)
 refine sc (fun hbf => ?_) (fun hbf => ?_)
 have hep : eR (cY e (parts e).length)[m] = true := by rw [hga]; simpa [eR] using hbf
 refine sG [1, 2, 3, 4, 5, 6, 14, 16, 57, 58, 59, 145, 146, 147, 6200] [1, 2, 4, 6, 16] ?_
 refine Kb ?_
 refine rA ?_ (x := lF fw)
 refine rA ?_ (x := cz (ms := [val _, val _, sl _ _, sl _ _]) (qs := [val _, val _, sl .v _, sl .v _]) (by decide) fy (fun h => nomatch h) (by exact nl rfl) (by exact rfl) (by exact (ap (ap (aH (aH am.nil))))) (by exact lq))
 refine xm ?_
 refine ut ?_
 refine Ka ?_
 refine rA ?_ (x := fB (qs := [(true, [val _, val _, sl _ _, sl _ _]), (false, [val _]), (false, [val _]), (false, [sl _ _])]) (cs := [val _, val _, sl _ _, sl _ _, val _, val _, sl _ _]) (by decide) kK rk abJ (by exact rfl) (by exact (aI (by exact tI) (aI (by exact tI) (aI (by exact tI) (aI (by exact tI) tI))))) rfl (by exact rfl))
 refine Jw ?_
 refine Bg ?_
 refine sO [(1, _), (2, _), (3, _), (4, _), (5, _), (6, _), (14, _), (16, _), (57, _), (58, _), (59, _), (145, _), (146, _), (147, _), (6200, _)] [(1, _), (2, _), (4, (32, [sl _ _, val _, val _, sl _ _, sl _ _, sl _ _, sl _ _, val _])), (6, _), (16, (108, [val _, val _, sl _ _, sl _ _, val _, sl _ _, val _, val _, val _, sl _ _]))] ?_
 exact IG
 have hep : eR (cY e (parts e).length)[m] = false := by rw [hga]; simpa [eR] using hbf
 refine sG [1, 2, 3, 4, 5, 6, 14, 16, 57, 58, 59, 145, 146, 147, 6200] [1, 2, 4, 6, 16] ?_
 refine rA ?_ (x := tM)
 refine wo ?_
 refine tV ?_
 refine sO [(1, _), (2, _), (3, _), (4, _), (5, _), (6, _), (14, _), (16, _), (57, _), (58, _), (59, _), (145, _), (146, _), (147, _), (6200, _)] [(1, _), (2, _), (4, _), (6, _), (16, (108, [val _, val _, sl _ _, sl _ _, val _, sl _ _, val _, val _, val _, sl _ _]))] ?_
 exact IG) : G := h
def II (h : G := by
 refine bf ?_
 refine wq ?_
 refine ww ?_
 refine sO [(1, _), (2, _), (3, _), (4, _), (5, _), (6, _), (14, _), (16, _), (57, _), (58, _), (59, _), (145, _), (146, _), (147, _), (6200, _)] [(1, _), (2, _), (4, _), (6, _), (16, (108, [nv _ (val _), nv _ (val _), nv _ (sl _ _), nv _ (sl _ _), nv _ (val _), nv _ (sl _ _), nv _ (val _), nv _ (val _), nv _ (val _), nv _ (sl _ _)]))] ?_
 refine zG (d := 16) (G := 6200) (e := 10) (f := (aQ aw aa aa az aa)) (z := za[m]) (zs := (za.drop (m + 1))) (by exact rfl) (by exact (Nm.nv (Nm.nv (Nm.nv (Nm.nv (Nm.nv (Nm.nv (Nm.nv (Nm.nv (Nm.nv (Nm.nv Nm.nil))))))))))) (fun _ => rfl) (by rw [← List.drop_eq_getElem_cons hltz]; exact rfl) ?_
 refine AB ?_
 refine bf ?_
 refine rA ?_ (x := lF mf)
 refine mO ?_
 refine xy ?_
 refine AB ?_
 refine bf ?_
 refine ut ?_
 refine rA ?_ (x := lF hY)
 refine ur ?_
 refine rA ?_ (x := lN di)
 refine Bq ?_
 refine sc (fun hbe => ?_) (fun hbe => ?_)
 have hga : (cY e (parts e).length)[m] = (⟨za[m].1.acv, za[m].1.Time, za[m].1.acD, za[m].1.Age + 1, 0, za[m].1.Cap, za[m].1.Rows⟩ : acu) := by rw [tk hm1 hm2, ← hz3]; exact Dx hbe
 refine sG [1, 2, 3, 4, 5, 6, 14, 16, 57, 58, 59, 145, 146, 147, 6200] [1, 2, 4, 6, 16] ?_
 refine Bj ?_
 refine AB ?_
 refine bf ?_
 exact IH
 have hga : (cY e (parts e).length)[m] = (⟨za[m].1.acv, za[m].1.Time, za[m].1.acD, za[m].1.Age + 1, za[m].1.Sent, za[m].1.Cap, za[m].1.Rows⟩ : acu) := by rw [tk hm1 hm2, ← hz3]; exact Dy hbe
 refine bm ?_
 refine sS [1, 2, 3, 4, 5, 6, 14, 16, 57, 58, 59, 145, 146, 147, 6200] [1, 2, 4, 6, 16] ?_
 exact IH) : G := h
def IJ (h : G := by
 refine eo ?_
 exact (bu 2 (bu _ (aI (by exact rfl) (aI (by refine fE ?_; rw [aaE hok]; exact rfl) (aI bU (aI (fun h => nomatch h) (aI (by refine gZ ?_; rw [hok]) tI)))))))) : G := h
def IK (h : G := by
 refine bf ?_
 refine rA ?_ (x := tM)
 refine qw ?_
 refine aP ?_
 refine Kc ?_
 refine rA ?_ (x := lF jG)
 refine mO ?_
 refine rA ?_ (x := lF hY)
 refine ur ?_
 refine rA ?_ (x := lN di)
 refine rA ?_ (x := zq (by decide) (by exact tI) (by exact tI) (by omega))
 refine rA ?_ (x := lF jG)
 refine er ?_
 refine Kc ?_
 refine rA ?_ (x := lF kh)
 refine mO ?_
 refine rA ?_ (x := lF kh)
 refine er ?_
 refine sO [(1, _), (2, _), (3, _), (4, _), (5, _), (6, _), (57, _), (58, _), (59, _), (146, _), (147, _)] [(1, _), (2, _), (4, (32, [sl _ _, val _, val _, sl _ _, sl _ _, sl _ _, sl _ _, val _])), (6, _)] ?_
 refine jq ?_
 refine wA ?_ (x := cz (ms := [sl _ _, val _, val _, sl _ _, sl _ _, sl _ _, sl _ _, val _]) (qs := [any, val _, val _, any, any, any, any, val _]) (by decide) bU (fun h => nomatch h) (by exact nl rfl) (by exact rfl) (by exact (am.cons PV.to_any (ap (ap (am.cons PV.to_any (am.cons PV.to_any (am.cons PV.to_any (am.cons PV.to_any (ap am.nil))))))))) (by exact lq))
 refine wO [(1, _), (2, _), (3, _), (4, _), (5, _), (6, _), (57, _), (58, _), (59, _), (146, _), (147, _), (202, _)] [(1, _), (2, _), (4, (32, [any, val _, val _, any, any, any, any, val _])), (6, _)] ?_
 refine zC (L := (Lw w0.heap.size)) (qs := [(true, [sl _ _, val _, val _, sl _ _, sl _ _, sl _ _, sl _ _, val _])]) (as_ := [(true, [sl _ _, val _, val _, sl _ _, sl _ _, sl _ _, sl _ _, val _])]) (by decide) CV (by exact ⟨rfl, ⟨⟩⟩) (by exact (aI (by exact tI) tI)) (by decide) (by exact lq) (by exact (Eb (e := jL e) (by omega))) (fun x hx => hx) (by exact lq) (by exact lq) ?_
 refine wA ?_ (x := bg (ag := true) (vs := [sl _ _, val _, val _, sl _ _, sl _ _, sl _ _, sl _ _, val _]) bU (by exact tI) (by exact rfl) (by exact nl rfl))
 refine wA ?_ (x := kA)
 refine dO ?_
 exact IJ) : G := h
def Aj (h : G := by
 refine sG [0, 1, 5, 6, 7, 8, 9, 10, 11, 12, 13, 14, 15, 2900, 5000] [0, 6, 8, 13, 900] ?_
 refine cW ?_
 refine nx (j + 1) (by omega) (e := (by exact aI (by first | exact bh (by rw [PW hj2 hvv hmm, aV]; simp only [List.length_cons, List.length_nil]; omega) | exact bh (by rw [yI hj2 (.inl hvv)]) | exact bh (by rw [yI hj2 (.inr hmm)])) (aI (by exact bh (by omega)) tI))) (f := (by exact aI (by first | (rw [PW hj2 hvv hmm, ← hz4]; simp only [bT, bw]; exact rfl) | (rw [yI hj2 (.inl hvv)]; exact rfl) | (rw [yI hj2 (.inr hmm)]; exact rfl)) tI))) : G := h
def wh (h : G := by
 refine cW ?_
 exact IF) : G := h
def IL (h : G := by
 refine ux ?_
 refine rA ?_ (x := eG)
 refine sc (fun hbd => ?_) (fun hbd => ?_)
 have hep : eR (cY e (parts e).length)[m] = true := by rw [hga]; simpa [eR] using hbd
 refine sP [0, 3, 4, 5, 6, 5000, 6200] [0, 6] ?_
 refine vR (d := 6) (G := 6300) (by exact rfl) (by exact rfl) (ap (ap (aH (aH (ap (aH (ap (ap (ap (aH am.nil)))))))))) (by exact lq) fun us hRN => ?_
 obtain ⟨_, _, hRN⟩ := hRN
 obtain ⟨uA_0, uA_1, uA_2, uA_3, uA_4, uA_5, uA_6, uA_7, uA_8, uA_9, rfl⟩ := Co hRN.len
 clear hRN
 refine sO [(0, _), (3, _), (4, _), (5, _), (6, _), (5000, _), (6200, _), (6300, _)] [(0, _), (6, (108, [nv _ (val _), nv _ (val _), nv _ (sl _ _), nv _ (sl _ _), nv _ (val _), nv _ (sl _ _), nv _ (val _), nv _ (val _), nv _ (val _), nv _ (sl _ _)]))] ?_
 refine wW ?_
 refine xh ?_
 refine JX ?_
 refine JH ?_
 refine Ki ?_
 refine Kj ?_
 refine Ke ?_
 refine Jo ?_
 refine JI ?_
 refine Lm ?_
 refine sO [(0, _), (3, _), (4, _), (5, _), (6, _), (5000, _), (6200, _), (6300, _)] [(0, (32, [sl _ _, val _, val _, sl _ _, sl _ _, sl _ _, sl _ _, val _])), (6, _)] ?_
 refine zH (d := 0) (G := 6300) (A := [sl _ _, val _, val _, sl _ _, sl _ _]) (B := [sl _ _, val _]) (p := sl bJ (((e.Done ++ gA e (parts e).length m).map (aX aw aa az aa)) ++ [[val (vI (⟨za[m].1.acv, za[m].1.Time, za[m].1.Age + 1, za[m].1.Rows⟩ : cI).acv.Id), val (vI (⟨za[m].1.acv, za[m].1.Time, za[m].1.Age + 1, za[m].1.Rows⟩ : cI).acv.acz), sl aw ((⟨za[m].1.acv, za[m].1.Time, za[m].1.Age + 1, za[m].1.Rows⟩ : cI).acv.acw.map bj), sl aa ((⟨za[m].1.acv, za[m].1.Time, za[m].1.Age + 1, za[m].1.Rows⟩ : cI).acv.Out.map ak), val (vI (⟨za[m].1.acv, za[m].1.Time, za[m].1.Age + 1, za[m].1.Rows⟩ : cI).Time), val (vI (⟨za[m].1.acv, za[m].1.Time, za[m].1.Age + 1, za[m].1.Rows⟩ : cI).Steps), sl az ((⟨za[m].1.acv, za[m].1.Time, za[m].1.Age + 1, za[m].1.Rows⟩ : cI).Rows.map (bC aa))]])) (by exact rfl) (by exact rfl) (fun z k_ => FW (by exact (Nm.nv (Nm.nv (Nm.nv (Nm.nv (Nm.val (Nm.val (Nm.nv Nm.nil)))))))) (by exact (dc.keep (dc.keep (dc.keep (dc.keep (dc.lit rfl (dc.lit rfl (dc.drop (dc.drop (dc.drop (dc.drop (dc.drop (dc.keep dc.nil))))))))))))) z k_) ?_
 refine sG [0, 3, 4, 5, 6, 5000, 6200] [0, 6] ?_
 exact wh
 have hep : eR (cY e (parts e).length)[m] = false := by rw [hga]; simpa [eR] using hbd
 refine sG [0, 3, 4, 5, 6, 5000, 6200] [0, 6] ?_
 refine rA ?_ (x := tM)
 refine wo ?_
 refine tV ?_
 refine wF ?_
 exact wh) : G := h
def IM (h : G := by
 refine tH (bx := 0) (L := dD) (qs := []) (as_ := []) (by decide) CW rfl (by exact rfl) (by exact rfl) (by exact tI) (by exact tI) (by decide) (by exact tI) (by exact (Ec (e := jL e) (by omega))) (fun x hx => hx.elim) (by exact lq) (by exact (aI (.inl rfl) tI)) ?_
 refine dO ?_
 exact ⟨(by exact rfl), rfl, tI⟩) : G := h
def IN (h : G := by
 refine ux ?_
 refine rA ?_ (x := eG)
 refine sc (fun hbd => ?_) (fun hbd => ?_)
 have hep : eR (cY e (parts e).length)[m] = true := by rw [hga]; simpa [eR] using hbd
 refine sP [0, 2, 3, 4, 5, 6, 5000, 6200] [0, 6] ?_
 refine vR (d := 6) (G := 6300) (by exact rfl) (by exact rfl) (ap (ap (aH (aH (ap (aH (ap (ap (ap (aH am.nil)))))))))) (by exact lq) fun us hRN => ?_
 obtain ⟨_, _, hRN⟩ := hRN
 obtain ⟨uA_0, uA_1, uA_2, uA_3, uA_4, uA_5, uA_6, uA_7, uA_8, uA_9, rfl⟩ := Co hRN.len
 clear hRN
 refine sO [(0, _), (2, _), (3, _), (4, _), (5, _), (6, _), (5000, _), (6200, _), (6300, _)] [(0, _), (6, (108, [nv _ (val _), nv _ (val _), nv _ (sl _ _), nv _ (sl _ _), nv _ (val _), nv _ (sl _ _), nv _ (val _), nv _ (val _), nv _ (val _), nv _ (sl _ _)]))] ?_
 refine wW ?_
 refine xh ?_
 refine JX ?_
 refine JH ?_
 refine Ki ?_
 refine Kj ?_
 refine Ke ?_
 refine Jo ?_
 refine JI ?_
 refine Lm ?_
 refine sO [(0, _), (2, _), (3, _), (4, _), (5, _), (6, _), (5000, _), (6200, _), (6300, _)] [(0, (32, [sl _ _, val _, val _, sl _ _, sl _ _, sl _ _, sl _ _, val _])), (6, _)] ?_
 refine zH (d := 0) (G := 6300) (A := [sl _ _, val _, val _, sl _ _, sl _ _]) (B := [sl _ _, val _]) (p := sl bJ (((e.Done ++ gA e (parts e).length m).map (aX aw aa az aa)) ++ [[val (vI (⟨za[m].1.acv, za[m].1.Time, za[m].1.Age + 1, za[m].1.Rows⟩ : cI).acv.Id), val (vI (⟨za[m].1.acv, za[m].1.Time, za[m].1.Age + 1, za[m].1.Rows⟩ : cI).acv.acz), sl aw ((⟨za[m].1.acv, za[m].1.Time, za[m].1.Age + 1, za[m].1.Rows⟩ : cI).acv.acw.map bj), sl aa ((⟨za[m].1.acv, za[m].1.Time, za[m].1.Age + 1, za[m].1.Rows⟩ : cI).acv.Out.map ak), val (vI (⟨za[m].1.acv, za[m].1.Time, za[m].1.Age + 1, za[m].1.Rows⟩ : cI).Time), val (vI (⟨za[m].1.acv, za[m].1.Time, za[m].1.Age + 1, za[m].1.Rows⟩ : cI).Steps), sl az ((⟨za[m].1.acv, za[m].1.Time, za[m].1.Age + 1, za[m].1.Rows⟩ : cI).Rows.map (bC aa))]])) (by exact rfl) (by exact rfl) (fun z k_ => FW (by exact (Nm.nv (Nm.nv (Nm.nv (Nm.nv (Nm.val (Nm.val (Nm.nv Nm.nil)))))))) (by exact (dc.keep (dc.keep (dc.keep (dc.keep (dc.lit rfl (dc.lit rfl (dc.drop (dc.drop (dc.drop (dc.drop (dc.drop (dc.keep dc.nil))))))))))))) z k_) ?_
 refine sG [0, 2, 3, 4, 5, 6, 5000, 6200] [0, 6] ?_
 exact wh
 have hep : eR (cY e (parts e).length)[m] = false := by rw [hga]; simpa [eR] using hbd
 refine sG [0, 2, 3, 4, 5, 6, 5000, 6200] [0, 6] ?_
 refine rA ?_ (x := tM)
 refine wo ?_
 refine tV ?_
 refine wD ?_
 exact wh) : G := h
def wi (h : G := by
 refine ew ?_
 exact rb (by rw [Bool.eq_iff_iff]; simp only [gr, Tk]; simp_all [gr, MU])) : G := h
def wj (h : G := by
 refine ew ?_
 exact rb (by rw [Bool.eq_iff_iff]; simp only [gr, Tl]; simp_all [gr, MU])) : G := h
def wk (h : G := by
 refine ew ?_
 exact rb (by first | (rw [Bool.eq_iff_iff]; simp_all [lf]; done) | (rw [Bool.eq_iff_iff]; simp_all [lf]; omega) | (simp_all [lf]; done) | (simp_all [lf]; rfl) | (simp_all [lf]; omega) | (simp_all [lf]; intros; omega))) : G := h
def tT (h : G := by
 refine ew ?_
 exact rb (by first | (rw [Bool.eq_iff_iff]; simp_all [lg]; done) | (rw [Bool.eq_iff_iff]; simp_all [lg]; omega) | (simp_all [lg]; done) | (simp_all [lg]; rfl) | (simp_all [lg]; omega) | (simp_all [lg]; intros; omega))) : G := h
def IP (h : G := by
 refine eo ?_
 exact rb (by first | (simp_all [fv]; done) | (simp_all [fv]; rfl) | (simp_all [fv]; omega) | (simp_all [fv]; intros; omega))) : G := h
def jw (h : G := by
 refine rS ?_
 exact IP) : G := h
def Ak (h : G := by
 refine rB gd ?_ (x := lF nd)
 refine BT ?_
 refine rA ?_ (x := aT gd)
 exact jw) : G := h
def wl (h : G := by
 refine qO ?_
 exact jw) : G := h
def IQ (h : G := by
 refine eo ?_
 exact rb (by first | (simp_all [fv, xW, xX]; done) | (simp_all [fv, xW, xX]; rfl) | (simp_all [fv, xW, xX]; omega) | (simp_all [fv, xW, xX]; intros; omega))) : G := h
def fq (h : G := by
 refine rS ?_
 exact IQ) : G := h
def IR (h : G := by
 refine rB gd ?_ (x := sM)
 refine sJ ?_
 refine cx 38 (fun ge sge => ?_) (fun ge sge => ?_)
 refine rB ge ?_ (x := lF nd)
 refine rB ge ?_ (x := lD [val _] au)
 refine rB ge ?_ (x := eG)
 refine rA ?_ (x := aT ge)
 exact fq
 refine xJ ?_
 exact fq) : G := h
def IS (h : G := by
 refine rB gd ?_ (x := lF nd)
 refine BT ?_
 refine rA ?_ (x := aT gd)
 exact fq) : G := h
def IT (h : G := by
 refine bm ?_
 refine sS [1, 2, 3, 4, 19] [1] ?_
 refine rK ?_
 exact IQ) : G := h
def IU (h : G := by
 refine fU ?_
 refine nx (k + 1) (by omega) (e := (by exact aI (by exact bh (by omega)) tI))) : G := h
def Al (h : G := by
 have hend : k = lG n := by unfold lG at hk ⊢; first | omega | (simp_all; omega)
 refine bG ?_
 refine sT [1, 2, 4, 5, 6] [2, 4, 5] ?_
 refine qp ?_
 refine eo ?_
 exact (bu 4 (bu _ (aI (by exact rfl) (aI (by refine fE ?_; unfold gM; rw [← hend]; exact rfl) (aI bU (aI (fun h => nomatch h) tI))))))) : G := h
def IV (h : G := by
 refine pL ?_
 exact Al) : G := h
def IW (h : G := by
 refine qp ?_
 refine cB ?_
 exact (bu 4 (bu _ (aI (by exact rfl) (aI (by refine fE ?_; rw [Qp hno]; exact rfl) (aI bU (aI (fun h => nomatch h) (aI (by refine gZ ?_; rw [Qp hno]) tI)))))))) : G := h
def Am (h : G := by
 have hno : (bk e && (dL e.Store u).2) = false := by first | (simp_all; done) | (cases h1_ : bk e <;> cases h2_ : (dL e.Store u).2 <;> simp_all)
 refine sS [2, 3, 4, 5, 6, 7, 8] [2, 3, 4, 6, 7] ?_
 exact IW) : G := h
def IX (h : G := by
 refine eo ?_
 exact (bu 4 (bu _ (aI (by exact rfl) (aI (by refine fE ?_; rw [Qq hok]; exact rfl) (aI bU (aI (fun h => nomatch h) (aI (by refine gZ ?_; rw [Qq hok]) tI)))))))) : G := h
def IY (h : G := by
 refine rA ?_ (x := bg (ag := true) (vs := [sl _ _, val _, val _, sl _ _, sl _ _, sl _ _, sl _ _, val _]) bU (by exact tI) (by exact rfl) (by exact nl rfl))
 refine cB ?_
 exact (bu 4 (bu _ (aI (by exact rfl) (aI (by refine fE ?_; rw [DU hno]; exact rfl) (aI bU (aI (fun h => nomatch h) (aI (by refine gZ ?_; rw [DU hno]) tI)))))))) : G := h
def IZ (h : G := by
 have hno : (bk e && fv x) = false := by first | (simp_all; done) | (cases h1_ : bk e <;> cases h2_ : fv x <;> simp_all)
 refine sS [2, 3, 4, 5] [2, 3, 4] ?_
 refine wv ?_
 exact IY) : G := h
def Ja (h : G := by
 refine eo ?_
 exact (bu 4 (bu _ (aI (by exact rfl) (aI (by refine fE ?_; first | (rw [DV hok hk1]; first | done | exact rfl) | (rw [DW hok hk2]; first | done | exact rfl) | (rw [DX hok hk3]; first | done | exact rfl) | (rw [DY hok hk1n hk2n hk3n]; first | done | exact rfl)) (aI bU (aI (fun h => nomatch h) (aI (by refine gZ ?_; first | (rw [DV hok hk1]; first | done | exact rfl) | (rw [DW hok hk2]; first | done | exact rfl) | (rw [DX hok hk3]; first | done | exact rfl) | (rw [DY hok hk1n hk2n hk3n]; first | done | exact rfl)) tI)))))))) : G := h
def Jb (h : G := by
 refine rA ?_ (x := bg (ag := true) (vs := [sl _ _, val _, val _, sl _ _, sl _ _, sl _ _, sl _ _, val _]) bU (by exact tI) (by exact rfl) (by exact nl rfl))
 refine rS ?_
 exact Ja) : G := h
def An (h : G := by
 refine qu ?_
 exact Jb) : G := h
def Jc (h : G := by
 have hno : (bk e && fv x) = false := by first | (simp_all; done) | (cases h1_ : bk e <;> cases h2_ : fv x <;> simp_all)
 refine sS [2, 3, 4, 5, 6] [2, 3, 4, 6] ?_
 refine rA ?_ (x := cz (ms := [sl _ _, val _, val _, sl _ _, sl _ _, sl _ _, sl _ _, val _]) (qs := [sl .v _, val _, val _, sl .v _, sl .v _, sl .v _, sl .v _, val _]) (by decide) bU (fun h => nomatch h) (by exact nl rfl) (by exact rfl) (by exact (aH (ap (ap (aH (aH (aH (aH (ap am.nil))))))))) (by exact lq))
 exact IY) : G := h
def Jd (h : G := by
 refine aP ?_
 refine sO [(2, _), (3, _), (4, _), (5, _), (6, _), (7, _), (20, _)] [(2, _), (3, _), (4, _), (6, (32, [sl _ _, val _, val _, sl _ _, sl _ _, sl _ _, sl _ _, val _]))] ?_
 refine bf ?_
 refine Jx ?_
 exact Jb) : G := h
def Ao (h : G := by
 refine rA ?_ (x := tM)
 refine KN ?_
 refine rS ?_
 exact Jd) : G := h
def Je (h : G := by
 refine nx (k + 1) (by omega) (e := (by exact aI (by exact bh (by rw [yQ hltl]; unfold DZ; dsimp only; first | (rw [if_pos hy]; done) | (rw [if_neg hy]; done) | (rw [if_pos hy]; omega))) (aI (by exact bh (by omega)) tI))) (f := (by exact aI (by rw [yQ hltl]; exact rfl) tI))) : G := h
def Jf (h : G := by
 refine sG [1, 2, 4, 5, 6, 7, 9, 10, 11, 18, 19, 20] [2, 4, 6, 9, 10] ?_
 refine df ?_
 exact Je) : G := h
def Jg (h : G := by
 refine Jx ?_
 refine rA ?_ (x := bg (ag := true) (vs := [sl _ _, val _, val _, sl _ _, sl _ _, sl _ _, sl _ _, val _]) bU (by exact tI) (by exact rfl) (by exact nl rfl))
 refine ew ?_
 exact (bu 4 (bu _ (aI (by exact rfl) (aI (by refine fE ?_; unfold fO; rw [← hend]; exact rfl) (aI bU (aI (fun h => nomatch h) (aI (by refine bh ?_; unfold fO; rw [← hend]) tI)))))))) : G := h
def Jh (h : G := by
 refine sG [1, 2, 4, 5, 6, 7, 8, 9, 10] [2, 4, 6, 9] ?_
 refine cW ?_
 exact Je) : G := h
def Ji (h : G := by
 have hend : k = (min l.length 60) := by first | omega | (simp_all; omega)
 refine bG ?_
 refine sT [1, 2, 4, 5, 6, 7, 8] [2, 4, 6] ?_
 exact Jg) : G := h
def qp (h : H) (w : ae G H := by
 intro z
 refine rA ?_ (x := cz (ms := [sl _ _, val _, val _, sl _ _, sl _ _, sl _ _, sl _ _, val _]) (qs := [sl .v _, val _, val _, sl .v _, sl .v _, sl .v _, sl .v _, val _]) (by decide) bU (fun h => nomatch h) (by exact nl rfl) (by exact rfl) (by exact (aH (ap (ap (aH (aH (aH (aH (ap am.nil))))))))) (by exact lq))
 refine rA ?_ (x := bg (ag := true) (vs := [sl _ _, val _, val _, sl _ _, sl _ _, sl _ _, sl _ _, val _]) bU (by exact tI) (by exact rfl) (by exact nl rfl))
 exact z.g) : G := ah w h
def qt (h : H) (w : ae G H := by
 intro z
 refine rA ?_ (x := cj (qs := [(false, [val _])]) (by decide) bF eP (by decide) rfl rfl rfl rfl rfl (by exact nl rfl) (by exact (aI (by exact tI) tI)) rfl)
 refine rA ?_ (x := fe (by decide) bF eP rfl rfl (by decide) rfl (by simp only [aq, aV, List.length_cons, List.length_nil]; omega) (by simp only [aq, aV, List.length_cons, List.length_nil]; omega))
 exact z.g) : G := ah w h
def dt (h : H) (w : ae G H := by
 intro z
 refine bm ?_
 refine aP ?_
 exact z.g) : G := ah w h
def er (h : H) (w : ae G H := by
 intro z
 refine rA ?_ (x := bg (ag := false) (vs := [val _]) au (by exact tI) (by exact rfl) (by exact nl rfl))
 refine aP ?_
 exact z.g) : G := ah w h
def jU (h : H) (w : ae G H := by
 intro z
 refine rX ?_ (x := (bY (by decide) lp ls))
 refine rA ?_ (x := bg (ag := true) (vs := [sl _ _, val _, val _, sl _ _, sl _ _, sl _ _, sl _ _, val _]) bU (by exact tI) (by exact rfl) (by exact nl rfl))
 exact z.g) : G := ah w h
def qu (h : H) (w : ae G H := by
 intro z
 refine rA ?_ (x := Ex (cs := [sl _ _, val _, val _, sl _ _, sl _ _, sl _ _, sl _ _, val _]) (qs := [sl .v _, val _, val _, sl .v _, sl .v _, sl .v _, sl .v _, val _]) (by decide) (by exact rfl) (by exact (aH (ap (ap (aH (aH (aH (aH (ap am.nil))))))))) (by exact lq))
 refine rA ?_ (x := pk (cs := [val _]) (by decide) (by exact rfl) (by exact (an.cons (bor_val _) an.nil)))
 exact z.g) : G := ah w h
def jx (h : H) (w : ae G H := by
 intro z
 refine sR ?_
 refine rX ?_ (x := (dG (ag := true) (cs := [sl _ _, val _, val _, sl _ _, sl _ _, sl _ _, sl _ _, val _]) (by decide) (by exact tI)))
 exact z.g) : G := ah w h
def bB (h : H) (w : ae G H := by
 intro z
 refine dt ?_
 refine vu ?_
 exact z.g) : G := ah w h
def wm (h : H) (w : ae G H := by
 intro z
 refine rM ?_
 refine rA ?_ (x := vM false [sl .v _])
 exact z.g) : G := ah w h
def wn (h : H) (w : ae G H := by
 intro z
 refine rA ?_ (x := eW (qs := [nv _ (val _), nv _ (val _), nv _ (sl .v _), nv _ (sl .v _), nv _ (val _), nv _ (sl .v _), nv _ (val _), nv _ (val _), nv _ (val _), nv _ (sl .v _)]) (by decide) fW (fun h => nomatch h) (by exact nl rfl) (by exact (ap (ap (ap (ap (ap (ap (ap (ap (ap (ap am.nil))))))))))) (by exact lq))
 refine rA ?_ (x := cj (qs := [(true, [nv _ (val _), nv _ (val _), nv _ (sl _ _), nv _ (sl _ _), nv _ (val _), nv _ (sl _ _), nv _ (val _), nv _ (val _), nv _ (val _), nv _ (sl _ _)])]) (by decide) bL fJ (by decide) rfl rfl rfl rfl rfl (by exact nl rfl) (by exact (aI (by exact tI) tI)) rfl)
 exact z.g) : G := ah w h
def oa (h : H) (w : ae G H := by
 intro z
 refine rA ?_ (x := aY (by decide) bF (by exact tI) (by exact rfl) (by exact bc (by omega) rfl) (by exact rfl))
 refine rA ?_ (x := lE [val _] au)
 exact z.g) : G := ah w h
def qv (h : H) (w : ae G H := by
 intro z
 refine rA ?_ (x := cz (ms := [sl _ _, val _]) (qs := [sl .v _, val _]) (by decide) dV (fun h => nomatch h) (by exact nl rfl) (by exact rfl) (by exact (aH (ap am.nil))) (by exact (an.cons (bor_sl _) (an.cons (bor_val _) an.nil))))
 refine rA ?_ (x := bg (ag := true) (vs := [sl _ _, val _]) dV (by exact tI) (by exact rfl) (by exact nl rfl))
 exact z.g) : G := ah w h
def wo (h : H) (w : ae G H := by
 intro z
 refine rA ?_ (x := cz (ms := [val _, val _, sl _ _, sl _ _, val _, sl _ _, val _, val _, val _, sl _ _]) (qs := [val _, val _, sl .v _, sl .v _, val _, sl .v _, val _, val _, val _, sl .v _]) (by decide) fW (fun h => nomatch h) (by exact nl rfl) (by exact rfl) (by exact (ap (ap (aH (aH (ap (aH (ap (ap (ap (aH am.nil))))))))))) (by exact lq))
 refine rA ?_ (x := cj (qs := [(true, [val _, val _, sl _ _, sl _ _, val _, sl _ _, val _, val _, val _, sl _ _])]) (by decide) bL fJ (by decide) rfl rfl rfl rfl rfl (by exact nl rfl) (by exact (aI (by exact tI) tI)) rfl)
 exact z.g) : G := ah w h
def eY (h : H) (w : ae G H := by
 intro z
 refine dA 0 ?_ (x := vM false [sl .v _])
 refine dA 0 ?_ (x := sM)
 exact z.g) : G := ah w h
def hJ (h : H) (w : ae G H := by
 intro z
 refine sS [0, 1, 5] [] ?_
 refine rA ?_ (x := vM false [sl .v _])
 exact z.g) : G := ah w h
def wq (h : H) (w : ae G H := by
 intro z
 refine rA ?_ (x := aY (by decide) bL (by exact tI) (by exact rfl) (by exact bc (by omega) rfl) (by exact rfl))
 refine rA ?_ (x := nA (qs := [nv _ (val _), nv _ (val _), nv _ (sl .v _), nv _ (sl .v _), nv _ (val _), nv _ (sl .v _), nv _ (val _), nv _ (val _), nv _ (val _), nv _ (sl .v _)]) (by decide) fW (fun h => nomatch h) (by exact nl rfl) (by exact (ap (ap (ap (ap (ap (ap (ap (ap (ap (ap am.nil))))))))))) (by exact lq))
 exact z.g) : G := ah w h
def cH (h : H) (w : ae G H := by
 intro z
 refine rK ?_
 refine vu ?_
 exact z.g) : G := ah w h
def iU (h : H) (w : ae G H := by
 intro z
 refine rM ?_
 refine rA ?_ (x := cu)
 exact z.g) : G := ah w h
def cW (h : H) (w : ae G H := by
 intro z
 refine rM ?_
 refine rA ?_ (x := kV)
 refine rS ?_
 exact z.g) : G := ah w h
def rU (h : H) (w : ae G H := by
 intro z
 refine aP ?_
 refine sR ?_
 exact z.g) : G := ah w h
def fh (h : H) (w : ae G H := by
 intro z
 refine rK ?_
 refine aP ?_
 exact z.g) : G := ah w h
def Jj (h : H) (w : ae G H := by
 intro z
 refine sP [1, 2, 3, 4, 5, 6, 14, 57, 58, 59, 145, 146, 147, 6200] [1, 2, 4, 6] ?_
 refine sL [1, 2, 3, 4, 5, 6, 57, 58, 59, 145, 146] [1, 2, 6] (fun m : Nat => m ≤ e.acu.length) (fun m : Nat => [(14, RV.slc bS ((ku e (parts e).length m).map (aQ aw aa aa az aa))), (147, RV.int (m : Int)), (6200, RV.gh (bl 10 (za.drop m)) (bK (aQ aw aa aa az aa) (za.drop m)))]) (fun m : Nat => [(4, (32, [sl bo (e.Store.act.map (aC aS aa)), val (vI e.Store.Now), val (vI e.acy), sl aa (e.Order.map ak), sl .v (za.map eS), sl bJ ((e.Done ++ gA e (parts e).length m).map (aX aw aa az aa)), sl bP ((ij e (parts e).length).map (aZ aa aa aa)), val (vI e.Steps)]))]) (fun m : Nat => e.acu.length - m) 0 (by omega) (by exact aI (by exact rfl) (aI (by exact rfl) (aI (by exact rfl) tI))) (by exact aI (by show _ = some (32, [sl bo (e.Store.act.map (aC aS aa)), val (vI e.Store.Now), val (vI e.acy), sl aa (e.Order.map ak), sl .v (za.map eS), sl bJ ((e.Done ++ gA e (parts e).length 0).map (aX aw aa az aa)), sl bP ((ij e (parts e).length).map (aZ aa aa aa)), val (vI e.Steps)]); rw [show gA e (parts e).length 0 = [] from rfl, eg]; first | (rw [hled]; simp only [bT]; exact rfl) | (rw [hled]; exact rfl)) tI) ?_
 exact z.g) : G := ah w h
def ob (h : H) (w : ae G H := by
 intro z
 refine bf ?_
 refine rA ?_ (x := lD [sl (.lo _) _, val _, val _, sl (.lo _) _, sl (.lo _) _, sl (.lo _) _, sl (.lo _) _, val _] bU)
 exact z.g) : G := ah w h
def rV (h : H) (w : ae G H := by
 intro z
 refine rA ?_ (x := lF kf)
 refine rA ?_ (x := lD [sl .v _] ko)
 exact z.g) : G := ah w h
def jV (h : H) (w : ae G H := by
 intro z
 refine rA ?_ (x := lF el)
 refine rA ?_ (x := lD [sl .v _] ea)
 exact z.g) : G := ah w h
def kF (h : H) (w : ae G H := by
 intro z
 refine rA ?_ (x := bg (ag := false) (vs := [sl _ _]) bv (by exact tI) (by exact rfl) (by exact nl rfl))
 refine aP ?_
 exact z.g) : G := ah w h
def et (h : H) (w : ae G H := by
 intro z
 refine rA ?_ (x := lD [val _] au)
 refine rA ?_ (x := eX)
 exact z.g) : G := ah w h
def jy (h : H) (w : ae G H := by
 intro z
 refine sR ?_
 refine rX ?_ (x := (dG (ag := true) (cs := [sl _ _, val _]) (by decide) (by exact tI)))
 exact z.g) : G := ah w h
def Jk (h : H) (w : ae G H := by
 intro z
 refine rA ?_ (x := lD [val _] au)
 refine rA ?_ (x := cL [(false, [val _]), (false, [val _]), (false, [val _])] [(false, [val _]), (false, [val _]), (false, [val _])] kb (hs := by exact kt))
 exact z.g) : G := ah w h
def od (h : H) (w : ae G H := by
 intro z
 refine rX ?_ (x := (bY (by decide) tb tc))
 refine rA ?_ (x := bg (ag := true) (vs := [sl _ _, val _]) dV (by exact tI) (by exact rfl) (by exact nl rfl))
 exact z.g) : G := ah w h
def Jl (h : H) (w : ae G H := by
 intro z
 refine rA ?_ (x := cj (qs := []) (by decide) bF eP (by decide) rfl rfl rfl rfl rfl (by exact nl rfl) (by exact tI) rfl)
 refine rA ?_ (x := tA)
 exact z.g) : G := ah w h
def wt (h : H) (w : ae G H := by
 intro z
 refine rA ?_ (x := cj (qs := [(true, [val _, sl _ _])]) (by decide) gw ja (by decide) rfl rfl rfl rfl rfl (by exact nl rfl) (by exact (aI (by exact tI) tI)) rfl)
 refine rA ?_ (x := fe (by decide) gw ja rfl rfl (by decide) rfl (by simp only [aq, aV, List.length_cons, List.length_nil]; omega) (by simp only [aq, aV, List.length_cons, List.length_nil]; omega))
 exact z.g) : G := ah w h
def Jm (h : H) (w : ae G H := by
 intro z
 refine rM ?_
 refine rA ?_ (x := cL [(false, [sl _ _]), (false, [val _])] [(false, [sl .v _]), (false, [val _])] TP (hs := by exact Ze (by omega) (by omega)))
 exact z.g) : G := ah w h
def oe (h : H) (w : ae G H := by
 intro z
 refine sR ?_
 refine rX ?_ (x := (dG (ag := true) (cs := [val _, val _, sl _ _, sl _ _]) (by decide) (by exact tI)))
 exact z.g) : G := ah w h
def cB (h : H) (w : ae G H := by
 intro z
 refine rK ?_
 refine eo ?_
 exact z.g) : G := ah w h
def dZ (h : H) (w : ae G H := by
 intro z
 refine rA ?_ (x := kM)
 refine vu ?_
 exact z.g) : G := ah w h
def tU (h : H) (w : ae G H := by
 intro z
 refine rA ?_ (x := lD [sl .v _, val _, val _, sl .v _, sl .v _, sl .v _, sl .v _, val _] bU)
 refine rA ?_ (x := cL [(true, [sl _ _, val _, val _, sl _ _, sl _ _, sl _ _, sl _ _, val _])] [(true, [sl .v _, val _, val _, sl .v _, sl .v _, sl .v _, sl .v _, val _])] OK (hs := by exact (Pt (by omega))))
 exact z.g) : G := ah w h
def de (h : H) (w : ae G H := by
 intro z
 refine dt ?_
 refine sS [2, 3, 4] [2, 3] ?_
 exact z.g) : G := ah w h
def rW (h : H) (w : ae G H := by
 intro z
 refine rX ?_ (x := (bY (by decide) fJ nk))
 refine rA ?_ (x := bg (ag := true) (vs := [val _, val _, sl _ _, sl _ _, val _, sl _ _, val _, val _, val _, sl _ _]) fW (by exact tI) (by exact rfl) (by exact nl rfl))
 exact z.g) : G := ah w h
def rY (h : H) (w : ae G H := by
 intro z
 refine rA ?_ (x := aY (by decide) bL (by exact tI) (by exact rfl) (by exact bc (by omega) rfl) (by exact rfl))
 refine rA ?_ (x := lE [val _, val _, sl .v _, sl .v _, val _, sl .v _, val _, val _, val _, sl .v _] fW)
 exact z.g) : G := ah w h
def tV (h : H) (w : ae G H := by
 intro z
 refine rA ?_ (x := fe (by decide) bL fJ rfl rfl (by decide) rfl (by simp only [aq, aV, List.length_cons, List.length_nil]; omega) (by simp only [aq, aV, List.length_cons, List.length_nil]; omega))
 refine rA ?_ (x := tA)
 exact z.g) : G := ah w h
def Ap (h : H) (w : ae G H := by
 intro z
 refine bV (d := 920) (by exact rfl) (mI (s.act[i].set k (mz (s.Now + 1) s.act[i][k])) hi (by exact rfl)) ?_
 refine nS (d := 6) (D := 920) (G := 2920) (e := 1) (A := []) (B := [val _]) (es := ((s.act).set i (s.act[i].set k (mz (s.Now + 1) s.act[i][k]))).map (aC aS aa)) (by exact rfl) (by exact rfl) (by exact rfl) rfl (by rw [aq, List.length_set, aq]) (by intro c hc; obtain ⟨y, _, rfl⟩ := List.mem_map.1 hc; exact rfl) (by rw [aq]; exact hjk920) ?_
 exact z.g) : G := ah w h
def eZ (h : H) (w : ae G H := by
 intro z
 refine rS ?_
 refine aP ?_
 exact z.g) : G := ah w h
def qw (h : H) (w : ae G H := by
 intro z
 refine rA ?_ (x := lF el)
 refine rA ?_ (x := bg (ag := false) (vs := [sl _ _]) ea (by exact tI) (by exact rfl) (by exact nl rfl))
 exact z.g) : G := ah w h
def rZ (h : H) (w : ae G H := by
 intro z
 refine rA ?_ (x := aY (by decide) di (by exact tI) (by exact rfl) (by exact bc (by omega) rfl) (by exact rfl))
 refine rA ?_ (x := lE [sl .v _] gx)
 exact z.g) : G := ah w h
def og (h : H) (w : ae G H := by
 intro z
 refine sO [(1, _), (2, _), (3, _)] [(1, _), (2, _), (3, (32, [sl _ _, val _, val _, sl _ _, sl _ _, sl _ _, sl _ _, val _]))] ?_
 refine bf ?_
 exact z.g) : G := ah w h
def wu (h : H) (w : ae G H := by
 intro z
 refine rA ?_ (x := Ex (cs := [sl _ _, val _]) (qs := [sl .v _, val _]) (by decide) (by exact rfl) (by exact (aH (ap am.nil))) (by exact (an.cons (bor_sl _) (an.cons (bor_val _) an.nil))))
 refine rA ?_ (x := pk (cs := [val _]) (by decide) (by exact rfl) (by exact (an.cons (bor_val _) an.nil)))
 exact z.g) : G := ah w h
def sa (h : H) (w : ae G H := by
 intro z
 refine sR ?_
 refine rX ?_ (x := (dG (ag := true) (cs := [sl (.lo _) _, val _, val _, sl (.lo _) _, sl (.lo _) _, sl (.lo _) _, sl (.lo _) _, val _]) (by decide) (by exact tI)))
 exact z.g) : G := ah w h
def Aq (h : H) (w : ae G H := by
 intro z
 refine rA ?_ (x := lE [sl .v _] bv)
 refine rA ?_ (x := iN (by decide) bF eP rfl rfl (by decide) (by first | (intro cs hcs; obtain ⟨x, _, rfl⟩ := List.mem_map.1 hcs; exact rfl) | simp) (by first | (intro cs hcs; obtain ⟨x, _, rfl⟩ := List.mem_map.1 hcs; exact (an.cons (bor_val _) an.nil)) | simp) (by simp only [aq, aV, List.length_cons, List.length_nil]; omega) (by simp only [aq, aV, List.length_cons, List.length_nil]; omega))
 exact z.g) : G := ah w h
def Ar (h : H) (w : ae G H := by
 intro z
 refine bV (d := 921) (by exact rfl) (mI (mz (s.Now + 1) s.act[i][k]) hk (by exact rfl)) ?_
 refine nS (d := 920) (D := 921) (G := 2921) (e := 4) (A := _) (B := [] ++ _) (es := ((s.act[i]).set k (mz (s.Now + 1) s.act[i][k])).map (cX aa)) (by exact rfl) (by exact rfl) (by exact rfl) rfl (by rw [aq, List.length_set, aq]) (by intro c hc; obtain ⟨y, _, rfl⟩ := List.mem_map.1 hc; exact rfl) (by rw [aq]; exact hjk921) ?_
 exact z.g) : G := ah w h
def qx (h : H) (w : ae G H := by
 intro z
 refine sO [(1, _), (2, _), (3, _)] [(1, _), (2, _), (3, (58, [val _, val _, val _, sl _ _, sl _ _, val _, val _, val _, val _, sl _ _, val _, val _, val _]))] ?_
 refine bf ?_
 exact z.g) : G := ah w h
def mL (h : H) (w : ae G H := by
 intro z
 refine zf ga ?_
 refine rA ?_ (x := aK ga)
 exact z.g) : G := ah w h
def qy (h : H) (w : ae G H := by
 intro z
 refine rA ?_ (x := aK gb)
 refine rM ?_
 exact z.g) : G := ah w h
def df (h : H) (w : ae G H := by
 intro z
 refine rA ?_ (x := kV)
 refine rM ?_
 exact z.g) : G := ah w h
def lP (h : H) (w : ae G H := by
 intro z
 refine rA ?_ (x := vM false [sl .v _])
 refine rA ?_ (x := lN bF)
 exact z.g) : G := ah w h
def cO (h : H) (w : ae G H := by
 intro z
 refine bB ?_
 refine aP ?_
 exact z.g) : G := ah w h
def pq (h : H) (w : ae G H := by
 intro z
 refine rA ?_ (x := lD [sl .v _] bv)
 refine rA ?_ (x := cL [(false, [sl _ _])] [(false, [sl .v _])] Tx (hs := by exact Yn (by omega)))
 exact z.g) : G := ah w h
def wv (h : H) (w : ae G H := by
 intro z
 refine rA ?_ (x := lD [sl .v _, val _, val _, sl .v _, sl .v _, sl .v _, sl .v _, val _] bU)
 refine rA ?_ (x := cL [(true, [sl _ _, val _, val _, sl _ _, sl _ _, sl _ _, sl _ _, val _])] [(true, [sl .v _, val _, val _, sl .v _, sl .v _, sl .v _, sl .v _, val _])] OJ (hs := by exact (Ps (by omega))))
 exact z.g) : G := ah w h
def ww (h : H) (w : ae G H := by
 intro z
 refine rX ?_ (x := (bY (by decide) fJ nk))
 refine rA ?_ (x := bg (ag := true) (vs := [nv _ (val _), nv _ (val _), nv _ (sl _ _), nv _ (sl _ _), nv _ (val _), nv _ (sl _ _), nv _ (val _), nv _ (val _), nv _ (val _), nv _ (sl _ _)]) fW (by exact tI) (by exact rfl) (by exact nl rfl))
 exact z.g) : G := ah w h
def gQ (h : H) (w : ae G H := by
 intro z
 refine rA ?_ (x := aT gb)
 refine rM ?_
 exact z.g) : G := ah w h
def ew (h : H) (w : ae G H := by
 intro z
 refine rS ?_
 refine eo ?_
 exact z.g) : G := ah w h
def qz (h : H) (w : ae G H := by
 intro z
 refine sR ?_
 refine rX ?_ (x := (dG (ag := true) (cs := [val _, sl _ _, val _, val _]) (by decide) (by exact tI)))
 exact z.g) : G := ah w h
def qA (h : H) (w : ae G H := by
 intro z
 refine sO [(1, _), (2, _), (3, _)] [(1, _), (2, _), (3, (108, [val _, val _, sl _ _, sl _ _, val _, sl _ _, val _, val _, val _, sl _ _]))] ?_
 refine bf ?_
 exact z.g) : G := ah w h
def cP (h : H) (w : ae G H := by
 intro z
 refine rU ?_
 refine wm ?_
 exact z.g) : G := ah w h
def tW (h : H) (w : ae G H := by
 intro z
 refine rA ?_ (x := cz (ms := [sl _ _]) (qs := [sl .v _]) (by decide) bv (fun _ => rfl) (by exact nl rfl) (by exact rfl) (by exact (aH am.nil)) (by exact (an.cons (bor_sl _) an.nil)))
 refine rM ?_
 exact z.g) : G := ah w h
def qB (h : H) (w : ae G H := by
 intro z
 refine rA ?_ (x := fD (o := 0) (ag := false) (vs := [val _]) (by omega) au (by exact tI) (by exact rfl) (by exact nl rfl))
 refine aP ?_
 exact z.g) : G := ah w h
def wx (h : H) (w : ae G H := by
 intro z
 refine rM ?_
 refine rA ?_ (x := dN (by decide) ia (by exact tI) (by exact rfl) (by omega))
 exact z.g) : G := ah w h
def ir (h : H) (w : ae G H := by
 intro z
 refine bm ?_
 refine sS [1, 2, 4] [2] ?_
 exact z.g) : G := ah w h
def gR (h : H) (w : ae G H := by
 intro z
 refine rA ?_ (x := aT ga)
 refine rM ?_
 exact z.g) : G := ah w h
def pt (h : H) (w : ae G H := by
 intro z
 refine rA ?_ (x := lF ta)
 refine rA ?_ (x := lD [val _, val _, sl .v _, sl .v _] fy)
 exact z.g) : G := ah w h
def Jn (h : H) (w : ae G H := by
 intro z
 refine sP [1, 2, 4, 5, 6] [2, 4, 5] ?_
 refine sL [1, 2, 4, 5] [2, 4] (fun k : Nat => k ≤ lG n) (fun k : Nat => [(6, RV.int (k : Int))]) (fun k : Nat => [(5, (32, [sl bo ((jh e k).Store.act.map (aC aS aa)), val (vI (jh e k).Store.Now), val (vI (jh e k).acy), sl aa ((jh e k).Order.map ak), sl bS ((jh e k).acu.map (aQ aw aa aa az aa)), sl bJ ((jh e k).Done.map (aX aw aa az aa)), sl bP ((jh e k).acG.map (aZ aa aa aa)), val (vI (jh e k).Steps)]))]) (fun k : Nat => lG n - k) 0 (by omega) (by exact aI (by exact rfl) tI) (by exact aI (by exact rfl) tI) ?_
 exact z.g) : G := ah w h
def fU (h : H) (w : ae G H := by
 intro z
 refine bf ?_
 refine cW ?_
 exact z.g) : G := ah w h
def tX (h : H) (w : ae G H := by
 intro z
 refine rB ga ?_ (x := lD [val _] au)
 refine rB ga ?_ (x := cL [(false, [val _]), (false, [val _]), (false, [val _])] [(false, [val _]), (false, [val _]), (false, [val _])] gv (hs := by exact gz))
 exact z.g) : G := ah w h
def sb (h : H) (w : ae G H := by
 intro z
 refine dA 3 ?_ (x := aY (by decide) bF (by exact tI) (by exact rfl) (by exact bc (by omega) rfl) (by exact rfl))
 refine dA 7 ?_ (x := lE [val _] au)
 exact z.g) : G := ah w h
def lQ (h : H) (w : ae G H := by
 intro z
 refine rA ?_ (x := cM Cp.ptr)
 refine rA ?_ (x := iT (by decide))
 exact z.g) : G := ah w h
def tY (h : H) (w : ae G H := by
 intro z
 refine rA ?_ (x := lD [val _] au)
 refine rA ?_ (x := cL [(false, [val _]), (false, [val _]), (false, [val _])] [(false, [val _]), (false, [val _]), (false, [val _])] gv (hs := by exact gz))
 exact z.g) : G := ah w h
def sd (h : H) (w : ae G H := by
 intro z
 refine rA ?_ (x := cj (qs := []) (by decide) cv fz (by decide) rfl rfl rfl rfl rfl (by exact nl rfl) (by exact tI) rfl)
 refine rA ?_ (x := tA)
 exact z.g) : G := ah w h
def wy (h : H) (w : ae G H := by
 intro z
 refine rM ?_
 refine rA ?_ (x := aY (by decide) fb (by exact tI) (by exact rfl) (by exact pi hlt rfl) (by exact rfl))
 exact z.g) : G := ah w h
def tZ (h : H) (w : ae G H := by
 intro z
 refine sS [1, 2, 4] [2] ?_
 refine iU ?_
 exact z.g) : G := ah w h
def As (h : H) (w : ae G H := by
 intro z
 refine rB ga ?_ (x := cL [(false, [val _]), (false, [val _]), (false, [val _])] [(false, [val _]), (false, [val _]), (false, [val _])] kb (hs := by exact kt))
 refine rB ga ?_ (x := nT)
 exact z.g) : G := ah w h
def ua (h : H) (w : ae G H := by
 intro z
 refine rX ?_ (x := (bY (by decide) fz lr))
 refine rA ?_ (x := bg (ag := true) (vs := [val _, sl _ _, val _, val _]) en (by exact tI) (by exact rfl) (by exact nl rfl))
 exact z.g) : G := ah w h
def At (h : H) (w : ae G H := by
 intro z
 refine rA ?_ (x := io (k := i) (G := 2900) (by decide) di (by exact tI) (by first | rfl | omega) (by simp only [aq]; omega))
 refine rA ?_ (x := RM (f := kL) (e := 1) (k := i) (qs := [sl .v _]) (fun _ => rfl) rfl (by omega) (by decide) gx (fun _ => rfl) (by exact (aH am.nil)) (by exact (an.cons (bor_sl _) an.nil)))
 exact z.g) : G := ah w h
def Au (h : H) (w : ae G H := by
 intro z
 refine rA ?_ (x := lD [val _] au)
 refine rA ?_ (x := eG)
 exact z.g) : G := ah w h
def qC (h : H) (w : ae G H := by
 intro z
 refine sR ?_
 refine rX ?_ (x := (dG (ag := true) (cs := [val _, val _, sl _ _, sl _ _, sl _ _]) (by decide) (by exact tI)))
 exact z.g) : G := ah w h
def Av (h : H) (w : ae G H := by
 intro z
 refine dA 7 ?_ (x := io (k := i) (G := 2920) (by decide) di (by exact tI) (by omega) (by first | (rw [aq]; exact hi) | exact hi))
 refine dA 15 ?_ (x := fR (o := 0) (qs := [val _]) (by omega) (by decide) gx (fun _ => rfl) (by exact nl rfl) (by exact (ap am.nil)) (by exact (an.cons (bor_val _) an.nil)))
 exact z.g) : G := ah w h
def Aw (h : H) (w : ae G H := by
 intro z
 refine rA ?_ (x := lD [sl (.lo _) _, val _, val _, sl (.lo _) _, sl (.lo _) _, sl (.lo _) _, sl (.lo _) _, val _] yn)
 refine rA ?_ (x := cL [(true, [sl (.lo _) _, val _, val _, sl (.lo _) _, sl (.lo _) _, sl (.lo _) _, sl (.lo _) _, val _])] [(true, [sl .v _, val _, val _, sl .v _, sl .v _, sl .v _, sl .v _, val _])] OH (hs := by exact OU (by omega)))
 exact z.g) : G := ah w h
def se (h : H) (w : ae G H := by
 intro z
 refine sR ?_
 refine rX ?_ (x := (dG (ag := true) (cs := [val _, val _, sl _ _, val _, val _]) (by decide) (by exact tI)))
 exact z.g) : G := ah w h
def qD (h : H) (w : ae G H := by
 intro z
 refine rA ?_ (x := lD [sl .v _] bv)
 refine rA ?_ (x := lN bF)
 exact z.g) : G := ah w h
def ub (h : H) (w : ae G H := by
 intro z
 refine sR ?_
 refine rX ?_ (x := (dG (ag := true) (cs := [val _, val _, val _, sl _ _, sl _ _, val _, val _, val _, val _, sl _ _, val _, val _, val _]) (by decide) (by exact tI)))
 exact z.g) : G := ah w h
def fF (h : H) (w : ae G H := by
 intro z
 refine aP ?_
 refine aP ?_
 exact z.g) : G := ah w h
def qE (h : H) (w : ae G H := by
 intro z
 refine sS [0, 1, 4, 5] [999] ?_
 refine rA ?_ (x := be (.inl rfl) (by decide) (by exact Cp.nm Cp.hdr))
 refine rM ?_
 exact z.g) : G := ah w h
def Jo (h : H) (w : ae G H := by
 intro z
 refine dA 8160 ?_ (x := fB (qs := [(true, [nv _ (val _), nv _ (val _), nv _ (sl _ _), nv _ (sl _ _)]), (false, [val _]), (false, [val _]), (false, [nv _ (sl _ _)])]) (cs := [nv _ (val _), nv _ (val _), nv _ (sl _ _), nv _ (sl _ _), val _, val _, nv _ (sl _ _)]) (by decide) kK rk abQ (by exact rfl) (by exact (aI (by exact tI) (aI (by exact tI) (aI (by exact tI) (aI (by exact tI) tI))))) rfl (by exact rfl))
 refine dA 16352 ?_ (x := cj (qs := [(true, [nv _ (val _), nv _ (val _), nv _ (sl _ _), nv _ (sl _ _), val _, val _, nv _ (sl _ _)])]) (by decide) fb kK (by decide) rfl rfl rfl rfl rfl (by exact nl rfl) (by exact (aI (by exact tI) tI)) rfl)
 exact z.g) : G := ah w h
def qF (h : H) (w : ae G H := by
 intro z
 refine sR ?_
 refine rX ?_ (x := (dG (ag := true) (cs := [val _, sl _ _]) (by decide) (by exact tI)))
 exact z.g) : G := ah w h
def Jp (h : H) (w : ae G H := by
 intro z
 refine sO [(1, _), (2, _), (3, _), (4, _), (5, _), (6, _), (8, _), (9, _), (10, _), (11, _), (57, _), (58, _), (59, _), (77, _), (78, _), (79, _), (2900, _), (6100, _)] [(1, (32, [sl (.lo _) _, val _, val _, sl (.lo _) _, sl (.lo _) _, sl (.lo _) _, sl (.lo _) _, val _])), (2, (32, [sl _ _, val _, val _, sl _ _, sl _ _, sl _ _, sl _ _, val _])), (4, (32, [sl _ _, val _, val _, sl _ _, val _, sl _ _, sl _ _, val _])), (6, (70, [val _, val _, sl _ _, sl _ _, sl _ _])), (10, (108, [val _, val _, sl _ _, sl _ _, val _, sl _ _, val _, val _, val _, sl _ _])), (900, (108, _ ++ ([val _, val _, sl _ _, sl _ _, val _, sl _ _, val _, val _, val _, sl _ _] ++ _)))] ?_
 refine bf ?_
 exact z.g) : G := ah w h
def uc (h : H) (w : ae G H := by
 intro z
 refine rA ?_ (x := eG)
 refine rS ?_
 exact z.g) : G := ah w h
def ud (h : H) (w : ae G H := by
 intro z
 refine sR ?_
 refine rX ?_ (x := (dG (ag := true) (cs := [val _, val _, sl _ _, sl _ _, val _, sl _ _, val _, val _, val _, sl _ _]) (by decide) (by exact tI)))
 exact z.g) : G := ah w h
def wz (h : H) (w : ae G H := by
 intro z
 refine rX ?_ (x := (bY (by decide) kK rk))
 refine rA ?_ (x := bg (ag := true) (vs := [val _, val _, sl _ _, sl _ _, val _, val _, sl _ _]) ni (by exact tI) (by exact rfl) (by exact nl rfl))
 exact z.g) : G := ah w h
def Ax (h : H) (w : ae G H := by
 intro z
 refine rA ?_ (x := lD [sl .v _, val _, val _, sl .v _, sl .v _, sl .v _, sl .v _, val _] bU)
 refine rA ?_ (x := cL [(true, [sl _ _, val _, val _, sl _ _, sl _ _, sl _ _, sl _ _, val _])] [(true, [sl .v _, val _, val _, sl .v _, sl .v _, sl .v _, sl .v _, val _])] yk (hs := by exact (yv (by omega))))
 exact z.g) : G := ah w h
def Ay (h : H) (w : ae G H := by
 intro z
 refine rA ?_ (x := lD [sl .v _, val _, val _, sl .v _, sl .v _, sl .v _, sl .v _, val _] bU)
 refine rA ?_ (x := cL [(true, [sl _ _, val _, val _, sl _ _, sl _ _, sl _ _, sl _ _, val _])] [(true, [sl .v _, val _, val _, sl .v _, sl .v _, sl .v _, sl .v _, val _])] OG (hs := by exact (Pm (by omega))))
 exact z.g) : G := ah w h
def cF (h : H) (w : ae G H := by
 intro z
 refine sR ?_
 refine rA ?_ (x := cu)
 refine aP ?_
 exact z.g) : G := ah w h
def wB (h : H) (w : ae G H := by
 intro z
 refine rA ?_ (x := aY (by decide) fb (by exact tI) (by exact rfl) (by exact bc (by omega) rfl) (by exact rfl))
 refine rA ?_ (x := lE [val _, val _, sl .v _, sl .v _, val _, val _, sl .v _] ni)
 exact z.g) : G := ah w h
def qG (h : H) (w : ae G H := by
 intro z
 refine rA ?_ (x := lF mm)
 refine rA ?_ (x := lD [val _, val _, sl .v _, val _, val _] mo)
 exact z.g) : G := ah w h
def ue (h : H) (w : ae G H := by
 intro z
 refine rA ?_ (x := cj (qs := []) (by decide) bL fJ (by decide) rfl rfl rfl rfl rfl (by exact nl rfl) (by exact tI) rfl)
 refine rA ?_ (x := tA)
 exact z.g) : G := ah w h
def wC (h : H) (w : ae G H := by
 intro z
 refine rB gb ?_ (x := lD [val _] au)
 refine rB gb ?_ (x := cL [(false, [val _]), (false, [val _]), (false, [val _])] [(false, [val _]), (false, [val _]), (false, [val _])] kb (hs := by exact kt))
 exact z.g) : G := ah w h
def Az (h : H) (w : ae G H := by
 intro z
 refine rA ?_ (x := io (k := u.Field.toNat) (G := 2930) (by decide) bF (by exact tI) (by omega) (by first | (rw [aq]; exact hfl) | exact hfl))
 refine rA ?_ (x := fD (o := 0) (ag := false) (vs := [val _]) (by omega) au (by exact tI) (by exact rfl) (by exact nl rfl))
 exact z.g) : G := ah w h
def Jq (h : H) (w : ae G H := by
 intro z
 refine sO [(2, _), (3, _), (4, _), (6, _), (7, _), (8, _), (9, _), (11, _), (54, _), (55, _), (67, _), (68, _), (69, _), (6200, _), (6300, _)] [(3, (32, [sl _ _, val _, val _, sl _ _, sl _ _, sl _ _, sl _ _, val _])), (4, (52, [val _, val _, sl _ _, sl _ _])), (6, (32, [sl _ _, val _, val _, sl _ _, sl _ _, sl _ _, sl _ _, val _])), (8, (32, [sl _ _, val _, val _, sl _ _, sl _ _, sl _ _, sl _ _, val _])), (9, (108, [nv _ (val _), nv _ (val _), nv _ (sl _ _), nv _ (sl _ _), nv _ (val _), nv _ (sl _ _), nv _ (val _), nv _ (val _), nv _ (val _), nv _ (sl _ _)]))] ?_
 refine bf ?_
 exact z.g) : G := ah w h
def gp (h : H) (w : ae G H := by
 intro z
 refine rA ?_ (x := nT)
 refine rM ?_
 exact z.g) : G := ah w h
def uf (h : H) (w : ae G H := by
 intro z
 refine rA ?_ (x := bg (ag := true) (vs := [val _, val _, sl _ _, sl _ _]) fy (by exact tI) (by exact rfl) (by exact nl rfl))
 refine aP ?_
 exact z.g) : G := ah w h
def ug (h : H) (w : ae G H := by
 intro z
 refine rA ?_ (x := lF hY)
 refine rA ?_ (x := bg (ag := true) (vs := [sl _ _, val _]) dV (by exact tI) (by exact rfl) (by exact nl rfl))
 exact z.g) : G := ah w h
def Jr (h : H) (w : ae G H := by
 intro z
 refine bV (d := 900) (by exact rfl) (congrArg (fun z_ => bE (aC aS aa) z_ jk900) (show (ii zss keep i).map (List.map Prod.fst) = s.act.map (oT keep) from by rw [hend, CT]; exact Wp hzss)) ?_
 refine nS (d := 6) (D := 900) (G := 2900) (e := 1) (A := []) (B := [val _]) (es := ((s.act.map (oT keep))).map (aC aS aa)) (by exact rfl) (by exact rfl) (by exact rfl) rfl (by simp) (by intro c hc; obtain ⟨y, _, rfl⟩ := List.mem_map.1 hc; exact rfl) (by rw [aq]; exact hjk900) ?_
 exact z.g) : G := ah w h
def uh (h : H) (w : ae G H := by
 intro z
 refine rA ?_ (x := fD (o := 1) (ag := false) (vs := [val _]) (by omega) au (by exact tI) (by exact rfl) (by exact nl rfl))
 refine aP ?_
 exact z.g) : G := ah w h
def AA (h : H) (w : ae G H := by
 intro z
 refine rA ?_ (x := fe (by decide) cv fz rfl rfl (by decide) rfl (by simp only [aq, aV, List.length_cons, List.length_nil]; omega) (by simp only [aq, aV, List.length_cons, List.length_nil]; omega))
 refine rA ?_ (x := tA)
 exact z.g) : G := ah w h
def pu (h : H) (w : ae G H := by
 intro z
 refine sR ?_
 refine rA ?_ (x := iz (.inr rfl) (by decide) (jl (t := 3) (e := 1)))
 exact z.g) : G := ah w h
def wD (h : H) (w : ae G H := by
 intro z
 refine sO [(0, _), (2, _), (3, _), (4, _), (5, _), (6, _), (5000, _), (6200, _)] [(0, _), (6, (108, [val _, val _, sl _ _, sl _ _, val _, sl _ _, val _, val _, val _, sl _ _]))] ?_
 refine bf ?_
 exact z.g) : G := ah w h
def AB (h : H) (w : ae G H := by
 intro z
 refine aP ?_
 refine sO [(1, _), (2, _), (3, _), (4, _), (5, _), (6, _), (14, _), (16, _), (57, _), (58, _), (59, _), (145, _), (146, _), (147, _), (6200, _)] [(1, _), (2, _), (4, _), (6, _), (16, (108, [val _, val _, sl _ _, sl _ _, val _, sl _ _, val _, val _, val _, sl _ _]))] ?_
 exact z.g) : G := ah w h
def pv (h : H) (w : ae G H := by
 intro z
 refine rB ga ?_ (x := lD [val _] au)
 refine rB ga ?_ (x := eG)
 exact z.g) : G := ah w h
def AC (h : H) (w : ae G H := by
 intro z
 refine rA ?_ (x := fe (by decide) bL fJ rfl rfl (by decide) rfl (by simp only [aq, aV, List.length_cons, List.length_nil]; omega) (by simp only [aq, aV, List.length_cons, List.length_nil]; omega))
 refine qw ?_
 exact z.g) : G := ah w h
def wE (h : H) (w : ae G H := by
 intro z
 refine rA ?_ (x := aY (by decide) cv (by exact tI) (by exact rfl) (by exact bc (by omega) rfl) (by exact rfl))
 refine rA ?_ (x := lE [val _, sl .v _, val _, val _] en)
 exact z.g) : G := ah w h
def wF (h : H) (w : ae G H := by
 intro z
 refine sO [(0, _), (3, _), (4, _), (5, _), (6, _), (5000, _), (6200, _)] [(0, _), (6, (108, [val _, val _, sl _ _, sl _ _, val _, sl _ _, val _, val _, val _, sl _ _]))] ?_
 refine bf ?_
 exact z.g) : G := ah w h
def Js (h : H) (w : ae G H := by
 intro z
 refine dA 48 ?_ (x := lD [sl (.lo _) _] bv)
 refine dA 120 ?_ (x := iN (by decide) bF eP rfl rfl (by decide) (by first | (intro cs hcs; obtain ⟨x, _, rfl⟩ := List.mem_map.1 hcs; exact rfl) | simp) (by first | (intro cs hcs; obtain ⟨x, _, rfl⟩ := List.mem_map.1 hcs; exact (an.cons (bor_val _) an.nil)) | simp) (by simp only [aq, aV, List.length_cons, List.length_nil]; omega) (by simp only [aq, aV, List.length_cons, List.length_nil]; omega))
 exact z.g) : G := ah w h
def wG (h : H) (w : ae G H := by
 intro z
 refine sS [0, 1, 5] [] ?_
 refine iU ?_
 exact z.g) : G := ah w h
def gS (h : H) (w : ae G H := by
 intro z
 refine rA ?_ (x := lE [val _] au)
 refine rM ?_
 refine rA ?_ (x := eX)
 exact z.g) : G := ah w h
def Jt (h : H) (w : ae G H := by
 intro z
 refine dA 512 ?_ (x := lD [sl .v _] bv)
 refine dA 2032 ?_ (x := iN (by decide) bF eP rfl rfl (by decide) (by first | (intro cs hcs; obtain ⟨x, _, rfl⟩ := List.mem_map.1 hcs; exact rfl) | simp) (by first | (intro cs hcs; obtain ⟨x, _, rfl⟩ := List.mem_map.1 hcs; exact (an.cons (bor_val _) an.nil)) | simp) (by simp only [aq, aV, List.length_cons, List.length_nil]; omega) (by simp only [aq, aV, List.length_cons, List.length_nil]; omega))
 exact z.g) : G := ah w h
def AD (h : H) (w : ae G H := by
 intro z
 refine sS [0, 1, 4] [] ?_
 refine cH ?_
 refine sP [0, 1, 4, 5] [] ?_
 exact z.g) : G := ah w h
def wH (h : H) (w : ae G H := by
 intro z
 refine sO [(1, _), (2, _), (3, _), (4, _), (5, _)] [(1, _), (2, _), (3, _), (5, (108, [val _, val _, sl _ _, sl _ _, val _, sl _ _, val _, val _, val _, sl _ _]))] ?_
 refine bf ?_
 exact z.g) : G := ah w h
def AE (h : H) (w : ae G H := by
 intro z
 refine ob ?_
 refine rA ?_ (x := cL [(true, [sl (.lo _) _, val _, val _, sl (.lo _) _, sl (.lo _) _, sl (.lo _) _, sl (.lo _) _, val _])] [(true, [sl .v _, val _, val _, sl .v _, sl .v _, sl .v _, sl .v _, val _])] OJ (hs := by exact (Ps (by omega))))
 exact z.g) : G := ah w h
def oh (h : H) (w : ae G H := by
 intro z
 refine sP [0, 1, 4, 5] [999] ?_
 refine jq ?_
 exact z.g) : G := ah w h
def AF (h : H) (w : ae G H := by
 intro z
 refine rA ?_ (x := cL [(true, [sl (.lo _) _, val _, val _, sl (.lo _) _, sl (.lo _) _, sl (.lo _) _, sl (.lo _) _, val _])] [(true, [sl .v _, val _, val _, sl .v _, sl .v _, sl .v _, sl .v _, val _])] OG (hs := by exact (Pm (by omega))))
 refine gp ?_
 exact z.g) : G := ah w h
def Ju (h : H) (w : ae G H := by
 intro z
 refine rA ?_ (x := eW (qs := [nv _ (val _), nv _ (sl .v _), nv _ (val _), nv _ (val _)]) (by decide) en (fun h => nomatch h) (by exact nl rfl) (by exact (ap (ap (ap (ap am.nil))))) (by exact lq))
 refine rA ?_ (x := cj (qs := [(true, [nv _ (val _), nv _ (sl _ _), nv _ (val _), nv _ (val _)])]) (by decide) cv fz (by decide) rfl rfl rfl rfl rfl (by exact nl rfl) (by exact (aI (by exact tI) tI)) rfl)
 exact z.g) : G := ah w h
def AG (h : H) (w : ae G H := by
 intro z
 refine ob ?_
 refine rA ?_ (x := cL [(true, [sl (.lo _) _, val _, val _, sl (.lo _) _, sl (.lo _) _, sl (.lo _) _, sl (.lo _) _, val _])] [(true, [sl .v _, val _, val _, sl .v _, sl .v _, sl .v _, sl .v _, val _])] OK (hs := by exact (Pt (by omega))))
 exact z.g) : G := ah w h
def Jv (h : H) (w : ae G H := by
 intro z
 refine sO [(1, _), (2, _), (3, _), (4, _), (5, _), (6, _), (8, _), (9, _), (10, _), (11, _), (57, _), (58, _), (59, _), (77, _), (78, _), (79, _), (6100, _)] [(1, _), (2, _), (4, _), (6, (70, [val _, val _, sl _ _, sl _ _, sl _ _])), (10, _)] ?_
 refine bf ?_
 exact z.g) : G := ah w h
def wI (h : H) (w : ae G H := by
 intro z
 refine fF ?_
 refine sO [(2, _), (3, _), (4, _), (5, _), (6, _), (7, _), (8, _), (9, _), (10, _)] [(2, _), (3, _), (4, _), (6, _), (10, (184, [val _, sl _ _, val _, val _]))] ?_
 exact z.g) : G := ah w h
def pw (h : H) (w : ae G H := by
 intro z
 refine zf gc ?_
 refine rA ?_ (x := aK gc)
 exact z.g) : G := ah w h
def ui (h : H) (w : ae G H := by
 intro z
 refine rM ?_
 refine rA ?_ (x := aY (by decide) eB (by exact tI) (by exact rfl) (by exact pi hlt rfl) (by exact rfl))
 exact z.g) : G := ah w h
def qH (h : H) (w : ae G H := by
 intro z
 refine rB gb ?_ (x := lD [val _] au)
 refine rB gb ?_ (x := eG)
 exact z.g) : G := ah w h
def wJ (h : H) (w : ae G H := by
 intro z
 refine rA ?_ (x := aY (by decide) gw (by exact tI) (by exact rfl) (by exact bc (by omega) rfl) (by exact rfl))
 refine rA ?_ (x := lE [val _, sl .v _] fI)
 exact z.g) : G := ah w h
def Jw (h : H) (w : ae G H := by
 intro z
 refine rA ?_ (x := cj (qs := [(true, [val _, val _, sl _ _, sl _ _, val _, val _, sl _ _])]) (by decide) fb kK (by decide) rfl rfl rfl rfl rfl (by exact nl rfl) (by exact (aI (by exact tI) tI)) rfl)
 refine rA ?_ (x := fe (by decide) fb kK rfl rfl (by decide) rfl (by simp only [aq, aV, List.length_cons, List.length_nil]; omega) (by simp only [aq, aV, List.length_cons, List.length_nil]; omega))
 exact z.g) : G := ah w h
def Jx (h : H) (w : ae G H := by
 intro z
 refine rA ?_ (x := cz (ms := [sl _ _, val _, val _, sl _ _, sl _ _, sl _ _, sl _ _, val _]) (qs := [sl .v _, val _, val _, sl .v _, sl .v _, sl .v _, sl .v _, val _]) (by decide) bU (fun h => nomatch h) (by exact nl rfl) (by exact rfl) (by exact (aH (ap (ap (aH (aH (aH (aH (ap am.nil))))))))) (by exact lq))
 refine rM ?_
 exact z.g) : G := ah w h
def AH (h : H) (w : ae G H := by
 intro z
 refine rA ?_ (x := lF el)
 refine rA ?_ (x := cz (ms := [sl _ _]) (qs := [sl .v _]) (by decide) ea (fun _ => rfl) (by exact nl rfl) (by exact rfl) (by exact (aH am.nil)) (by exact (an.cons (bor_sl _) an.nil)))
 exact z.g) : G := ah w h
def AJ (h : H) (w : ae G H := by
 intro z
 refine rA ?_ (x := cL [(true, [val _, val _, sl _ _, sl _ _]), (true, [val _, val _, sl _ _, sl _ _])] [(true, [val _, val _, sl .v _, sl .v _]), (true, [val _, val _, sl .v _, sl .v _])] TI (hs := by exact YL))
 refine rA ?_ (x := nT)
 exact z.g) : G := ah w h
def sf (h : H) (w : ae G H := by
 intro z
 refine rM ?_
 refine rA ?_ (x := dN (by decide) bL (by exact tI) (by exact rfl) (by omega))
 exact z.g) : G := ah w h
def mM (h : H) (w : ae G H := by
 intro z
 refine rA ?_ (x := vM false [sl .v _])
 refine rM ?_
 exact z.g) : G := ah w h
def Jy (h : H) (w : ae G H := by
 intro z
 refine rA ?_ (x := fB (qs := []) (cs := [val _, val _, sl _ _, val _, val _]) (by decide) CK CL Vt (by exact rfl) (by exact tI) rfl (by exact rfl))
 refine rA ?_ (x := cL [(true, [val _, val _, sl _ _, val _, val _]), (true, [val _, val _, sl _ _, val _, val _])] [(true, [val _, val _, sl .v _, val _, val _]), (true, [val _, val _, sl .v _, val _, val _])] TW (hs := by exact (abV (x := x.acx) (y := ⟨0, ⟨0, []⟩, 0, 0⟩))))
 exact z.g) : G := ah w h
def lR (h : H) (w : ae G H := by
 intro z
 refine rV ?_
 refine rA ?_ (x := lN di)
 exact z.g) : G := ah w h
def oi (h : H) (w : ae G H := by
 intro z
 refine rA ?_ (x := lF lh)
 refine rA ?_ (x := lD [sl .v _] lm)
 exact z.g) : G := ah w h
def Jz (h : H) (w : ae G H := by
 intro z
 refine bV (d := 930) (by exact rfl) (mI u.Value hfl (by exact rfl)) ?_
 refine nS (d := 10) (D := 930) (G := 2930) (e := 1) (A := [val _]) (B := [val _, val _]) (es := (((eT s u)).set u.Field.toNat u.Value).map ak) (by exact rfl) (by exact rfl) (by exact rfl) rfl (by rw [aq, List.length_set, aq]) (by intro c hc; obtain ⟨y, _, rfl⟩ := List.mem_map.1 hc; exact rfl) (by rw [aq]; exact hjk930) ?_
 exact z.g) : G := ah w h
def wK (h : H) (w : ae G H := by
 intro z
 refine aP ?_
 refine sO [(1, _), (2, _), (4, _), (5, _), (6, _)] [(2, _), (4, _), (6, (32, [sl _ _, val _, val _, sl _ _, sl _ _, sl _ _, sl _ _, val _]))] ?_
 exact z.g) : G := ah w h
def uj (h : H) (w : ae G H := by
 intro z
 refine sO [(1, _), (2, _), (3, _)] [(1, _), (2, _), (3, (70, [val _, val _, sl _ _, sl _ _, sl _ _]))] ?_
 refine bf ?_
 exact z.g) : G := ah w h
def AK (h : H) (w : ae G H := by
 intro z
 refine rB gc ?_ (x := lD [val _, val _, sl .v _, val _, val _] mo)
 refine rB gc ?_ (x := cL [(true, [val _, val _, sl _ _, val _, val _])] [(true, [val _, val _, sl .v _, val _, val _])] TX (hs := by exact abX))
 exact z.g) : G := ah w h
def JA (h : H) (w : ae G H := by
 intro z
 refine rA ?_ (x := lD [sl .v _, val _, val _, sl .v _, sl .v _, sl .v _, sl .v _, val _] bU)
 refine rA ?_ (x := cL [(true, [sl _ _, val _, val _, sl _ _, sl _ _, sl _ _, sl _ _, val _]), (true, [sl _ _, val _, val _, sl _ _, sl _ _, sl _ _, sl _ _, val _])] [(true, [sl .v _, val _, val _, sl .v _, sl .v _, sl .v _, sl .v _, val _]), (true, [sl .v _, val _, val _, sl .v _, sl .v _, sl .v _, sl .v _, val _])] CZ (hs := by exact Dd))
 exact z.g) : G := ah w h
def mN (h : H) (w : ae G H := by
 intro z
 refine sS [0, 2] [] ?_
 refine rA ?_ (x := vM false [sl .v _])
 exact z.g) : G := ah w h
def wL (h : H) (w : ae G H := by
 intro z
 refine bf ?_
 refine rA ?_ (x := lD [sl (.lo _) _, val _] dV)
 exact z.g) : G := ah w h
def mO (h : H) (w : ae G H := by
 intro z
 refine rA ?_ (x := lD [val _] au)
 refine rA ?_ (x := kV)
 exact z.g) : G := ah w h
def mP (h : H) (w : ae G H := by
 intro z
 refine rB ga ?_ (x := nT)
 refine rA ?_ (x := aK ga)
 exact z.g) : G := ah w h
def wM (h : H) (w : ae G H := by
 intro z
 refine rA ?_ (x := vM false [sl (.lo _) _])
 refine rA ?_ (x := cL [(false, [sl (.lo _) _])] [(false, [sl .v _])] Xu (hs := by exact YB (by omega)))
 exact z.g) : G := ah w h
def uk (h : H) (w : ae G H := by
 intro z
 refine sO [(1, _), (2, _), (3, _)] [(1, _), (2, _), (3, (56, [val _, val _, sl _ _, val _, val _]))] ?_
 refine bf ?_
 exact z.g) : G := ah w h
def px (h : H) (w : ae G H := by
 intro z
 refine sR ?_
 refine fh ?_
 exact z.g) : G := ah w h
def JB (h : H) (w : ae G H := by
 intro z
 refine sP [1, 3, 5, 7, 23, 24, 25, 32, 33, 34, 66, 67, 68] [1, 7] ?_
 refine sL [1, 3, 5, 7, 23, 24, 25, 32, 33, 34, 66, 67] [1, 7] (fun m : Nat => m ≤ (dm s k).length + j ∧ gC (ct s) ((dm s k).length + j) m = true) (fun m : Nat => [(68, RV.int (m : Int))]) (fun m : Nat => []) (fun m : Nat => (dm s k).length + j - m) 0 (by exact ⟨by omega, rfl⟩) (by exact aI (by exact rfl) tI) (by exact tI) ?_
 exact z.g) : G := ah w h
def ul (h : H) (w : ae G H := by
 intro z
 refine sO [(1, _), (2, _), (3, _)] [(1, _), (2, _), (3, (184, [val _, sl _ _, val _, val _]))] ?_
 refine bf ?_
 exact z.g) : G := ah w h
def wN (h : H) (w : ae G H := by
 intro z
 refine sR ?_
 refine rX ?_ (x := (dG (ag := true) (cs := [val _, val _, sl _ _, sl _ _, val _, val _, sl _ _]) (by decide) (by exact tI)))
 exact z.g) : G := ah w h
def AL (h : H) (w : ae G H := by
 intro z
 refine rA ?_ (x := cL [(true, [val _, val _, sl _ _, sl _ _]), (false, [val _])] [(true, [val _, val _, sl .v _, sl .v _]), (false, [val _])] Tu (hs := by exact Ya (by omega) (by omega)))
 refine eZ ?_
 exact z.g) : G := ah w h
def AM (h : H) (w : ae G H := by
 intro z
 refine rA ?_ (x := lD [val _, val _, sl .v _, sl .v _] NJ)
 refine rA ?_ (x := cL [(true, [val _, val _, sl _ _, sl _ _])] [(true, [val _, val _, sl .v _, sl .v _])] TB (hs := by exact Yt (by omega)))
 exact z.g) : G := ah w h
def JC (h : H) (w : ae G H := by
 intro z
 refine sO [(1, _), (2, _), (3, _), (4, _), (5, _), (6, _), (57, _), (58, _), (59, _)] [(1, (32, [sl (.lo _) _, val _, val _, sl (.lo _) _, sl (.lo _) _, sl (.lo _) _, sl (.lo _) _, val _])), (2, (32, [sl _ _, val _, val _, sl _ _, sl _ _, sl _ _, sl _ _, val _])), (4, (32, [sl _ _, val _, val _, sl _ _, sl _ _, sl _ _, sl _ _, val _])), (6, (70, [val _, val _, sl _ _, sl _ _, sl _ _]))] ?_
 refine bf ?_
 exact z.g) : G := ah w h
def wP (h : H) (w : ae G H := by
 intro z
 refine sG [2, 3, 4, 5, 6, 7, 20] [2, 3, 4, 6] ?_
 refine rA ?_ (x := lD [sl .v _, val _, val _, sl .v _, sl .v _, sl .v _, sl .v _, val _] bU)
 exact z.g) : G := ah w h
def py (h : H) (w : ae G H := by
 intro z
 refine jx ?_
 refine rX ?_ (x := (bY (by decide) lp ls))
 exact z.g) : G := ah w h
def pz (h : H) (w : ae G H := by
 intro z
 refine rA ?_ (x := lF kg)
 refine rA ?_ (x := lD [sl .v _] kp)
 exact z.g) : G := ah w h
def eH (h : H) (w : ae G H := by
 intro z
 refine rU ?_
 refine rM ?_
 exact z.g) : G := ah w h
def pA (h : H) (w : ae G H := by
 intro z
 refine dw dl ?_
 refine eY ?_
 exact z.g) : G := ah w h
def AN (h : H) (w : ae G H := by
 intro z
 refine rB gc ?_ (x := lD [val _] au)
 refine rB gc ?_ (x := cL [(false, [val _]), (false, [val _]), (false, [val _])] [(false, [val _]), (false, [val _]), (false, [val _])] kb (hs := by exact kt))
 exact z.g) : G := ah w h
def AO (h : H) (w : ae G H := by
 intro z
 refine rB gd ?_ (x := lD [val _] au)
 refine rB gd ?_ (x := cL [(false, [val _]), (false, [val _]), (false, [val _])] [(false, [val _]), (false, [val _]), (false, [val _])] kb (hs := by exact kt))
 exact z.g) : G := ah w h
def wQ (h : H) (w : ae G H := by
 intro z
 refine mM ?_
 refine rA ?_ (x := aY (by decide) mx (by exact tI) (by exact rfl) (by exact bc (by omega) rfl) (by exact rfl))
 exact z.g) : G := ah w h
def iV (h : H) (w : ae G H := by
 intro z
 refine rA ?_ (x := aT gc)
 refine rM ?_
 exact z.g) : G := ah w h
def AP (h : H) (w : ae G H := by
 intro z
 refine rB gd ?_ (x := lD [val _] au)
 refine rB gd ?_ (x := cL [(false, [val _]), (false, [val _]), (false, [val _])] [(false, [val _]), (false, [val _]), (false, [val _])] gv (hs := by exact gz))
 exact z.g) : G := ah w h
def AQ (h : H) (w : ae G H := by
 intro z
 refine rA ?_ (x := vM false [sl .v _])
 refine rA ?_ (x := lN cv)
 exact z.g) : G := ah w h
def zss (h : H) (w : ae G H := by
 intro z
 refine dA 0 ?_ (x := sM)
 refine dA 992 ?_ (x := io (k := i) (G := 2900) (by decide) bL (by exact tI) (by first | exact hf2 | omega) (by first | (rw [aq]; exact hil) | exact hil))
 exact z.g) : G := ah w h
def qI (h : H) (w : ae G H := by
 intro z
 refine rA ?_ (x := lF hY)
 refine rA ?_ (x := lD [sl .v _, val _] dV)
 exact z.g) : G := ah w h
def AR (h : H) (w : ae G H := by
 intro z
 refine rX ?_ (x := (bY (by decide) jb pT))
 refine rA ?_ (x := bg (ag := true) (vs := [val _, val _, sl _ _, sl _ _, sl _ _]) jJ (by exact tI) (by exact rfl) (by exact nl rfl))
 exact z.g) : G := ah w h
def kX (h : H) (w : ae G H := by
 intro z
 refine fh ?_
 refine sT [2, 3, 4] [2, 3] ?_
 exact z.g) : G := ah w h
def wR (h : H) (w : ae G H := by
 intro z
 refine rM ?_
 refine rA ?_ (x := aY (by decide) cv (by exact tI) (by exact rfl) (by exact pi hlt rfl) (by exact rfl))
 exact z.g) : G := ah w h
def AS (h : H) (w : ae G H := by
 intro z
 refine rA ?_ (x := aY (by decide) eB (by exact tI) (by exact rfl) (by exact bc (by omega) rfl) (by exact rfl))
 refine rA ?_ (x := lE [val _, val _, sl .v _, sl .v _, sl .v _] jJ)
 exact z.g) : G := ah w h
def wS (h : H) (w : ae G H := by
 intro z
 refine sO [(1, _), (2, _), (3, _)] [(1, _), (2, _), (3, (63, [val _, val _, sl _ _, sl _ _, val _, val _, sl _ _]))] ?_
 refine bf ?_
 exact z.g) : G := ah w h
def AT (h : H) (w : ae G H := by
 intro z
 refine dA 64 ?_ (x := lD [val _] au)
 refine dA 255 ?_ (x := io (k := k) (G := 2921) (by decide) cv (by exact tI) (by omega) (by first | (rw [aq]; exact hk) | exact hk))
 exact z.g) : G := ah w h
def wT (h : H) (w : ae G H := by
 intro z
 refine sS [2, 3, 4, 5, 17] [2, 3, 4] ?_
 refine rA ?_ (x := lD [sl .v _, val _, val _, sl .v _, sl .v _, sl .v _, sl .v _, val _] bU)
 exact z.g) : G := ah w h
def lS (h : H) (w : ae G H := by
 intro z
 refine rM ?_
 refine ew ?_
 exact z.g) : G := ah w h
def AU (h : H) (w : ae G H := by
 intro z
 refine rA ?_ (x := aY (k := k) (by decide) cv (by exact tI) (by omega) (by exact bc hk rfl) (by exact rfl))
 refine rA ?_ (x := bI (by decide) jE (by exact nl rfl))
 exact z.g) : G := ah w h
def it (h : H) (w : ae G H := by
 intro z
 refine bG ?_
 refine aP ?_
 exact z.g) : G := ah w h
def JD (h : H) (w : ae G H := by
 intro z
 refine zG (d := 6) (G := 6200) (e := 10) (f := (aQ aw aa aa az aa)) (z := za[m]) (zs := (za.drop (m + 1))) (by exact rfl) (by exact (Nm.nv (Nm.nv (Nm.nv (Nm.nv (Nm.nv (Nm.nv (Nm.nv (Nm.nv (Nm.nv (Nm.nv Nm.nil))))))))))) (fun _ => rfl) (by rw [← List.drop_eq_getElem_cons hltz]; exact rfl) ?_
 refine aP ?_
 exact z.g) : G := ah w h
def JE (h : H) (w : ae G H := by
 intro z
 refine rA ?_ (x := io (k := i) (G := 2900) (by decide) di (by exact tI) (by first | rfl | omega) (by simp only [aq]; omega))
 refine rA ?_ (x := RN (f := kL) (e := 1) (k := i) (ag := false) (vs := [sl _ _]) _ (fun _ => rfl) rfl (by first | omega | (simp only [List.length_set]; omega)) gx (by exact tI) (by exact rfl))
 exact z.g) : G := ah w h
def um (h : H) (w : ae G H := by
 intro z
 refine sO [(1, _), (2, _), (3, _)] [(1, _), (2, _), (3, (26, [sl _ _, val _]))] ?_
 refine bf ?_
 exact z.g) : G := ah w h
def gF (h : H) (w : ae G H := by
 intro z
 refine zf gb ?_
 refine qy ?_
 exact z.g) : G := ah w h
def jW (h : H) (w : ae G H := by
 intro z
 refine rK ?_
 refine sT [1, 2, 4] [2] ?_
 exact z.g) : G := ah w h
def AV (h : H) (w : ae G H := by
 intro z
 refine rB gb ?_ (x := cL [(false, [val _]), (false, [val _]), (false, [val _])] [(false, [val _]), (false, [val _]), (false, [val _])] gv (hs := by exact gz))
 refine gQ ?_
 exact z.g) : G := ah w h
def AW (h : H) (w : ae G H := by
 intro z
 refine rB ga ?_ (x := cL [(false, [val _]), (false, [val _]), (false, [val _])] [(false, [val _]), (false, [val _]), (false, [val _])] gv (hs := by exact gz))
 refine mP ?_
 exact z.g) : G := ah w h
def qJ (h : H) (w : ae G H := by
 intro z
 refine rA ?_ (x := lF jH)
 refine rA ?_ (x := lD [sl .v _] jI)
 exact z.g) : G := ah w h
def oj (h : H) (w : ae G H := by
 intro z
 refine rA ?_ (x := lN cv)
 refine rA ?_ (x := cu)
 exact z.g) : G := ah w h
def wU (h : H) (w : ae G H := by
 intro z
 refine rX ?_ (x := (bY (by decide) lp ls))
 refine fh ?_
 exact z.g) : G := ah w h
def JF (h : H) (w : ae G H := by
 intro z
 refine rA ?_ (x := nA (qs := [nv _ (val _), nv _ (sl .v _), nv _ (val _), nv _ (val _)]) (by decide) en (fun h => nomatch h) (by exact nl rfl) (by exact (ap (ap (ap (ap am.nil))))) (by exact lq))
 refine rX ?_ (x := (bY (by decide) fz lr))
 exact z.g) : G := ah w h
def AX (h : H) (w : ae G H := by
 intro z
 refine dA 511 ?_ (x := lF gG)
 refine dA 1023 ?_ (x := fD (o := 3) (ag := false) (vs := [val _]) (by omega) au (by exact tI) (by exact rfl) (by exact nl rfl))
 exact z.g) : G := ah w h
def wV (h : H) (w : ae G H := by
 intro z
 refine rB gc ?_ (x := lD [val _] au)
 refine rB gc ?_ (x := eG)
 exact z.g) : G := ah w h
def un (h : H) (w : ae G H := by
 intro z
 refine rA ?_ (x := lF fw)
 refine rA ?_ (x := lD [val _, val _, sl .v _, sl .v _] fy)
 exact z.g) : G := ah w h
def wW (h : H) (w : ae G H := by
 intro z
 refine dw dl ?_
 refine dA 0 ?_ (x := cM Cp.ptr)
 exact z.g) : G := ah w h
def qK (h : H) (w : ae G H := by
 intro z
 refine rA ?_ (x := lF jG)
 refine rA ?_ (x := lD [val _] au)
 exact z.g) : G := ah w h
def uo (h : H) (w : ae G H := by
 intro z
 refine rA ?_ (x := lF ne)
 refine rA ?_ (x := lD [val _, val _, sl .v _, sl .v _] fy)
 exact z.g) : G := ah w h
def JG (h : H) (w : ae G H := by
 intro z
 refine sS [2, 3, 4, 5, 6, 7, 8] [2, 3, 4, 6, 7] ?_
 refine rA ?_ (x := cz (ms := [sl _ _, val _]) (qs := [any, val _]) (by decide) dV (fun h => nomatch h) (by exact nl rfl) (by exact rfl) (by exact (am.cons PV.to_any (ap am.nil))) (by exact (an.cons (bor_any) (an.cons (bor_val _) an.nil))))
 exact z.g) : G := ah w h
def mQ (h : H) (w : ae G H := by
 intro z
 refine sQ [1, 2] [1, 2] ?_
 refine dw dl ?_
 exact z.g) : G := ah w h
def JH (h : H) (w : ae G H := by
 intro z
 refine dA 0 ?_ (x := lF fw)
 refine dA 32 ?_ (x := eW (qs := [nv _ (val _), nv _ (val _), nv _ (sl .v _), nv _ (sl .v _)]) (by decide) fy (fun h => nomatch h) (by exact nl rfl) (by exact (ap (ap (ap (ap am.nil))))) (by exact lq))
 exact z.g) : G := ah w h
def AY (h : H) (w : ae G H := by
 intro z
 refine dA 48 ?_ (x := aY (by decide) bF (by exact tI) (by exact rfl) (by exact bc (by omega) rfl) (by exact rfl))
 refine dA 112 ?_ (x := lE [val _] au)
 exact z.g) : G := ah w h
def sg (h : H) (w : ae G H := by
 intro z
 refine rB ga ?_ (x := lF iw)
 refine rB ga ?_ (x := lD [sl .v _] bv)
 exact z.g) : G := ah w h
def AZ (h : H) (w : ae G H := by
 intro z
 refine sO [(1, _), (2, _), (3, _), (4, _), (6, _), (7, _)] [(1, _), (2, _), (3, _), (7, (63, [val _, val _, sl _ _, sl _ _, val _, val _, sl _ _]))] ?_
 refine bf ?_
 exact z.g) : G := ah w h
def JI (h : H) (w : ae G H := by
 intro z
 refine dA 32766 ?_ (x := fe (by decide) fb kK rfl rfl (by decide) rfl (by simp only [aq, aV, List.length_cons, List.length_nil]; omega) (by simp only [aq, aV, List.length_cons, List.length_nil]; omega))
 refine dA 65535 ?_ (x := iT (by decide))
 exact z.g) : G := ah w h
def JJ (h : H) (w : ae G H := by
 intro z
 refine sO [(1, _), (2, _), (3, _), (4, _), (5, _), (6, _), (8, _), (9, _), (10, _), (11, _), (57, _), (58, _), (59, _), (77, _), (78, _), (79, _), (2900, _), (6100, _)] [(1, _), (2, _), (4, _), (6, _), (10, (108, [val _, val _, sl _ _, sl _ _, val _, sl _ _, val _, val _, val _, sl _ _])), (900, _)] ?_
 refine bf ?_
 exact z.g) : G := ah w h
def JK (h : H) (w : ae G H := by
 intro z
 refine rA ?_ (x := eW (qs := [sl .v _, val _, val _, sl .v _, sl .v _, sl .v _, sl .v _, val _]) (by decide) bU (fun h => nomatch h) (by exact nl rfl) (by exact (am.cons (PV.nv_to jt) (am.cons (PV.nv_to (jn _)) (am.cons (PV.nv_to (jn _)) (am.cons (PV.nv_to jt) (am.cons (PV.nv_to jt) (am.cons (PV.nv_to jt) (am.cons (PV.nv_to jt) (am.cons (PV.nv_to (jn _)) am.nil))))))))) (by exact lq))
 refine rM ?_
 refine rA ?_ (x := cL [(true, [sl _ _, val _, val _, sl _ _, sl _ _, sl _ _, sl _ _, val _]), (false, [val _])] [(true, [sl .v _, val _, val _, sl .v _, sl .v _, sl .v _, sl .v _, val _]), (false, [val _])] Xr (hs := by exact Zn (by omega) (by first | omega | (simp only [gT]; omega))))
 exact z.g) : G := ah w h
def wX (h : H) (w : ae G H := by
 intro z
 refine sR ?_
 refine rX ?_ (x := (dG (ag := true) (cs := [val _, val _, val _]) (by decide) (by exact tI)))
 exact z.g) : G := ah w h
def Ba (h : H) (w : ae G H := by
 intro z
 refine sR ?_
 refine rX ?_ (x := (dG (ag := true) (cs := [sl (.lo _) _, val _]) (by decide) (by exact tI)))
 exact z.g) : G := ah w h
def wY (h : H) (w : ae G H := by
 intro z
 refine sO [(1, _), (2, _), (3, _)] [(1, _), (2, _), (3, (52, [val _, val _, sl _ _, sl _ _]))] ?_
 refine bf ?_
 exact z.g) : G := ah w h
def wZ (h : H) (w : ae G H := by
 intro z
 refine bG ?_
 refine sS [0, 1, 5] [] ?_
 exact z.g) : G := ah w h
def Bb (h : H) (w : ae G H := by
 intro z
 refine rA ?_ (x := cj (qs := []) (by decide) gw ja (by decide) rfl rfl rfl rfl rfl (by exact nl rfl) (by exact tI) rfl)
 refine rA ?_ (x := tA)
 exact z.g) : G := ah w h
def xb (h : H) (w : ae G H := by
 intro z
 refine zt g2 ?_
 refine rA ?_ (x := aT g2)
 exact z.g) : G := ah w h
def Bc (h : H) (w : ae G H := by
 intro z
 refine pt ?_
 refine rA ?_ (x := cL [(true, [val _, val _, sl _ _, sl _ _])] [(true, [val _, val _, sl .v _, sl .v _])] TY (hs := by exact abW))
 exact z.g) : G := ah w h
def xc (h : H) (w : ae G H := by
 intro z
 refine rA ?_ (x := lD [val _] au)
 refine vu ?_
 exact z.g) : G := ah w h
def Bd (h : H) (w : ae G H := by
 intro z
 refine rA ?_ (x := lD [val _, sl .v _] fI)
 refine rA ?_ (x := cL [(true, [val _, sl _ _])] [(true, [val _, sl .v _])] CG (hs := by exact Dg))
 exact z.g) : G := ah w h
def JL (h : H) (w : ae G H := by
 intro z
 refine sP [0, 1, 4, 12, 13] [] ?_
 refine sL [0, 1, 12] [] (fun k : Nat => k ≤ x.length ∧ x.take k = y.take k) (fun k : Nat => [(13, RV.int (k : Int))]) (fun k : Nat => []) (fun k : Nat => x.length - k) 0 (by exact ⟨by omega, by simp⟩) (by exact aI (by exact rfl) tI) (by exact tI) ?_
 exact z.g) : G := ah w h
def JM (h : H) (w : ae G H := by
 intro z
 refine wU ?_
 refine sO [(2, _), (3, _), (4, _), (5, _)] [(2, (32, [sl (.lo _) _, val _, val _, sl (.lo _) _, sl (.lo _) _, sl (.lo _) _, sl (.lo _) _, val _])), (3, (56, [val _, val _, sl (.lo _) _, val _, val _])), (4, (32, [sl _ _, val _, val _, sl _ _, sl _ _, sl _ _, sl _ _, val _]))] ?_
 exact z.g) : G := ah w h
def JN (h : H) (w : ae G H := by
 intro z
 refine rA ?_ (x := cL [(true, [sl _ _, val _, val _, sl _ _, sl _ _, sl _ _, sl _ _, val _]), (false, [sl _ _])] [(true, [sl .v _, val _, val _, sl .v _, sl .v _, sl .v _, sl .v _, val _]), (false, [sl .v _])] Xv (hs := by exact (ab6 (by omega) (by omega))))
 refine rA ?_ (x := tM)
 exact z.g) : G := ah w h
def Be (h : H) (w : ae G H := by
 intro z
 refine rA ?_ (x := lE [sl .v _] bv)
 refine Jm ?_
 exact z.g) : G := ah w h
def xd (h : H) (w : ae G H := by
 intro z
 refine sO [(1, _), (2, _), (3, _)] [(1, _), (2, _), (3, (178, [val _, val _, val _]))] ?_
 refine bf ?_
 exact z.g) : G := ah w h
def JO (h : H) (w : ae G H := by
 intro z
 refine bV (d := 900) (by exact rfl) (show _ = bE (aC aS aa) (s.act) jk900 from rfl) ?_
 refine sO [(1, _), (2, _), (4, _), (5, _), (6, _), (2900, _)] [(2, _), (4, _), (6, (26, [val _, val _])), (900, (139, bE (aC aS aa) _ _))] ?_
 exact z.g) : G := ah w h
def JP (h : H) (w : ae G H := by
 intro z
 refine rA ?_ (x := cL [(true, [sl (.lo _) _, val _, val _, sl (.lo _) _, sl (.lo _) _, sl (.lo _) _, sl (.lo _) _, val _]), (false, [val _])] [(true, [sl .v _, val _, val _, sl .v _, sl .v _, sl .v _, sl .v _, val _]), (false, [val _])] OA (hs := by exact Pu))
 refine eZ ?_
 exact z.g) : G := ah w h
def xe (h : H) (w : ae G H := by
 intro z
 refine rM ?_
 refine rA ?_ (x := dN (by decide) fb (by exact tI) (by exact rfl) (by omega))
 exact z.g) : G := ah w h
def JQ (h : H) (w : ae G H := by
 intro z
 refine sO [(1, _), (2, _), (4, _), (5, _), (6, _), (7, _), (8, _), (9, _), (19, _), (20, _), (21, _), (27, _), (28, _), (29, _), (2900, _), (6000, _)] [(2, (26, [sl (.lo _) _, val _])), (4, (26, [sl _ _, val _])), (6, (26, [val _, val _])), (900, (139, bE kL _ _))] ?_
 refine bf ?_
 exact z.g) : G := ah w h
def JR (h : H) (w : ae G H := by
 intro z
 refine rB ge ?_ (x := lD [val _, sl .v _, val _, val _] en)
 refine rB ge ?_ (x := cL [(true, [val _, sl _ _, val _, val _]), (true, [val _, sl _ _, val _, val _])] [(true, [val _, sl .v _, val _, val _]), (true, [val _, sl .v _, val _, val _])] WT (hs := by exact Zv))
 exact z.g) : G := ah w h
def om (h : H) (w : ae G H := by
 intro z
 refine bG ?_
 refine sT [0, 2, 3, 4] [7] ?_
 exact z.g) : G := ah w h
def Bf (h : H) (w : ae G H := by
 intro z
 refine rA ?_ (x := lF kd)
 refine rA ?_ (x := bg (ag := false) (vs := [sl _ _]) gy (by exact tI) (by exact rfl) (by exact nl rfl))
 exact z.g) : G := ah w h
def lT (h : H) (w : ae G H := by
 intro z
 refine sS [0, 1, 4] [] ?_
 refine cB ?_
 exact z.g) : G := ah w h
def Bg (h : H) (w : ae G H := by
 intro z
 refine rA ?_ (x := lF lh)
 refine rA ?_ (x := bg (ag := false) (vs := [sl _ _]) lm (by exact tI) (by exact rfl) (by exact nl rfl))
 exact z.g) : G := ah w h
def Bh (h : H) (w : ae G H := by
 intro z
 refine rA ?_ (x := lF na)
 refine rA ?_ (x := lD [val _] au)
 exact z.g) : G := ah w h
def sh (h : H) (w : ae G H := by
 intro z
 refine rA ?_ (x := lF kf)
 refine rA ?_ (x := lD [val _] ko)
 exact z.g) : G := ah w h
def Bi (h : H) (w : ae G H := by
 intro z
 refine wL ?_
 refine rA ?_ (x := cL [(true, [sl (.lo _) _, val _])] [(true, [sl .v _, val _])] Oz (hs := by exact (Pq (by omega))))
 exact z.g) : G := ah w h
def JS (h : H) (w : ae G H := by
 intro z
 refine rA ?_ (x := bg (ag := false) (vs := [sl _ _]) bv (by exact tI) (by exact rfl) (by exact nl rfl))
 refine sO [(2, _), (3, _), (4, _), (5, _), (6, _), (7, _), (8, _), (9, _), (10, _)] [(2, _), (3, _), (4, _), (6, _), (10, (184, [val _, sl _ _, val _, val _]))] ?_
 exact z.g) : G := ah w h
def kY (h : H) (w : ae G H := by
 intro z
 refine bm ?_
 refine sS [0, 1, 5] [] ?_
 refine cW ?_
 exact z.g) : G := ah w h
def up (h : H) (w : ae G H := by
 intro z
 refine dA 0 ?_ (x := cM Cp.ptr)
 refine dA 32 ?_ (x := iT (by decide))
 exact z.g) : G := ah w h
def Bj (h : H) (w : ae G H := by
 intro z
 refine rA ?_ (x := lF kc)
 refine rA ?_ (x := bg (ag := false) (vs := [val _]) au (eV rfl) (by exact rfl) (by exact nl rfl))
 exact z.g) : G := ah w h
def Bk (h : H) (w : ae G H := by
 intro z
 refine rM ?_
 refine rA ?_ (x := aY (by decide) bL (by exact tI) (by exact rfl) (by exact bc (by omega) rfl) (by exact rfl))
 exact z.g) : G := ah w h
def JT (h : H) (w : ae G H := by
 intro z
 refine bV (d := 10) (by exact rfl) (show _ = [val (vI u.Row.Id), sl aa ((jg s u).map ak), val (vI (s.Now + 1)), val (vI (-1))] from by first | (rw [hv2]; done) | (rw [hv2]; exact rfl)) ?_
 refine sG [2, 3, 4, 5, 6, 7, 8, 9, 10] [2, 3, 4, 6, 10] ?_
 exact z.g) : G := ah w h
def hM (h : H) (w : ae G H := by
 intro z
 refine mL ?_
 refine rM ?_
 exact z.g) : G := ah w h
def JU (h : H) (w : ae G H := by
 intro z
 refine rA ?_ (x := cL [(true, [sl (.lo _) _, val _, val _, sl (.lo _) _, sl (.lo _) _, sl (.lo _) _, sl (.lo _) _, val _])] [(true, [sl .v _, val _, val _, sl .v _, sl .v _, sl .v _, sl .v _, val _])] yk (hs := by exact (yv (by omega))))
 refine gp ?_
 exact z.g) : G := ah w h
def JV (h : H) (w : ae G H := by
 intro z
 refine sO [(2, _), (3, _), (4, _), (5, _), (6, _), (7, _), (8, _), (9, _), (10, _), (2920, _), (2921, _)] [(2, _), (3, _), (4, _), (6, _), (10, _), (920, (139, _ ++ ([val _] ++ _))), (921, (184, _ ++ ([val _, sl _ _, val _, val _] ++ _)))] ?_
 refine dw dl ?_
 exact z.g) : G := ah w h
def Bl (h : H) (w : ae G H := by
 intro z
 refine rA ?_ (x := bI (by decide) fw (by exact nl rfl))
 refine rA ?_ (x := bI (by decide) fx (by exact nl rfl))
 exact z.g) : G := ah w h
def lU (h : H) (w : ae G H := by
 intro z
 refine fh ?_
 refine sT [1, 2] [1] ?_
 exact z.g) : G := ah w h
def oo (h : H) (w : ae G H := by
 intro z
 refine sG [0, 2, 3, 4] [7] ?_
 refine cW ?_
 exact z.g) : G := ah w h
def uq (h : H) (w : ae G H := by
 intro z
 refine rB gb ?_ (x := lF jH)
 refine rB gb ?_ (x := lD [sl .v _] jI)
 exact z.g) : G := ah w h
def Bm (h : H) (w : ae G H := by
 intro z
 refine rM ?_
 refine rA ?_ (x := aY (k := i) (by decide) di (by exact tI) (by omega) (by exact bc hi rfl) (by exact rfl))
 exact z.g) : G := ah w h
def Bn (h : H) (w : ae G H := by
 intro z
 refine rM ?_
 refine rA ?_ (x := aY (by decide) eC (by exact tI) (by exact rfl) (by exact pi hlt rfl) (by exact rfl))
 exact z.g) : G := ah w h
def pB (h : H) (w : ae G H := by
 intro z
 refine sS [1, 2, 3, 4, 19] [1] ?_
 refine uc ?_
 exact z.g) : G := ah w h
def ur (h : H) (w : ae G H := by
 intro z
 refine rA ?_ (x := lF kf)
 refine rA ?_ (x := lD [sl (.lo _) _] ko)
 exact z.g) : G := ah w h
def JW (h : H) (w : ae G H := by
 intro z
 refine rA ?_ (x := aY (by decide) uW (by exact tI) (by exact rfl) (by exact bc (by omega) rfl) (by exact rfl))
 refine rA ?_ (x := lE [val _, val _, val _, sl .v _, sl .v _, val _, val _, val _, val _, sl .v _, val _, val _, val _] VC)
 exact z.g) : G := ah w h
def jz (h : H) (w : ae G H := by
 intro z
 refine eZ ?_
 refine tZ ?_
 exact z.g) : G := ah w h
def oq (h : H) (w : ae G H := by
 intro z
 refine fU ?_
 refine qE ?_
 exact z.g) : G := ah w h
def si (h : H) (w : ae G H := by
 intro z
 refine rA ?_ (x := lF hZ)
 refine rA ?_ (x := lF kk)
 exact z.g) : G := ah w h
def JX (h : H) (w : ae G H := by
 intro z
 refine dA 6 ?_ (x := lF lh)
 refine dA 14 ?_ (x := cz (ms := [sl _ _]) (qs := [sl .v _]) (by decide) lm (fun _ => rfl) (by exact nl rfl) (by exact rfl) (by exact (aH am.nil)) (by exact (an.cons (bor_sl _) an.nil)))
 exact z.g) : G := ah w h
def JY (h : H) (w : ae G H := by
 intro z
 refine dA 0 ?_ (x := lF el)
 refine dA 1 ?_ (x := cz (ms := [sl _ _]) (qs := [sl .v _]) (by decide) ea (fun _ => rfl) (by exact nl rfl) (by exact rfl) (by exact (aH am.nil)) (by exact (an.cons (bor_sl _) an.nil)))
 exact z.g) : G := ah w h
def JZ (h : H) (w : ae G H := by
 intro z
 refine dA 0 ?_ (x := lF kg)
 refine dA 1 ?_ (x := cz (ms := [sl _ _]) (qs := [sl .v _]) (by decide) kp (fun _ => rfl) (by exact nl rfl) (by exact rfl) (by exact (aH am.nil)) (by exact (an.cons (bor_sl _) an.nil)))
 exact z.g) : G := ah w h
def Ka (h : H) (w : ae G H := by
 intro z
 refine rA ?_ (x := lF kd)
 refine rA ?_ (x := cz (ms := [sl _ _]) (qs := [sl .v _]) (by decide) gy (fun _ => rfl) (by exact nl rfl) (by exact rfl) (by exact (aH am.nil)) (by exact (an.cons (bor_sl _) an.nil)))
 exact z.g) : G := ah w h
def Kb (h : H) (w : ae G H := by
 intro z
 refine rA ?_ (x := lF lh)
 refine rA ?_ (x := cz (ms := [sl _ _]) (qs := [sl .v _]) (by decide) lm (fun _ => rfl) (by exact nl rfl) (by exact rfl) (by exact (aH am.nil)) (by exact (an.cons (bor_sl _) an.nil)))
 exact z.g) : G := ah w h
def Kc (h : H) (w : ae G H := by
 intro z
 refine sO [(1, _), (2, _), (3, _), (4, _), (5, _), (6, _), (57, _), (58, _), (59, _), (145, _), (146, _), (147, _), (6200, _)] [(1, _), (2, _), (4, (32, [sl _ _, val _, val _, sl _ _, sl _ _, sl _ _, sl _ _, val _])), (6, _)] ?_
 refine bf ?_
 exact z.g) : G := ah w h
def Kd (h : H) (w : ae G H := by
 intro z
 refine sO [(1, _), (2, _), (4, _), (5, _), (6, _), (7, _), (8, _), (9, _), (10, _), (2900, _), (6000, _)] [(2, (26, [sl (.lo _) _, val _])), (4, (26, [sl _ _, val _])), (6, (26, [val _, val _])), (900, (139, bE kL _ _))] ?_
 refine bf ?_
 exact z.g) : G := ah w h
def sk (h : H) (w : ae G H := by
 intro z
 refine wW ?_
 refine dA 1 ?_ (x := iT (by decide))
 exact z.g) : G := ah w h
def Ke (h : H) (w : ae G H := by
 intro z
 refine dA 0 ?_ (x := lF kd)
 refine dA 2048 ?_ (x := eW (qs := [nv _ (sl .v _)]) (by decide) gy (fun _ => rfl) (by exact nl rfl) (by exact (ap am.nil)) (by exact (an.cons (bor_nv (bor_sl _)) an.nil)))
 exact z.g) : G := ah w h
def Kf (h : H) (w : ae G H := by
 intro z
 refine wU ?_
 refine sO [(1, _), (2, _), (4, _), (5, _)] [(2, (32, [sl (.lo _) _, val _, val _, sl (.lo _) _, sl (.lo _) _, sl (.lo _) _, sl (.lo _) _, val _])), (4, (32, [sl _ _, val _, val _, sl _ _, sl _ _, sl _ _, sl _ _, val _]))] ?_
 exact z.g) : G := ah w h
def Kg (h : H) (w : ae G H := by
 intro z
 refine rA ?_ (x := pk (cs := [val _]) (by decide) (by exact rfl) (by exact (an.cons (bor_val _) an.nil)))
 refine rA ?_ (x := pk (cs := [val _]) (by decide) (by exact rfl) (by exact (an.cons (bor_val _) an.nil)))
 exact z.g) : G := ah w h
def Bo (h : H) (w : ae G H := by
 intro z
 refine qz ?_
 refine rX ?_ (x := (dG (ag := true) (cs := [val _, sl _ _, val _, val _]) (by decide) (by exact tI)))
 exact z.g) : G := ah w h
def pC (h : H) (w : ae G H := by
 intro z
 refine rA ?_ (x := lF lj)
 refine Au ?_
 exact z.g) : G := ah w h
def Kh (h : H) (w : ae G H := by
 intro z
 refine rA ?_ (x := aY (by decide) uT (by exact tI) (by exact rfl) (by exact bc (by omega) rfl) (by exact rfl))
 refine rA ?_ (x := lE [val _, val _, sl .v _, sl .v _, val _, sl .v _, val _, val _, val _, sl .v _] Vv)
 exact z.g) : G := ah w h
def Ki (h : H) (w : ae G H := by
 intro z
 refine dA 0 ?_ (x := lF mZ)
 refine dA 128 ?_ (x := eW (qs := [val _]) (by decide) au (fun _ => rfl) (by exact nl rfl) (by exact (am.cons (PV.nv_to (jn _)) am.nil)) (by exact (an.cons (bor_val _) an.nil)))
 exact z.g) : G := ah w h
def Kj (h : H) (w : ae G H := by
 intro z
 refine dA 0 ?_ (x := lF mf)
 refine dA 512 ?_ (x := eW (qs := [val _]) (by decide) au (fun _ => rfl) (by exact nl rfl) (by exact (am.cons (PV.nv_to (jn _)) am.nil)) (by exact (an.cons (bor_val _) an.nil)))
 exact z.g) : G := ah w h
def Kk (h : H) (w : ae G H := by
 intro z
 refine wU ?_
 refine sO [(1, _), (2, _), (3, _)] [(1, (32, [sl (.lo _) _, val _, val _, sl (.lo _) _, sl (.lo _) _, sl (.lo _) _, sl (.lo _) _, val _])), (2, (32, [sl _ _, val _, val _, sl _ _, sl _ _, sl _ _, sl _ _, val _]))] ?_
 exact z.g) : G := ah w h
def ot (h : H) (w : ae G H := by
 intro z
 refine sS [0, 1, 5] [] ?_
 refine cB ?_
 exact z.g) : G := ah w h
def ut (h : H) (w : ae G H := by
 intro z
 refine rA ?_ (x := lF mf)
 refine rA ?_ (x := lD [val _] au)
 exact z.g) : G := ah w h
def uu (h : H) (w : ae G H := by
 intro z
 refine rA ?_ (x := lD [val _] au)
 refine rA ?_ (x := lF nc)
 exact z.g) : G := ah w h
def uv (h : H) (w : ae G H := by
 intro z
 refine rA ?_ (x := lF fx)
 refine rA ?_ (x := lD [val _] au)
 exact z.g) : G := ah w h
def Bp (h : H) (w : ae G H := by
 intro z
 refine dw dl ?_
 refine dA 0 ?_ (x := lD [sl .v _, val _, val _, sl .v _, sl .v _, sl .v _, sl .v _, val _] bU)
 exact z.g) : G := ah w h
def Kl (h : H) (w : ae G H := by
 intro z
 refine sO [(1, _), (2, _), (3, _), (4, _), (5, _), (6, _), (14, _), (57, _), (58, _), (59, _), (6200, _)] [(1, _), (2, _), (4, (32, [sl _ _, val _, val _, sl _ _, sl _ _, sl _ _, sl _ _, val _])), (6, _)] ?_
 refine bf ?_
 exact z.g) : G := ah w h
def xf (h : H) (w : ae G H := by
 intro z
 refine wy ?_
 refine rA ?_ (x := bI (by decide) ne (by exact nl rfl))
 exact z.g) : G := ah w h
def Km (h : H) (w : ae G H := by
 intro z
 refine sO [(2, _), (3, _), (4, _), (5, _), (6, _), (7, _), (8, _), (9, _), (10, _), (2930, _)] [(2, _), (3, _), (4, _), (6, _), (10, (184, [val _, val _, val _, val _])), (930, (3, _ ++ ([val _] ++ _)))] ?_
 refine bf ?_
 exact z.g) : G := ah w h
def jX (h : H) (w : ae G H := by
 intro z
 refine cP ?_
 refine rA ?_ (x := lN bF)
 refine rA ?_ (x := cu)
 exact z.g) : G := ah w h
def ou (h : H) (w : ae G H := by
 intro z
 refine rA ?_ (x := aK ga)
 refine rM ?_
 exact z.g) : G := ah w h
def Kn (h : H) (w : ae G H := by
 intro z
 refine dA 1 ?_ (x := lD [val _, val _, sl .v _, sl .v _] fy)
 refine dA 3 ?_ (x := cL [(true, [val _, val _, sl _ _, sl _ _])] [(true, [val _, val _, sl .v _, sl .v _])] OC (hs := by exact Pn (by omega)))
 exact z.g) : G := ah w h
def Ko (h : H) (w : ae G H := by
 intro z
 refine rA ?_ (x := lD [val _] au)
 refine rA ?_ (x := fB (qs := [(false, [val _])]) (cs := [sl _ _, val _]) (by decide) tb tc ZV (by exact rfl) (by exact (aI (by exact tI) tI)) rfl (by exact rfl))
 exact z.g) : G := ah w h
def mR (h : H) (w : ae G H := by
 intro z
 refine rK ?_
 refine sT [1, 2] [1] ?_
 exact z.g) : G := ah w h
def Kp (h : H) (w : ae G H := by
 intro z
 refine bV (d := 6) (by exact rfl) (show _ = [sl bo ((dp s u).map (aC aS aa)), val (vI (s.Now + 1))] from by first | (rw [hu1]; done) | (rw [hu1]; exact rfl)) ?_
 refine sP [2, 3, 4, 5, 6, 7, 8, 9, 10] [2, 3, 4, 6, 10] ?_
 refine bV (d := 10) (by exact rfl) (show _ = [val (vI u.Row.Id), sl aa ((eT s u).map ak), val (vI (s.Now + 1)), val (vI (-1))] from by first | (rw [hu2]; done) | (rw [hu2]; exact rfl)) ?_
 exact z.g) : G := ah w h
def kG (h : H) (w : ae G H := by
 intro z
 refine zt ga ?_
 refine gR ?_
 exact z.g) : G := ah w h
def Kq (h : H) (w : ae G H := by
 intro z
 refine dA 3 ?_ (x := aY (k := i) (by decide) cv (by exact tI) (by rfl) (by exact bc hlt2 (by rw [iH (d := v0) hlt2])) (by exact rfl))
 refine dA 7 ?_ (x := lE [val _, sl .v _, val _, val _] en)
 exact z.g) : G := ah w h
def pD (h : H) (w : ae G H := by
 intro z
 refine zt g3 ?_
 refine rA ?_ (x := aT g3)
 exact z.g) : G := ah w h
def Kr (h : H) (w : ae G H := by
 intro z
 refine rA ?_ (x := aY (by decide) uU (by exact tI) (by exact rfl) (by exact bc (by omega) rfl) (by exact rfl))
 refine rA ?_ (x := lE [val _, val _, sl .v _, sl .v _, val _, val _, sl .v _] Vw)
 exact z.g) : G := ah w h
def Ks (h : H) (w : ae G H := by
 intro z
 refine aP ?_
 refine sO [(1, _), (3, _), (5, _), (7, _), (9, _), (23, _), (24, _), (25, _), (32, _), (33, _), (34, _), (66, _), (67, _), (68, _)] [(1, _), (7, _), (9, (184, [val _, sl _ _, val _, val _]))] ?_
 exact z.g) : G := ah w h
def Bq (h : H) (w : ae G H := by
 intro z
 refine rA ?_ (x := zq (by decide) (by exact tI) (by exact tI) (by omega))
 refine rA ?_ (x := eG)
 exact z.g) : G := ah w h
def Kt (h : H) (w : ae G H := by
 intro z
 refine sO [(2, _), (3, _), (4, _), (5, _), (6, _), (7, _), (8, _)] [(2, _), (3, _), (4, _), (6, (32, [sl _ _, val _, val _, sl _ _, sl _ _, sl _ _, sl _ _, val _])), (7, (26, [any, val _]))] ?_
 refine jq ?_
 exact z.g) : G := ah w h
def Br (h : H) (w : ae G H := by
 intro z
 refine bf ?_
 refine rA ?_ (x := lD [sl .v _, val _, val _, sl .v _, sl .v _, sl .v _, sl .v _, val _] bU)
 exact z.g) : G := ah w h
def Ku (h : H) (w : ae G H := by
 intro z
 refine sT [1, 3, 5, 7, 23, 24, 25, 32, 33, 34, 66, 67, 68] [1, 7] ?_
 refine rA ?_ (x := aY (k := m) (by decide) cv (by exact tI) (by rfl) (by exact bc (by omega) (by rw [hsg])) (by exact rfl))
 exact z.g) : G := ah w h
def Kv (h : H) (w : ae G H := by
 intro z
 refine rB ga ?_ (x := lD [val _, val _, sl .v _, sl .v _] fy)
 refine rB ga ?_ (x := cL [(true, [val _, val _, sl _ _, sl _ _])] [(true, [val _, val _, sl .v _, sl .v _])] CC (hs := by exact Di))
 exact z.g) : G := ah w h
def Kw (h : H) (w : ae G H := by
 intro z
 refine rA ?_ (x := lD [val _, sl .v _, val _, val _] en)
 refine rA ?_ (x := cL [(true, [val _, sl _ _, val _, val _])] [(true, [val _, sl .v _, val _, val _])] WN (hs := by exact Zu (by omega)))
 exact z.g) : G := ah w h
def Kx (h : H) (w : ae G H := by
 intro z
 refine sO [(2, _), (3, _), (4, _), (6, _), (7, _), (8, _), (9, _)] [(3, _), (4, _), (6, _), (8, _), (9, (108, [val _, val _, sl _ _, sl _ _, val _, sl _ _, val _, val _, val _, sl _ _]))] ?_
 refine bf ?_
 exact z.g) : G := ah w h
def Ky (h : H) (w : ae G H := by
 intro z
 refine rB gc ?_ (x := lD [val _] au)
 refine rB gc ?_ (x := cL [(false, [val _]), (false, [val _]), (false, [val _])] [(false, [val _]), (false, [val _]), (false, [val _])] gv (hs := by exact gz))
 exact z.g) : G := ah w h
def Kz (h : H) (w : ae G H := by
 intro z
 refine rB ge ?_ (x := lD [val _] au)
 refine rB ge ?_ (x := cL [(false, [val _]), (false, [val _]), (false, [val _])] [(false, [val _]), (false, [val _]), (false, [val _])] gv (hs := by exact gz))
 exact z.g) : G := ah w h
def xg (h : H) (w : ae G H := by
 intro z
 refine dB 1023 gb ?_ (x := vM false [sl .v _])
 refine dB 1023 gb ?_ (x := sM)
 exact z.g) : G := ah w h
def sm (h : H) (w : ae G H := by
 intro z
 refine qt ?_
 refine rA ?_ (x := tA)
 exact z.g) : G := ah w h
def lV (h : H) (w : ae G H := by
 intro z
 refine bm ?_
 refine sS [2, 3, 4] [2, 3] ?_
 refine cB ?_
 exact z.g) : G := ah w h
def KA (h : H) (w : ae G H := by
 intro z
 refine dA 7 ?_ (x := aY (k := k) (by decide) bF (by exact tI) (by rfl) (by exact bc (by omega) (by rw [iH (d := 0) (by omega)])) (by exact rfl))
 refine dA 15 ?_ (x := lE [val _] au)
 exact z.g) : G := ah w h
def KB (h : H) (w : ae G H := by
 intro z
 refine dA 63 ?_ (x := fB (qs := [(true, [val _, val _, sl _ _, sl _ _]), (false, [val _]), (false, [val _])]) (cs := [val _, val _, sl _ _, sl _ _, val _, sl _ _, val _, val _, val _, sl _ _]) (by decide) fJ nk abz (by exact rfl) (by exact (aI (by exact tI) (aI (by exact tI) (aI (by exact tI) tI)))) rfl (by exact rfl))
 refine cb.step 0 (by exact tI) (by exact tI) (ay.of rfl (bY (by decide) fJ nk)) (pd (cS.of_ rfl)) (by kernel_rfl) ?_
 refine dA 255 ?_ (x := bg (ag := true) (vs := [val _, val _, sl _ _, sl _ _, val _, sl _ _, val _, val _, val _, sl _ _]) fW (by exact tI) (by exact rfl) (by exact nl rfl))
 exact z.g) : G := ah w h
def xh (h : H) (w : ae G H := by
 intro z
 refine dA 0 ?_ (x := cM Cp.ptr)
 refine dA 2 ?_ (x := iT (by decide))
 exact z.g) : G := ah w h
def KC (h : H) (w : ae G H := by
 intro z
 refine rA ?_ (x := bg (ag := true) (vs := [val _, val _, sl _ _, sl _ _, val _, sl _ _, val _, val _, val _, sl _ _]) fW (by exact tI) (by exact rfl) (by exact nl rfl))
 refine aP ?_
 exact z.g) : G := ah w h
def KD (h : H) (w : ae G H := by
 intro z
 refine rA ?_ (x := aY (by decide) uV (by exact tI) (by exact rfl) (by exact bc (by omega) rfl) (by exact rfl))
 refine rA ?_ (x := lE [val _, val _, sl .v _, sl .v _, sl .v _] Vx)
 exact z.g) : G := ah w h
def Bs (h : H) (w : ae G H := by
 intro z
 refine rM ?_
 refine rA ?_ (x := dN (by decide) cv (by exact tI) (by exact rfl) (by omega))
 exact z.g) : G := ah w h
def xi (h : H) (w : ae G H := by
 intro z
 refine rB gc ?_ (x := lF ki)
 refine rB gc ?_ (x := lD [sl .v _] bv)
 exact z.g) : G := ah w h
def qL (h : H) (w : ae G H := by
 intro z
 refine zf g10 ?_
 refine rA ?_ (x := aK g10)
 exact z.g) : G := ah w h
def xj (h : H) (w : ae G H := by
 intro z
 refine aP ?_
 refine sP [2, 3, 4, 5, 6, 7, 8, 9, 10] [2, 3, 4, 6, 10] ?_
 exact z.g) : G := ah w h
def KE (h : H) (w : ae G H := by
 intro z
 refine dA 0 ?_ (x := be (r' := RV.sv false [sl .v _]) (.inl rfl) (by decide) (by exact Cp.sv (am.cons (PV.nv_to jt) am.nil) (an.cons (bor_sl _) an.nil)))
 refine dA 0 ?_ (x := sM)
 exact z.g) : G := ah w h
def Bu (h : H) (w : ae G H := by
 intro z
 refine rM ?_
 refine rA ?_ (x := dN (by decide) eC (by exact tI) (by exact rfl) (by omega))
 exact z.g) : G := ah w h
def KF (h : H) (w : ae G H := by
 intro z
 refine sS [2, 3, 4, 5, 6, 7, 8, 9, 10] [2, 3, 4, 6, 10] ?_
 refine rA ?_ (x := cj (qs := []) (by decide) bF eP (by decide) rfl rfl rfl rfl rfl (by exact nl rfl) (by exact tI) rfl)
 exact z.g) : G := ah w h
def xk (h : H) (w : ae G H := by
 intro z
 refine rB gc ?_ (x := lF gG)
 refine rB gc ?_ (x := lD [val _] au)
 exact z.g) : G := ah w h
def KG (h : H) (w : ae G H := by
 intro z
 refine rB gc ?_ (x := sM)
 refine rB gc ?_ (x := cL [(false, [val _]), (false, [val _]), (false, [val _])] [(false, [val _]), (false, [val _]), (false, [val _])] gv (hs := by exact gz))
 exact z.g) : G := ah w h
def KH (h : H) (w : ae G H := by
 intro z
 refine dA 15 ?_ (x := cL [(false, [val _]), (false, [val _]), (false, [val _])] [(false, [val _]), (false, [val _]), (false, [val _])] gv (hs := by exact gz))
 refine dA 31 ?_ (x := nT)
 exact z.g) : G := ah w h
def KI (h : H) (w : ae G H := by
 intro z
 refine rM ?_
 refine rA ?_ (x := cL [(true, [val _, sl _ _, val _, val _]), (false, [val _])] [(true, [val _, sl .v _, val _, val _]), (false, [val _])] CX (hs := by exact Dj))
 exact z.g) : G := ah w h
def KJ (h : H) (w : ae G H := by
 intro z
 refine jx ?_
 refine rX ?_ (x := (dG (ag := true) (cs := [val _, val _, val _, sl _ _, sl _ _, val _, val _, val _, val _, sl _ _, val _, val _, val _]) (by decide) (by exact tI)))
 exact z.g) : G := ah w h
def kZ (h : H) (w : ae G H := by
 intro z
 refine bm ?_
 refine sG [0, 1, 5] [] ?_
 refine cW ?_
 exact z.g) : G := ah w h
def KK (h : H) (w : ae G H := by
 intro z
 refine rA ?_ (x := aY (by decide) uR (by exact tI) (by exact rfl) (by exact bc (by omega) rfl) (by exact rfl))
 refine rA ?_ (x := lE [val _, sl .v _, val _, val _] VA)
 exact z.g) : G := ah w h
def xl (h : H) (w : ae G H := by
 intro z
 refine rX ?_ (x := (bY (by decide) ja mp))
 refine aP ?_
 exact z.g) : G := ah w h
def KL (h : H) (w : ae G H := by
 intro z
 refine rA ?_ (x := cL [(false, [val _]), (false, [val _]), (false, [val _])] [(false, [val _]), (false, [val _]), (false, [val _])] gv (hs := by exact gz))
 refine rA ?_ (x := nT)
 exact z.g) : G := ah w h
def qM (h : H) (w : ae G H := by
 intro z
 refine zf g6 ?_
 refine rA ?_ (x := aK g6)
 exact z.g) : G := ah w h
def qN (h : H) (w : ae G H := by
 intro z
 refine zf g9 ?_
 refine rA ?_ (x := aK g9)
 exact z.g) : G := ah w h
def qO (h : H) (w : ae G H := by
 intro z
 refine zf gd ?_
 refine rA ?_ (x := aK gd)
 exact z.g) : G := ah w h
def KM (h : H) (w : ae G H := by
 intro z
 refine dA 48 ?_ (x := aY (by decide) eC (by exact tI) (by exact rfl) (by exact bc (by omega) rfl) (by exact rfl))
 refine dA 112 ?_ (x := lE [val _, val _, val _] nh)
 exact z.g) : G := ah w h
def Bv (h : H) (w : ae G H := by
 intro z
 refine sO [(1, _), (2, _), (3, _)] [(1, _), (2, _), (3, (54, [val _, sl _ _]))] ?_
 refine bf ?_
 exact z.g) : G := ah w h
def Bw (h : H) (w : ae G H := by
 intro z
 refine sG [1, 2, 4, 5, 6, 7, 8, 9, 10, 11, 12, 13, 2900, 6000] [2, 4, 6, 11, 900] ?_
 refine cW ?_
 exact z.g) : G := ah w h
def KN (h : H) (w : ae G H := by
 intro z
 refine qu ?_
 refine rA ?_ (x := bg (ag := true) (vs := [sl _ _, val _, val _, sl _ _, sl _ _, sl _ _, sl _ _, val _]) bU (by exact tI) (by exact rfl) (by exact nl rfl))
 exact z.g) : G := ah w h
def KO (h : H) (w : ae G H := by
 intro z
 refine dA 3 ?_ (x := aY (by decide) eC (by exact tI) (by exact rfl) (by exact bc (by omega) rfl) (by exact rfl))
 refine dA 7 ?_ (x := lE [val _, val _, val _] nh)
 exact z.g) : G := ah w h
def KP (h : H) (w : ae G H := by
 intro z
 refine rA ?_ (x := bg (ag := true) (vs := [nv _ (val _), nv _ (sl _ _), nv _ (val _), nv _ (val _)]) en (by exact tI) (by exact rfl) (by exact nl rfl))
 refine aP ?_
 exact z.g) : G := ah w h
def KQ (h : H) (w : ae G H := by
 intro z
 refine rX ?_ (x := (bY (by decide) yo yq))
 refine rA ?_ (x := bg (ag := true) (vs := [sl _ _, sl _ _]) th (by exact tI) (by exact rfl) (by exact nl rfl))
 exact z.g) : G := ah w h
def pE (h : H) (w : ae G H := by
 intro z
 refine rA ?_ (x := lD [sl .v _] bv)
 refine rA ?_ (x := cL [(false, [sl _ _]), (false, [sl _ _])] [(false, [sl .v _]), (false, [sl .v _])] TE (hs := by exact YF))
 refine rA ?_ (x := nT)
 exact z.g) : G := ah w h
def la (h : H) (w : ae G H := by
 intro z
 refine rM ?_
 refine rM ?_
 exact z.g) : G := ah w h
def qP (h : H) (w : ae G H := by
 intro z
 refine sS [1, 2, 4] [1] ?_
 refine uc ?_
 exact z.g) : G := ah w h
def KR (h : H) (w : ae G H := by
 intro z
 refine rA ?_ (x := cL [(false, [val _]), (false, [val _]), (false, [val _])] [(false, [val _]), (false, [val _]), (false, [val _])] kb (hs := by exact kt))
 refine gp ?_
 exact z.g) : G := ah w h
def KS (h : H) (w : ae G H := by
 intro z
 refine rM ?_
 refine rA ?_ (x := cL [(false, [val _]), (false, [val _]), (false, [val _])] [(false, [val _]), (false, [val _]), (false, [val _])] kb (hs := by exact kt))
 exact z.g) : G := ah w h
def KT (h : H) (w : ae G H := by
 intro z
 refine rA ?_ (x := aY (by decide) eC (by exact tI) (by exact rfl) (by exact bc (by omega) rfl) (by exact rfl))
 refine rA ?_ (x := lE [val _, val _, val _] nh)
 exact z.g) : G := ah w h
def KU (h : H) (w : ae G H := by
 intro z
 refine rX ?_ (x := (bY (by decide) ja mp))
 refine rA ?_ (x := bg (ag := true) (vs := [val _, sl _ _]) fI (by exact tI) (by exact rfl) (by exact nl rfl))
 exact z.g) : G := ah w h
def KV (h : H) (w : ae G H := by
 intro z
 refine rX ?_ (x := (bY (by decide) tb tc))
 refine fh ?_
 refine sO [(2, _), (3, _), (4, _), (5, _)] [(2, (26, [sl (.lo _) _, val _])), (3, (56, [val _, val _, sl (.lo _) _, val _, val _])), (4, (26, [sl _ _, val _]))] ?_
 exact z.g) : G := ah w h
def KW (h : H) (w : ae G H := by
 intro z
 refine sO [(2, _), (3, _), (4, _), (6, _), (7, _), (8, _)] [(3, _), (4, _), (6, _), (8, (32, [sl _ _, val _, val _, sl _ _, sl _ _, sl _ _, sl _ _, val _]))] ?_
 refine bf ?_
 exact z.g) : G := ah w h
def uw (h : H) (w : ae G H := by
 intro z
 refine rB ga ?_ (x := sM)
 refine rB ga ?_ (x := cu)
 exact z.g) : G := ah w h
def KX (h : H) (w : ae G H := by
 intro z
 refine rM ?_
 refine rA ?_ (x := cL [(true, [val _, sl _ _]), (false, [val _])] [(true, [val _, sl .v _]), (false, [val _])] Uh (hs := by exact XX (by omega) (by omega)))
 exact z.g) : G := ah w h
def xm (h : H) (w : ae G H := by
 intro z
 refine rA ?_ (x := lF mZ)
 refine rA ?_ (x := lD [val _] au)
 exact z.g) : G := ah w h
def qQ (h : H) (w : ae G H := by
 intro z
 refine jV ?_
 refine rA ?_ (x := lN bL)
 refine rA ?_ (x := cu)
 exact z.g) : G := ah w h
def KY (h : H) (w : ae G H := by
 intro z
 refine dA 3 ?_ (x := lD [val _] au)
 refine dA 0 ?_ (x := cj (qs := []) (by decide) bF eP (by decide) rfl rfl rfl rfl rfl (by exact nl rfl) (by exact tI) rfl)
 exact z.g) : G := ah w h
def KZ (h : H) (w : ae G H := by
 intro z
 refine rA ?_ (x := aY (by decide) uQ (by exact tI) (by exact rfl) (by exact bc (by omega) rfl) (by exact rfl))
 refine rA ?_ (x := lE [val _, sl .v _] CJ)
 exact z.g) : G := ah w h
def Bx (h : H) (w : ae G H := by
 intro z
 refine sR ?_
 refine rA ?_ (x := iz (.inr rfl) (by decide) (jl (t := 54) (e := 2)))
 exact z.g) : G := ah w h
def lW (h : H) (w : ae G H := by
 intro z
 refine cO ?_
 refine sP [0, 1, 5] [] ?_
 refine pA ?_
 exact z.g) : G := ah w h
def so (h : H) (w : ae G H := by
 intro z
 refine sS [1, 2, 3, 16] [1] ?_
 refine uc ?_
 exact z.g) : G := ah w h
def La (h : H) (w : ae G H := by
 intro z
 refine rA ?_ (x := lD [sl .v _] gy)
 refine rA ?_ (x := cL [(false, [sl _ _]), (false, [sl _ _])] [(false, [sl .v _]), (false, [sl .v _])] UE (hs := by exact YO))
 exact z.g) : G := ah w h
def Lb (h : H) (w : ae G H := by
 intro z
 refine rX ?_ (x := (dG (ag := true) (cs := [val _, val _, sl _ _, sl _ _, val _, sl _ _, val _, val _, val _, sl _ _]) (by decide) (by exact tI)))
 refine kX ?_
 exact z.g) : G := ah w h
def Lc (h : H) (w : ae G H := by
 intro z
 refine rA ?_ (x := cL [(false, [sl _ _]), (false, [val _])] [(false, [sl .v _]), (false, [val _])] Uu (hs := by exact Zf (by omega) (by omega)))
 refine eZ ?_
 exact z.g) : G := ah w h
def Ld (h : H) (w : ae G H := by
 intro z
 refine sO [(1, _), (2, _), (4, _), (5, _), (6, _), (7, _)] [(2, _), (4, _), (6, (32, [sl _ _, val _, val _, sl _ _, sl _ _, sl _ _, sl _ _, val _]))] ?_
 refine jq ?_
 exact z.g) : G := ah w h
def sq (h : H) (w : ae G H := by
 intro z
 refine rA ?_ (x := tA)
 refine aP ?_
 exact z.g) : G := ah w h
def Le (h : H) (w : ae G H := by
 intro z
 refine qG ?_
 refine rA ?_ (x := cL [(true, [val _, val _, sl _ _, val _, val _])] [(true, [val _, val _, sl .v _, val _, val _])] MZ (hs := by exact Pd))
 exact z.g) : G := ah w h
def Lf (h : H) (w : ae G H := by
 intro z
 refine sO [(2, _), (3, _), (4, _), (5, _), (6, _)] [(2, _), (3, _), (4, _), (6, (32, [sl _ _, val _, val _, sl _ _, sl _ _, sl _ _, sl _ _, val _]))] ?_
 refine bf ?_
 exact z.g) : G := ah w h
def sr (h : H) (w : ae G H := by
 intro z
 refine zf g17 ?_
 refine rA ?_ (x := aK g17)
 exact z.g) : G := ah w h
def lX (h : H) (w : ae G H := by
 intro z
 refine rS ?_
 refine wG ?_
 exact z.g) : G := ah w h
def Lg (h : H) (w : ae G H := by
 intro z
 refine rA ?_ (x := cL [(false, [sl _ _]), (false, [val _])] [(false, [sl .v _]), (false, [val _])] Uv (hs := by exact Zh (by omega) (by omega)))
 refine lX ?_
 exact z.g) : G := ah w h
def Lh (h : H) (w : ae G H := by
 intro z
 refine rA ?_ (x := aY (by decide) uS (by exact tI) (by exact rfl) (by exact bc (by omega) rfl) (by exact rfl))
 refine rA ?_ (x := lE [sl .v _] Vy)
 exact z.g) : G := ah w h
def Li (h : H) (w : ae G H := by
 intro z
 refine rA ?_ (x := cL [(false, [sl _ _]), (false, [val _])] [(false, [sl .v _]), (false, [val _])] Uz (hs := by exact Yd (by omega) (by omega)))
 refine jz ?_
 exact z.g) : G := ah w h
def Lj (h : H) (w : ae G H := by
 intro z
 refine rX ?_ (x := (dG (ag := true) (cs := [val _, val _, sl _ _, sl _ _]) (by decide) (by exact tI)))
 refine rX ?_ (x := (bY (by decide) lp ls))
 exact z.g) : G := ah w h
def Lk (h : H) (w : ae G H := by
 intro z
 refine fF ?_
 refine sO [(2, _), (3, _), (4, _), (5, _), (6, _), (7, _), (8, _), (9, _), (10, _)] [(2, _), (3, _), (4, _), (6, (26, [sl _ _, val _])), (10, _)] ?_
 exact z.g) : G := ah w h
def Ll (h : H) (w : ae G H := by
 intro z
 refine sS [1, 2, 4, 5, 6, 7] [2, 4, 6] ?_
 refine rA ?_ (x := lD [sl (.lo _) _, val _, val _, sl (.lo _) _, sl (.lo _) _, sl (.lo _) _, sl (.lo _) _, val _] bU)
 exact z.g) : G := ah w h
def Lm (h : H) (w : ae G H := by
 intro z
 refine dA 131071 ?_ (x := lF lh)
 refine dA 262143 ?_ (x := bg (ag := false) (vs := [sl _ _]) lm (by exact tI) (by exact rfl) (by exact nl rfl))
 exact z.g) : G := ah w h
def st (h : H) (w : ae G H := by
 intro z
 refine zf g4 ?_
 refine rA ?_ (x := aK g4)
 exact z.g) : G := ah w h
def sw (h : H) (w : ae G H := by
 intro z
 refine zf g5 ?_
 refine rA ?_ (x := aK g5)
 exact z.g) : G := ah w h
def sx (h : H) (w : ae G H := by
 intro z
 refine rK ?_
 refine sT [2, 3, 4] [2, 3] ?_
 exact z.g) : G := ah w h
def sy (h : H) (w : ae G H := by
 intro z
 refine zt gc ?_
 refine rA ?_ (x := aT gc)
 exact z.g) : G := ah w h
def Ln (h : H) (w : ae G H := by
 intro z
 refine dA 1023 ?_ (x := fB (qs := [(false, [val _]), (false, [sl _ _]), (false, [val _]), (false, [val _])]) (cs := [val _, sl _ _, val _, val _]) (by decide) fz lr Qt (by exact rfl) (by exact (aI (by exact tI) (aI (by exact tI) (aI (by exact tI) (aI (eV rfl) tI))))) rfl (by exact rfl))
 refine cb.step 0 (by exact tI) (by exact tI) (ay.of rfl (bY (by decide) fz lr)) (pd (cS.of_ rfl)) (by kernel_rfl) ?_
 refine dA 4095 ?_ (x := bg (ag := true) (vs := [val _, sl _ _, val _, val _]) en (by exact tI) (by exact rfl) (by exact nl rfl))
 exact z.g) : G := ah w h
def mS (h : H) (w : ae G H := by
 intro z
 refine ir ?_
 refine lS ?_
 exact z.g) : G := ah w h
def mT (h : H) (w : ae G H := by
 intro z
 refine dt ?_
 refine sS [0, 1, 4] [] ?_
 refine cH ?_
 refine sP [0, 1, 4, 5] [] ?_
 refine sL [0, 1] [] (fun k : Nat => k ≤ x.length ∧ x.take k = y.take k) (fun k : Nat => [(5, RV.int (k : Int))]) (fun k : Nat => []) (fun k : Nat => x.length - k) 0 (by exact ⟨by omega, by simp⟩) (by exact aI (by exact rfl) tI) (by exact tI) ?_
 exact z.g) : G := ah w h
def mU (h : H) (w : ae G H := by
 intro z
 refine rU ?_
 refine rM ?_
 refine rA ?_ (x := be (r' := RV.sv false [sl .v _]) (.inl rfl) (by decide) (by exact Cp.sv (am.cons (PV.nv_to jt) am.nil) (an.cons (bor_sl _) an.nil)))
 exact z.g) : G := ah w h
def mV (h : H) (w : ae G H := by
 intro z
 refine px ?_
 refine AD ?_
 exact z.g) : G := ah w h
def pF (h : H) (w : ae G H := by
 intro z
 refine hJ ?_
 refine rM ?_
 refine rA ?_ (x := aY (by decide) bL (by exact tI) (by exact rfl) (by exact pi hlt rfl) (by exact rfl))
 exact z.g) : G := ah w h
def qR (h : H) (w : ae G H := by
 intro z
 refine px ?_
 refine sS [0, 2] [] ?_
 exact z.g) : G := ah w h
def ov (h : H) (w : ae G H := by
 intro z
 refine rA ?_ (x := tM)
 refine rA ?_ (x := tA)
 refine eo ?_
 exact z.g) : G := ah w h
def ow (h : H) (w : ae G H := by
 intro z
 refine Jl ?_
 refine aP ?_
 exact z.g) : G := ah w h
def Lo (h : H) (w : ae G H := by
 intro z
 refine rA ?_ (x := cL [(true, [val _, val _, sl _ _, sl _ _])] [(true, [val _, val _, sl .v _, sl .v _])] CC (hs := by exact Di))
 refine gp ?_
 exact z.g) : G := ah w h
def Lp (h : H) (w : ae G H := by
 intro z
 refine pt ?_
 refine rA ?_ (x := cL [(true, [val _, val _, sl _ _, sl _ _])] [(true, [val _, val _, sl .v _, sl .v _])] CC (hs := by exact Di))
 exact z.g) : G := ah w h
def Lq (h : H) (w : ae G H := by
 intro z
 refine rA ?_ (x := bg (ag := true) (vs := [val _, sl _ _, val _, val _]) en (by exact tI) (by exact rfl) (by exact nl rfl))
 refine eo ?_
 exact z.g) : G := ah w h
def By (h : H) (w : ae G H := by
 intro z
 refine pF ?_
 refine rA ?_ (x := bI (by decide) fw (by exact nl rfl))
 exact z.g) : G := ah w h
def Lr (h : H) (w : ae G H := by
 intro z
 refine dA 4 ?_ (x := lD [sl .v _] bv)
 refine dA 12 ?_ (x := cL [(false, [sl _ _])] [(false, [sl .v _])] oN (hs := by exact oW (by omega)))
 exact z.g) : G := ah w h
def Ls (h : H) (w : ae G H := by
 intro z
 refine dA 8 ?_ (x := lD [sl .v _] bv)
 refine dA 31 ?_ (x := cL [(false, [sl _ _])] [(false, [sl .v _])] oN (hs := by exact oW (by omega)))
 exact z.g) : G := ah w h
def Lt (h : H) (w : ae G H := by
 intro z
 refine dA 0 ?_ (x := sM)
 refine dA 7 ?_ (x := aY (by decide) eC (by exact tI) (by exact rfl) (by exact bc (by omega) rfl) (by exact rfl))
 exact z.g) : G := ah w h
def zip (h : H) (w : ae G H := by
 intro z
 refine rB ga ?_ (x := lN bF)
 refine rB ga ?_ (x := eG)
 exact z.g) : G := ah w h
def Lu (h : H) (w : ae G H := by
 intro z
 refine rA ?_ (x := cL [(true, [val _, val _, sl _ _, sl _ _])] [(true, [val _, val _, sl .v _, sl .v _])] xZ (hs := by exact yt))
 refine rM ?_
 exact z.g) : G := ah w h
def Lv (h : H) (w : ae G H := by
 intro z
 refine rA ?_ (x := fD (o := 2) (ag := false) (vs := [val _]) (by omega) au (by exact tI) (by exact rfl) (by exact nl rfl))
 refine aP ?_
 exact z.g) : G := ah w h
def Lx (h : H) (w : ae G H := by
 intro z
 refine rA ?_ (x := fD (o := 5) (ag := false) (vs := [val _]) (by omega) au (by exact tI) (by exact rfl) (by exact nl rfl))
 refine aP ?_
 exact z.g) : G := ah w h
def Ly (h : H) (w : ae G H := by
 intro z
 refine rA ?_ (x := fD (o := 6) (ag := false) (vs := [val _]) (by omega) au (by exact tI) (by exact rfl) (by exact nl rfl))
 refine aP ?_
 exact z.g) : G := ah w h
def Lz (h : H) (w : ae G H := by
 intro z
 refine rA ?_ (x := fD (o := 7) (ag := false) (vs := [val _]) (by omega) au (by exact tI) (by exact rfl) (by exact nl rfl))
 refine aP ?_
 exact z.g) : G := ah w h
def LA (h : H) (w : ae G H := by
 intro z
 refine rA ?_ (x := fD (o := 8) (ag := false) (vs := [val _]) (by omega) au (by exact tI) (by exact rfl) (by exact nl rfl))
 refine aP ?_
 exact z.g) : G := ah w h
def LB (h : H) (w : ae G H := by
 intro z
 refine rA ?_ (x := fD (o := 4) (ag := false) (vs := [val _]) (by omega) au (by exact tI) (by exact rfl) (by exact nl rfl))
 refine aP ?_
 exact z.g) : G := ah w h
def lY (h : H) (w : ae G H := by
 intro z
 refine pw ?_
 refine rM ?_
 exact z.g) : G := ah w h
def LC (h : H) (w : ae G H := by
 intro z
 refine sO [(1, _), (2, _), (4, _), (5, _)] [(2, _), (4, _), (5, (32, [sl _ _, val _, val _, sl _ _, sl _ _, sl _ _, sl _ _, val _]))] ?_
 refine bf ?_
 exact z.g) : G := ah w h
def LD (h : H) (w : ae G H := by
 intro z
 refine rA ?_ (x := cj (qs := []) (by decide) mx nj (by decide) rfl rfl rfl rfl rfl (by exact nl rfl) (by exact tI) rfl)
 refine sq ?_
 exact z.g) : G := ah w h
def LF (h : H) (w : ae G H := by
 intro z
 refine sO [(2, _), (3, _), (4, _), (5, _), (6, _), (7, _), (8, _), (9, _)] [(2, _), (3, _), (4, _), (6, (26, [sl _ _, val _]))] ?_
 refine dw dl ?_
 exact z.g) : G := ah w h
def xn (h : H) (w : ae G H := by
 intro z
 refine bm ?_
 refine sS [2, 3, 4, 5, 6] [2, 3, 4, 6] ?_
 exact z.g) : G := ah w h
def LG (h : H) (w : ae G H := by
 intro z
 refine fF ?_
 refine sO [(1, _), (2, _), (3, _), (4, _)] [(1, _), (2, _), (4, (32, [sl _ _, val _, val _, sl _ _, sl _ _, sl _ _, sl _ _, val _]))] ?_
 exact z.g) : G := ah w h
def LH (h : H) (w : ae G H := by
 intro z
 refine rA ?_ (x := cj (qs := []) (by decide) bF eP (by decide) rfl rfl rfl rfl rfl (by exact nl rfl) (by exact tI) rfl)
 refine rA ?_ (x := vM false [sl .v _])
 refine rA ?_ (x := iN (by decide) bF eP rfl rfl (by decide) (by first | (intro cs hcs; obtain ⟨x, _, rfl⟩ := List.mem_map.1 hcs; exact rfl) | simp) (by first | (intro cs hcs; obtain ⟨x, _, rfl⟩ := List.mem_map.1 hcs; exact (an.cons (bor_val _) an.nil)) | simp) (by simp only [aq, aV, List.length_cons, List.length_nil]; omega) (by simp only [aq, aV, List.length_cons, List.length_nil]; omega))
 exact z.g) : G := ah w h
def Bz (h : H) (w : ae G H := by
 intro z
 refine rX ?_ (x := (bY (by decide) tb tc))
 refine sT [1, 2] [1, 2] ?_
 exact z.g) : G := ah w h
def ox (h : H) (w : ae G H := by
 intro z
 refine zt gb ?_
 refine gQ ?_
 exact z.g) : G := ah w h
def LI (h : H) (w : ae G H := by
 intro z
 refine rA ?_ (x := lF hR)
 refine rA ?_ (x := bg (ag := false) (vs := [sl _ _]) bv (by exact tI) (by exact rfl) (by exact nl rfl))
 exact z.g) : G := ah w h
def BA (h : H) (w : ae G H := by
 intro z
 refine rA ?_ (x := lF hY)
 refine rA ?_ (x := lD [sl (.lo _) _, val _] dV)
 exact z.g) : G := ah w h
def LJ (h : H) (w : ae G H := by
 intro z
 refine rA ?_ (x := lF jH)
 refine rA ?_ (x := bg (ag := false) (vs := [sl _ _]) jI (by exact tI) (by exact rfl) (by exact nl rfl))
 exact z.g) : G := ah w h
def LK (h : H) (w : ae G H := by
 intro z
 refine rA ?_ (x := lF nf)
 refine rA ?_ (x := bg (ag := false) (vs := [sl _ _]) gy (by exact tI) (by exact rfl) (by exact nl rfl))
 exact z.g) : G := ah w h
def LL (h : H) (w : ae G H := by
 intro z
 refine rA ?_ (x := lF kf)
 refine rA ?_ (x := bg (ag := false) (vs := [sl _ _]) ko (by exact tI) (by exact rfl) (by exact nl rfl))
 exact z.g) : G := ah w h
def LM (h : H) (w : ae G H := by
 intro z
 refine rA ?_ (x := lF kg)
 refine rA ?_ (x := bg (ag := false) (vs := [sl _ _]) kp (by exact tI) (by exact rfl) (by exact nl rfl))
 exact z.g) : G := ah w h
def sz (h : H) (w : ae G H := by
 intro z
 refine cH ?_
 refine sP [0, 2, 3] [] ?_
 exact z.g) : G := ah w h
def sB (h : H) (w : ae G H := by
 intro z
 refine bm ?_
 refine sG [0, 3] [] ?_
 exact z.g) : G := ah w h
def sC (h : H) (w : ae G H := by
 intro z
 refine bG ?_
 refine sS [0, 3] [] ?_
 exact z.g) : G := ah w h
def sD (h : H) (w : ae G H := by
 intro z
 refine lR ?_
 refine rA ?_ (x := cu)
 exact z.g) : G := ah w h
def sE (h : H) (w : ae G H := by
 intro z
 refine rB gb ?_ (x := nT)
 refine qy ?_
 exact z.g) : G := ah w h
def LN (h : H) (w : ae G H := by
 intro z
 refine rA ?_ (x := lD [sl .v _] gy)
 refine rA ?_ (x := cL [(false, [sl _ _])] [(false, [sl .v _])] WH (hs := by exact Zq (by omega)))
 exact z.g) : G := ah w h
def sI (h : H) (w : ae G H := by
 intro z
 refine rB gb ?_ (x := sM)
 refine gQ ?_
 exact z.g) : G := ah w h
def LO (h : H) (w : ae G H := by
 intro z
 refine rA ?_ (x := bg (ag := true) (vs := [val _, val _, val _]) nh (by exact tI) (by exact rfl) (by exact nl rfl))
 refine aP ?_
 exact z.g) : G := ah w h
def BB (h : H) (w : ae G H := by
 intro z
 refine dA 0 ?_ (x := lF hY)
 refine dA 1 ?_ (x := lD [sl .v _, val _] dV)
 exact z.g) : G := ah w h
def LP (h : H) (w : ae G H := by
 intro z
 refine aP ?_
 refine sO [(2, _), (3, _), (4, _), (5, _), (6, _), (7, _), (8, _)] [(2, _), (3, _), (4, _), (6, _), (7, (26, [sl _ _, val _]))] ?_
 exact z.g) : G := ah w h
def LQ (h : H) (w : ae G H := by
 intro z
 refine sO [(1, _), (2, _), (4, _), (5, _), (6, _), (2900, _), (6000, _)] [(2, _), (4, _), (6, _), (900, (139, bE kL _ _))] ?_
 refine bf ?_
 exact z.g) : G := ah w h
def LR (h : H) (w : ae G H := by
 intro z
 refine rA ?_ (x := lF jG)
 refine rA ?_ (x := bg (ag := false) (vs := [val _]) au (by exact tI) (by exact rfl) (by exact nl rfl))
 exact z.g) : G := ah w h
def LS (h : H) (w : ae G H := by
 intro z
 refine rA ?_ (x := lF kh)
 refine rA ?_ (x := bg (ag := false) (vs := [val _]) au (by exact tI) (by exact rfl) (by exact nl rfl))
 exact z.g) : G := ah w h
def LU (h : H) (w : ae G H := by
 intro z
 refine rA ?_ (x := lD [sl .v _] CI)
 refine rA ?_ (x := cL [(false, [sl _ _])] [(false, [sl .v _])] UB (hs := by exact Yw (by omega)))
 exact z.g) : G := ah w h
def ux (h : H) (w : ae G H := by
 intro z
 refine rA ?_ (x := lF hR)
 refine qD ?_
 exact z.g) : G := ah w h
def LV (h : H) (w : ae G H := by
 intro z
 refine wL ?_
 refine rA ?_ (x := cL [(true, [sl (.lo _) _, val _])] [(true, [sl .v _, val _])] OB (hs := by exact (Pr (by omega))))
 exact z.g) : G := ah w h
def sJ (h : H) (w : ae G H := by
 intro z
 refine rA ?_ (x := aT gd)
 refine rM ?_
 exact z.g) : G := ah w h
def LW (h : H) (w : ae G H := by
 intro z
 refine rA ?_ (x := bg (ag := true) (vs := [sl _ _, sl _ _]) th (by exact tI) (by exact rfl) (by exact nl rfl))
 refine eo ?_
 exact z.g) : G := ah w h
def LX (h : H) (w : ae G H := by
 intro z
 refine wL ?_
 refine rA ?_ (x := cL [(true, [sl (.lo _) _, val _])] [(true, [sl .v _, val _])] ON (hs := by exact Pi (by omega)))
 exact z.g) : G := ah w h
def LY (h : H) (w : ae G H := by
 intro z
 refine wL ?_
 refine rA ?_ (x := cL [(true, [sl (.lo _) _, val _])] [(true, [sl .v _, val _])] OL (hs := by exact Ph (by omega)))
 exact z.g) : G := ah w h
def oy (h : H) (w : ae G H := by
 intro z
 refine sR ?_
 refine rK ?_
 refine sS [0, 1, 4] [] ?_
 refine wm ?_
 exact z.g) : G := ah w h
def oz (h : H) (w : ae G H := by
 intro z
 refine rA ?_ (x := ip)
 refine eZ ?_
 refine sS [0, 1, 4] [] ?_
 refine iU ?_
 exact z.g) : G := ah w h
def oA (h : H) (w : ae G H := by
 intro z
 refine bB ?_
 refine hJ ?_
 refine rM ?_
 exact z.g) : G := ah w h
def oB (h : H) (w : ae G H := by
 intro z
 refine rA ?_ (x := cA Cp.hdr)
 refine aP ?_
 refine sT [0, 2, 3] [7] ?_
 refine cH ?_
 refine sP [0, 2, 3, 4] [7] ?_
 exact z.g) : G := ah w h
def oC (h : H) (w : ae G H := by
 intro z
 refine px ?_
 refine sS [0, 1, 4] [] ?_
 refine rA ?_ (x := vM false [sl .v _])
 exact z.g) : G := ah w h
def oD (h : H) (w : ae G H := by
 intro z
 refine sS [0, 1] [] ?_
 refine fh ?_
 refine sS [0, 1, 4] [] ?_
 refine cH ?_
 refine sP [0, 1, 4, 5] [] ?_
 refine sL [0, 4] [] (fun _ : Unit => True) (fun _ : Unit => [(1, RV.int k), (5, RV.int 0)]) (fun _ : Unit => []) (fun _ : Unit => 0) () tI (by exact aI (by exact rfl) (aI (by exact rfl) tI)) (by exact tI) ?_
 exact z.g) : G := ah w h
def oE (h : H) (w : ae G H := by
 intro z
 refine sT [0, 1] [999] ?_
 refine fh ?_
 refine sS [0, 1, 4] [999] ?_
 refine cH ?_
 refine sP [0, 1, 4, 5] [999] ?_
 exact z.g) : G := ah w h
def oF (h : H) (w : ae G H := by
 intro z
 refine rU ?_
 refine rM ?_
 refine rA ?_ (x := be (.inl rfl) (by decide) (by exact Cp.nm Cp.hdr))
 exact z.g) : G := ah w h
def oG (h : H) (w : ae G H := by
 intro z
 refine bf ?_
 refine rM ?_
 exact z.g) : G := ah w h
def uy (h : H) (w : ae G H := by
 intro z
 refine rA ?_ (x := lF uP)
 refine xc ?_
 exact z.g) : G := ah w h
def LZ (h : H) (w : ae G H := by
 intro z
 refine dA 16383 ?_ (x := bg (ag := false) (vs := [sl _ _]) bv (by exact tI) (by exact rfl) (by exact nl rfl))
 refine aP ?_
 exact z.g) : G := ah w h
def BC (h : H) (w : ae G H := by
 intro z
 refine rA ?_ (x := lF hZ)
 refine rA ?_ (x := lD [val _, sl .v _] fI)
 exact z.g) : G := ah w h
def pG (h : H) (w : ae G H := by
 intro z
 refine bf ?_
 refine rA ?_ (x := be (.inl rfl) (by decide) (by exact Cp.nm Cp.hdr))
 refine rM ?_
 exact z.g) : G := ah w h
def xo (h : H) (w : ae G H := by
 intro z
 refine rA ?_ (x := lN mx)
 refine rA ?_ (x := cu)
 exact z.g) : G := ah w h
def pH (h : H) (w : ae G H := by
 intro z
 refine bf ?_
 refine qp ?_
 exact z.g) : G := ah w h
def Ma (h : H) (w : ae G H := by
 intro z
 refine hJ ?_
 refine rM ?_
 refine rA ?_ (x := aY (by decide) gw (by exact tI) (by exact rfl) (by exact pi hlt rfl) (by exact rfl))
 exact z.g) : G := ah w h
def Mb (h : H) (w : ae G H := by
 intro z
 refine Ba ?_
 refine rX ?_ (x := (dG (ag := true) (cs := [val _, val _, sl (.lo _) _, val _, val _]) (by decide) (by exact tI)))
 exact z.g) : G := ah w h
def Mc (h : H) (w : ae G H := by
 intro z
 refine sa ?_
 refine rX ?_ (x := (dG (ag := true) (cs := [val _, val _, sl (.lo _) _, val _, val _]) (by decide) (by exact tI)))
 exact z.g) : G := ah w h
def uz (h : H) (w : ae G H := by
 intro z
 refine zf g19 ?_
 refine rA ?_ (x := aK g19)
 exact z.g) : G := ah w h
def BD (h : H) (w : ae G H := by
 intro z
 refine rB ga ?_ (x := lF kf)
 refine rB ga ?_ (x := lD [sl .v _] ko)
 exact z.g) : G := ah w h
def xp (h : H) (w : ae G H := by
 intro z
 refine rA ?_ (x := lN eC)
 refine rA ?_ (x := cu)
 exact z.g) : G := ah w h
def xq (h : H) (w : ae G H := by
 intro z
 refine rA ?_ (x := lN eB)
 refine rA ?_ (x := cu)
 exact z.g) : G := ah w h
def xr (h : H) (w : ae G H := by
 intro z
 refine rA ?_ (x := lN gw)
 refine rA ?_ (x := cu)
 exact z.g) : G := ah w h
def xt (h : H) (w : ae G H := by
 intro z
 refine rA ?_ (x := lN fb)
 refine rA ?_ (x := cu)
 exact z.g) : G := ah w h
def BE (h : H) (w : ae G H := by
 intro z
 refine rA ?_ (x := lD [val _, val _, sl .v _, sl .v _] NJ)
 refine rM ?_
 exact z.g) : G := ah w h
def BF (h : H) (w : ae G H := by
 intro z
 refine dA 96 ?_ (x := lF el)
 refine dA 224 ?_ (x := lD [val _] ea)
 exact z.g) : G := ah w h
def BG (h : H) (w : ae G H := by
 intro z
 refine rB ga ?_ (x := lF pQ)
 refine rB ga ?_ (x := lD [val _] au)
 exact z.g) : G := ah w h
def oH (h : H) (w : ae G H := by
 intro z
 refine zt ga ?_
 refine rA ?_ (x := aT ga)
 refine dr ?_
 exact z.g) : G := ah w h
def Md (h : H) (w : ae G H := by
 intro z
 refine se ?_
 refine rX ?_ (x := (dG (ag := true) (cs := [val _, val _, sl _ _, val _, val _]) (by decide) (by exact tI)))
 exact z.g) : G := ah w h
def Me (h : H) (w : ae G H := by
 intro z
 refine rB gc ?_ (x := lD [sl .v _, val _, val _, sl .v _, sl .v _, sl .v _, sl .v _, val _] bU)
 refine rB gc ?_ (x := lF fx)
 exact z.g) : G := ah w h
def Mf (h : H) (w : ae G H := by
 intro z
 refine rA ?_ (x := bg (ag := false) (vs := [sl _ _]) bv (by exact tI) (by exact rfl) (by exact nl rfl))
 refine Jv ?_
 exact z.g) : G := ah w h
def BH (h : H) (w : ae G H := by
 intro z
 refine rB gb ?_ (x := lF mj)
 refine rB gb ?_ (x := lD [val _] au)
 exact z.g) : G := ah w h
def BI (h : H) (w : ae G H := by
 intro z
 refine rB ga ?_ (x := lD [val _] au)
 refine rB ga ?_ (x := lF hY)
 exact z.g) : G := ah w h
def BJ (h : H) (w : ae G H := by
 intro z
 refine dA 0 ?_ (x := lF fV)
 refine dA 256 ?_ (x := lD [val _] au)
 exact z.g) : G := ah w h
def BK (h : H) (w : ae G H := by
 intro z
 refine rX ?_ (x := (bY (by decide) jb pT))
 refine aP ?_
 exact z.g) : G := ah w h
def uA (h : H) (w : ae G H := by
 intro z
 refine zf gb ?_
 refine rA ?_ (x := aK gb)
 exact z.g) : G := ah w h
def uB (h : H) (w : ae G H := by
 intro z
 refine zf g7 ?_
 refine rA ?_ (x := aK g7)
 exact z.g) : G := ah w h
def uC (h : H) (w : ae G H := by
 intro z
 refine zt g6 ?_
 refine rA ?_ (x := aT g6)
 exact z.g) : G := ah w h
def BL (h : H) (w : ae G H := by
 intro z
 refine dA 3 ?_ (x := lF el)
 refine dA 7 ?_ (x := lD [val _] ea)
 exact z.g) : G := ah w h
def Mg (h : H) (w : ae G H := by
 intro z
 refine rA ?_ (x := zq (by decide) (by exact tI) (by exact tI) (by omega))
 refine rA ?_ (x := iT (by decide))
 exact z.g) : G := ah w h
def sK (h : H) (w : ae G H := by
 intro z
 refine ar.s0f gb ?_
 refine qy ?_
 exact z.g) : G := ah w h
def BM (h : H) (w : ae G H := by
 intro z
 refine rA ?_ (x := lF hR)
 refine rA ?_ (x := lD [sl .v _] bv)
 exact z.g) : G := ah w h
def Mh (h : H) (w : ae G H := by
 intro z
 refine oe ?_
 refine rX ?_ (x := (dG (ag := true) (cs := [val _, val _, sl _ _, sl _ _]) (by decide) (by exact tI)))
 exact z.g) : G := ah w h
def pI (h : H) (w : ae G H := by
 intro z
 refine rA ?_ (x := lD [sl .v _] bv)
 refine rM ?_
 refine rA ?_ (x := cL [(false, [sl _ _]), (false, [val _])] [(false, [sl .v _]), (false, [val _])] Tq (hs := by exact XU (by omega) (by omega)))
 refine eZ ?_
 refine tZ ?_
 exact z.g) : G := ah w h
def pJ (h : H) (w : ae G H := by
 intro z
 refine wZ ?_
 refine lS ?_
 exact z.g) : G := ah w h
def oI (h : H) (w : ae G H := by
 intro z
 refine bB ?_
 refine sH [0, 2, 3, 4] [7] ?_
 refine rA ?_ (x := cM Cp.hdr)
 refine wm ?_
 refine rM ?_
 exact z.g) : G := ah w h
def BN (h : H) (w : ae G H := by
 intro z
 refine oe ?_
 refine rX ?_ (x := (bY (by decide) nj uZ))
 exact z.g) : G := ah w h
def BO (h : H) (w : ae G H := by
 intro z
 refine rA ?_ (x := lF mn)
 refine rA ?_ (x := lD [sl .v _] bv)
 exact z.g) : G := ah w h
def oJ (h : H) (w : ae G H := by
 intro z
 refine oa ?_
 refine rS ?_
 exact z.g) : G := ah w h
def uD (h : H) (w : ae G H := by
 intro z
 refine cH ?_
 refine sP [1, 2, 3] [1] ?_
 exact z.g) : G := ah w h
def uE (h : H) (w : ae G H := by
 intro z
 refine bm ?_
 refine sG [1, 3] [1] ?_
 exact z.g) : G := ah w h
def pK (h : H) (w : ae G H := by
 intro z
 refine jV ?_
 refine rA ?_ (x := lN bL)
 refine dZ ?_
 exact z.g) : G := ah w h
def xu (h : H) (w : ae G H := by
 intro z
 refine rA ?_ (x := lE [val _] au)
 refine sm ?_
 exact z.g) : G := ah w h
def Mi (h : H) (w : ae G H := by
 intro z
 refine rX ?_ (x := (bY (by decide) tb tc))
 refine fh ?_
 refine sO [(1, _), (2, _), (4, _), (5, _)] [(2, (26, [sl (.lo _) _, val _])), (4, (26, [sl _ _, val _]))] ?_
 exact z.g) : G := ah w h
def uF (h : H) (w : ae G H := by
 intro z
 refine sS [0, 1, 4] [] ?_
 refine lP ?_
 exact z.g) : G := ah w h
def BP (h : H) (w : ae G H := by
 intro z
 refine rA ?_ (x := lF mh)
 refine rA ?_ (x := lD [val _] au)
 exact z.g) : G := ah w h
def BQ (h : H) (w : ae G H := by
 intro z
 refine rA ?_ (x := lF jF)
 refine rA ?_ (x := lD [val _] au)
 exact z.g) : G := ah w h
def BR (h : H) (w : ae G H := by
 intro z
 refine rA ?_ (x := vM false [sl .v _])
 refine rA ?_ (x := lN gw)
 exact z.g) : G := ah w h
def BS (h : H) (w : ae G H := by
 intro z
 refine rB gb ?_ (x := lD [val _] au)
 refine rB gb ?_ (x := iR)
 exact z.g) : G := ah w h
def Mj (h : H) (w : ae G H := by
 intro z
 refine fF ?_
 refine sO [(2, _), (3, _), (4, _), (5, _), (6, _)] [(2, _), (3, _), (4, _), (6, (26, [sl _ _, val _]))] ?_
 exact z.g) : G := ah w h
def BT (h : H) (w : ae G H := by
 intro z
 refine rB gd ?_ (x := lD [val _] au)
 refine rB gd ?_ (x := eG)
 exact z.g) : G := ah w h
def BU (h : H) (w : ae G H := by
 intro z
 refine rA ?_ (x := lD [val _] au)
 refine rA ?_ (x := lF kk)
 exact z.g) : G := ah w h
def BV (h : H) (w : ae G H := by
 intro z
 refine rA ?_ (x := lF pR)
 refine rA ?_ (x := lD [val _] au)
 exact z.g) : G := ah w h
def BW (h : H) (w : ae G H := by
 intro z
 refine rA ?_ (x := lF ml)
 refine rA ?_ (x := lD [val _] au)
 exact z.g) : G := ah w h
def BX (h : H) (w : ae G H := by
 intro z
 refine rA ?_ (x := lF nd)
 refine rA ?_ (x := lD [val _] au)
 exact z.g) : G := ah w h
def xv (h : H) (w : ae G H := by
 intro z
 refine rB gb ?_ (x := lF mj)
 refine qH ?_
 exact z.g) : G := ah w h
def pL (h : H) (w : ae G H := by
 intro z
 refine mL ?_
 refine fT ?_
 exact z.g) : G := ah w h
def xw (h : H) (w : ae G H := by
 intro z
 refine rB ga ?_ (x := lF pR)
 refine pv ?_
 exact z.g) : G := ah w h
def xx (h : H) (w : ae G H := by
 intro z
 refine rB gc ?_ (x := lF ml)
 refine wV ?_
 exact z.g) : G := ah w h
def uG (h : H) (w : ae G H := by
 intro z
 refine rA ?_ (x := aK gc)
 refine rM ?_
 exact z.g) : G := ah w h
def uH (h : H) (w : ae G H := by
 intro z
 refine rA ?_ (x := aK gd)
 refine rM ?_
 exact z.g) : G := ah w h
def uI (h : H) (w : ae G H := by
 intro z
 refine dA 0 ?_ (x := lF kf)
 refine dA 1 ?_ (x := lD [val _] ko)
 refine dA 0 ?_ (x := sM)
 exact z.g) : G := ah w h
def uJ (h : H) (w : ae G H := by
 intro z
 refine dt ?_
 refine sS [1, 2] [1] ?_
 exact z.g) : G := ah w h
def Mk (h : H) (w : ae G H := by
 intro z
 refine fF ?_
 refine sO [(1, _), (2, _), (4, _), (5, _), (6, _)] [(2, _), (4, _), (6, (26, [sl _ _, val _]))] ?_
 exact z.g) : G := ah w h
def Ml (h : H) (w : ae G H := by
 intro z
 refine sS [2, 3, 4, 6, 7, 8, 9, 11, 14, 54, 55, 67, 68, 69, 6200, 6300] [3, 4, 6, 8, 9] ?_
 refine rA ?_ (x := tM)
 exact z.g) : G := ah w h
def BY (h : H) (w : ae G H := by
 intro z
 refine sS [2, 3, 4, 5, 6, 7, 20] [2, 3, 4, 6] ?_
 refine uc ?_
 exact z.g) : G := ah w h
def xy (h : H) (w : ae G H := by
 intro z
 refine rA ?_ (x := lF mf)
 refine er ?_
 exact z.g) : G := ah w h
def xz (h : H) (w : ae G H := by
 intro z
 refine Bh ?_
 refine rA ?_ (x := lF na)
 exact z.g) : G := ah w h
def Mm (h : H) (w : ae G H := by
 intro z
 refine qF ?_
 refine rX ?_ (x := (dG (ag := true) (cs := [val _, sl _ _]) (by decide) (by exact tI)))
 exact z.g) : G := ah w h
def pM (h : H) (w : ae G H := by
 intro z
 refine xb ?_
 refine rM ?_
 exact z.g) : G := ah w h
def Mn (h : H) (w : ae G H := by
 intro z
 refine sO [(0, _), (1, _), (4, _), (5, _)] [(999, (178, _ ++ ([val _, val _, val _] ++ _)))] ?_
 refine oq ?_
 exact z.g) : G := ah w h
def qS (h : H) (w : ae G H := by
 intro z
 refine dt ?_
 refine AD ?_
 exact z.g) : G := ah w h
def xA (h : H) (w : ae G H := by
 intro z
 refine rA ?_ (x := lF fV)
 refine er ?_
 exact z.g) : G := ah w h
def qT (h : H) (w : ae G H := by
 intro z
 refine fU ?_
 refine aP ?_
 refine oh ?_
 exact z.g) : G := ah w h
def qU (h : H) (w : ae G H := by
 intro z
 refine oq ?_
 refine wx ?_
 exact z.g) : G := ah w h
def uK (h : H) (w : ae G H := by
 intro z
 refine sS [0, 3] [] ?_
 refine cB ?_
 exact z.g) : G := ah w h
def xB (h : H) (w : ae G H := by
 intro z
 refine sS [1, 2, 3, 16] [1] ?_
 refine la ?_
 exact z.g) : G := ah w h
def xC (h : H) (w : ae G H := by
 intro z
 refine rA ?_ (x := lF mn)
 refine qD ?_
 exact z.g) : G := ah w h
def Mo (h : H) (w : ae G H := by
 intro z
 refine rA ?_ (x := bI (by decide) jH (by exact nl rfl))
 refine rA ?_ (x := lE [sl .v _] jI)
 exact z.g) : G := ah w h
def xD (h : H) (w : ae G H := by
 intro z
 refine sP [1, 2, 4] [2] ?_
 refine jq ?_
 exact z.g) : G := ah w h
def xE (h : H) (w : ae G H := by
 intro z
 refine zf g11 ?_
 refine rA ?_ (x := aK g11)
 exact z.g) : G := ah w h
def xF (h : H) (w : ae G H := by
 intro z
 refine zf g20 ?_
 refine rA ?_ (x := aK g20)
 exact z.g) : G := ah w h
def xG (h : H) (w : ae G H := by
 intro z
 refine zf g18 ?_
 refine rA ?_ (x := aK g18)
 exact z.g) : G := ah w h
def Mp (h : H) (w : ae G H := by
 intro z
 refine aP ?_
 refine sP [0, 1, 5, 6, 7, 8, 9, 10, 11, 12, 13, 14, 15, 2900, 5000] [0, 6, 8, 13, 900] ?_
 exact z.g) : G := ah w h
def xH (h : H) (w : ae G H := by
 intro z
 refine rA ?_ (x := cM Cp.ptr)
 refine lQ ?_
 exact z.g) : G := ah w h
def Mq (h : H) (w : ae G H := by
 intro z
 refine rM ?_
 refine rA ?_ (x := dN (by decide) eB (by exact tI) (by exact rfl) (by omega))
 exact z.g) : G := ah w h
def Mr (h : H) (w : ae G H := by
 intro z
 refine rA ?_ (x := iz (.inr rfl) (by decide) (jl (t := 3) (e := 1)))
 refine sT [1, 2] [1] ?_
 exact z.g) : G := ah w h
def BZ (h : H) (w : ae G H := by
 intro z
 refine dA 0 ?_ (x := sM)
 refine dA 0 ?_ (x := lF fV)
 exact z.g) : G := ah w h
def Ms (h : H) (w : ae G H := by
 intro z
 refine bm ?_
 refine sS [1, 2, 4, 5, 6, 7, 8, 9, 10, 11, 12, 13, 14, 15, 16] [2, 6, 8, 10, 15] ?_
 exact z.g) : G := ah w h
def xI (h : H) (w : ae G H := by
 intro z
 refine zt gb ?_
 refine rA ?_ (x := aT gb)
 exact z.g) : G := ah w h
def xJ (h : H) (w : ae G H := by
 intro z
 refine zf ge ?_
 refine rA ?_ (x := aK ge)
 exact z.g) : G := ah w h
def Ca (h : H) (w : ae G H := by
 intro z
 refine rB gc ?_ (x := aT gd)
 refine rA ?_ (x := aK gc)
 exact z.g) : G := ah w h
def Cb (h : H) (w : ae G H := by
 intro z
 refine rB gc ?_ (x := aK gd)
 refine rA ?_ (x := aK gc)
 exact z.g) : G := ah w h
def Mt (h : H) (w : ae G H := by
 intro z
 refine rA ?_ (x := lF Vq)
 refine rA ?_ (x := lD [val _, val _, sl .v _, val _, val _] VB)
 exact z.g) : G := ah w h
def qV (h : H) (w : ae G H := by
 intro z
 refine rV ?_
 refine rM ?_
 exact z.g) : G := ah w h
def qW (h : H) (w : ae G H := by
 intro z
 refine Jk ?_
 refine rM ?_
 exact z.g) : G := ah w h
def xK (h : H) (w : ae G H := by
 intro z
 refine bG ?_
 refine sT [1, 3] [1] ?_
 exact z.g) : G := ah w h
def xL (h : H) (w : ae G H := by
 intro z
 refine eZ ?_
 refine sS [1, 2, 3] [1] ?_
 exact z.g) : G := ah w h
def qX (h : H) (w : ae G H := by
 intro z
 refine Au ?_
 refine rM ?_
 exact z.g) : G := ah w h
def xM (h : H) (w : ae G H := by
 intro z
 refine dF 1023 gb ?_
 refine dF 1023 gb ?_
 exact z.g) : G := ah w h
def xN (h : H) (w : ae G H := by
 intro z
 refine fh ?_
 refine sT [1, 2, 4] [2] ?_
 exact z.g) : G := ah w h
def Cc (h : H) (w : ae G H := by
 intro z
 refine rA ?_ (x := lN di)
 refine rA ?_ (x := cu)
 exact z.g) : G := ah w h
def Cd (h : H) (w : ae G H := by
 intro z
 refine rA ?_ (x := lN bL)
 refine rA ?_ (x := cu)
 exact z.g) : G := ah w h
def Ce (h : H) (w : ae G H := by
 intro z
 refine rB gc ?_ (x := eX)
 refine rB gc ?_ (x := sM)
 exact z.g) : G := ah w h
def Cf (h : H) (w : ae G H := by
 intro z
 refine rB gb ?_ (x := sM)
 refine rB gb ?_ (x := eN)
 exact z.g) : G := ah w h
def Cg (h : H) (w : ae G H := by
 intro z
 refine rB gc ?_ (x := sM)
 refine rB gc ?_ (x := eX)
 exact z.g) : G := ah w h
def Ch (h : H) (w : ae G H := by
 intro z
 refine dw dl ?_
 refine dA 0 ?_ (x := lF kl)
 exact z.g) : G := ah w h
def Ci (h : H) (w : ae G H := by
 intro z
 refine sS [2, 3, 4, 5, 17] [2, 3, 4] ?_
 refine uc ?_
 exact z.g) : G := ah w h
def Mu (h : H) (w : ae G H := by
 intro z
 refine sR ?_
 refine rA ?_ (x := iz (.inr rfl) (by decide) (jl (t := 184) (e := 4)))
 exact z.g) : G := ah w h
def xO (h : H) (w : ae G H := by
 intro z
 refine lP ?_
 refine rA ?_ (x := eX)
 exact z.g) : G := ah w h
def xP (h : H) (w : ae G H := by
 intro z
 refine sS [0, 2, 3] [] ?_
 refine cH ?_
 refine sP [0, 2, 3, 4] [] ?_
 exact z.g) : G := ah w h
def sN (h : H) (w : ae G H := by
 intro z
 refine kY ?_
 refine aP ?_
 refine hJ ?_
 exact z.g) : G := ah w h
def sU (h : H) (w : ae G H := by
 intro z
 refine Be ?_
 refine eZ ?_
 refine wG ?_
 exact z.g) : G := ah w h
def Cj (h : H) (w : ae G H := by
 intro z
 refine rB ga ?_ (x := lD [val _] au)
 refine As ?_
 exact z.g) : G := ah w h
def Ck (h : H) (w : ae G H := by
 intro z
 refine rZ ?_
 refine rA ?_ (x := vA false [sl .v _])
 exact z.g) : G := ah w h
def sV (h : H) (w : ae G H := by
 intro z
 refine AQ ?_
 refine dZ ?_
 exact z.g) : G := ah w h
def sW (h : H) (w : ae G H := by
 intro z
 refine jU ?_
 refine fF ?_
 exact z.g) : G := ah w h
end Go.Proofs.YtmekkgdboplbjaaGreat.M
