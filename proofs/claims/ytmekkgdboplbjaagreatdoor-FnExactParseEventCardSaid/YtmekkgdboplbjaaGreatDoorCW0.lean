/- What functions of the program compute. No condition. -/
import Derived.Test.YtmekkgdboplbjaaGreatDoorCQ0
import Derived.Test.YtmekkgdboplbjaaGreatDoorCV0
set_option linter.all false
namespace Go.Proofs.YtmekkgdboplbjaaGreatDoor
open Go Go.RowKit M PV Tryz
set_option maxRecDepth 10000
attribute [local irreducible] PV.Lcl PV.LclR RV.Lcl
set_option maxHeartbeats 8000000
def rO : fg prog 25 = some [(0, 1), (1, 1), (2, 1), (3, 1)] := by kernel_rfl
def yw : fg prog 65 = some [(0, 1), (1, 1), (2, 1)] := by kernel_rfl
def jK : prog.underlying 9 = some .string := by kernel_rfl
def oC {w : ab} {l : ab}  (hl : w.length ≤ 1048576) : bI prog gl 139 [(false, [val (.string (B w))]), (false, [val (.string (B l))])] (ar [(false, [val (vI (bm (fD w l)))]), (false, [val (.bool (md w l && cc (fD w l)))])]) := by
 refine ek (rs := [(false, [val (vI (bm (fD w l)))]), (false, [val (.bool (md w l && cc (fD w l)))])]) func139 rfl (nl rfl) (cD (ak.cons (bor_val _) ak.nil) (cD (ak.cons (bor_val _) ak.nil) cN)) ?_
 intro h0 w0 Fz0
 have htp := CW w l
 refine fX ?_
 refine rK ?_
 refine sS [0, 1, 4, 5, 7000] [] ?_
 refine bU ?_
 refine rA ?_ (x := cL [(false, [val _]), (false, [val _])] [(false, [val _]), (false, [val _])] DB (hs := by exact Ei))
 refine jr ?_
 refine sS [0, 1, 4, 5, 6, 7, 7000] [] ?_
 refine eU ?_
 refine rS ?_
 refine rS ?_
 refine sS [0, 1, 4, 5, 6, 7, 8, 9, 7000] [] ?_
 refine bU ?_
 refine rM ?_
 refine cx 23 (fun ga sga => ?_) (fun ga sga => ?_)
 refine rB ga ?_ (x := sM)
 refine rA ?_ (x := aG ga)
 exact uz
 refine ai.s0f ga ?_
 refine rA ?_ (x := an ga)
 exact uz
def rP {s : ab} {b : Int}  (hl : s.length ≤ 1048576) (hu0 : 0 ≤ b) (hu1 : b ≤ 255) : aD prog 133 [(false, [val (.string (B s))]), (false, [val (.int .u8 b)])] (ar [(false, [val (vI (dk (u8 b) s))])]) := by
 refine sF func133 fun h0 w0 Fz0 => ?_
 refine jt ?_
 refine rM ?_
 refine rA ?_ (x := fQ jK)
 refine rA ?_ (x := cF)
 refine rM ?_
 refine cx 8 (fun ga sga => ?_) (fun ga sga => ?_)
 refine fU ?_
 refine bY ?_
 exact uB
 have h0 : 0 < s.length := (by have := ga; (try simp at this); omega); have hi0 := (ro (x := s[0]) hu0 hu1); have hi1 := CX (s := s) (c := u8 b) h0
 have sga := ga
 try simp only [qq] at sga
 refine rB ga ?_ (x := sM)
 refine rB ga ?_ (x := qK h0 jK)
 refine rB ga ?_ (x := sM)
 refine rB ga ?_ (x := zW)
 refine rA ?_ (x := an ga)
 refine sc ?_ ?_ <;> intro hba
 exact uB
 have hr : dk (u8 b) s = bi (s.drop 1) := CZ (by first | omega | (simp_all; done) | (simp_all; omega)) (by simp_all)
 refine aK ?_
 refine sS [0, 1, 4] [] ?_
 refine rM ?_
 refine rA ?_ (x := AA jK (u := (s.drop 1)) (by omega) (by rw [dl]))
 refine rA ?_ (x := cL [(false, [val _])] [(false, [val _])] gx (hs := by exact (gy (by rw [fJ]; omega))))
 refine rS ?_
 exact uA
def EF {s : ab} (hl : s.length ≤ 1048576) : aD prog 133 [(false, [val (.string (B s))]), (false, [val (.int .u8 113)])] (ar [(false, [val (vI (dk 113 s))])]) := rP hl (b := 113) (by decide) (by decide)
def EG {s : ab} (hl : s.length ≤ 1048576) : aD prog 133 [(false, [val (.string (B s))]), (false, [val (.int .u8 116)])] (ar [(false, [val (vI (dk 116 s))])]) := rP hl (b := 116) (by decide) (by decide)
def yx {s : ab} (hl : s.length ≤ 1048576) : aD prog 133 [(false, [val (.string (B s))]), (false, [val (.int .u8 102)])] (ar [(false, [val (vI (dk 102 s))])]) := rP hl (b := 102) (by decide) (by decide)
def EH {s : ab}  (hl : s.length ≤ 1048576) : aD prog 134 [(false, [val (.string (B s))])] (ar [(false, [val (vI (gY s).1)]), (false, [val (vI (gY s).2)])]) := by
 refine sF func134 fun h0 w0 Fz0 => ?_
 refine fX ?_
 refine cW ?_
 refine sS [0, 2, 3] [] ?_
 refine cH ?_
 refine sP [0, 2, 3, 4] [] ?_
 refine sL [0] [] (fun k : Nat => k ≤ s.length ∧ ∀ j, j < k → eB s j = false) (fun k : Nat => [(4, RV.int (k : Int))]) (fun k : Nat => []) (fun k : Nat => s.length - k) 0 (by exact ⟨by omega, fun j hj => absurd hj (Nat.not_lt_zero j)⟩) (by exact aI (by exact rfl) tI) (by exact tI) ?_
 rintro k ⟨hk, ha⟩
 refine ik ?_
 refine eS ?_
 refine rM ?_
 refine rA ?_ (x := fQ jK)
 refine rA ?_ (x := cF)
 refine sc ?_ ?_ <;> intro hba
 have hlt : k + 1 < s.length := by omega
 refine dg ?_
 refine sS [0, 4] [] ?_
 refine bU ?_
 refine eS ?_
 refine rA ?_ (x := wB k (k + 2) jK (u := ((s.drop k).take 2)) (by omega) (by omega) (by omega) (by omega) (by rw [List.drop_take, Nat.add_sub_cancel_left]))
 refine rA ?_ (x := ig)
 refine sc ?_ ?_ <;> intro hbb
 have hdy : eB s k = true := by unfold eB; simpa using hbb
 have hr := xB hlt ha hdy
 refine aT ?_
 refine sP [0, 4] [] ?_
 refine ce ck ?_
 refine dA 0 ?_ (x := sM)
 refine dA 0 ?_ (x := sM)
 refine dA 3 ?_ (x := Az k jK (u := (s.take k)) (by omega) (by omega) (by rw [List.drop_zero]))
 refine dA 7 ?_ (x := cL [(false, [val _])] [(false, [val _])] gx (hs := by exact (gy (by simp only [bQ, fJ]; omega))))
 refine dA 0 ?_ (x := sM)
 refine dA 0 ?_ (x := sM)
 refine dA 32 ?_ (x := jX)
 refine dA 112 ?_ (x := wC (k + 2) jK (u := (s.drop (k + 2))) (by omega) (by omega) (by rw [dl]))
 refine dA 255 ?_ (x := cL [(false, [val _])] [(false, [val _])] gx (hs := by exact (gy (by simp only [bQ, fJ]; omega))))
 refine dA 511 ?_ (x := sA)
 refine dA 1023 ?_ (x := sA)
 exact uC
 have hdn : eB s k = false := by unfold eB; simpa using hbb
 refine aK ?_
 refine sG [0, 4] [] ?_
 refine cY ?_
 refine nx (k + 1) (by exact ⟨by omega, Da ha hdn⟩)
 have hr := Cq (w := s) (fun j hj => ha j (by omega))
 refine cU ?_
 refine sS [0, 4] [] ?_
 refine rK ?_
 refine rK ?_
 exact uC
def EI {s : ab}  (hl : s.length ≤ 1048576) : bI prog gl 56 [(false, [val (.string (B s))])] (ar [(true, [val (vI ((bG s).getD bg).Id), val (vI ((bG s).getD bg).Gc), sl cC (((bG s).getD bg).FZ.map aV), sl aM (((bG s).getD bg).Out.map ap)]), (false, [val (.bool (bG s).isSome)])]) := by
 refine ek (rs := [(true, [val (vI ((bG s).getD bg).Id), val (vI ((bG s).getD bg).Gc), sl cC (((bG s).getD bg).FZ.map aV), sl aM (((bG s).getD bg).Out.map ap)]), (false, [val (.bool (bG s).isSome)])]) func56 rfl (nl rfl) (cD (ak.cons (bor_val _) ak.nil) cN) ?_
 intro h0 w0 Fz0
 have hsl := gw 32 s
 have htm := Dd (aa 32 s).length
 have hfl := nZ (dH (aa 32 s))
 refine sR ?_
 refine rX ?_ (x := (dZ (by decide) iy iB))
 refine nB ?_
 refine wg ?_
 refine rA ?_ (x := tA)
 refine sS [0, 2, 3, 4, 7000] [2] ?_
 refine gK ?_
 refine bZ ?_
 refine sS [0, 2, 3, 4, 5, 7000] [2] ?_
 refine lH ?_
 refine rM ?_
 refine cx 30 (fun ga sga => ?_) (fun ga sga => ?_)
 refine fU ?_
 refine rM ?_
 refine ai.cases (s := 35) rfl (fun g2 => ?_) (fun g2 => nomatch g2)
 refine nG ?_
 refine bY ?_
 exact pv
 refine rB ga ?_ (x := sM)
 refine rB ga ?_ (x := tj (by decide) (by exact tI) (aC rfl) (by omega))
 refine rB ga ?_ (x := eQ)
 refine rA ?_ (x := an ga)
 refine rM ?_
 refine cx 35 (fun gb sgb => ?_) (fun gb sgb => ?_)
 refine lv ?_
 refine bY ?_
 exact pv
 refine rB gb ?_ (x := sM)
 refine rB gb ?_ (x := fl)
 refine rA ?_ (x := an gb)
 refine sc ?_ ?_ <;> intro hba
 exact pv
 have hn4 : 4 ≤ (aa 32 s).length := by first | omega | (simp_all; omega)
 have hn2 : (aa 32 s).length % 2 = 0 := by first | omega | (simp_all; omega)
 have hn10 : (aa 32 s).length ≤ 10 := by first | omega | (simp_all; omega)
 have h0w : 0 < (aa 32 s).length := by omega
 have h1w : 1 < (aa 32 s).length := by omega
 have hlw : (aa 32 s).length - 1 < (aa 32 s).length := by omega
 have hwd0 := cQ 32 s 0
 have hwd1 := cQ 32 s 1
 have hwd2 := cQ 32 s ((aa 32 s).length - 1)
 refine aK ?_
 refine sS [0, 2, 3, 4, 5, 7000] [2] ?_
 refine qk ?_
 refine rA ?_ (x := gL [(false, [val _]), (false, [val _])] [(false, [val _]), (false, [val _])] oA (hs := by exact (oC (l := [113]) (by omega))))
 refine jr ?_
 refine sS [0, 2, 3, 4, 5, 6, 7, 7000] [2] ?_
 refine lh ?_
 refine rA ?_ (x := gL [(false, [val _]), (false, [val _])] [(false, [val _]), (false, [val _])] oA (hs := by exact (oC (l := [116]) (by omega))))
 refine jr ?_
 refine sS [0, 2, 3, 4, 5, 6, 7, 8, 9, 7000] [2] ?_
 refine ji ?_
 refine rA ?_ (x := kS)
 refine vF ?_
 refine wm ?_
 refine vp ?_
 refine rA ?_ (x := tA)
 refine rS ?_
 refine sS [0, 2, 3, 4, 5, 6, 7, 8, 9, 10, 11, 7000] [2] ?_
 refine bU ?_
 refine rA ?_ (x := tM)
 refine rA ?_ (x := cK (qs := [(false, [val _]), (false, [val _]), (false, [sl _ _])]) (cs := [val _, val _, sl _ _, sl _ _]) (by decide) iy iB rO (by exact rfl) (by exact (aI (by exact tI) (aI (by exact tI) (aI (by exact tI) tI)))) rfl (by exact rfl))
 refine vG ?_
 refine aT ?_
 refine sO [(0, _), (2, _), (3, _), (4, _), (5, _), (6, _), (7, _), (8, _), (9, _), (11, _), (12, _), (7000, _)] [(2, _), (12, (25, [val _, val _, sl _ _, sl _ _]))] ?_
 refine cd ?_
 refine bU ?_
 refine cx 68 (fun gc sgc => ?_) (fun gc sgc => ?_)
 refine rB gc ?_ (x := sM)
 refine eT ?_
 refine cx 71 (fun gd sgd => ?_) (fun gd sgd => ?_)
 refine nr ?_
 refine qw ?_
 refine cH ?_
 refine pG ?_
 rintro k hk
 refine ik ?_
 refine bU ?_
 refine nt ?_
 refine sc ?_ ?_ <;> intro hbb
 have hlt : k < (((aa 32 s).length - 4) / 2) := by omega
 have h2w : 2 + 2 * k < (aa 32 s).length := by omega
 have h3w : 3 + 2 * k < (aa 32 s).length := by omega
 have hcl := rh (aa 32 s) k
 have hw2 := cQ 32 s (2 + 2 * k)
 have hw3 := cQ 32 s (3 + 2 * k)
 have hca := kK ((aa 32 s).getD (3 + 2 * k) []) [46, 46]
 have hcz := kL ((aa 32 s).getD (3 + 2 * k) []) [46, 46]
 refine qu ?_
 refine qa ?_
 refine pU ?_
 refine jr ?_
 refine qm ?_
 refine eS ?_
 refine mZ ?_
 refine pV ?_
 refine kv ?_
 refine qt ?_
 refine eU ?_
 refine qo ?_
 refine eU ?_
 refine ql ?_
 refine pR ?_
 refine bU ?_
 refine rM ?_
 refine pI ?_
 refine pO ?_
 refine pN ?_
 refine cd ?_
 refine bU ?_
 refine cx 118 (fun ge sge => ?_) (fun ge sge => ?_)
 refine rB ge ?_ (x := sM)
 refine lG ?_
 refine cx 121 (fun gf sgf => ?_) (fun gf sgf => ?_)
 exact uD
 refine ai.s0f gf ?_
 refine rA ?_ (x := an gf)
 refine rM ?_
 refine ai.cases (s := 124) rfl (fun g13 => nomatch g13) (fun g13 => ?_)
 refine ai.s0f g13 ?_
 refine rA ?_ (x := an g13)
 exact fR
 refine ai.s0f ge ?_
 refine rA ?_ (x := an ge)
 refine rM ?_
 refine ai.cases (s := 121) rfl (fun g14 => nomatch g14) (fun g14 => ?_)
 refine ai.s0f g14 ?_
 refine rA ?_ (x := an g14)
 refine rM ?_
 refine ai.cases (s := 124) rfl (fun g15 => nomatch g15) (fun g15 => ?_)
 refine ai.s0f g15 ?_
 refine rA ?_ (x := an g15)
 exact fR
 have hend : k = (((aa 32 s).length - 4) / 2) := by omega
 subst hend
 refine qv ?_
 refine rM ?_
 refine fu ?_
 refine cx 129 (fun ge sge => ?_) (fun ge sge => ?_)
 refine zt ge ?_
 refine lG ?_
 refine ai.cases (s := 134) rfl (fun g17 => ?_) (fun g17 => nomatch g17)
 refine zt g17 ?_
 refine rA ?_ (x := aG g17)
 exact kW
 exact uH
 refine ln ?_
 refine qw ?_
 refine cH ?_
 refine pG ?_
 rintro k hk
 refine ik ?_
 refine bU ?_
 refine nt ?_
 refine sc ?_ ?_ <;> intro hbb
 have hlt : k < (((aa 32 s).length - 4) / 2) := by omega
 have h2w : 2 + 2 * k < (aa 32 s).length := by omega
 have h3w : 3 + 2 * k < (aa 32 s).length := by omega
 have hcl := rh (aa 32 s) k
 have hw2 := cQ 32 s (2 + 2 * k)
 have hw3 := cQ 32 s (3 + 2 * k)
 have hca := kK ((aa 32 s).getD (3 + 2 * k) []) [46, 46]
 have hcz := kL ((aa 32 s).getD (3 + 2 * k) []) [46, 46]
 refine qu ?_
 refine qa ?_
 refine pU ?_
 refine jr ?_
 refine qm ?_
 refine eS ?_
 refine mZ ?_
 refine pV ?_
 refine kv ?_
 refine qt ?_
 refine eU ?_
 refine qo ?_
 refine eU ?_
 refine ql ?_
 refine pR ?_
 refine bU ?_
 refine rM ?_
 refine pI ?_
 refine pO ?_
 refine pN ?_
 refine cd ?_
 refine bU ?_
 refine cx 118 (fun ge sge => ?_) (fun ge sge => ?_)
 refine rB ge ?_ (x := sM)
 refine lG ?_
 refine cx 121 (fun gf sgf => ?_) (fun gf sgf => ?_)
 exact uD
 refine ai.s0f gf ?_
 refine rA ?_ (x := an gf)
 refine rM ?_
 refine ai.cases (s := 124) rfl (fun g26 => nomatch g26) (fun g26 => ?_)
 refine ai.s0f g26 ?_
 refine rA ?_ (x := an g26)
 exact fR
 refine ai.s0f ge ?_
 refine rA ?_ (x := an ge)
 refine rM ?_
 refine ai.cases (s := 121) rfl (fun g27 => nomatch g27) (fun g27 => ?_)
 refine ai.s0f g27 ?_
 refine rA ?_ (x := an g27)
 refine rM ?_
 refine ai.cases (s := 124) rfl (fun g28 => nomatch g28) (fun g28 => ?_)
 refine ai.s0f g28 ?_
 refine rA ?_ (x := an g28)
 exact fR
 have hend : k = (((aa 32 s).length - 4) / 2) := by omega
 subst hend
 refine qv ?_
 refine rM ?_
 refine fu ?_
 refine cx 129 (fun ge sge => ?_) (fun ge sge => ?_)
 refine zt ge ?_
 refine lG ?_
 refine ai.cases (s := 134) rfl (fun g30 => ?_) (fun g30 => nomatch g30)
 refine zt g30 ?_
 refine rA ?_ (x := aG g30)
 exact kW
 exact uH
 refine ai.s0f gc ?_
 refine rA ?_ (x := an gc)
 refine rM ?_
 refine ai.cases (s := 71) rfl (fun g35 => nomatch g35) (fun g35 => ?_)
 refine ai.s0f g35 ?_
 refine rA ?_ (x := an g35)
 refine qw ?_
 refine cH ?_
 refine pG ?_
 rintro k hk
 refine ik ?_
 refine bU ?_
 refine nt ?_
 refine sc ?_ ?_ <;> intro hbb
 have hlt : k < (((aa 32 s).length - 4) / 2) := by omega
 have h2w : 2 + 2 * k < (aa 32 s).length := by omega
 have h3w : 3 + 2 * k < (aa 32 s).length := by omega
 have hcl := rh (aa 32 s) k
 have hw2 := cQ 32 s (2 + 2 * k)
 have hw3 := cQ 32 s (3 + 2 * k)
 have hca := kK ((aa 32 s).getD (3 + 2 * k) []) [46, 46]
 have hcz := kL ((aa 32 s).getD (3 + 2 * k) []) [46, 46]
 refine qu ?_
 refine qa ?_
 refine pU ?_
 refine jr ?_
 refine qm ?_
 refine eS ?_
 refine mZ ?_
 refine pV ?_
 refine kv ?_
 refine qt ?_
 refine eU ?_
 refine qo ?_
 refine eU ?_
 refine ql ?_
 refine pR ?_
 refine bU ?_
 refine rM ?_
 refine pI ?_
 refine pO ?_
 refine pN ?_
 refine cd ?_
 refine bU ?_
 refine cx 118 (fun gd sgd => ?_) (fun gd sgd => ?_)
 refine nr ?_
 refine rM ?_
 refine cx 121 (fun ge sge => ?_) (fun ge sge => ?_)
 refine rB ge ?_ (x := sM)
 refine lG ?_
 refine cx 124 (fun gf sgf => ?_) (fun gf sgf => ?_)
 refine rB gf ?_ (x := sM)
 refine rA ?_ (x := aG gf)
 exact fR
 refine ai.s0f gf ?_
 refine rA ?_ (x := an gf)
 exact fR
 refine ai.s0f ge ?_
 refine rA ?_ (x := an ge)
 refine rM ?_
 refine ai.cases (s := 124) rfl (fun g40 => nomatch g40) (fun g40 => ?_)
 refine ai.s0f g40 ?_
 refine rA ?_ (x := an g40)
 exact fR
 refine ln ?_
 refine rM ?_
 refine ai.cases (s := 121) rfl (fun g41 => nomatch g41) (fun g41 => ?_)
 refine ai.s0f g41 ?_
 refine rA ?_ (x := an g41)
 refine rM ?_
 refine ai.cases (s := 124) rfl (fun g42 => nomatch g42) (fun g42 => ?_)
 refine ai.s0f g42 ?_
 refine rA ?_ (x := an g42)
 exact fR
 have hend : k = (((aa 32 s).length - 4) / 2) := by omega
 subst hend
 refine qv ?_
 refine rM ?_
 refine fu ?_
 refine cx 129 (fun gd sgd => ?_) (fun gd sgd => ?_)
 refine nI ?_
 refine rM ?_
 refine ai.cases (s := 134) rfl (fun g44 => ?_) (fun g44 => nomatch g44)
 refine zt g44 ?_
 refine rA ?_ (x := aG g44)
 exact kW
 refine rB gd ?_ (x := lD [val _, val _, sl .v _, sl .v _] du)
 refine rB gd ?_ (x := cL [(true, [val _, val _, sl _ _, sl _ _])] [(true, [val _, val _, sl .v _, sl .v _])] nV (hs := by exact (oB (x := dH (aa 32 s)))))
 refine rB gd ?_ (x := nT)
 refine rA ?_ (x := an gd)
 refine rM ?_
 refine cx 134 (fun ge sge => ?_) (fun ge sge => ?_)
 refine zt ge ?_
 refine rA ?_ (x := aG ge)
 exact kW
 refine rB ge ?_ (x := lD [val _, val _, sl .v _, sl .v _] du)
 refine rB ge ?_ (x := gL [(true, [val _, val _, sl _ _, sl _ _])] [(true, [val _, val _, sl .v _, sl .v _])] rt (hs := by exact (rL (q := dH (aa 32 s)))))
 refine rB ge ?_ (x := sM)
 refine rB ge ?_ (x := iX)
 refine rA ?_ (x := an ge)
 exact uG
def EJ {s : ab}  (hl : s.length ≤ 1048576) : aD prog 51 [(false, [val (.string (B s))])] (ar [(true, [val (vI ((bG s).getD bg).Id), val (vI ((bG s).getD bg).Gc), sl cC (((bG s).getD bg).FZ.map aV), sl aM (((bG s).getD bg).Out.map ap)]), (false, [val (.bool (bG s).isSome)])]) := by
 refine sF func51 fun h0 w0 Fz0 => ?_
 have hsl := gw 32 s
 have hfl := nZ (gv (aa 32 s))
 refine sR ?_
 refine rX ?_ (x := (dZ (by decide) iy iB))
 refine rK ?_
 refine sT [0, 2, 3] [2] ?_
 refine rM ?_
 refine qb ?_
 refine aT ?_
 refine sS [0, 2, 3, 4] [2] ?_
 refine gK ?_
 refine rA ?_ (x := cF)
 refine sc ?_ ?_ <;> intro hba
 have hno : bG s = none := Cx (by omega)
 refine sS [0, 2, 3, 4] [2] ?_
 exact mS
 have hn4 : 4 ≤ (aa 32 s).length := by omega
 have h0w : 0 < (aa 32 s).length := by omega
 have h1w : 1 < (aa 32 s).length := by omega
 have hlw : (aa 32 s).length - 1 < (aa 32 s).length := by omega
 have hwd0 := cQ 32 s 0
 have hwd1 := cQ 32 s 1
 have hwd2 := cQ 32 s ((aa 32 s).length - 1)
 have hvl := gw 44 ((aa 32 s).getD ((aa 32 s).length - 1) [])
 refine cg ?_
 refine sP [0, 2, 3, 4] [2] ?_
 refine ce ck ?_
 refine vW ?_
 refine dA 3 ?_ (x := lE [val _] bP)
 refine dA 7 ?_ (x := cL [(false, [val _]), (false, [val _])] [(false, [val _]), (false, [val _])] oz (hs := by exact (EF (by omega))))
 refine vT ?_
 refine dA 48 ?_ (x := lE [val _] bP)
 refine dA 127 ?_ (x := cL [(false, [val _]), (false, [val _])] [(false, [val _]), (false, [val _])] oz (hs := by exact (EG (by omega))))
 refine dA 255 ?_ (x := cK (qs := [(false, [val _]), (false, [val _])]) (cs := [val _, val _, sl _ _, sl _ _]) (by decide) iy iB rO (by exact rfl) (by exact (aI (by exact tI) (aI (by exact tI) tI))) rfl (by exact rfl))
 refine bz.step 0 (by exact tI) (by exact tI) (aN.of rfl (dZ (by decide) iy iB)) (sH (cJ.of_ rfl)) (by kernel_rfl) ?_
 refine dA 1023 ?_ (x := bv (ag := true) (vs := [val _, val _, sl _ _, sl _ _]) du (by exact tI) (by exact rfl) (by exact nl rfl))
 refine aT ?_
 refine sO [(0, _), (2, _), (3, _), (4, _), (5, _)] [(2, _), (5, (25, [val _, val _, sl _ _, sl _ _]))] ?_
 refine cd ?_
 refine gK ?_
 refine bZ ?_
 refine sS [0, 2, 3, 4, 5, 6] [2, 5] ?_
 refine cH ?_
 refine sP [0, 2, 3, 4, 5, 6, 7] [2, 5] ?_
 refine sL [0, 2, 3, 4, 5, 6] [2] (fun k : Nat => k ≤ (((aa 32 s).length - 4) / 2)) (fun k : Nat => [(7, RV.int (2 + 2 * (k : Int)))]) (fun k : Nat => [(5, (25, [val (vI (dk 113 ((aa 32 s).getD 0 []))), val (vI (dk 116 ((aa 32 s).getD 1 []))), sl cC ((gZ (aa 32 s) k).map aV), sl aM (([] : List Int).map ap)]))]) (fun k : Nat => (((aa 32 s).length - 4) / 2) - k) 0 (by omega) (by exact aI (by exact rfl) tI) (by exact aI (by exact rfl) tI) ?_
 rintro k hk
 refine ik ?_
 refine eS ?_
 refine rM ?_
 refine nt ?_
 refine sc ?_ ?_ <;> intro hbb
 have hlt : k < (((aa 32 s).length - 4) / 2) := by omega
 have h2w : 2 + 2 * k < (aa 32 s).length := by omega
 have h3w : 3 + 2 * k < (aa 32 s).length := by omega
 have hcl := Co (aa 32 s) k
 have hw2 := cQ 32 s (2 + 2 * k)
 have hw3 := cQ 32 s (3 + 2 * k)
 refine dg ?_
 refine sT [0, 2, 3, 4, 5, 6, 7] [2, 5] ?_
 refine rA ?_ (x := vM false [sl .v _])
 refine eS ?_
 refine mZ ?_
 refine rA ?_ (x := cL [(false, [val _])] [(false, [val _])] Du (hs := by exact (EH (by omega))))
 refine jr ?_
 refine sP [0, 2, 3, 4, 5, 6, 7, 8, 9] [2, 5] ?_
 refine ce ck ?_
 refine dA 0 ?_ (x := lF eu)
 refine dA 1 ?_ (x := fM (ms := [sl _ _]) (qs := [sl .v _]) (by decide) ew (fun _ => rfl) (by exact nl rfl) (by exact rfl) (by exact (cG ao.nil)) (by exact (ak.cons (bor_sl _) ak.nil)))
 refine fT ?_
 refine dA 12 ?_ (x := bn (k := (2 + 2 * k)) (by decide) bp (by exact tI) (by omega) (by exact bq h2w (by rw [← dX h2w])) (by exact rfl))
 refine dA 28 ?_ (x := lE [val _] bP)
 refine dA 60 ?_ (x := cL [(false, [val _]), (false, [val _])] [(false, [val _]), (false, [val _])] oz (hs := by exact (yx (by omega))))
 refine dA 0 ?_ (x := sM)
 refine dA 0 ?_ (x := sM)
 refine dA 508 ?_ (x := cK (qs := [(false, [val _]), (false, [val _]), (false, [val _])]) (cs := [val _, val _, val _]) (by decide) iA nY yw (by exact rfl) (by exact (aI (by exact tI) (aI (by exact tI) (aI (by exact tI) tI)))) rfl (by exact rfl))
 refine dA 1020 ?_ (x := fh (qs := [(true, [val _, val _, val _])]) (by decide) cz iA (by decide) rfl rfl rfl rfl rfl (by exact nl rfl) (by exact (aI (by exact tI) tI)) rfl)
 refine dA 2047 ?_ (x := iM (by decide) cz iA rfl rfl (by decide) rfl (by simp only [bc, aX, List.length_cons, List.length_nil]; omega) (by simp only [bc, aX, List.length_cons, List.length_nil]; omega))
 refine dA 4095 ?_ (x := lF eu)
 refine dA 8191 ?_ (x := bv (ag := false) (vs := [sl _ _]) ew (by exact tI) (by exact rfl) (by exact nl rfl))
 refine sO [(0, _), (2, _), (3, _), (4, _), (5, _), (6, _), (7, _), (8, _), (9, _)] [(2, _), (5, (25, [val _, val _, sl _ _, sl _ _]))] ?_
 refine cd ?_
 refine cY ?_
 refine nx (k + 1) (by omega) (e := (by exact aI (by exact dz (by omega)) tI)) (f := (by exact aI (by rw [Cn, dJ]; exact rfl) tI))
 have hend : k = (((aa 32 s).length - 4) / 2) := by omega
 subst hend
 refine cU ?_
 refine sT [0, 2, 3, 4, 5, 6, 7] [2, 5] ?_
 refine ji ?_
 refine rA ?_ (x := kS)
 refine vF ?_
 refine wd ?_
 refine aT ?_
 refine sS [0, 2, 3, 4, 5, 6, 7, 10] [2, 5] ?_
 refine cH ?_
 refine sP [0, 2, 3, 4, 5, 6, 7, 10, 11] [2, 5] ?_
 refine sL [0, 2, 3, 4, 5, 6, 7, 10] [2] (fun k : Nat => k ≤ (aa 44 ((aa 32 s).getD ((aa 32 s).length - 1) [])).length) (fun k : Nat => [(11, RV.int (k : Int))]) (fun k : Nat => [(5, (25, [val (vI (dk 113 ((aa 32 s).getD 0 []))), val (vI (dk 116 ((aa 32 s).getD 1 []))), sl cC ((gZ (aa 32 s) (((aa 32 s).length - 4) / 2)).map aV), sl aM ((((aa 44 ((aa 32 s).getD ((aa 32 s).length - 1) [])).take k).map bi).map ap)]))]) (fun k : Nat => (aa 44 ((aa 32 s).getD ((aa 32 s).length - 1) [])).length - k) 0 (by omega) (by exact aI (by exact rfl) tI) (by exact aI (by exact rfl) tI) ?_
 rintro k hk
 refine ee ?_
 refine gK ?_
 refine rA ?_ (x := cF)
 refine sc ?_ ?_ <;> intro hbc
 have hlt : k < (aa 44 ((aa 32 s).getD ((aa 32 s).length - 1) [])).length := by omega
 have hwk := jI (List.getElem_mem hlt)
 have htl : ((aa 44 ((aa 32 s).getD ((aa 32 s).length - 1) [])).take k).length = k := by rw [bQ]; omega
 refine dg ?_
 refine sQ [0, 2, 3, 4, 5, 6, 7, 10, 11] [2, 5] ?_
 refine ce ck ?_
 refine dA 0 ?_ (x := lF lS)
 refine vz ?_
 refine wt ?_
 refine vk ?_
 refine dA 511 ?_ (x := lF lS)
 refine dA 1023 ?_ (x := bv (ag := false) (vs := [sl _ _]) fa (by exact tI) (by exact rfl) (by exact nl rfl))
 refine sO [(0, _), (2, _), (3, _), (4, _), (5, _), (6, _), (7, _), (10, _), (11, _)] [(2, _), (5, (25, [val _, val _, sl _ _, sl _ _]))] ?_
 exact tV
 have hend : k = (aa 44 ((aa 32 s).getD ((aa 32 s).length - 1) [])).length := by omega
 subst hend
 rw [dl]
 refine jo ?_
 refine sT [0, 2, 3, 4, 5, 6, 7, 10, 11] [2, 5] ?_
 refine rA ?_ (x := lD [val _, val _, sl .v _, sl .v _] du)
 refine rA ?_ (x := cL [(true, [val _, val _, sl _ _, sl _ _])] [(true, [val _, val _, sl .v _, sl .v _])] xY (hs := by exact (yt (q := gv (aa 32 s)))))
 refine rM ?_
 refine rA ?_ (x := iX)
 refine sc ?_ ?_ <;> intro hbd
 have hno : bG s = none := Cy (by first | assumption | omega | (simp_all; done) | (simp_all; omega))
 refine sS [0, 2, 3, 4, 5, 6, 7, 10, 11] [2, 5] ?_
 exact mS
 have hys := Cz (s := s) hn4 (by first | assumption | omega | (simp_all; done) | (simp_all; omega))
 refine aK ?_
 refine sS [0, 2, 3, 4, 5, 6, 7, 10, 11] [2, 5] ?_
 exact uF
end Go.Proofs.YtmekkgdboplbjaaGreatDoor
