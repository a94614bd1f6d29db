/- What functions of the program compute. No condition. -/
import Derived.Test.YtmekkgdboplbjaaGreatCL0
set_option linter.all false
namespace Go.Proofs.YtmekkgdboplbjaaGreat
open Go Go.RowKit M PV Tryz
set_option maxRecDepth 10000
attribute [local irreducible] PV.Lcl PV.LclR RV.Lcl
def Pf : gE prog 54 = some [(0, 1), (1, 1)] := by kernel_rfl
def Dj {v : aU} {t : Int}  : aB prog 229 [(true, [val (vI v.Id), sl .v (v.Values.map ak), val (vI v.acI), val (vI v.acE)]), (false, [val (vI t)])] (aA [(false, [val (.bool (eK v t))])]) := by
 refine sF func229 fun h0 w0 Fz0 => ?_
 exact GF
def Pg {v : aU} {t : Int}  : aB prog 196 [(true, [val (vI v.Id), sl .v (v.Values.map ak), val (vI v.acI), val (vI v.acE)]), (false, [val (vI t)])] (aA [(false, [val (.bool (eK v t))])]) := by
 refine sF func196 fun h0 w0 Fz0 => ?_
 exact GF
def Zu {v : aU}  (hb : bW v ≤ 68719476736) : aB prog 171 [(true, [val (vI v.Id), sl .v (v.Values.map ak), val (vI v.acI), val (vI v.acE)])] (aA [(true, [val (vI (fX v).Id), sl aa ((fX v).Values.map ak)])]) := by
 refine sF func171 fun h0 w0 Fz0 => ?_
 refine sn 0 1 fun hl0_1 => ?_
 have hbu := hb
 simp only [bW, ek, bd] at hbu
 refine qz ?_
 refine xl ?_
 refine mQ ?_
 refine dA 0 ?_ (x := lF na)
 refine dA 1 ?_ (x := lD [val _] au)
 refine dA 0 ?_ (x := lF jE)
 refine Lr ?_
 refine dA 31 ?_ (x := fB (qs := [(false, [val _]), (false, [sl _ _])]) (cs := [val _, sl _ _]) (by decide) ja mp Pf (by exact rfl) (by exact (aI (by exact tI) (aI (by exact tI) tI))) rfl (by exact rfl))
 exact Gu
def Zv {v : aU} {w : aU}  : aB prog 198 [(true, [val (vI v.Id), sl .v (v.Values.map ak), val (vI v.acI), val (vI v.acE)]), (true, [val (vI w.Id), sl .v (w.Values.map ak), val (vI w.acI), val (vI w.acE)])] (aA [(false, [val (.bool (rl v w))])]) := by
 refine sF func198 fun h0 w0 Fz0 => ?_
 refine sn 0 1 fun hl0_1 => ?_
 refine sn 1 1 fun hl1_1 => ?_
 refine Bo ?_
 refine sx ?_
 refine rA ?_ (x := lD [val _, sl .v _, val _, val _] en)
 refine BQ ?_
 refine rA ?_ (x := cL [(true, [val _, sl _ _, val _, val _]), (false, [val _])] [(true, [val _, sl .v _, val _, val _]), (false, [val _])] CX (hs := by exact Dj))
 refine rM ?_
 refine cx 9 (fun ga sga => ?_) (fun ga sga => ?_)
 refine zt ga ?_
 refine rA ?_ (x := aT ga)
 exact GG
 refine rB ga ?_ (x := lD [val _, sl .v _, val _, val _] en)
 refine rB ga ?_ (x := lF jF)
 refine rB ga ?_ (x := lD [val _] au)
 refine rB ga ?_ (x := cL [(true, [val _, sl _ _, val _, val _]), (false, [val _])] [(true, [val _, sl .v _, val _, val _]), (false, [val _])] CX (hs := by exact Dj))
 refine rA ?_ (x := aK ga)
 exact GG
def Zw {a : aU} {b : aU}  : aB prog 162 [(true, [val (vI a.Id), sl .v (a.Values.map ak), val (vI a.acI), val (vI a.acE)]), (true, [val (vI b.Id), sl .v (b.Values.map ak), val (vI b.acI), val (vI b.acE)])] (aA [(false, [val (.bool (kq a b))])]) := by
 refine sF func162 fun h0 w0 Fz0 => ?_
 refine sn 0 1 fun hl0_1 => ?_
 refine sn 1 1 fun hl1_1 => ?_
 refine Bo ?_
 refine sx ?_
 refine xz ?_
 refine et ?_
 refine rM ?_
 refine cx 10 (fun ga sga => ?_) (fun ga sga => ?_)
 refine kG ?_
 refine ar.cases (s := 22) rfl (fun g2 => ?_) (fun g2 => nomatch g2)
 refine xb ?_
 exact rQ
 refine rB ga ?_ (x := lF gG)
 refine rB ga ?_ (x := lD [val _] au)
 refine rB ga ?_ (x := eX)
 refine rB ga ?_ (x := sM)
 refine cx 14 (fun gb sgb => ?_) (fun gb sgb => ?_)
 refine rB gb ?_ (x := lF gG)
 refine rB gb ?_ (x := lD [val _] au)
 refine rB gb ?_ (x := lF jF)
 refine BS ?_
 refine rB ga ?_ (x := aT gb)
 refine ou ?_
 refine cx 22 (fun gc sgc => ?_) (fun gc sgc => ?_)
 refine sy ?_
 exact rQ
 refine xk ?_
 refine Ce ?_
 refine cx 26 (fun gd sgd => ?_) (fun gd sgd => ?_)
 refine rB gd ?_ (x := lF gG)
 refine rB gd ?_ (x := lD [val _] au)
 refine rB gd ?_ (x := lF jF)
 refine rB gd ?_ (x := lD [val _] au)
 refine rB gd ?_ (x := iR)
 refine Ca ?_
 exact rQ
 refine zf gd ?_
 refine Cb ?_
 exact rQ
 refine zf gb ?_
 refine rB ga ?_ (x := aK gb)
 refine ou ?_
 refine ar.cases (s := 22) rfl (fun g6 => nomatch g6) (fun g6 => ?_)
 refine rB g6 ?_ (x := lF gG)
 refine rB g6 ?_ (x := lD [val _] au)
 refine rB g6 ?_ (x := eX)
 refine rB g6 ?_ (x := sM)
 refine cx 26 (fun gc sgc => ?_) (fun gc sgc => ?_)
 refine xk ?_
 refine rB gc ?_ (x := lF jF)
 refine rB gc ?_ (x := lD [val _] au)
 refine rB gc ?_ (x := iR)
 refine rB g6 ?_ (x := aT gc)
 refine rA ?_ (x := aK g6)
 exact rQ
 refine zf gc ?_
 refine rB g6 ?_ (x := aK gc)
 refine rA ?_ (x := aK g6)
 exact rQ
def Zx {v : aU} {now : Int}  (hn : now ≤ 100000) : aB prog 161 [(true, [val (vI v.Id), sl .v (v.Values.map ak), val (vI v.acI), val (vI v.acE)]), (false, [val (vI now)])] (aA [(false, [val (.bool (eQ now v))])]) := by
 refine sF func161 fun h0 w0 Fz0 => ?_
 refine sn 0 1 fun hl0_1 => ?_
 refine qz ?_
 refine jW ?_
 refine Bh ?_
 refine rA ?_ (x := lF jE)
 refine rA ?_ (x := lD [sl .v _] bv)
 refine rA ?_ (x := fB (qs := [(false, [val _]), (false, [sl _ _])]) (cs := [val _, sl _ _]) (by decide) ja mp Pf (by exact rfl) (by exact (aI (by exact tI) (aI (by exact tI) tI))) rfl (by exact rfl))
 refine rA ?_ (x := cL [(true, [val _, sl _ _])] [(true, [val _, sl .v _])] CE (hs := by exact (Dh (x := ⟨v.Id, v.Values⟩))))
 refine rM ?_
 refine cx 11 (fun ga sga => ?_) (fun ga sga => ?_)
 refine rB ga ?_ (x := lF jF)
 refine rB ga ?_ (x := lD [val _] au)
 refine rB ga ?_ (x := sM)
 refine rB ga ?_ (x := cL [(false, [val _]), (false, [val _]), (false, [val _])] [(false, [val _]), (false, [val _]), (false, [val _])] gv (hs := by exact gz))
 refine gR ?_
 refine cx 17 (fun gb sgb => ?_) (fun gb sgb => ?_)
 refine rB gb ?_ (x := lF gG)
 refine qH ?_
 refine rB gb ?_ (x := sM)
 refine cx 21 (fun gc sgc => ?_) (fun gc sgc => ?_)
 refine zt gc ?_
 refine rB gb ?_ (x := aT gc)
 refine rA ?_ (x := aT gb)
 exact vZ
 refine xk ?_
 refine rB gc ?_ (x := lF jF)
 refine rB gc ?_ (x := lD [val _] au)
 refine rB gc ?_ (x := yY (by decide) (by exact tI) (eV rfl) (by simp only [aW, bq, decide_eq_true_eq] at *; unfold mF; omega))
 refine KG ?_
 refine rB gb ?_ (x := aK gc)
 refine rA ?_ (x := aT gb)
 exact vZ
 refine uA ?_
 exact vZ
 refine hM ?_
 refine ar.cases (s := 17) rfl (fun g4 => nomatch g4) (fun g4 => ?_)
 refine st ?_
 exact vZ
def Zy {p1 p2 : Fl} {s : Store}  (hb : cd s ≤ 68719476736) : aB prog 94 [(true, [sl .v (s.act.map (aC p1 p2)), val (vI s.Now)])] (aA [(false, [sl aS ((ct s).map (cX .v))])]) := by
 refine sF func94 fun h0 w0 Fz0 => ?_
 refine sn 0 0 fun hl0_0 => ?_
 refine jy ?_
 refine rA ?_ (x := iz (.inr rfl) (by decide) (jl (t := 184) (e := 4)))
 refine sT [1, 2] [1] ?_
 refine sd ?_
 refine aP ?_
 refine sS [1, 2, 3] [1] ?_
 refine cH ?_
 refine sP [1, 2, 3, 4] [1] ?_
 refine sL [1, 2] [1] (fun k : Nat => k ≤ s.act.length) (fun k : Nat => [(3, RV.slc aS ((dm s k).map (cX .v))), (4, RV.int (k : Int))]) (fun k : Nat => []) (fun k : Nat => s.act.length - k) 0 (by omega) (by exact aI (by exact rfl) (aI (by exact rfl) tI)) (by exact tI) ?_
 rintro k hk
 refine eH ?_
 refine sD ?_
 refine sc (fun hba => ?_) (fun hba => ?_)
 have hlt : k < s.act.length := by omega
 have hal := rm s
 have hsp := congrArg List.length (CN hlt)
 simp only [aV] at hsp
 refine bB ?_
 refine sH [1, 2, 3, 4] [1] ?_
 refine rA ?_ (x := tM)
 refine qV ?_
 refine rA ?_ (x := aY (by decide) di (by exact tI) (by exact rfl) (by exact bc (by omega) rfl) (by exact rfl))
 refine rA ?_ (x := nA (qs := [sl .v _]) (by decide) gx (fun _ => rfl) (by exact nl rfl) (by exact (am.cons (PV.to_map (fun _ => (ap (am.cons (PV.to_map (fun _ => (ap am.nil))) (ap (ap am.nil)))))) am.nil)) (by exact (an.cons (bor_sl _) an.nil)))
 refine rA ?_ (x := iN (by decide) cv fz rfl rfl (by decide) (by first | (intro cs hcs; obtain ⟨x, _, rfl⟩ := List.mem_map.1 hcs; exact rfl) | simp) (by first | (intro cs hcs; obtain ⟨x, _, rfl⟩ := List.mem_map.1 hcs; exact (by exact lq)) | simp) (by simp only [aq, aV, List.length_cons, List.length_nil]; omega) (by simp only [aq, aV, List.length_cons, List.length_nil]; omega))
 refine rA ?_ (x := tA)
 refine sG [1, 2, 3, 4] [1] ?_
 refine cW ?_
 refine nx (k + 1) (by omega) (e := (by exact aI (by exact cG (by rw [va hlt, bT]; rfl)) (aI (by exact rfl) tI)))
 have hend : k = s.act.length := by omega
 refine bG ?_
 refine sT [1, 2, 3, 4] [1] ?_
 refine ov ?_
 exact (aI (by refine cG ?_; rw [hend, CO]) tI)
def Ph {p1 p2 : Fl} {s : Store}  (hb : cd s ≤ 68719476736) : aB prog 64 [(true, [sl .v (s.act.map (aC p1 p2)), val (vI s.Now)])] (aA [(false, [val (.bool (dI s))])]) := by
 refine sF func64 fun h0 w0 Fz0 => ?_
 refine sn 0 0 fun hl0_0 => ?_
 refine jy ?_
 refine lU ?_
 refine lR ?_
 refine rA ?_ (x := cL [(false, [val _]), (false, [val _]), (false, [val _])] [(false, [val _]), (false, [val _]), (false, [val _])] gv (hs := by exact gz))
 refine gp ?_
 refine cx 12 (fun ga sga => ?_) (fun ga sga => ?_)
 exact GH
 refine rB ga ?_ (x := lF fV)
 refine tX ?_
 refine mP ?_
 refine sc (fun hba => ?_) (fun hba => ?_)
 exact zW
 have hpr : np s = true := by simp_all [np]
 have hnow : 0 ≤ s.Now ∧ s.Now ≤ 100000 := by have h_ := hpr; simp [np, aW] at h_; omega
 refine uJ ?_
 refine uD ?_
 refine sL [1] [1] (fun k : Nat => k ≤ s.act.length ∧ (s.act.take k).all lu = true) (fun k : Nat => [(3, RV.int (k : Int))]) (fun k : Nat => []) (fun k : Nat => s.act.length - k) 0 (by exact ⟨by omega, by simp⟩) (by exact aI (by exact rfl) tI) (by exact tI) ?_
 rintro k ⟨hk, ha⟩
 refine eH ?_
 refine sD ?_
 refine sc (fun hbb => ?_) (fun hbb => ?_)
 have hlt : k < s.act.length := by omega
 refine bB ?_
 refine sT [1, 3] [1] ?_
 refine qV ?_
 refine rZ ?_
 refine rA ?_ (x := lN cv)
 refine rA ?_ (x := eN)
 refine sc (fun hbc => ?_) (fun hbc => ?_)
 have hbad : dI s = false := NO hlt (by omega)
 refine sS [1, 3] [1] ?_
 exact kW
 have hyes : lu s.act[k] = true := by simp [lu]; omega
 refine uE ?_
 exact ql
 have hsm : s.act.all lu = true := jY (by rw [show s.act.length = k by omega]; exact ha)
 have hal := rm s
 refine xK ?_
 refine rA ?_ (x := lD [sl .v _, val _] dV)
 refine rA ?_ (x := cL [(true, [sl _ _, val _])] [(true, [sl .v _, val _])] XM (hs := by exact Zy (by omega)))
 refine sq ?_
 refine sS [1, 3, 4] [1] ?_
 refine cH ?_
 refine sP [1, 3, 4, 5] [1] ?_
 refine sL [1, 3, 4] [1] (fun i : Nat => i ≤ (ct s).length ∧ oP s.Now (ct s) i = true) (fun i : Nat => [(5, RV.int (i : Int))]) (fun i : Nat => []) (fun i : Nat => (ct s).length - i) 0 (by exact ⟨by omega, rfl⟩) (by exact aI (by exact rfl) tI) (by exact tI) ?_
 rintro i ⟨hi, hg⟩
 refine cP ?_
 refine oj ?_
 refine sc (fun hbc => ?_) (fun hbc => ?_)
 have hlt2 : i < (ct s).length := by omega
 refine cO ?_
 refine aP ?_
 refine sQ [1, 3, 4, 5] [1] ?_
 refine pA ?_
 refine Kq ?_
 refine dA 0 ?_ (x := lF fV)
 refine dA 16 ?_ (x := lD [val _] au)
 refine dA 63 ?_ (x := cL [(true, [val _, sl _ _, val _, val _]), (false, [val _])] [(true, [val _, sl .v _, val _, val _]), (false, [val _])] WK (hs := by exact (Zx (by omega))))
 refine dA 127 ?_ (x := nT)
 refine sc (fun hbd => ?_) (fun hbd => ?_)
 have hvo : eQ s.Now ((ct s).getD i v0) = false := by simp_all
 have hbad := yd hlt2 (NM hvo)
 refine sS [1, 3, 4, 5] [1] ?_
 exact kW
 have hvo : eQ s.Now ((ct s).getD i v0) = true := by simp_all
 refine bm ?_
 refine sS [1, 3, 4, 5] [1] ?_
 refine cH ?_
 refine sP [1, 3, 4, 5, 6] [1] ?_
 refine sL [1, 3, 4, 5] [1] (fun m : Nat => m ≤ i ∧ gC (ct s) i m = true) (fun m : Nat => [(6, RV.int (m : Int))]) (fun m : Nat => []) (fun m : Nat => i - m) 0 (by exact ⟨by omega, rfl⟩) (by exact aI (by exact rfl) tI) (by exact tI) ?_
 rintro m ⟨hm, hfr⟩
 refine eH ?_
 refine iU ?_
 refine sc (fun hbe => ?_) (fun hbe => ?_)
 have hlt3 : m < i := by omega
 have hlt4 : m < (ct s).length := by omega
 refine cO ?_
 refine sQ [1, 3, 4, 5, 6] [1] ?_
 refine pA ?_
 refine Kq ?_
 refine eY ?_
 refine dA 48 ?_ (x := aY (k := m) (by decide) cv (by exact tI) (by rfl) (by exact bc hlt4 (by rw [iH (d := v0) hlt4])) (by exact rfl))
 refine dA 112 ?_ (x := lE [val _, sl .v _, val _, val _] en)
 refine dA 255 ?_ (x := cL [(true, [val _, sl _ _, val _, val _]), (true, [val _, sl _ _, val _, val _])] [(true, [val _, sl .v _, val _, val _]), (true, [val _, sl .v _, val _, val _])] WL (hs := by exact Zw))
 refine dA 511 ?_ (x := nT)
 refine sc (fun hbf => ?_) (fun hbf => ?_)
 have hap : kq ((ct s).getD i v0) ((ct s).getD m v0) = false := by simp_all
 have hbad := yd hlt2 (NN hlt3 hap)
 refine sS [1, 3, 4, 5, 6] [1] ?_
 exact kW
 have hap : kq ((ct s).getD i v0) ((ct s).getD m v0) = true := by simp_all
 refine bm ?_
 refine sG [1, 3, 4, 5, 6] [1] ?_
 refine cW ?_
 exact GI
 have hend2 : m = i := by omega
 refine bG ?_
 refine sH [1, 3, 4, 5, 6] [1] ?_
 refine cW ?_
 refine nx (i + 1) (by refine ⟨by omega, ?_⟩; rw [NL, hg, Bool.true_and]; unfold nn; rw [hvo, Bool.true_and, ← hend2]; rw [hend2] at hfr ⊢; exact hfr)
 have hend1 : i = (ct s).length := by omega
 rw [hend1] at hg
 refine bG ?_
 refine sT [1, 3, 4, 5] [1] ?_
 refine cB ?_
 exact rb (by unfold dI; rw [hpr, hsm, hg]; rfl)
def Pi {p1 p2 : Fl} {s : Store}  (hb : cd s ≤ 68719476736) : aB prog 97 [(true, [sl .v (s.act.map (aC p1 p2)), val (vI s.Now)])] (aA [(false, [val (.bool (dI s))])]) := by
 refine sF func97 fun h0 w0 Fz0 => ?_
 refine sn 0 0 fun hl0_0 => ?_
 have hbu := hb
 simp only [cd, eO, bd] at hbu
 refine jy ?_
 refine lU ?_
 refine lR ?_
 refine KR ?_
 refine cx 15 (fun ga sga => ?_) (fun ga sga => ?_)
 exact GH
 refine rB ga ?_ (x := lF fV)
 refine Cj ?_
 refine rA ?_ (x := aK ga)
 refine sc (fun hba => ?_) (fun hba => ?_)
 exact zW
 have hpr : np s = true := by simp_all [np]
 have hnow : 0 ≤ s.Now ∧ s.Now ≤ 100000 := by have h_ := hpr; simp [np, aW] at h_; omega
 have hal := rm s
 refine bm ?_
 refine sS [1, 2] [1] ?_
 refine sd ?_
 refine aP ?_
 refine sS [1, 2, 3] [1] ?_
 refine lR ?_
 refine dZ ?_
 refine sP [1, 2, 3, 23, 24, 25] [1] ?_
 refine sL [1, 23, 24] [1] (fun k : Nat => k ≤ s.act.length ∧ ((s.act.take k).all lu = true ∧ oP s.Now (ct s) (dm s k).length = true)) (fun k : Nat => [(3, RV.slc aS ((dm s k).map (cX .v))), (25, RV.int (k : Int))]) (fun k : Nat => []) (fun k : Nat => s.act.length - k) 0 (by exact ⟨by omega, ⟨by simp, rfl⟩⟩) (by exact aI (by exact rfl) (aI (by exact rfl) tI)) (by exact tI) ?_
 rintro k ⟨hk, ha⟩
 refine cF ?_
 refine sc (fun hbb => ?_) (fun hbb => ?_)
 have hlt : k < s.act.length := by omega
 have hwm := cT (f := bX) hlt
 have hws : bX s.act[k] = s.act[k].length + (s.act[k].map bW).sum := rfl
 refine bB ?_
 refine sT [1, 3, 23, 24, 25] [1] ?_
 refine Ck ?_
 refine aP ?_
 refine sS [1, 3, 5, 23, 24, 25] [1] ?_
 refine AQ ?_
 refine rA ?_ (x := eN)
 refine sc (fun hbc => ?_) (fun hbc => ?_)
 have hbad : dI s = false := NO hlt (by omega)
 refine sS [1, 3, 5, 23, 24, 25] [1] ?_
 exact kW
 have hyes : lu s.act[k] = true := by simp [lu]; omega
 refine bm ?_
 refine sS [1, 3, 5, 23, 24, 25] [1] ?_
 refine sV ?_
 refine sP [1, 3, 5, 23, 24, 25, 32, 33, 34] [1] ?_
 refine sL [1, 5, 23, 24, 25, 32, 33] [1] (fun j : Nat => j ≤ s.act[k].length ∧ oP s.Now (ct s) ((dm s k).length + j) = true) (fun j : Nat => [(3, RV.slc aS ((dm s k ++ s.act[k].take j).map (cX .v))), (34, RV.int (j : Int))]) (fun j : Nat => []) (fun j : Nat => s.act[k].length - j) 0 (by exact ⟨by omega, ha.2⟩) (by exact aI (by exact cG (by simp)) (aI (by exact rfl) tI)) (by exact tI) ?_
 rintro j ⟨hj, hg⟩
 refine cF ?_
 refine sc (fun hbd => ?_) (fun hbd => ?_)
 have hlt2 : j < s.act[k].length := by omega
 have hwm2 := cT (f := bW) hlt2
 have hag := NP hlt hlt2
 have hat := VG hlt (Nat.le_of_lt hlt2)
 have hln : (dm s k ++ s.act[k].take j).length = (dm s k).length + j := by rw [aV, br]; omega
 have hlm : (s.act[k].take j).length = j := by rw [br]; omega
 refine bB ?_
 refine sT [1, 3, 5, 23, 24, 25, 32, 33, 34] [1] ?_
 refine wE ?_
 refine ua ?_
 refine fF ?_
 refine sO [(1, _), (3, _), (5, _), (7, _), (23, _), (24, _), (25, _), (32, _), (33, _), (34, _)] [(1, _), (7, (184, [val _, sl _ _, val _, val _]))] ?_
 refine bf ?_
 refine Kw ?_
 refine rA ?_ (x := cL [(true, [val _, sl _ _])] [(true, [val _, sl .v _])] CG (hs := by exact Dg))
 refine gp ?_
 refine cx 42 (fun gb sgb => ?_) (fun gb sgb => ?_)
 refine ox ?_
 refine ar.cases (s := 50) rfl (fun g8 => ?_) (fun g8 => nomatch g8)
 refine zt g8 ?_
 refine rA ?_ (x := aT g8)
 refine dr ?_
 exact zX
 refine rB gb ?_ (x := lF jF)
 refine rB gb ?_ (x := lD [val _] au)
 refine rB gb ?_ (x := lF fV)
 refine wC ?_
 refine sE ?_
 refine cx 50 (fun gc sgc => ?_) (fun gc sgc => ?_)
 refine sy ?_
 refine dr ?_
 exact zX
 refine xk ?_
 refine Ce ?_
 refine cx 54 (fun gd sgd => ?_) (fun gd sgd => ?_)
 refine rB gd ?_ (x := lF gG)
 refine rB gd ?_ (x := lD [val _] au)
 refine rB gd ?_ (x := lF jF)
 refine rB gd ?_ (x := lD [val _] au)
 refine rB gd ?_ (x := yY (by decide) (by exact tI) (eV rfl) (by simp only [aW, bq, decide_eq_true_eq] at *; unfold mF; omega))
 refine rB gd ?_ (x := lF fV)
 refine AO ?_
 refine rB gd ?_ (x := nT)
 refine Ca ?_
 refine sc (fun hbe => ?_) (fun hbe => ?_)
 exact zX
 have hvo : eQ s.Now s.act[k][j] = true := by first | (simp_all [eQ, fX]; done) | (simp_all [eQ, fX]; omega)
 refine dt ?_
 refine sS [1, 3, 5, 7, 23, 24, 25, 32, 33, 34] [1, 7] ?_
 refine sV ?_
 refine JB ?_
 rintro m ⟨hm, hfr⟩
 refine cF ?_
 refine sc (fun hbf => ?_) (fun hbf => ?_)
 have hlt3 : m < (dm s k).length + j := by omega
 have hlt4 : m < (dm s k ++ s.act[k].take j).length := by omega
 have hsg : (dm s k ++ s.act[k].take j)[m] = (ct s).getD m v0 := by rw [iH (d := v0) hlt4, hat, List.getD_eq_getElem?_getD, List.getElem?_take_of_lt hlt3, ← List.getD_eq_getElem?_getD]
 have hvm := CM hg hlt3
 have hma := NK hvo hvm
 rw [← hag.2] at hma
 refine bB ?_
 refine Ku ?_
 refine rA ?_ (x := lE [val _, sl .v _, val _, val _] en)
 refine ua ?_
 refine Ks ?_
 refine bf ?_
 refine xz ?_
 refine qX ?_
 refine cx 77 (fun ge sge => ?_) (fun ge sge => ?_)
 refine rB ge ?_ (x := lD [val _, sl .v _, val _, val _] en)
 refine JR ?_
 refine rA ?_ (x := aT ge)
 refine sc (fun hbg => ?_) (fun hbg => ?_)
 exact GJ
 exact zY
 exact GK
 exact GL
 refine zf gd ?_
 refine Cb ?_
 refine fT ?_
 have hvo : eQ s.Now s.act[k][j] = true := by first | (simp_all [eQ, fX]; done) | (simp_all [eQ, fX]; omega)
 refine dt ?_
 refine sS [1, 3, 5, 7, 23, 24, 25, 32, 33, 34] [1, 7] ?_
 refine sV ?_
 refine JB ?_
 rintro m ⟨hm, hfr⟩
 refine cF ?_
 refine sc (fun hbe => ?_) (fun hbe => ?_)
 have hlt3 : m < (dm s k).length + j := by omega
 have hlt4 : m < (dm s k ++ s.act[k].take j).length := by omega
 have hsg : (dm s k ++ s.act[k].take j)[m] = (ct s).getD m v0 := by rw [iH (d := v0) hlt4, hat, List.getD_eq_getElem?_getD, List.getElem?_take_of_lt hlt3, ← List.getD_eq_getElem?_getD]
 have hvm := CM hg hlt3
 have hma := NK hvo hvm
 rw [← hag.2] at hma
 refine bB ?_
 refine Ku ?_
 refine rA ?_ (x := lE [val _, sl .v _, val _, val _] en)
 refine ua ?_
 refine Ks ?_
 refine bf ?_
 refine xz ?_
 refine qX ?_
 refine cx 77 (fun ge sge => ?_) (fun ge sge => ?_)
 refine rB ge ?_ (x := lD [val _, sl .v _, val _, val _] en)
 refine JR ?_
 refine rA ?_ (x := aT ge)
 refine sc (fun hbf => ?_) (fun hbf => ?_)
 exact GJ
 exact zY
 exact GK
 exact GL
 have hend2 : j = s.act[k].length := by omega
 refine bG ?_
 refine sH [1, 3, 5, 23, 24, 25, 32, 33, 34] [1] ?_
 refine df ?_
 refine nx (k + 1) (by exact ⟨by omega, ⟨Cl ha.1 hlt hyes, by rw [va hlt, aV, ← hend2]; exact hg⟩⟩) (e := (by exact aI (by exact cG (by rw [hend2, cn, va hlt])) (aI (by exact rfl) tI)))
 have hend : k = s.act.length := by omega
 have hsm : s.act.all lu = true := jY (by rw [← hend]; exact ha.1)
 have hgd := ha.2
 rw [hend, CO] at hgd
 refine bG ?_
 refine sT [1, 3, 23, 24, 25] [1] ?_
 refine cB ?_
 exact rb (by unfold dI; rw [hpr, hsm, hgd]; rfl)
end Go.Proofs.YtmekkgdboplbjaaGreat
