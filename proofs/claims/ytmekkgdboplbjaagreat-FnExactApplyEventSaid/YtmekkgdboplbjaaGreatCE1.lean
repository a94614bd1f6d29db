/- What functions of the program compute. No condition. -/
import Derived.Test.YtmekkgdboplbjaaGreatCA1
import Derived.Test.YtmekkgdboplbjaaGreatCX0
set_option linter.all false
namespace Go.Proofs.YtmekkgdboplbjaaGreat
open Go Go.RowKit M PV Tryz
set_option maxRecDepth 10000
attribute [local irreducible] PV.Lcl PV.LclR RV.Lcl
set_option maxHeartbeats 8000000
def VM : fO prog 63 = some [(0, 4), (4, 1), (5, 1), (6, 1)] := by kernel_rfl
def VN : fO prog 70 = some [(0, 1), (1, 1), (2, 1), (3, 1), (4, 1)] := by kernel_rfl
def VO {q : Wt} {r : Row}  : aC prog 151 [(true, [val (vI q.Id), val (vI q.Wx), sl .v (q.Wu.map bf), sl .v (q.Out.map ak)]), (true, [val (vI r.Id), sl .v (r.Values.map ak)])] (az [(false, [val (.bool (e7 q r))])]) := by
 refine sF func151 fun h0 w0 Fz0 => ?_
 refine sn 0 2 fun hl0_2 => ?_
 refine sn 0 3 fun hl0_3 => ?_
 refine sn 1 1 fun hl1_1 => ?_
 refine mw ?_
 refine rX ?_ (x := (cI (ag := true) (cs := [val _, sl _ _]) (by decide) (by exact tI)))
 refine j6 ?_
 refine rA ?_ (x := lD [val _, val _, sl .v _, sl .v _] eK)
 refine Ia ?_
 refine cx 10 (fun ga sga => ?_) (fun ga sga => ?_)
 refine mH ?_
 exact FJ
 refine rB ga ?_ (x := lD [val _, sl .v _] eS)
 refine rB ga ?_ (x := cL [(true, [val _, sl _ _])] [(true, [val _, sl .v _])] AE (hs := by exact Be))
 refine ly ?_
 refine sc (fun hba => ?_) (fun hba => ?_)
 exact FJ
 have hok : cv q = true ∧ dt r = true := by simp_all
 refine cP ?_
 refine rA ?_ (x := lF gY)
 refine pb ?_
 refine dI ?_
 refine sP [2, 3, 4, 16, 17, 18] [2, 3] ?_
 refine sL [2, 3, 16, 17] [2, 3] (fun k : Nat => k ≤ r.Values.length ∧ (∀ i : Nat, i < k → ie q (i : Int) (r.Values.getD i 0) = true)) (fun k : Nat => [(18, RV.int (k : Int))]) (fun k : Nat => []) (fun k : Nat => r.Values.length - k) 0 (by exact ⟨by omega, fun i hi => absurd hi (Nat.not_lt_zero _)⟩) (by exact aI (by exact rfl) tI) (by exact tI) ?_
 rintro k ⟨hk, ha⟩
 refine ct ?_
 refine sc (fun hbb => ?_) (fun hbb => ?_)
 have hlt : k < r.Values.length := by omega
 refine bB ?_
 refine sT [2, 3, 16, 17, 18] [2, 3] ?_
 refine rM ?_
 refine mI ?_
 refine rS ?_
 refine sS [2, 3, 5, 6, 16, 17, 18] [2, 3] ?_
 refine rA ?_ (x := lD [val _, val _, sl .v _, sl .v _] eK)
 refine j8 ?_
 refine rA ?_ (x := cL [(true, [val _, val _, sl _ _, sl _ _]), (false, [val _]), (false, [val _])] [(true, [val _, val _, sl .v _, sl .v _]), (false, [val _]), (false, [val _])] RN (hs := by exact Uh))
 refine rA ?_ (x := nT)
 refine sc (fun hbc => ?_) (fun hbc => ?_)
 have hno : e7 q r = false := OE (i := k) (by rw [← Js hlt]; simpa using hbc)
 refine sS [2, 3, 5, 6, 16, 17, 18] [2, 3] ?_
 refine cm ?_
 exact rb (hno.symm)
 have hyes : ie q (k : Int) (r.Values.getD k 0) = true := by rw [← Js hlt]; simpa using hbc
 refine bl ?_
 refine sG [2, 3, 5, 6, 16, 17, 18] [2, 3] ?_
 refine c0 ?_
 refine nx (k + 1) (by exact ⟨by omega, fun i hi => by by_cases e : i = k; (· subst e; exact hyes); (· exact ha i (by omega))⟩)
 have hall := OD hok.1 hok.2 (fun i hi => ha i (by omega))
 refine bF ?_
 refine sT [2, 3, 16, 17, 18] [2, 3] ?_
 refine cm ?_
 exact rb (hall.symm)
def VP {p1 p2 p5 p6 p7 p8 p9 p11 p12 p13 p14 p16 p17 p18 : Fl} {e : aL}  (hb : bp e ≤ 68719000000) : aC prog 54 [(true, [sl .v (e.Store.Wr.map (aD p1 p2)), val (vI e.Store.Now), val (vI e.Ww), sl .v (e.Order.map ak), sl .v (e.Ws.map (aO p5 p6 p7 p8 p9)), sl .v (e.Done.map (aZ p11 p12 p13 p14)), sl .v (e.WE.map (a7 p16 p17 p18)), val (vI e.Steps)])] (az [(true, [sl bo ((c8 e).Store.Wr.map (aD aS aa)), val (vI (c8 e).Store.Now), val (vI (c8 e).Ww), sl aa ((c8 e).Order.map ak), sl bS ((c8 e).Ws.map (aO ay aa aa aB aa)), sl bM ((c8 e).Done.map (aZ ay aa aB aa)), sl bP ((c8 e).WE.map (a7 aa aa aa)), val (vI (c8 e).Steps)]), (false, [val (.bool (iF e))])]) := by
 refine j3 (largs := fun L => [(true, [sl (.lo L) (e.Store.Wr.map (aD (.lo L) (.lo L))), val (vI e.Store.Now), val (vI e.Ww), sl (.lo L) (e.Order.map ak), sl (.lo L) (e.Ws.map (aO (.lo L) (.lo L) (.lo L) (.lo L) (.lo L))), sl (.lo L) (e.Done.map (aZ (.lo L) (.lo L) (.lo L) (.lo L))), sl (.lo L) (e.WE.map (a7 (.lo L) (.lo L) (.lo L))), val (vI e.Steps)])]) (rs := [(true, [sl bo ((c8 e).Store.Wr.map (aD aS aa)), val (vI (c8 e).Store.Now), val (vI (c8 e).Ww), sl aa ((c8 e).Order.map ak), sl bS ((c8 e).Ws.map (aO ay aa aa aB aa)), sl bM ((c8 e).Done.map (aZ ay aa aB aa)), sl bP ((c8 e).WE.map (a7 aa aa aa)), val (vI (c8 e).Steps)]), (false, [val (.bool (iF e))])]) func54 rfl (nl rfl) (fun L => by exact (aI (aI rfl (ab.cons (aM (fun _ => nl rfl) (fun _ => (ab.cons (aM (fun _ => nl rfl) (fun _ => (ab.cons ap (ab.cons (aM (fun _ => nl rfl) (fun _ => (ab.cons ap ab.nil))) (ab.cons ap (ab.cons ap ab.nil)))))) ab.nil))) (ab.cons ap (ab.cons ap (ab.cons (aM (fun _ => nl rfl) (fun _ => (ab.cons ap ab.nil))) (ab.cons (aM (fun _ => nl rfl) (fun _ => (ab.cons ap (ab.cons ap (ab.cons (aM (fun _ => nl rfl) (fun _ => (ab.cons ap (ab.cons ap (ab.cons ap ab.nil))))) (ab.cons (aM (fun _ => nl rfl) (fun _ => (ab.cons ap ab.nil))) (ab.cons ap (ab.cons (aM (fun _ => nl rfl) (fun _ => (ab.cons ap ab.nil))) (ab.cons ap (ab.cons ap (ab.cons ap (ab.cons (aM (fun _ => nl rfl) (fun _ => (ab.cons ap (ab.cons (aM (fun _ => nl rfl) (fun _ => (ab.cons ap ab.nil))) ab.nil)))) ab.nil)))))))))))) (ab.cons (aM (fun _ => nl rfl) (fun _ => (ab.cons ap (ab.cons ap (ab.cons (aM (fun _ => nl rfl) (fun _ => (ab.cons ap (ab.cons ap (ab.cons ap ab.nil))))) (ab.cons (aM (fun _ => nl rfl) (fun _ => (ab.cons ap ab.nil))) (ab.cons ap (ab.cons ap (ab.cons (aM (fun _ => nl rfl) (fun _ => (ab.cons ap (ab.cons (aM (fun _ => nl rfl) (fun _ => (ab.cons ap ab.nil))) ab.nil)))) ab.nil))))))))) (ab.cons (aM (fun _ => nl rfl) (fun _ => (ab.cons ap (ab.cons ap (ab.cons (aM (fun _ => nl rfl) (fun _ => (ab.cons ap ab.nil))) (ab.cons (aM (fun _ => nl rfl) (fun _ => (ab.cons ap ab.nil))) (ab.cons (aM (fun _ => nl rfl) (fun _ => (ab.cons ap ab.nil))) ab.nil))))))) (ab.cons ap ab.nil))))))))) tI)) (fun L => by exact lq) ?_
 intro w0 Fz0
 refine sn 0 0 fun hl0_0 => ?_
 refine sn 0 3 fun hl0_3 => ?_
 refine sn 0 4 fun hl0_4 => ?_
 refine sn 0 5 fun hl0_5 => ?_
 refine sn 0 6 fun hl0_6 => ?_
 have hbu := hb
 simp only [bp, c6, dK, dJ] at hbu
 refine qD ?_
 refine He ?_
 refine yD ?_
 refine mp ?_
 refine Im ?_
 refine mr ?_
 refine yE ?_
 refine cx 22 (fun ga sga => ?_) (fun ga sga => ?_)
 refine jN ?_
 refine aq.cases (s := 27) rfl (fun g2 => ?_) (fun g2 => nomatch g2)
 refine oh ?_
 refine aq.cases (s := 33) rfl (fun g3 => ?_) (fun g3 => nomatch g3)
 exact FK
 refine rB ga ?_ (x := lF ju)
 refine nK ?_
 refine mB ?_
 refine cx 27 (fun gb sgb => ?_) (fun gb sgb => ?_)
 refine mE ?_
 refine aq.cases (s := 33) rfl (fun g6 => ?_) (fun g6 => nomatch g6)
 exact FL
 refine rB gb ?_ (x := lF jt)
 refine rB gb ?_ (x := lD [sl (.lo _) _] jz)
 refine rB gb ?_ (x := lN dY)
 refine rB gb ?_ (x := d4)
 refine oW ?_
 refine cx 33 (fun gc sgc => ?_) (fun gc sgc => ?_)
 exact FN
 refine rB gc ?_ (x := lF kd)
 refine rB gc ?_ (x := lD [sl (.lo _) _] kf)
 refine rB gc ?_ (x := lN ez)
 refine rB gc ?_ (x := lF dN)
 refine rB gc ?_ (x := lD [sl (.lo _) _] dC)
 refine rB gc ?_ (x := lN bI)
 refine rB gc ?_ (x := j4)
 refine rB gc ?_ (x := eg)
 refine rA ?_ (x := aK gc)
 refine sc (fun hba => ?_) (fun hba => ?_)
 exact se
 have hok : iF e = true := by
  have ho_ : bh e = true := by simp_all
  have hef_ := gI ho_
  unfold iF
  rw [ho_]
  simp only [Bool.true_and, bn, decide_eq_true_eq]
  exact ⟨by omega, by omega, by omega⟩
 obtain ⟨hoe, hst, hld, hda⟩ := wK hok
 have hef := gI hoe
 have hcl : e.Ww.toNat < e.Store.Wr.length := hef.2.2.2.1
 have hpl := wo (e := e)
 have hs4 := Bq hoe
 have hswt := Bx hoe
 refine bl ?_
 refine sS [1, 2, 3, 4] [1, 2, 4] ?_
 refine rA ?_ (x := lF gE)
 refine sU ?_
 refine pi ?_
 refine rA ?_ (x := aY (k := e.Ww.toNat) (by decide) cV (by exact tI) (by omega) (by exact be hcl (by rw [ic (d := ([] : List aT)) hcl])) (by exact rfl))
 refine rA ?_ (x := lE [sl (.lo _) _] fH)
 refine rA ?_ (x := vA false [sl (.lo _) _])
 refine sS [1, 2, 3, 4, 5] [1, 2, 4] ?_
 refine pi ?_
 refine rA ?_ (x := vM false [sl (.lo _) _])
 refine rA ?_ (x := lN ck)
 refine rA ?_ (x := eV (qs := [(false, [val _]), (false, [val _])]) (cs := [val _, val _, sl _ _, sl _ _, sl _ _]) (by decide) iC oq VN (by exact rfl) (by exact (aI (by exact tI) (aI (by exact tI) tI))) rfl (by exact rfl))
 refine yQ ?_
 refine eO ?_
 refine sO [(1, _), (2, _), (3, _), (4, _), (5, _), (6, _)] [(1, _), (2, _), (4, _), (6, (70, [val _, val _, sl _ _, sl _ _, sl _ _]))] ?_
 refine mr ?_
 refine rA ?_ (x := cL [(true, [sl (.lo _) _, val _, val _, sl (.lo _) _, sl (.lo _) _, sl (.lo _) _, sl (.lo _) _, val _])] [(true, [sl .v _, val _, val _, sl .v _, sl .v _, sl .v _, sl .v _, val _])] Rv (hs := by exact (Ut (by omega))))
 refine rA ?_ (x := lN bC)
 refine dI ?_
 refine sP [1, 2, 3, 4, 5, 6, 57, 58, 59] [1, 2, 4, 6] ?_
 refine sL [1, 2, 3, 4, 5, 6, 57, 58] [1, 2] (fun k : Nat => k ≤ (parts e).length) (fun k : Nat => [(59, RV.int (k : Int))]) (fun k : Nat => [(4, (32, [sl bo (e.Store.Wr.map (aD aS aa)), val (vI e.Store.Now), val (vI e.Ww), sl aa (e.Order.map ak), sl bS ((bX e k).map (aO ay aa aa aB aa)), sl bM (e.Done.map (aZ ay aa aB aa)), sl bP (e.WE.map (a7 aa aa aa)), val (vI e.Steps)])), (6, (70, [val (vI (fV e k).Segment), val (vI (fV e k).Base), sl aa ((fV e k).Ids.map ak), sl aa ((fV e k).Wy.map ak), sl aa ((fV e k).Rows.map ak)]))]) (fun k : Nat => (parts e).length - k) 0 (by omega) (by exact aI (by exact rfl) tI) (by exact aI (by rw [Bm]; exact rfl) (aI (by exact rfl) tI)) ?_
 rintro k hk
 have hcg := Bn (e := e) hk
 have hsl := jE (e := e) (k := k)
 refine ct ?_
 refine sc (fun hbb => ?_) (fun hbb => ?_)
 have hlt : k < (parts e).length := by omega
 obtain ⟨i, hi, hf, hid, hpp⟩ := LB hoe hlt
 have hil : i < (bX e k).length := by omega
 have hoa := wR (hef.2.2.2.2.2.2.2.2.2.1 _ (List.getElem_mem hi))
 have hwa := cR (f := bW) hi
 have hwq : bW e.Ws[i] = ce e.Ws[i].Wt + e.Ws[i].WB.length + dl e.Ws[i].Rows := by simp only [bW, dM, a9]; omega
 have hga4 := LN hoe e.Ws[i]
 have hvl := wN (b5 e) e.Ws[i].Time
 refine cF ?_
 refine GD ?_
 refine mI ?_
 refine sS [1, 2, 3, 4, 5, 6, 8, 57, 58, 59] [1, 2, 4, 6] ?_
 refine rA ?_ (x := lD [sl (.lo _) _, val _, val _, sl (.lo _) _, sl (.lo _) _, sl (.lo _) _, sl (.lo _) _, val _] bZ)
 refine rM ?_
 refine GQ ?_
 refine sP [1, 2, 3, 4, 5, 6, 8, 9, 57, 58, 59] [1, 2, 4, 6] ?_
 refine iO (d := 4) (t := 32) (D := 900) (G := 2900) (E := 108) (e := 10) (L := (Lw w0.heap.size)) (A := [sl _ _, val _, val _, sl _ _]) (B := [sl _ _, sl _ _, val _]) (es := ((bX e k)).map (aO ay aa aa aB aa)) (by exact rfl) (hP hil) (by exact rfl) (by exact rfl) rfl (by exact rfl) (fun x hx => hx) (by exact lq) (by exact lq) (by exact lq) (by exact lq) (ai.map fun x => (ai.cons lcl_val (ai.cons lcl_val (ai.cons (lcl_own (ai.map fun x => (ai.cons lcl_val (ai.cons lcl_val (ai.cons lcl_val ai.nil))))) (ai.cons (lcl_own (ai.map fun x => (ai.cons lcl_val ai.nil))) (ai.cons lcl_val (ai.cons (lcl_own (ai.map fun x => (ai.cons lcl_val ai.nil))) (ai.cons lcl_val (ai.cons lcl_val (ai.cons lcl_val (ai.cons (lcl_own (ai.map fun x => (ai.cons lcl_val (ai.cons (lcl_own (ai.map fun x => (ai.cons lcl_val ai.nil))) ai.nil)))) ai.nil))))))))))) fun uu900 cp900 jk900 hlD900 hcp900 hjk900 => ?_
 rw [ar] at hlD900 hcp900 hjk900
 refine bV (d := 900) (by exact rfl) (hO (k := i) hil) ?_
 have hA900 := iq (f := (aO ay aa aa aB aa)) (e := 10) (xs := (bX e k)) (k := i) (fun _ => rfl) (Nat.le_of_lt hil)
 refine bV (d := 900) (by exact rfl) (congrArg (fun z_ => ((((bX e k)).take i).map (aO ay aa aa aB aa)).flatten ++ ((aO ay aa aa aB aa) z_ ++ (((((bX e k)).drop (i + 1)).map (aO ay aa aa aB aa)).flatten ++ jk900.map val))) (LC hoe hlt hi hid hil)) ?_
 refine sO [(1, _), (2, _), (3, _), (4, _), (5, _), (6, _), (8, _), (9, _), (57, _), (58, _), (59, _), (2900, _)] [(1, _), (2, _), (4, (32, [sl _ _, val _, val _, sl _ _, val _, sl _ _, sl _ _, val _])), (6, _), (900, (108, _ ++ ([val _, val _, sl _ _, sl _ _, val _, sl _ _, val _, val _, val _, sl _ _] ++ _)))] ?_
 refine ba ?_
 refine rA ?_ (x := lF dN)
 refine rA ?_ (x := lD [val _] dC)
 refine rM ?_
 refine rA ?_ (x := gR (k := i) (G := 2900) (by decide) bI (by exact tI) (by omega) (by first | (rw [ar]; exact hil) | exact hil))
 refine rA ?_ (x := xy (o := 0) (ms := [val _, val _, sl _ _, sl _ _, val _, sl _ _, val _, val _, val _, sl _ _]) (qs := [val _, val _, sl .v _, sl .v _, val _, sl .v _, val _, val _, val _, sl .v _]) (by omega) (by decide) fj (fun h => nomatch h) (by exact nl rfl) (by exact rfl) (by exact (an (an (aF (aF (an (aF (an (an (an (aF am.nil))))))))))) (by exact lq))
 refine qA ?_
 refine aP ?_
 refine sO [(1, _), (2, _), (3, _), (4, _), (5, _), (6, _), (8, _), (9, _), (10, _), (57, _), (58, _), (59, _), (2900, _)] [(1, _), (2, _), (4, _), (6, _), (10, (108, [val _, val _, sl _ _, sl _ _, val _, sl _ _, val _, val _, val _, sl _ _])), (900, (108, _ ++ ([val _, val _, sl _ _, sl _ _, val _, sl _ _, val _, val _, val _, sl _ _] ++ _)))] ?_
 refine ba ?_
 refine dz ?_
 refine sS [1, 2, 3, 4, 5, 6, 8, 9, 10, 11, 57, 58, 59, 2900] [1, 2, 4, 6, 10, 900] ?_
 refine zC ?_
 refine pi ?_
 refine vm ?_
 refine rA ?_ (x := cL [(true, [sl (.lo _) _, val _]), (false, [val _]), (false, [val _])] [(true, [sl .v _, val _]), (false, [val _]), (false, [val _])] Rw (hs := by exact (VA (by omega) (by omega) (by omega))))
 refine rA ?_ (x := lN fG)
 refine dI ?_
 refine sP [1, 2, 3, 4, 5, 6, 8, 9, 10, 11, 57, 58, 59, 77, 78, 79, 2900] [1, 2, 4, 6, 10, 900] ?_
 refine CY (s := 77) (t := 54) (e := 2) (G := 6100) (f := (bu aa)) (g := (fun z : Row => [val (vI z.Id), sl .v (z.Values.map ak)])) (fN := U2) (xs := (dp (b5 e) e.Ws[i].Time)) (by exact rfl) (by exact rfl) (by exact rfl) (fun _ _ => rfl) (fun _ => rfl) (fun _ => (an (aF am.nil))) (fun _ => (ao.cons (bor_val _) (ao.cons (bor_sl _) ao.nil))) fun zr hzr => ?_
 have hzl : zr.length = (dp (b5 e) e.Ws[i].Time).length := by rw [← hzr, ar]
 have hve : (dp (e.Store.Wr.getD e.Ww.toNat []) e.Ws[i].Time).length = (dp (b5 e) e.Ws[i].Time).length := rfl
 refine sP [1, 2, 3, 4, 5, 6, 8, 9, 10, 11, 57, 58, 59, 77, 78, 79, 2900, 6100] [1, 2, 4, 6, 10, 900] ?_
 refine sL [1, 2, 3, 4, 5, 6, 8, 9, 10, 57, 58, 59, 77, 78, 2900] [1, 2, 4, 6, 900] (fun j : Nat => j ≤ zr.length) (fun j : Nat => [(11, RV.int ((gZ e e.Ws[i] j).length : Int)), (79, RV.int (j : Int)), (6100, RV.gh (bi 2 (zr.drop j)) (bG (bu aa) (zr.drop j)))]) (fun j : Nat => [(10, (108, [val (vI e.Ws[i].Wt.Id), val (vI e.Ws[i].Wt.Wx), sl ay (e.Ws[i].Wt.Wu.map bf), sl aa (e.Ws[i].Wt.Out.map ak), val (vI e.Ws[i].Time), sl aa (e.Ws[i].WB.map ak), val (vI e.Ws[i].Age), val (vI e.Ws[i].Sent), val (vI e.Ws[i].Cap), sl aB ((e.Ws[i].Rows ++ gZ e e.Ws[i] j).map (bu aa))]))]) (fun j : Nat => zr.length - j) 0 (by omega) (by exact aI (by exact rfl) (aI (by exact rfl) (aI (by exact rfl) tI))) (by exact aI (by show _ = some (108, [val (vI e.Ws[i].Wt.Id), val (vI e.Ws[i].Wt.Wx), sl ay (e.Ws[i].Wt.Wu.map bf), sl aa (e.Ws[i].Wt.Out.map ak), val (vI e.Ws[i].Time), sl aa (e.Ws[i].WB.map ak), val (vI e.Ws[i].Age), val (vI e.Ws[i].Sent), val (vI e.Ws[i].Cap), sl aB ((e.Ws[i].Rows ++ gZ e e.Ws[i] 0).map (bu aa))]); rw [show gZ e e.Ws[i] 0 = [] from rfl, dH]; exact rfl) tI) ?_
 rintro j hj
 have hgl := Bw hoe e.Ws[i] j
 refine ct ?_
 refine sc (fun hbc => ?_) (fun hbc => ?_)
 have hltz : j < zr.length := by omega
 have hjv : j < (dp (b5 e) e.Ws[i].Time).length := by omega
 have hz3 : zr[j].1 = (dp (b5 e) e.Ws[i].Time)[j] := by simp [← hzr]
 refine cF ?_
 refine Gr ?_
 refine rA ?_ (x := aY (by decide) fG (by exact tI) (by exact rfl) (by exact be (by omega) rfl) (by exact rfl))
 refine rA ?_ (x := nb (qs := [nv _ (val _), nv _ (sl .v _)]) (by decide) eS (fun h => nomatch h) (by exact nl rfl) (by exact (an (an am.nil))) (by exact (ao.cons (bor_nv (bor_val _)) (ao.cons (bor_nv (bor_sl _)) ao.nil))))
 refine rX ?_ (x := (bR (by decide) iB kV))
 refine rA ?_ (x := bd (ag := true) (vs := [nv _ (val _), nv _ (sl _ _)]) eS (by exact tI) (by exact rfl) (by exact nl rfl))
 refine sO [(1, _), (2, _), (3, _), (4, _), (5, _), (6, _), (8, _), (9, _), (10, _), (11, _), (13, _), (57, _), (58, _), (59, _), (77, _), (78, _), (79, _), (2900, _), (6100, _)] [(1, _), (2, _), (4, _), (6, _), (10, _), (13, (54, [nv _ (val _), nv _ (sl _ _)])), (900, _)] ?_
 refine xK (d := 13) (G := 6100) (e := 2) (f := (bu aa)) (z := zr[j]) (zs := (zr.drop (j + 1))) (by exact rfl) (by exact (Nm.nv (Nm.nv Nm.nil))) (fun _ => rfl) (by rw [← List.drop_eq_getElem_cons hltz]; exact rfl) ?_
 refine aP ?_
 refine sO [(1, _), (2, _), (3, _), (4, _), (5, _), (6, _), (8, _), (9, _), (10, _), (11, _), (13, _), (57, _), (58, _), (59, _), (77, _), (78, _), (79, _), (2900, _), (6100, _)] [(1, _), (2, _), (4, _), (6, _), (10, _), (13, (54, [val _, sl _ _])), (900, _)] ?_
 refine ba ?_
 refine sI ?_
 refine rA ?_ (x := lD [val _, sl .v _] eS)
 refine rA ?_ (x := cL [(true, [val _, val _, sl _ _, sl _ _]), (true, [val _, sl _ _])] [(true, [val _, val _, sl .v _, sl .v _]), (true, [val _, sl .v _])] Rx (hs := by exact VO))
 refine sc (fun hbd => ?_) (fun hbd => ?_)
 have hm : e7 e.Ws[i].Wt (dp (b5 e) e.Ws[i].Time)[j] = true := by rw [← hz3]; simpa using hbd
 refine sS [1, 2, 3, 4, 5, 6, 8, 9, 10, 11, 13, 57, 58, 59, 77, 78, 79, 2900, 6100] [1, 2, 4, 6, 10, 13, 900] ?_
 refine G3 ?_
 refine rA ?_ (x := cl (ms := [val _, sl _ _]) (qs := [val _, sl .v _]) (by decide) eS (fun h => nomatch h) (by exact nl rfl) (by exact rfl) (by exact (an (aF am.nil))) (by exact (ao.cons (bor_val _) (ao.cons (bor_sl _) ao.nil))))
 refine uD ?_
 refine zc ?_
 refine sO [(1, _), (2, _), (3, _), (4, _), (5, _), (6, _), (8, _), (9, _), (10, _), (11, _), (13, _), (57, _), (58, _), (59, _), (77, _), (78, _), (79, _), (2900, _), (6100, _)] [(1, _), (2, _), (4, _), (6, _), (10, (108, [val _, val _, sl _ _, sl _ _, val _, sl _ _, val _, val _, val _, sl _ _])), (13, (54, [val _, sl _ _])), (900, _)] ?_
 refine eP ?_
 exact FO
 have hm : e7 e.Ws[i].Wt (dp (b5 e) e.Ws[i].Time)[j] = false := by rw [← hz3]; simpa using hbd
 refine bl ?_
 exact FO
 have hjend : j = (dp (b5 e) e.Ws[i].Time).length := by omega
 have hgt : gZ e e.Ws[i] j = ko e e.Ws[i] := by rw [hjend]; exact Bo
 rw [hgt]
 refine gV ?_
 refine Gr ?_
 refine rA ?_ (x := lF jp)
 refine rA ?_ (x := lD [val _] au)
 refine rM ?_
 refine rA ?_ (x := j4)
 refine rA ?_ (x := lF jp)
 refine dS ?_
 refine GL ?_
 refine zO ?_
 refine pi ?_
 refine rA ?_ (x := cL [(false, [sl _ _]), (false, [val _])] [(false, [sl .v _]), (false, [val _])] Ry (hs := by exact (Vy (by omega))))
 refine rA ?_ (x := lF gD)
 refine jM ?_
 refine GL ?_
 refine rA ?_ (x := lF dN)
 refine rA ?_ (x := lD [val _] dC)
 refine rM ?_
 refine rA ?_ (x := cl (ms := [val _, val _, sl _ _, sl _ _, val _, sl _ _, val _, val _, val _, sl _ _]) (qs := [val _, val _, sl .v _, sl .v _, val _, sl .v _, val _, val _, val _, sl .v _]) (by decide) fj (fun h => nomatch h) (by exact nl rfl) (by exact rfl) (by exact (an (an (aF (aF (an (aF (an (an (an (aF am.nil))))))))))) (by exact lq))
 refine rA ?_ (x := gR (k := i) (G := 2900) (by decide) bI (by exact tI) (by omega) (by first | (rw [ar]; exact hil) | exact hil))
 refine rA ?_ (x := fP (o := 0) (ag := true) (vs := [val _, val _, sl _ _, sl _ _, val _, sl _ _, val _, val _, val _, sl _ _]) (by omega) fj (by exact tI) (by exact rfl) (by exact nl rfl))
 refine bV (d := 900) (by exact rfl) (lr (ox e e.Ws[i]) hil (by exact rfl)) ?_
 refine mi (d := 4) (D := 900) (G := 2900) (e := 10) (A := [sl _ _, val _, val _, sl _ _]) (B := [sl _ _, sl _ _, val _]) (es := (((bX e k)).set i (ox e e.Ws[i])).map (aO ay aa aa aB aa)) (by exact rfl) (by exact rfl) (by exact rfl) rfl (by rw [ar, List.length_set, ar]) (by intro c hc; obtain ⟨y, _, rfl⟩ := List.mem_map.1 hc; exact rfl) (by rw [ar]; exact hjk900) ?_
 refine aP ?_
 refine sO [(1, _), (2, _), (3, _), (4, _), (5, _), (6, _), (8, _), (9, _), (10, _), (11, _), (57, _), (58, _), (59, _), (77, _), (78, _), (79, _), (6100, _)] [(1, _), (2, _), (4, (32, [sl _ _, val _, val _, sl _ _, sl _ _, sl _ _, sl _ _, val _])), (6, _), (10, (108, [val _, val _, sl _ _, sl _ _, val _, sl _ _, val _, val _, val _, sl _ _]))] ?_
 refine ba ?_
 refine rA ?_ (x := lF kU)
 refine sh ?_
 refine oS ?_
 refine rA ?_ (x := lF kU)
 refine jM ?_
 refine Gx ?_
 refine rA ?_ (x := lF jx)
 refine rA ?_ (x := cl (ms := [sl _ _]) (qs := [sl .v _]) (by decide) bq (fun _ => rfl) (by exact nl rfl) (by exact rfl) (by exact (aF am.nil)) (by exact (ao.cons (bor_sl _) ao.nil)))
 refine rA ?_ (x := lF eR)
 refine rA ?_ (x := lF i5)
 refine rA ?_ (x := lD [val _] au)
 refine oS ?_
 refine rA ?_ (x := lF jx)
 refine IK ?_
 refine rA ?_ (x := lF iA)
 refine sh ?_
 refine oS ?_
 refine rA ?_ (x := lF iA)
 refine IK ?_
 refine c0 ?_
 refine nx (k + 1) (by omega) (f := (by exact aI (by rw [← LD hoe hlt hi hid]; exact rfl) (aI (by rw [UM hlt hi hf]; simp only [bN]; exact rfl) tI)))
 have hend : k = (parts e).length := by omega
 subst hend
 refine bF ?_
 refine eO ?_
 refine GD ?_
 refine vJ ?_
 refine rA ?_ (x := eg)
 refine sc (fun hbc => ?_) (fun hbc => ?_)
 have hled : gL e (parts e).length = e.WE ++ [fV e (parts e).length] := by unfold gL; rw [if_neg (by omega)]
 refine sG [1, 2, 3, 4, 5, 6, 57, 58, 59] [1, 2, 4, 6] ?_
 refine rA ?_ (x := lF jt)
 refine rA ?_ (x := cl (ms := [sl _ _]) (qs := [sl .v _]) (by decide) jz (fun _ => rfl) (by exact nl rfl) (by exact rfl) (by exact (aF am.nil)) (by exact (ao.cons (bor_sl _) ao.nil)))
 refine rA ?_ (x := cl (ms := [val _, val _, sl _ _, sl _ _, sl _ _]) (qs := [val _, val _, any, any, any]) (by decide) i8 (fun h => nomatch h) (by exact nl rfl) (by exact rfl) (by exact (an (an (am.cons PV.to_any (am.cons PV.to_any (am.cons PV.to_any am.nil)))))) (by exact lq))
 refine rA ?_ (x := b9 (qs := [(true, [val _, val _, sl _ _, sl _ _, sl _ _])]) (by decide) dY iC (by decide) rfl rfl rfl rfl rfl (by exact nl rfl) (by exact (aI (by exact tI) tI)) rfl)
 refine rA ?_ (x := eC (by decide) dY iC rfl rfl (by decide) rfl (by simp only [ar, aU, List.length_cons, List.length_nil]; omega) (by simp only [ar, aU, List.length_cons, List.length_nil]; omega))
 refine Is ?_
 refine aP ?_
 refine sO [(1, _), (2, _), (3, _), (4, _), (5, _), (6, _), (57, _), (58, _), (59, _)] [(1, _), (2, _), (4, (32, [sl _ _, val _, val _, sl _ _, sl _ _, sl _ _, sl _ _, val _])), (6, (70, [val _, val _, any, any, any]))] ?_
 refine ba ?_
 refine st ?_
 refine eO ?_
 refine sP [1, 2, 3, 4, 5, 6, 14, 57, 58, 59] [1, 2, 4, 6] ?_
 refine qo (d := 4) (t := 108) (e := 10) (G := 6200) (A := [sl _ _, val _, val _, sl _ _]) (B := [sl _ _, sl _ _, val _]) (f := (aO ay aa aa aB aa)) (g := (fun z : Ws => [val (vI z.Wt.Id), val (vI z.Wt.Wx), sl .v (z.Wt.Wu.map bf), sl .v (z.Wt.Out.map ak), val (vI z.Time), sl .v (z.WB.map ak), val (vI z.Age), val (vI z.Sent), val (vI z.Cap), sl .v (z.Rows.map (bu aa))])) (fN := en) (xs := (bX e (parts e).length)) (by exact rfl) (by exact rfl) (fun _ _ => rfl) (fun _ => rfl) (fun _ => (an (an (aF (aF (an (aF (an (an (an (aF am.nil))))))))))) (fun _ => (by exact lq)) fun za hza => ?_
 have hzal : za.length = e.Ws.length := by rw [← ar (f := Prod.fst), hza, jE]
 refine Hg ?_
 refine oe ?_
 refine Gi ?_
 rintro m hm
 have hrl2 := wP (e := e) (k := (parts e).length) (m := m)
 have hdl2 := wQ (e := e) (k := (parts e).length) (m := m)
 refine ct ?_
 refine sc (fun hbd => ?_) (fun hbd => ?_)
 have hltm : m < e.Ws.length := by omega
 have hltz : m < za.length := by omega
 have hm2 : m < (bX e (parts e).length).length := by rw [jE]; exact hltm
 have hm1 : m < (cH e (parts e).length).length := by rw [tB]; exact hltm
 have hz3 : za[m].1 = (bX e (parts e).length)[m] := by simp [← hza]
 have hab := wS hoe hltm hm2
 rw [← hz3] at hab
 refine cF ?_
 refine sO [(1, _), (2, _), (3, _), (4, _), (5, _), (6, _), (14, _), (57, _), (58, _), (59, _), (145, _), (146, _), (147, _), (6200, _)] [(1, (32, [sl (.lo _) _, val _, val _, sl (.lo _) _, sl (.lo _) _, sl (.lo _) _, sl (.lo _) _, val _])), (2, (32, [sl _ _, val _, val _, sl _ _, sl _ _, sl _ _, sl _ _, val _])), (4, (32, [sl _ _, val _, val _, sl _ _, sl _ _, sl _ _, sl _ _, val _])), (6, (70, [val _, val _, any, any, any]))] ?_
 exact FS
 have hend2 : m = e.Ws.length := by omega
 subst hend2
 refine gV ?_
 refine sO [(1, _), (2, _), (3, _), (4, _), (5, _), (6, _), (14, _), (57, _), (58, _), (59, _), (145, _), (146, _), (147, _), (6200, _)] [(1, (32, [sl (.lo _) _, val _, val _, sl (.lo _) _, sl (.lo _) _, sl (.lo _) _, sl (.lo _) _, val _])), (2, (32, [sl _ _, val _, val _, sl _ _, sl _ _, sl _ _, sl _ _, val _])), (4, (32, [sl _ _, val _, val _, sl _ _, sl _ _, sl _ _, sl _ _, val _])), (6, (70, [val _, val _, any, any, any]))] ?_
 exact FU
 have hled : gL e (parts e).length = e.WE := by unfold gL; rw [if_pos (by omega)]
 refine bl ?_
 refine sS [1, 2, 3, 4, 5, 6, 57, 58, 59] [1, 2, 4, 6] ?_
 refine st ?_
 refine eO ?_
 refine sP [1, 2, 3, 4, 5, 6, 14, 57, 58, 59] [1, 2, 4, 6] ?_
 refine qo (d := 4) (t := 108) (e := 10) (G := 6200) (A := [sl _ _, val _, val _, sl _ _]) (B := [sl _ _, sl _ _, val _]) (f := (aO ay aa aa aB aa)) (g := (fun z : Ws => [val (vI z.Wt.Id), val (vI z.Wt.Wx), sl .v (z.Wt.Wu.map bf), sl .v (z.Wt.Out.map ak), val (vI z.Time), sl .v (z.WB.map ak), val (vI z.Age), val (vI z.Sent), val (vI z.Cap), sl .v (z.Rows.map (bu aa))])) (fN := en) (xs := (bX e (parts e).length)) (by exact rfl) (by exact rfl) (fun _ _ => rfl) (fun _ => rfl) (fun _ => (an (an (aF (aF (an (aF (an (an (an (aF am.nil))))))))))) (fun _ => (by exact lq)) fun za hza => ?_
 have hzal : za.length = e.Ws.length := by rw [← ar (f := Prod.fst), hza, jE]
 refine Hg ?_
 refine oe ?_
 refine Gi ?_
 rintro m hm
 have hrl2 := wP (e := e) (k := (parts e).length) (m := m)
 have hdl2 := wQ (e := e) (k := (parts e).length) (m := m)
 refine ct ?_
 refine sc (fun hbd => ?_) (fun hbd => ?_)
 have hltm : m < e.Ws.length := by omega
 have hltz : m < za.length := by omega
 have hm2 : m < (bX e (parts e).length).length := by rw [jE]; exact hltm
 have hm1 : m < (cH e (parts e).length).length := by rw [tB]; exact hltm
 have hz3 : za[m].1 = (bX e (parts e).length)[m] := by simp [← hza]
 have hab := wS hoe hltm hm2
 rw [← hz3] at hab
 refine cF ?_
 refine sO [(1, _), (2, _), (3, _), (4, _), (5, _), (6, _), (14, _), (57, _), (58, _), (59, _), (145, _), (146, _), (147, _), (6200, _)] [(1, (32, [sl (.lo _) _, val _, val _, sl (.lo _) _, sl (.lo _) _, sl (.lo _) _, sl (.lo _) _, val _])), (2, (32, [sl _ _, val _, val _, sl _ _, sl _ _, sl _ _, sl _ _, val _])), (4, (32, [sl _ _, val _, val _, sl _ _, sl _ _, sl _ _, sl _ _, val _])), (6, (70, [val _, val _, sl _ _, sl _ _, sl _ _]))] ?_
 exact FS
 have hend2 : m = e.Ws.length := by omega
 subst hend2
 refine gV ?_
 refine sO [(1, _), (2, _), (3, _), (4, _), (5, _), (6, _), (14, _), (57, _), (58, _), (59, _), (145, _), (146, _), (147, _), (6200, _)] [(1, (32, [sl (.lo _) _, val _, val _, sl (.lo _) _, sl (.lo _) _, sl (.lo _) _, sl (.lo _) _, val _])), (2, (32, [sl _ _, val _, val _, sl _ _, sl _ _, sl _ _, sl _ _, val _])), (4, (32, [sl _ _, val _, val _, sl _ _, sl _ _, sl _ _, sl _ _, val _])), (6, (70, [val _, val _, sl _ _, sl _ _, sl _ _]))] ?_
 exact FU
end Go.Proofs.YtmekkgdboplbjaaGreat
