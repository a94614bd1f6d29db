/- What functions of the program compute. No condition. -/
import Derived.Test.YtmekkgdboplbjaaGreatCX0
import Derived.Test.YtmekkgdboplbjaaGreatCA1
set_option linter.all false
namespace Go.Proofs.YtmekkgdboplbjaaGreat
open Go Go.RowKit M PV Tryz
set_option maxRecDepth 10000
attribute [local irreducible] PV.Lcl PV.LclR RV.Lcl
set_option maxHeartbeats 8000000
def VB : xN prog 32 3 = some (4, 28) := by kernel_rfl
def VC : fO prog 108 = some [(0, 4), (4, 1), (5, 1), (6, 1), (7, 1), (8, 1), (9, 1)] := by kernel_rfl
def VD {p1 p2 p5 p6 p7 p8 p9 p11 p12 p13 p14 p16 p17 p18 : Fl} {e : aL} {q : Wt} {l : Int}  (hb : bp e ≤ 68719000000) (hbq : ce q ≤ 68719000000) : aC prog 83 [(true, [sl .v (e.Store.Wr.map (aD p1 p2)), val (vI e.Store.Now), val (vI e.Ww), sl .v (e.Order.map ak), sl .v (e.Ws.map (aO p5 p6 p7 p8 p9)), sl .v (e.Done.map (aZ p11 p12 p13 p14)), sl .v (e.WE.map (a7 p16 p17 p18)), val (vI e.Steps)]), (true, [val (vI q.Id), val (vI q.Wx), sl .v (q.Wu.map bf), sl .v (q.Out.map ak)]), (false, [val (vI l)])] (az [(true, [sl bo ((fc e q l).1.Store.Wr.map (aD aS aa)), val (vI (fc e q l).1.Store.Now), val (vI (fc e q l).1.Ww), sl aa ((fc e q l).1.Order.map ak), sl bS ((fc e q l).1.Ws.map (aO ay aa aa aB aa)), sl bM ((fc e q l).1.Done.map (aZ ay aa aB aa)), sl bP ((fc e q l).1.WE.map (a7 aa aa aa)), val (vI (fc e q l).1.Steps)]), (false, [val (.bool (fc e q l).2)])]) := by
 refine sF func83 fun h0 w0 Fz0 => ?_
 refine sn 0 0 fun hl0_0 => ?_
 refine sn 0 3 fun hl0_3 => ?_
 refine sn 0 4 fun hl0_4 => ?_
 refine sn 0 5 fun hl0_5 => ?_
 refine sn 0 6 fun hl0_6 => ?_
 refine sn 1 2 fun hl1_2 => ?_
 refine sn 1 3 fun hl1_3 => ?_
 have hbu := hb
 simp only [bp, c6, dK, dJ] at hbu
 refine iT ?_
 refine H4 ?_
 refine rK ?_
 refine sT [2, 3, 4, 6, 7] [3, 4, 6] ?_
 refine yw ?_
 refine rl ?_
 refine HR ?_
 refine yy ?_
 refine fB ?_
 refine cx 20 (fun ga sga => ?_) (fun ga sga => ?_)
 refine jN ?_
 refine aq.cases (s := 25) rfl (fun g2 => ?_) (fun g2 => nomatch g2)
 refine oh ?_
 refine aq.cases (s := 30) rfl (fun g3 => ?_) (fun g3 => nomatch g3)
 refine nS ?_
 refine rM ?_
 refine aq.cases (s := 37) rfl (fun g4 => ?_) (fun g4 => nomatch g4)
 exact E4
 refine Hq ?_
 refine ly ?_
 refine rM ?_
 refine cx 25 (fun gb sgb => ?_) (fun gb sgb => ?_)
 refine mE ?_
 refine aq.cases (s := 30) rfl (fun g7 => ?_) (fun g7 => nomatch g7)
 refine zt g7 ?_
 refine rA ?_ (x := aR g7)
 refine rM ?_
 refine aq.cases (s := 37) rfl (fun g8 => ?_) (fun g8 => nomatch g8)
 exact E5
 refine rB gb ?_ (x := sM)
 refine rB gb ?_ (x := cL [(false, [val _]), (false, [val _]), (false, [val _])] [(false, [val _]), (false, [val _]), (false, [val _])] jo (hs := by exact jC))
 refine qZ ?_
 refine cx 30 (fun gc sgc => ?_) (fun gc sgc => ?_)
 refine zt gc ?_
 refine iw ?_
 refine aq.cases (s := 37) rfl (fun g11 => ?_) (fun g11 => nomatch g11)
 exact E6
 refine IJ ?_
 refine rB gc ?_ (x := lD [val _] au)
 refine rB gc ?_ (x := cL [(true, [sl _ _, val _, val _, sl _ _, sl _ _, sl _ _, sl _ _, val _]), (false, [val _])] [(true, [sl .v _, val _, val _, sl .v _, sl .v _, sl .v _, sl .v _, val _]), (false, [val _])] KH (hs := by exact Lr))
 refine rB gc ?_ (x := hR)
 refine tb ?_
 refine cx 37 (fun gd sgd => ?_) (fun gd sgd => ?_)
 exact E7
 refine rB gd ?_ (x := lF dN)
 refine rB gd ?_ (x := lD [sl .v _] dC)
 refine rB gd ?_ (x := lN bI)
 refine rB gd ?_ (x := d4)
 refine rA ?_ (x := aK gd)
 refine sc (fun hba => ?_) (fun hba => ?_)
 exact qx
 have hok : jW e q l = true := by
  have ho_ : bh e = true := by simp_all
  have hq_ : cv q = true := by simp_all
  have hl_ : aV l 0 32 = true := by simp_all
  have hef_ := gI ho_
  unfold jW
  rw [ho_, hq_, hl_]
  simp only [Bool.true_and, bn, decide_eq_true_eq]
  exact ⟨by omega, by omega⟩
 obtain ⟨hoe, hoq, hol, hfn, ha8⟩ := tC hok
 have hef := gI hoe
 obtain ⟨hs8, hs1, _, _, _, _⟩ := l6 hef.1
 have hcl := LV (e := e) (x := q.Id)
 refine cO ?_
 refine sP [2, 3, 4, 6, 7, 8] [3, 4, 6, 8] ?_
 refine db cJ ?_
 refine dA 0 ?_ (x := lD [val _, val _, sl .v _, sl .v _] eK)
 refine dA 1 ?_ (x := cL [(true, [val _, val _, sl _ _, sl _ _])] [(true, [val _, val _, sl .v _, sl .v _])] KJ (hs := by exact Lk (by omega)))
 refine dA 0 ?_ (x := lF gE)
 refine dA 4 ?_ (x := lF fi)
 refine dA 12 ?_ (x := lD [val _] au)
 refine dA 0 ?_ (x := sM)
 refine Hw ?_
 refine eO ?_
 refine Hs ?_
 refine rA ?_ (x := lF gE)
 refine kC ?_
 refine dI ?_
 refine sP [2, 3, 4, 6, 7, 8, 9, 54, 55] [3, 4, 6, 8, 9] ?_
 refine sL [2, 3, 4, 6, 7, 8, 9, 54] [3, 4, 6, 8] (fun k : Nat => k ≤ e.Store.Wr.length) (fun k : Nat => [(55, RV.int (k : Int))]) (fun k : Nat => [(9, (108, [val (vI (dE e q l).Wt.Id), val (vI (dE e q l).Wt.Wx), sl ay ((dE e q l).Wt.Wu.map bf), sl aa ((dE e q l).Wt.Out.map ak), val (vI (dE e q l).Time), sl aa ((oy k).map ak), val (vI (dE e q l).Age), val (vI (dE e q l).Sent), val (vI (dE e q l).Cap), sl aB ((dE e q l).Rows.map (bu aa))]))]) (fun k : Nat => e.Store.Wr.length - k) 0 (by omega) (by exact aI (by exact rfl) tI) (by exact aI (by exact rfl) tI) ?_
 rintro k hk
 have htl := Bz k
 refine ct ?_
 refine sc (fun hbb => ?_) (fun hbb => ?_)
 have hlt : k < e.Store.Wr.length := by omega
 refine bB ?_
 refine sT [2, 3, 4, 6, 7, 8, 9, 54, 55] [3, 4, 6, 8, 9] ?_
 refine rM ?_
 refine rS ?_
 refine sG [2, 3, 4, 6, 7, 8, 9, 10, 54, 55] [3, 4, 6, 8, 9] ?_
 refine rA ?_ (x := lF gD)
 refine sh ?_
 refine oS ?_
 refine Io ?_
 refine sO [(2, _), (3, _), (4, _), (6, _), (7, _), (8, _), (9, _), (10, _), (54, _), (55, _)] [(3, _), (4, _), (6, _), (8, _), (9, (108, [val _, val _, sl _ _, sl _ _, val _, sl _ _, val _, val _, val _, sl _ _]))] ?_
 refine ba ?_
 refine c0 ?_
 exact E8
 have hend : k = e.Store.Wr.length := by omega
 subst hend
 refine bF ?_
 refine sT [2, 3, 4, 6, 7, 8, 9, 54, 55] [3, 4, 6, 8, 9] ?_
 refine st ?_
 refine eO ?_
 refine sP [2, 3, 4, 6, 7, 8, 9, 11, 54, 55] [3, 4, 6, 8, 9] ?_
 refine qo (d := 8) (t := 108) (e := 10) (G := 6200) (A := [sl _ _, val _, val _, sl _ _]) (B := [sl _ _, sl _ _, val _]) (f := (aO ay aa aa aB aa)) (g := (fun z : Ws => [val (vI z.Wt.Id), val (vI z.Wt.Wx), sl .v (z.Wt.Wu.map bf), sl .v (z.Wt.Out.map ak), val (vI z.Time), sl .v (z.WB.map ak), val (vI z.Age), val (vI z.Sent), val (vI z.Cap), sl .v (z.Rows.map (bu aa))])) (fN := en) (xs := e.Ws) (by exact rfl) (by exact rfl) (fun _ _ => rfl) (fun _ => rfl) (fun _ => (an (an (aF (aF (an (aF (an (an (an (aF am.nil))))))))))) (fun _ => (by exact lq)) fun za hza => ?_
 have hzal : za.length = e.Ws.length := by rw [← ar (f := Prod.fst), hza]
 refine sO [(2, _), (3, _), (4, _), (6, _), (7, _), (8, _), (9, _), (11, _), (54, _), (55, _), (6200, _)] [(3, _), (4, _), (6, _), (8, (32, [sl _ _, val _, val _, sl _ _, sl _ _, sl _ _, sl _ _, val _])), (9, _)] ?_
 refine Dk (d := 9) (e := 10) (G := 6300) (f := (aO ay aa aa aB aa)) (g := (fun z : Ws => [val (vI z.Wt.Id), val (vI z.Wt.Wx), sl .v (z.Wt.Wu.map bf), sl .v (z.Wt.Out.map ak), val (vI z.Time), sl .v (z.WB.map ak), val (vI z.Age), val (vI z.Sent), val (vI z.Cap), sl .v (z.Rows.map (bu aa))])) (fN := en) (dE e q l) (by exact rfl) (by exact rfl) (fun _ _ => rfl) (fun _ => rfl) (an (an (aF (aF (an (aF (an (an (an (aF am.nil)))))))))) (by exact lq) fun kNew => ?_
 refine sO [(2, _), (3, _), (4, _), (6, _), (7, _), (8, _), (9, _), (11, _), (54, _), (55, _), (6200, _), (6300, _)] [(3, _), (4, _), (6, _), (8, _), (9, (108, [nv _ (val _), nv _ (val _), nv _ (sl _ _), nv _ (sl _ _), nv _ (val _), nv _ (sl _ _), nv _ (val _), nv _ (val _), nv _ (val _), nv _ (sl _ _)]))] ?_
 refine ba ?_
 refine oe ?_
 refine sP [2, 3, 4, 6, 7, 8, 9, 11, 54, 55, 67, 68, 69, 6200, 6300] [3, 4, 6, 8, 9] ?_
 refine sL [2, 3, 4, 6, 7, 8, 9, 54, 55, 67, 68, 6200, 6300] [3, 4, 6, 8, 9] (fun m : Nat => m ≤ za.length) (fun m : Nat => [(11, RV.slc bS ((iG q.Id (za.take m)).map en)), (69, RV.int (m : Int))]) (fun m : Nat => []) (fun m : Nat => za.length - m) 0 (by omega) (by exact aI (by exact rfl) (aI (by exact rfl) tI)) (by exact tI) ?_
 rintro m hm
 have hfl := Vf (x := q.Id) (zs := za) (k := m)
 refine ct ?_
 refine sc (fun hbc => ?_) (fun hbc => ?_)
 have hmz : m < za.length := by omega
 refine cF ?_
 refine Gs ?_
 refine uC ?_
 refine uG ?_
 refine aP ?_
 refine sO [(2, _), (3, _), (4, _), (6, _), (7, _), (8, _), (9, _), (11, _), (13, _), (54, _), (55, _), (67, _), (68, _), (69, _), (6200, _), (6300, _)] [(3, _), (4, _), (6, _), (8, _), (9, _), (13, (108, [nv _ (val _), nv _ (val _), nv _ (sl _ _), nv _ (sl _ _), nv _ (val _), nv _ (sl _ _), nv _ (val _), nv _ (val _), nv _ (val _), nv _ (sl _ _)]))] ?_
 refine ba ?_
 refine rA ?_ (x := lF eR)
 refine rA ?_ (x := lF e8)
 refine rA ?_ (x := df (qs := [val _]) (by decide) au (fun _ => rfl) (by exact nl rfl) (by exact (am.cons (PV.nv_to (iP _)) am.nil)) (by exact (ao.cons (bor_val _) ao.nil)))
 refine sX ?_
 refine rA ?_ (x := cy)
 refine sc (fun hbd => ?_) (fun hbd => ?_)
 have hlz : jF q.Id za[m].1 = true := by simpa [jF] using hbd
 refine sG [2, 3, 4, 6, 7, 8, 9, 11, 13, 54, 55, 67, 68, 69, 6200, 6300] [3, 4, 6, 8, 9, 13] ?_
 refine rA ?_ (x := tM)
 refine uz ?_
 refine sg ?_
 exact E9
 have hlz : jF q.Id za[m].1 = false := by simpa [jF] using hbd
 refine bl ?_
 exact E9
 have hend2 : m = za.length := by omega
 have hfa : iG q.Id (za.take m) = iG q.Id za := by rw [hend2, cb]
 rw [hfa]
 have hfl2 := LS (x := q.Id) hza
 refine gV ?_
 refine Gs ?_
 refine rA ?_ (x := vM false [sl .v _])
 refine rA ?_ (x := lN bI)
 refine rS ?_
 refine IQ ?_
 refine uz ?_
 refine sg ?_
 refine IQ ?_
 refine ji ?_
 refine rM ?_
 refine rA ?_ (x := t3 (i := (dG e.Ws q.Id)) (j := za.length) (ys := (za.drop (dG e.Ws q.Id))) (r := ((za.length : Nat) : Int)) (by decide) bI (by exact tI) (by exact rfl) (by omega) (by omega) (by omega) (by omega) (fun _ => rfl) (by rw [cb]))
 refine rA ?_ (x := il (by decide) bI fa rfl rfl (by decide) (by intro cs hcs; obtain ⟨x, _, rfl⟩ := List.mem_map.1 hcs; exact rfl) (by intro cs hcs; obtain ⟨x, _, rfl⟩ := List.mem_map.1 hcs; exact (by exact lq)) (by simp only [ar, aU, List.length_cons, List.length_nil, fw]; omega) (by simp only [ar, aU, List.length_cons, List.length_nil, fw]; omega))
 refine oU ?_
 refine aP ?_
 refine sO [(2, _), (3, _), (4, _), (6, _), (7, _), (8, _), (9, _), (14, _), (54, _), (55, _), (67, _), (68, _), (69, _), (6200, _), (6300, _)] [(3, _), (4, _), (6, _), (8, (32, [sl _ _, val _, val _, sl _ _, sl _ _, sl _ _, sl _ _, val _])), (9, _)] ?_
 refine bV (d := 8) (by exact rfl) (show _ = [sl bo (e.Store.Wr.map (aD aS aa)), val (vI e.Store.Now), val (vI e.Ww), sl aa (e.Order.map ak), sl bS ((za.take (dG e.Ws q.Id) ++ (dE e q l, kNew) :: za.drop (dG e.Ws q.Id)).map en), sl bM (e.Done.map (aZ ay aa aB aa)), sl bP (e.WE.map (a7 aa aa aa)), val (vI e.Steps)] from by rw [← LU hoe hza]; simp only [bN, List.map_cons, List.map_nil, br]; exact rfl) ?_
 refine sP [2, 3, 4, 6, 7, 8, 9, 14, 54, 55, 67, 68, 69, 6200, 6300] [3, 4, 6, 8, 9] ?_
 refine CZ (G := 6300) (H := 6200) (e := 10) (f := (aO ay aa aa aB aa)) (by exact rfl) (by exact rfl) (by exact rfl) ?_
 refine sP [2, 3, 4, 6, 7, 8, 9, 14, 54, 55, 67, 68, 69, 6300] [3, 4, 6, 8, 9] ?_
 refine xM (d := 8) (t := 108) (e := 10) (G := 6300) (A := [sl _ _, val _, val _, sl _ _]) (B := [sl _ _, sl _ _, val _]) (f := (aO ay aa aa aB aa)) (g := (fun z : Ws => [val (vI z.Wt.Id), val (vI z.Wt.Wx), sl .v (z.Wt.Wu.map bf), sl .v (z.Wt.Out.map ak), val (vI z.Time), sl .v (z.WB.map ak), val (vI z.Age), val (vI z.Sent), val (vI z.Cap), sl .v (z.Rows.map (bu aa))])) (fN := en) (ys := (za.take (dG e.Ws q.Id) ++ (dE e q l, kNew) :: za.drop (dG e.Ws q.Id))) [] (mb e q l) (by exact rfl) (by exact rfl) (fun _ _ => rfl) (fun _ => rfl) (fun _ => rfl) (LW) (LX hoe hza) ?_
 refine sO [(2, _), (3, _), (4, _), (6, _), (7, _), (8, _), (9, _), (14, _), (54, _), (55, _), (67, _), (68, _), (69, _)] [(3, _), (4, _), (6, _), (8, (32, [sl _ _, val _, val _, sl _ _, sl _ _, sl _ _, sl _ _, val _])), (9, _)] ?_
 exact Fc
def VE {p1 p2 p5 p6 p7 p8 p9 p11 p12 p13 p14 p16 p17 p18 : Fl} {e : aL} {q : Wt} {l : Int}  (hb : bp e ≤ 68719000000) (hbq : ce q ≤ 68719000000) : aC prog 87 [(true, [sl .v (e.Store.Wr.map (aD p1 p2)), val (vI e.Store.Now), val (vI e.Ww), sl .v (e.Order.map ak), sl .v (e.Ws.map (aO p5 p6 p7 p8 p9)), sl .v (e.Done.map (aZ p11 p12 p13 p14)), sl .v (e.WE.map (a7 p16 p17 p18)), val (vI e.Steps)]), (true, [val (vI q.Id), val (vI q.Wx), sl .v (q.Wu.map bf), sl .v (q.Out.map ak)]), (false, [val (vI l)])] (az [(true, [sl bo ((fc e q l).1.Store.Wr.map (aD aS aa)), val (vI (fc e q l).1.Store.Now), val (vI (fc e q l).1.Ww), sl aa ((fc e q l).1.Order.map ak), sl bS ((fc e q l).1.Ws.map (aO ay aa aa aB aa)), sl bM ((fc e q l).1.Done.map (aZ ay aa aB aa)), sl bP ((fc e q l).1.WE.map (a7 aa aa aa)), val (vI (fc e q l).1.Steps)]), (false, [val (.bool (fc e q l).2)])]) := by
 refine sF func87 fun h0 w0 Fz0 => ?_
 refine sn 0 0 fun hl0_0 => ?_
 refine sn 0 3 fun hl0_3 => ?_
 refine sn 0 4 fun hl0_4 => ?_
 refine sn 0 5 fun hl0_5 => ?_
 refine sn 0 6 fun hl0_6 => ?_
 refine sn 1 2 fun hl1_2 => ?_
 refine sn 1 3 fun hl1_3 => ?_
 have hbu := hb
 simp only [bp, c6, dK, dJ] at hbu
 refine iT ?_
 refine H4 ?_
 refine rK ?_
 refine sT [2, 3, 4, 6, 7] [3, 4, 6] ?_
 refine uF ?_
 refine rl ?_
 refine HR ?_
 refine yx ?_
 refine fB ?_
 refine cx 19 (fun ga sga => ?_) (fun ga sga => ?_)
 refine jN ?_
 refine aq.cases (s := 24) rfl (fun g2 => ?_) (fun g2 => nomatch g2)
 refine oh ?_
 refine aq.cases (s := 29) rfl (fun g3 => ?_) (fun g3 => nomatch g3)
 refine nS ?_
 refine rM ?_
 refine aq.cases (s := 36) rfl (fun g4 => ?_) (fun g4 => nomatch g4)
 exact E4
 refine rB ga ?_ (x := lD [val _, val _, sl .v _, sl .v _] eK)
 refine rB ga ?_ (x := cL [(true, [val _, val _, sl _ _, sl _ _])] [(true, [val _, val _, sl .v _, sl .v _])] wi (hs := by exact wD))
 refine ly ?_
 refine rM ?_
 refine cx 24 (fun gb sgb => ?_) (fun gb sgb => ?_)
 refine mE ?_
 refine aq.cases (s := 29) rfl (fun g7 => ?_) (fun g7 => nomatch g7)
 refine zt g7 ?_
 refine rA ?_ (x := aR g7)
 refine rM ?_
 refine aq.cases (s := 36) rfl (fun g8 => ?_) (fun g8 => nomatch g8)
 exact E5
 refine rB gb ?_ (x := sM)
 refine rB gb ?_ (x := cL [(false, [val _]), (false, [val _]), (false, [val _])] [(false, [val _]), (false, [val _]), (false, [val _])] fF (hs := by exact fJ))
 refine qZ ?_
 refine cx 29 (fun gc sgc => ?_) (fun gc sgc => ?_)
 refine zt gc ?_
 refine iw ?_
 refine aq.cases (s := 36) rfl (fun g11 => ?_) (fun g11 => nomatch g11)
 exact E6
 refine IJ ?_
 refine rB gc ?_ (x := lD [val _] au)
 refine rB gc ?_ (x := cL [(true, [sl _ _, val _, val _, sl _ _, sl _ _, sl _ _, sl _ _, val _]), (false, [val _])] [(true, [sl .v _, val _, val _, sl .v _, sl .v _, sl .v _, sl .v _, val _]), (false, [val _])] wx (hs := by exact wG))
 refine rB gc ?_ (x := hR)
 refine tb ?_
 refine cx 36 (fun gd sgd => ?_) (fun gd sgd => ?_)
 exact E7
 refine rB gd ?_ (x := lF dN)
 refine rB gd ?_ (x := lD [sl .v _] dC)
 refine rB gd ?_ (x := lN bI)
 refine rB gd ?_ (x := hR)
 refine rA ?_ (x := aK gd)
 refine sc (fun hba => ?_) (fun hba => ?_)
 exact qx
 have hok : jW e q l = true := by
  have ho_ : bh e = true := by simp_all
  have hq_ : cv q = true := by simp_all
  have hl_ : aV l 0 32 = true := by simp_all
  have hef_ := gI ho_
  unfold jW
  rw [ho_, hq_, hl_]
  simp only [Bool.true_and, bn, decide_eq_true_eq]
  exact ⟨by omega, by omega⟩
 obtain ⟨hoe, hoq, hol, hfn, ha8⟩ := tC hok
 have hef := gI hoe
 obtain ⟨hs8, hs1, _, _, _, _⟩ := l6 hef.1
 have hcl := LV (e := e) (x := q.Id)
 refine cO ?_
 refine sP [2, 3, 4, 6, 7, 8] [3, 4, 6, 8] ?_
 refine db cJ ?_
 refine dA 0 ?_ (x := lD [val _, val _, sl .v _, sl .v _] eK)
 refine dA 1 ?_ (x := cL [(true, [val _, val _, sl _ _, sl _ _])] [(true, [val _, val _, sl .v _, sl .v _])] ww (hs := by exact wE (by omega)))
 refine dA 0 ?_ (x := lF gE)
 refine dA 4 ?_ (x := lF fi)
 refine dA 12 ?_ (x := lD [val _] au)
 refine dA 0 ?_ (x := sM)
 refine Hw ?_
 refine eO ?_
 refine Hs ?_
 refine cz ?_
 refine sP [2, 3, 4, 6, 7, 8, 9, 10] [3, 4, 6, 8, 9] ?_
 refine sL [2, 3, 4, 6, 7, 8, 9] [3, 4, 6, 8] (fun k : Nat => k ≤ e.Store.Wr.length) (fun k : Nat => [(10, RV.int (k : Int))]) (fun k : Nat => [(9, (108, [val (vI (dE e q l).Wt.Id), val (vI (dE e q l).Wt.Wx), sl ay ((dE e q l).Wt.Wu.map bf), sl aa ((dE e q l).Wt.Out.map ak), val (vI (dE e q l).Time), sl aa ((oy k).map ak), val (vI (dE e q l).Age), val (vI (dE e q l).Sent), val (vI (dE e q l).Cap), sl aB ((dE e q l).Rows.map (bu aa))]))]) (fun k : Nat => e.Store.Wr.length - k) 0 (by omega) (by exact aI (by exact rfl) tI) (by exact aI (by exact rfl) tI) ?_
 rintro k hk
 have htl := Bz k
 refine d6 ?_
 refine rA ?_ (x := lF gE)
 refine qY ?_
 refine sc (fun hbb => ?_) (fun hbb => ?_)
 have hlt : k < e.Store.Wr.length := by omega
 refine bB ?_
 refine sH [2, 3, 4, 6, 7, 8, 9, 10] [3, 4, 6, 8, 9] ?_
 refine rA ?_ (x := lF gD)
 refine sh ?_
 refine oS ?_
 refine Io ?_
 refine sO [(2, _), (3, _), (4, _), (6, _), (7, _), (8, _), (9, _), (10, _)] [(3, _), (4, _), (6, _), (8, _), (9, (108, [val _, val _, sl _ _, sl _ _, val _, sl _ _, val _, val _, val _, sl _ _]))] ?_
 refine eP ?_
 exact E8
 have hend : k = e.Store.Wr.length := by omega
 subst hend
 refine bF ?_
 refine sT [2, 3, 4, 6, 7, 8, 9, 10] [3, 4, 6, 8, 9] ?_
 refine rA ?_ (x := b9 (qs := []) (by decide) bI fa (by decide) rfl rfl rfl rfl rfl (by exact nl rfl) (by exact tI) rfl)
 refine oU ?_
 refine aP ?_
 refine sO [(2, _), (3, _), (4, _), (6, _), (7, _), (8, _), (9, _), (10, _)] [(3, _), (4, _), (6, _), (8, (32, [sl _ _, val _, val _, sl _ _, sl _ _, sl _ _, sl _ _, val _])), (9, _)] ?_
 refine ba ?_
 refine rK ?_
 refine sS [2, 3, 4, 6, 7, 8, 9, 10, 11] [3, 4, 6, 8, 9] ?_
 refine uF ?_
 refine rA ?_ (x := NL (ag := false) (qs := [sl _ _]) (by decide) VB dC (fun _ => rfl) (by exact nl rfl) (by exact rfl))
 refine qP ?_
 refine sS [2, 3, 4, 6, 7, 8, 9, 10, 11, 12] [3, 4, 6, 8, 9] ?_
 refine cz ?_
 refine sP [2, 3, 4, 6, 7, 8, 9, 10, 11, 12, 13] [3, 4, 6, 8, 9] ?_
 refine CY (s := 12) (t := 108) (e := 10) (G := 6200) (f := (aO ay aa aa aB aa)) (g := (fun z : Ws => [val (vI z.Wt.Id), val (vI z.Wt.Wx), sl .v (z.Wt.Wu.map bf), sl .v (z.Wt.Out.map ak), val (vI z.Time), sl .v (z.WB.map ak), val (vI z.Age), val (vI z.Sent), val (vI z.Cap), sl .v (z.Rows.map (bu aa))])) (fN := en) (xs := e.Ws) (by exact rfl) (by exact rfl) (by exact rfl) (fun _ _ => rfl) (fun _ => rfl) (fun _ => (an (an (aF (aF (an (aF (an (an (an (aF am.nil))))))))))) (fun _ => (by exact lq)) fun za hza => ?_
 have hzal : za.length = e.Ws.length := by rw [← ar (f := Prod.fst), hza]
 refine sP [2, 3, 4, 6, 7, 8, 9, 10, 11, 12, 13, 6200] [3, 4, 6, 8, 9] ?_
 refine Dk (d := 9) (e := 10) (G := 6300) (f := (aO ay aa aa aB aa)) (g := (fun z : Ws => [val (vI z.Wt.Id), val (vI z.Wt.Wx), sl .v (z.Wt.Wu.map bf), sl .v (z.Wt.Out.map ak), val (vI z.Time), sl .v (z.WB.map ak), val (vI z.Age), val (vI z.Sent), val (vI z.Cap), sl .v (z.Rows.map (bu aa))])) (fN := en) (dE e q l) (by exact rfl) (by exact rfl) (fun _ _ => rfl) (fun _ => rfl) (an (an (aF (aF (an (aF (an (an (an (aF am.nil)))))))))) (by exact lq) fun kNew => ?_
 refine sO [(2, _), (3, _), (4, _), (6, _), (7, _), (8, _), (9, _), (10, _), (11, _), (12, _), (13, _), (6200, _), (6300, _)] [(3, _), (4, _), (6, _), (8, _), (9, (108, [nv _ (val _), nv _ (val _), nv _ (sl _ _), nv _ (sl _ _), nv _ (val _), nv _ (sl _ _), nv _ (val _), nv _ (val _), nv _ (val _), nv _ (sl _ _)]))] ?_
 refine sL [2, 3, 4, 6, 7, 8, 9, 10, 12, 6200, 6300] [3, 4, 6, 9] (fun m : Nat => m ≤ za.length) (fun m : Nat => [(11, RV.bool (decide ((dG e.Ws q.Id) < m))), (13, RV.int (m : Int))]) (fun m : Nat => [(8, (32, [sl bo (e.Store.Wr.map (aD aS aa)), val (vI e.Store.Now), val (vI e.Ww), sl aa (e.Order.map ak), sl bS ((jd za (dE e q l, kNew) (dG e.Ws q.Id) m).map en), sl bM (e.Done.map (aZ ay aa aB aa)), sl bP (e.WE.map (a7 aa aa aa)), val (vI e.Steps)]))]) (fun m : Nat => za.length - m) 0 (by omega) (by exact aI (by exact gu (by simp)) (aI (by exact rfl) tI)) (by exact aI (by show _ = some (32, [sl bo (e.Store.Wr.map (aD aS aa)), val (vI e.Store.Now), val (vI e.Ww), sl aa (e.Order.map ak), sl bS ((jd za (dE e q l, kNew) (dG e.Ws q.Id) 0).map en), sl bM (e.Done.map (aZ ay aa aB aa)), sl bP (e.WE.map (a7 aa aa aa)), val (vI e.Steps)]); unfold jd; rw [if_neg (by omega)]; exact rfl) tI) ?_
 rintro m hm
 have hazl := Vj (zn := (dE e q l, kNew)) (p := (dG e.Ws q.Id)) hm
 refine cQ ?_
 refine Ad ?_
 refine sc (fun hbc => ?_) (fun hbc => ?_)
 have hmz : m < za.length := by omega
 have hcl2 := Vh (x := q.Id) hoe (show m < e.Ws.length by omega)
 have hni := Vi (x := q.Id) hfn (show m < e.Ws.length by omega)
 have hzm : za[m].1 = e.Ws[m] := by simp [← hza]
 refine cF ?_
 refine aP ?_
 refine sO [(2, _), (3, _), (4, _), (6, _), (7, _), (8, _), (9, _), (10, _), (11, _), (12, _), (13, _), (6200, _), (6300, _)] [(3, (32, [sl _ _, val _, val _, sl _ _, sl _ _, sl _ _, sl _ _, val _])), (4, (52, [val _, val _, sl _ _, sl _ _])), (6, (32, [sl _ _, val _, val _, sl _ _, sl _ _, sl _ _, sl _ _, val _])), (8, (32, [sl _ _, val _, val _, sl _ _, sl _ _, sl _ _, sl _ _, val _])), (9, (108, [nv _ (val _), nv _ (val _), nv _ (sl _ _), nv _ (sl _ _), nv _ (val _), nv _ (sl _ _), nv _ (val _), nv _ (val _), nv _ (val _), nv _ (sl _ _)]))] ?_
 refine db cJ ?_
 refine dA 0 ?_ (x := sM)
 refine dA 1 ?_ (x := nT)
 refine dA 3 ?_ (x := sM)
 refine dx 77 (fun ge sge => ?_) (fun ge sge => ?_)
 refine dB 7 ge ?_ (x := vM false [sl .v _])
 refine dB 7 ge ?_ (x := sM)
 refine dB 31 ge ?_ (x := aY (by decide) bI (by exact tI) (by exact rfl) (by exact be (by omega) rfl) (by exact rfl))
 refine dB 63 ge ?_ (x := bE (by decide) eR (by exact nl rfl))
 refine dB 127 ge ?_ (x := bE (by decide) e8 (by exact nl rfl))
 refine dB 255 ge ?_ (x := nb (qs := [val _]) (by decide) au (fun _ => rfl) (by exact nl rfl) (by exact (am.cons (PV.nv_to (iP _)) am.nil)) (by exact (ao.cons (bor_val _) ao.nil)))
 refine dB 7 ge ?_ (x := lF e8)
 refine dB 519 ge ?_ (x := lD [val _] au)
 refine dB 2047 ge ?_ (x := eg)
 refine dA 4095 ?_ (x := aR ge)
 refine sc (fun hbd => ?_) (fun hbd => ?_)
 have hpm : m = (dG e.Ws q.Id) := by rw [hzm] at hbd; first | omega | (simp_all; omega)
 refine sS [2, 3, 4, 6, 7, 8, 9, 10, 11, 12, 13, 6200, 6300] [3, 4, 6, 8, 9] ?_
 refine yH ?_
 refine uz ?_
 refine yC ?_
 refine sO [(2, _), (3, _), (4, _), (6, _), (7, _), (8, _), (9, _), (10, _), (11, _), (12, _), (13, _), (6200, _), (6300, _)] [(3, _), (4, _), (6, _), (8, (32, [sl _ _, val _, val _, sl _ _, sl _ _, sl _ _, sl _ _, val _])), (9, _)] ?_
 refine ba ?_
 refine rK ?_
 exact yf
 have hpm : m ≠ (dG e.Ws q.Id) := by first | (rw [hzm] at hbd; omega) | omega | (simp_all; omega)
 refine bl ?_
 exact yf
 refine dF 7 ge ?_
 refine dF 7 ge ?_
 refine dF 31 ge ?_
 refine dF 63 ge ?_
 refine dF 127 ge ?_
 refine dF 255 ge ?_
 refine dF 7 ge ?_
 refine dF 519 ge ?_
 refine dF 2047 ge ?_
 refine dA 4095 ?_ (x := aK ge)
 refine fh ?_
 have hpm : m ≠ (dG e.Ws q.Id) := by first | (rw [hzm] at hb_; omega) | omega | (simp_all; omega)
 refine bl ?_
 exact yf
 have hend2 : m = za.length := by omega
 subst hend2
 refine bF ?_
 refine eO ?_
 refine sO [(2, _), (3, _), (4, _), (6, _), (7, _), (8, _), (9, _), (10, _), (11, _), (12, _), (13, _), (6200, _), (6300, _)] [(3, (32, [sl _ _, val _, val _, sl _ _, sl _ _, sl _ _, sl _ _, val _])), (4, (52, [val _, val _, sl _ _, sl _ _])), (6, (32, [sl _ _, val _, val _, sl _ _, sl _ _, sl _ _, sl _ _, val _])), (8, (32, [sl _ _, val _, val _, sl _ _, sl _ _, sl _ _, sl _ _, val _])), (9, (108, [nv _ (val _), nv _ (val _), nv _ (sl _ _), nv _ (sl _ _), nv _ (val _), nv _ (sl _ _), nv _ (val _), nv _ (val _), nv _ (val _), nv _ (sl _ _)]))] ?_
 refine px ?_
 refine rA ?_ (x := nT)
 refine sc (fun hbd => ?_) (fun hbd => ?_)
 have hpl : (dG e.Ws q.Id) = za.length := by first | omega | (simp_all; omega)
 refine sG [2, 3, 4, 6, 7, 8, 9, 10, 11, 12, 13, 6200, 6300] [3, 4, 6, 8, 9] ?_
 refine yH ?_
 refine uz ?_
 refine yC ?_
 refine aP ?_
 refine sO [(2, _), (3, _), (4, _), (6, _), (7, _), (8, _), (9, _), (10, _), (11, _), (12, _), (13, _), (6200, _), (6300, _)] [(3, _), (4, _), (6, _), (8, (32, [sl _ _, val _, val _, sl _ _, sl _ _, sl _ _, sl _ _, val _])), (9, _)] ?_
 exact Fe
 have hpl : (dG e.Ws q.Id) < za.length := by first | omega | (simp_all; omega)
 refine cO ?_
 refine sP [2, 3, 4, 6, 7, 8, 9, 10, 11, 12, 13, 6200, 6300] [3, 4, 6, 8, 9] ?_
 exact Fe
end Go.Proofs.YtmekkgdboplbjaaGreat
