/- What functions of the program compute. No condition. -/
import Derived.Test.YtmekkgdboplbjaaGreatCX0
import Derived.Test.YtmekkgdboplbjaaGreatCB1
set_option linter.all false
namespace Go.Proofs.YtmekkgdboplbjaaGreat
open Go Go.RowKit M PV Tryz
set_option maxRecDepth 10000
attribute [local irreducible] PV.Lcl PV.LclR RV.Lcl
set_option maxHeartbeats 8000000
def aby : Dn prog 32 3 = some (4, 28) := by kernel_rfl
def abz : gE prog 108 = some [(0, 4), (4, 1), (5, 1), (6, 1), (7, 1), (8, 1), (9, 1)] := by kernel_rfl
def abA {p1 p2 p5 p6 p7 p8 p9 p11 p12 p13 p14 p16 p17 p18 : Fl} {e : aD} {q : acv} {l : Int}  (hb : bi e ≤ 68719000000) (hbq : cr q ≤ 68719000000) : aB prog 83 [(true, [sl .v (e.Store.act.map (aC p1 p2)), val (vI e.Store.Now), val (vI e.acy), sl .v (e.Order.map ak), sl .v (e.acu.map (aQ p5 p6 p7 p8 p9)), sl .v (e.Done.map (aX p11 p12 p13 p14)), sl .v (e.acG.map (aZ p16 p17 p18)), val (vI e.Steps)]), (true, [val (vI q.Id), val (vI q.acz), sl .v (q.acw.map bj), sl .v (q.Out.map ak)]), (false, [val (vI l)])] (aA [(true, [sl bo ((fM e q l).1.Store.act.map (aC aS aa)), val (vI (fM e q l).1.Store.Now), val (vI (fM e q l).1.acy), sl aa ((fM e q l).1.Order.map ak), sl bS ((fM e q l).1.acu.map (aQ aw aa aa az aa)), sl bJ ((fM e q l).1.Done.map (aX aw aa az aa)), sl bP ((fM e q l).1.acG.map (aZ aa aa aa)), val (vI (fM e q l).1.Steps)]), (false, [val (.bool (fM e q l).2)])]) := by
 refine sF func83 fun h0 w0 Fz0 => ?_
 refine sn 0 0 fun hl0_0 => ?_
 refine sn 0 3 fun hl0_3 => ?_
 refine sn 0 4 fun hl0_4 => ?_
 refine sn 0 5 fun hl0_5 => ?_
 refine sn 0 6 fun hl0_6 => ?_
 refine sn 1 2 fun hl1_2 => ?_
 refine sn 1 3 fun hl1_3 => ?_
 have hbu := hb
 simp only [bi, da, dQ, dP] at hbu
 refine jx ?_
 refine Lj ?_
 refine rK ?_
 refine sT [2, 3, 4, 6, 7] [3, 4, 6] ?_
 refine wv ?_
 refine sW ?_
 refine KW ?_
 refine Ay ?_
 refine gp ?_
 refine cx 20 (fun ga sga => ?_) (fun ga sga => ?_)
 refine kG ?_
 refine ar.cases (s := 25) rfl (fun g2 => ?_) (fun g2 => nomatch g2)
 refine pM ?_
 refine ar.cases (s := 30) rfl (fun g3 => ?_) (fun g3 => nomatch g3)
 refine pD ?_
 refine rM ?_
 refine ar.cases (s := 37) rfl (fun g4 => ?_) (fun g4 => nomatch g4)
 exact HW
 refine Kv ?_
 refine mP ?_
 refine rM ?_
 refine cx 25 (fun gb sgb => ?_) (fun gb sgb => ?_)
 refine ox ?_
 refine ar.cases (s := 30) rfl (fun g7 => ?_) (fun g7 => nomatch g7)
 refine zt g7 ?_
 refine rA ?_ (x := aT g7)
 refine rM ?_
 refine ar.cases (s := 37) rfl (fun g8 => ?_) (fun g8 => nomatch g8)
 exact HX
 refine rB gb ?_ (x := sM)
 refine rB gb ?_ (x := cL [(false, [val _]), (false, [val _]), (false, [val _])] [(false, [val _]), (false, [val _]), (false, [val _])] kb (hs := by exact kt))
 refine sE ?_
 refine cx 30 (fun gc sgc => ?_) (fun gc sgc => ?_)
 refine zt gc ?_
 refine iV ?_
 refine ar.cases (s := 37) rfl (fun g11 => ?_) (fun g11 => nomatch g11)
 exact HY
 refine Me ?_
 refine rB gc ?_ (x := lD [val _] au)
 refine rB gc ?_ (x := cL [(true, [sl _ _, val _, val _, sl _ _, sl _ _, sl _ _, sl _ _, val _]), (false, [val _])] [(true, [sl .v _, val _, val _, sl .v _, sl .v _, sl .v _, sl .v _, val _]), (false, [val _])] OA (hs := by exact Pu))
 refine rB gc ?_ (x := iD)
 refine uG ?_
 refine cx 37 (fun gd sgd => ?_) (fun gd sgd => ?_)
 exact HZ
 refine rB gd ?_ (x := lF el)
 refine rB gd ?_ (x := lD [sl .v _] ea)
 refine rB gd ?_ (x := lN bL)
 refine rB gd ?_ (x := eG)
 refine rA ?_ (x := aK gd)
 refine sc (fun hba => ?_) (fun hba => ?_)
 exact rT
 have hok : kP e q l = true := by
  have ho_ : bk e = true := by simp_all
  have hq_ : cJ q = true := by simp_all
  have hl_ : aW l 0 32 = true := by simp_all
  have hef_ := ie ho_
  unfold kP
  rw [ho_, hq_, hl_]
  simp only [Bool.true_and, bq, decide_eq_true_eq]
  exact ⟨by omega, by omega⟩
 obtain ⟨hoe, hoq, hol, hfn, ha8⟩ := vd hok
 have hef := ie hoe
 obtain ⟨hs8, hs1, _, _, _, _⟩ := nq hef.1
 have hcl := Qb (e := e) (x := q.Id)
 refine dt ?_
 refine sP [2, 3, 4, 6, 7, 8] [3, 4, 6, 8] ?_
 refine dw dl ?_
 refine dA 0 ?_ (x := lD [val _, val _, sl .v _, sl .v _] fy)
 refine dA 1 ?_ (x := cL [(true, [val _, val _, sl _ _, sl _ _])] [(true, [val _, val _, sl .v _, sl .v _])] OC (hs := by exact Pn (by omega)))
 refine dA 0 ?_ (x := lF hY)
 refine dA 4 ?_ (x := lF fV)
 refine dA 12 ?_ (x := lD [val _] au)
 refine dA 0 ?_ (x := sM)
 refine KB ?_
 refine fF ?_
 refine Kx ?_
 refine rA ?_ (x := lF hY)
 refine lR ?_
 refine dZ ?_
 refine sP [2, 3, 4, 6, 7, 8, 9, 54, 55] [3, 4, 6, 8, 9] ?_
 refine sL [2, 3, 4, 6, 7, 8, 9, 54] [3, 4, 6, 8] (fun k : Nat => k ≤ e.Store.act.length) (fun k : Nat => [(55, RV.int (k : Int))]) (fun k : Nat => [(9, (108, [val (vI (ed e q l).acv.Id), val (vI (ed e q l).acv.acz), sl aw ((ed e q l).acv.acw.map bj), sl aa ((ed e q l).acv.Out.map ak), val (vI (ed e q l).Time), sl aa ((pZ k).map ak), val (vI (ed e q l).Age), val (vI (ed e q l).Sent), val (vI (ed e q l).Cap), sl az ((ed e q l).Rows.map (bC aa))]))]) (fun k : Nat => e.Store.act.length - k) 0 (by omega) (by exact aI (by exact rfl) tI) (by exact aI (by exact rfl) tI) ?_
 rintro k hk
 have htl := DE k
 refine cF ?_
 refine sc (fun hbb => ?_) (fun hbb => ?_)
 have hlt : k < e.Store.act.length := by omega
 refine bB ?_
 refine sT [2, 3, 4, 6, 7, 8, 9, 54, 55] [3, 4, 6, 8, 9] ?_
 refine rM ?_
 refine rS ?_
 refine sG [2, 3, 4, 6, 7, 8, 9, 10, 54, 55] [3, 4, 6, 8, 9] ?_
 refine rA ?_ (x := lF hR)
 refine tW ?_
 refine qt ?_
 refine LI ?_
 refine sO [(2, _), (3, _), (4, _), (6, _), (7, _), (8, _), (9, _), (10, _), (54, _), (55, _)] [(3, _), (4, _), (6, _), (8, _), (9, (108, [val _, val _, sl _ _, sl _ _, val _, sl _ _, val _, val _, val _, sl _ _]))] ?_
 refine bf ?_
 refine df ?_
 exact Ia
 have hend : k = e.Store.act.length := by omega
 subst hend
 refine bG ?_
 refine sT [2, 3, 4, 6, 7, 8, 9, 54, 55] [3, 4, 6, 8, 9] ?_
 refine ue ?_
 refine fF ?_
 refine sP [2, 3, 4, 6, 7, 8, 9, 11, 54, 55] [3, 4, 6, 8, 9] ?_
 refine rN (d := 8) (t := 108) (e := 10) (G := 6200) (A := [sl _ _, val _, val _, sl _ _]) (B := [sl _ _, sl _ _, val _]) (f := (aQ aw aa aa az aa)) (g := (fun z : acu => [val (vI z.acv.Id), val (vI z.acv.acz), sl .v (z.acv.acw.map bj), sl .v (z.acv.Out.map ak), val (vI z.Time), sl .v (z.acD.map ak), val (vI z.Age), val (vI z.Sent), val (vI z.Cap), sl .v (z.Rows.map (bC aa))])) (fN := eS) (xs := e.acu) (by exact rfl) (by exact rfl) (fun _ _ => rfl) (fun _ => rfl) (fun _ => (ap (ap (aH (aH (ap (aH (ap (ap (ap (aH am.nil))))))))))) (fun _ => (by exact lq)) fun za hza => ?_
 have hzal : za.length = e.acu.length := by rw [← aq (f := Prod.fst), hza]
 refine sO [(2, _), (3, _), (4, _), (6, _), (7, _), (8, _), (9, _), (11, _), (54, _), (55, _), (6200, _)] [(3, _), (4, _), (6, _), (8, (32, [sl _ _, val _, val _, sl _ _, sl _ _, sl _ _, sl _ _, val _])), (9, _)] ?_
 refine Px (d := 9) (e := 10) (G := 6300) (f := (aQ aw aa aa az aa)) (g := (fun z : acu => [val (vI z.acv.Id), val (vI z.acv.acz), sl .v (z.acv.acw.map bj), sl .v (z.acv.Out.map ak), val (vI z.Time), sl .v (z.acD.map ak), val (vI z.Age), val (vI z.Sent), val (vI z.Cap), sl .v (z.Rows.map (bC aa))])) (fN := eS) (ed e q l) (by exact rfl) (by exact rfl) (fun _ _ => rfl) (fun _ => rfl) (ap (ap (aH (aH (ap (aH (ap (ap (ap (aH am.nil)))))))))) (by exact lq) fun kNew => ?_
 refine sO [(2, _), (3, _), (4, _), (6, _), (7, _), (8, _), (9, _), (11, _), (54, _), (55, _), (6200, _), (6300, _)] [(3, _), (4, _), (6, _), (8, _), (9, (108, [nv _ (val _), nv _ (val _), nv _ (sl _ _), nv _ (sl _ _), nv _ (val _), nv _ (sl _ _), nv _ (val _), nv _ (val _), nv _ (val _), nv _ (sl _ _)]))] ?_
 refine bf ?_
 refine pK ?_
 refine sP [2, 3, 4, 6, 7, 8, 9, 11, 54, 55, 67, 68, 69, 6200, 6300] [3, 4, 6, 8, 9] ?_
 refine sL [2, 3, 4, 6, 7, 8, 9, 54, 55, 67, 68, 6200, 6300] [3, 4, 6, 8, 9] (fun m : Nat => m ≤ za.length) (fun m : Nat => [(11, RV.slc bS ((jf q.Id (za.take m)).map eS)), (69, RV.int (m : Int))]) (fun m : Nat => []) (fun m : Nat => za.length - m) 0 (by omega) (by exact aI (by exact rfl) (aI (by exact rfl) tI)) (by exact tI) ?_
 rintro m hm
 have hfl := aba (x := q.Id) (zs := za) (k := m)
 refine cF ?_
 refine sc (fun hbc => ?_) (fun hbc => ?_)
 have hmz : m < za.length := by omega
 refine cO ?_
 refine Jq ?_
 refine wq ?_
 refine ww ?_
 refine aP ?_
 refine sO [(2, _), (3, _), (4, _), (6, _), (7, _), (8, _), (9, _), (11, _), (13, _), (54, _), (55, _), (67, _), (68, _), (69, _), (6200, _), (6300, _)] [(3, _), (4, _), (6, _), (8, _), (9, _), (13, (108, [nv _ (val _), nv _ (val _), nv _ (sl _ _), nv _ (sl _ _), nv _ (val _), nv _ (sl _ _), nv _ (val _), nv _ (val _), nv _ (val _), nv _ (sl _ _)]))] ?_
 refine bf ?_
 refine rA ?_ (x := lF fw)
 refine rA ?_ (x := lF fx)
 refine rA ?_ (x := eW (qs := [val _]) (by decide) au (fun _ => rfl) (by exact nl rfl) (by exact (am.cons (PV.nv_to (jn _)) am.nil)) (by exact (an.cons (bor_val _) an.nil)))
 refine uv ?_
 refine rA ?_ (x := cu)
 refine sc (fun hbd => ?_) (fun hbd => ?_)
 have hlz : kw q.Id za[m].1 = true := by simpa [kw] using hbd
 refine sG [2, 3, 4, 6, 7, 8, 9, 11, 13, 54, 55, 67, 68, 69, 6200, 6300] [3, 4, 6, 8, 9, 13] ?_
 refine rA ?_ (x := tM)
 refine wn ?_
 refine tV ?_
 exact Ib
 have hlz : kw q.Id za[m].1 = false := by simpa [kw] using hbd
 refine bm ?_
 exact Ib
 have hend2 : m = za.length := by omega
 have hfa : jf q.Id (za.take m) = jf q.Id za := by rw [hend2, cn]
 rw [hfa]
 have hfl2 := PZ (x := q.Id) hza
 refine it ?_
 refine Jq ?_
 refine rA ?_ (x := vM false [sl .v _])
 refine rA ?_ (x := lN bL)
 refine rS ?_
 refine Ml ?_
 refine wn ?_
 refine tV ?_
 refine Ml ?_
 refine jV ?_
 refine rM ?_
 refine rA ?_ (x := tB (i := (ee e.acu q.Id)) (j := za.length) (ys := (za.drop (ee e.acu q.Id))) (r := ((za.length : Nat) : Int)) (by decide) bL (by exact tI) (by exact rfl) (by omega) (by omega) (by omega) (by omega) (fun _ => rfl) (by rw [cn]))
 refine rA ?_ (x := iN (by decide) bL fJ rfl rfl (by decide) (by intro cs hcs; obtain ⟨x, _, rfl⟩ := List.mem_map.1 hcs; exact rfl) (by intro cs hcs; obtain ⟨x, _, rfl⟩ := List.mem_map.1 hcs; exact (by exact lq)) (by simp only [aq, aV, List.length_cons, List.length_nil, gm]; omega) (by simp only [aq, aV, List.length_cons, List.length_nil, gm]; omega))
 refine qw ?_
 refine aP ?_
 refine sO [(2, _), (3, _), (4, _), (6, _), (7, _), (8, _), (9, _), (14, _), (54, _), (55, _), (67, _), (68, _), (69, _), (6200, _), (6300, _)] [(3, _), (4, _), (6, _), (8, (32, [sl _ _, val _, val _, sl _ _, sl _ _, sl _ _, sl _ _, val _])), (9, _)] ?_
 refine bV (d := 8) (by exact rfl) (show _ = [sl bo (e.Store.act.map (aC aS aa)), val (vI e.Store.Now), val (vI e.acy), sl aa (e.Order.map ak), sl bS ((za.take (ee e.acu q.Id) ++ (ed e q l, kNew) :: za.drop (ee e.acu q.Id)).map eS), sl bJ (e.Done.map (aX aw aa az aa)), sl bP (e.acG.map (aZ aa aa aa)), val (vI e.Steps)] from by rw [← Qa hoe hza]; simp only [bT, List.map_cons, List.map_nil, bw]; exact rfl) ?_
 refine sP [2, 3, 4, 6, 7, 8, 9, 14, 54, 55, 67, 68, 69, 6200, 6300] [3, 4, 6, 8, 9] ?_
 refine FD (G := 6300) (H := 6200) (e := 10) (f := (aQ aw aa aa az aa)) (by exact rfl) (by exact rfl) (by exact rfl) ?_
 refine sP [2, 3, 4, 6, 7, 8, 9, 14, 54, 55, 67, 68, 69, 6300] [3, 4, 6, 8, 9] ?_
 refine Dm (d := 8) (t := 108) (e := 10) (G := 6300) (A := [sl _ _, val _, val _, sl _ _]) (B := [sl _ _, sl _ _, val _]) (f := (aQ aw aa aa az aa)) (g := (fun z : acu => [val (vI z.acv.Id), val (vI z.acv.acz), sl .v (z.acv.acw.map bj), sl .v (z.acv.Out.map ak), val (vI z.Time), sl .v (z.acD.map ak), val (vI z.Age), val (vI z.Sent), val (vI z.Cap), sl .v (z.Rows.map (bC aa))])) (fN := eS) (ys := (za.take (ee e.acu q.Id) ++ (ed e q l, kNew) :: za.drop (ee e.acu q.Id))) [] (ny e q l) (by exact rfl) (by exact rfl) (fun _ _ => rfl) (fun _ => rfl) (fun _ => rfl) (Qc) (Qd hoe hza) ?_
 refine sO [(2, _), (3, _), (4, _), (6, _), (7, _), (8, _), (9, _), (14, _), (54, _), (55, _), (67, _), (68, _), (69, _)] [(3, _), (4, _), (6, _), (8, (32, [sl _ _, val _, val _, sl _ _, sl _ _, sl _ _, sl _ _, val _])), (9, _)] ?_
 exact Ic
def abB {p1 p2 p5 p6 p7 p8 p9 p11 p12 p13 p14 p16 p17 p18 : Fl} {e : aD} {q : acv} {l : Int}  (hb : bi e ≤ 68719000000) (hbq : cr q ≤ 68719000000) : aB prog 87 [(true, [sl .v (e.Store.act.map (aC p1 p2)), val (vI e.Store.Now), val (vI e.acy), sl .v (e.Order.map ak), sl .v (e.acu.map (aQ p5 p6 p7 p8 p9)), sl .v (e.Done.map (aX p11 p12 p13 p14)), sl .v (e.acG.map (aZ p16 p17 p18)), val (vI e.Steps)]), (true, [val (vI q.Id), val (vI q.acz), sl .v (q.acw.map bj), sl .v (q.Out.map ak)]), (false, [val (vI l)])] (aA [(true, [sl bo ((fM e q l).1.Store.act.map (aC aS aa)), val (vI (fM e q l).1.Store.Now), val (vI (fM e q l).1.acy), sl aa ((fM e q l).1.Order.map ak), sl bS ((fM e q l).1.acu.map (aQ aw aa aa az aa)), sl bJ ((fM e q l).1.Done.map (aX aw aa az aa)), sl bP ((fM e q l).1.acG.map (aZ aa aa aa)), val (vI (fM e q l).1.Steps)]), (false, [val (.bool (fM e q l).2)])]) := by
 refine sF func87 fun h0 w0 Fz0 => ?_
 refine sn 0 0 fun hl0_0 => ?_
 refine sn 0 3 fun hl0_3 => ?_
 refine sn 0 4 fun hl0_4 => ?_
 refine sn 0 5 fun hl0_5 => ?_
 refine sn 0 6 fun hl0_6 => ?_
 refine sn 1 2 fun hl1_2 => ?_
 refine sn 1 3 fun hl1_3 => ?_
 have hbu := hb
 simp only [bi, da, dQ, dP] at hbu
 refine jx ?_
 refine Lj ?_
 refine rK ?_
 refine sT [2, 3, 4, 6, 7] [3, 4, 6] ?_
 refine tU ?_
 refine sW ?_
 refine KW ?_
 refine Ax ?_
 refine gp ?_
 refine cx 19 (fun ga sga => ?_) (fun ga sga => ?_)
 refine kG ?_
 refine ar.cases (s := 24) rfl (fun g2 => ?_) (fun g2 => nomatch g2)
 refine pM ?_
 refine ar.cases (s := 29) rfl (fun g3 => ?_) (fun g3 => nomatch g3)
 refine pD ?_
 refine rM ?_
 refine ar.cases (s := 36) rfl (fun g4 => ?_) (fun g4 => nomatch g4)
 exact HW
 refine rB ga ?_ (x := lD [val _, val _, sl .v _, sl .v _] fy)
 refine rB ga ?_ (x := cL [(true, [val _, val _, sl _ _, sl _ _])] [(true, [val _, val _, sl .v _, sl .v _])] xZ (hs := by exact yt))
 refine mP ?_
 refine rM ?_
 refine cx 24 (fun gb sgb => ?_) (fun gb sgb => ?_)
 refine ox ?_
 refine ar.cases (s := 29) rfl (fun g7 => ?_) (fun g7 => nomatch g7)
 refine zt g7 ?_
 refine rA ?_ (x := aT g7)
 refine rM ?_
 refine ar.cases (s := 36) rfl (fun g8 => ?_) (fun g8 => nomatch g8)
 exact HX
 refine rB gb ?_ (x := sM)
 refine rB gb ?_ (x := cL [(false, [val _]), (false, [val _]), (false, [val _])] [(false, [val _]), (false, [val _]), (false, [val _])] gv (hs := by exact gz))
 refine sE ?_
 refine cx 29 (fun gc sgc => ?_) (fun gc sgc => ?_)
 refine zt gc ?_
 refine iV ?_
 refine ar.cases (s := 36) rfl (fun g11 => ?_) (fun g11 => nomatch g11)
 exact HY
 refine Me ?_
 refine rB gc ?_ (x := lD [val _] au)
 refine rB gc ?_ (x := cL [(true, [sl _ _, val _, val _, sl _ _, sl _ _, sl _ _, sl _ _, val _]), (false, [val _])] [(true, [sl .v _, val _, val _, sl .v _, sl .v _, sl .v _, sl .v _, val _]), (false, [val _])] ym (hs := by exact yw))
 refine rB gc ?_ (x := iD)
 refine uG ?_
 refine cx 36 (fun gd sgd => ?_) (fun gd sgd => ?_)
 exact HZ
 refine rB gd ?_ (x := lF el)
 refine rB gd ?_ (x := lD [sl .v _] ea)
 refine rB gd ?_ (x := lN bL)
 refine rB gd ?_ (x := iD)
 refine rA ?_ (x := aK gd)
 refine sc (fun hba => ?_) (fun hba => ?_)
 exact rT
 have hok : kP e q l = true := by
  have ho_ : bk e = true := by simp_all
  have hq_ : cJ q = true := by simp_all
  have hl_ : aW l 0 32 = true := by simp_all
  have hef_ := ie ho_
  unfold kP
  rw [ho_, hq_, hl_]
  simp only [Bool.true_and, bq, decide_eq_true_eq]
  exact ⟨by omega, by omega⟩
 obtain ⟨hoe, hoq, hol, hfn, ha8⟩ := vd hok
 have hef := ie hoe
 obtain ⟨hs8, hs1, _, _, _, _⟩ := nq hef.1
 have hcl := Qb (e := e) (x := q.Id)
 refine dt ?_
 refine sP [2, 3, 4, 6, 7, 8] [3, 4, 6, 8] ?_
 refine dw dl ?_
 refine dA 0 ?_ (x := lD [val _, val _, sl .v _, sl .v _] fy)
 refine dA 1 ?_ (x := cL [(true, [val _, val _, sl _ _, sl _ _])] [(true, [val _, val _, sl .v _, sl .v _])] yl (hs := by exact yu (by omega)))
 refine dA 0 ?_ (x := lF hY)
 refine dA 4 ?_ (x := lF fV)
 refine dA 12 ?_ (x := lD [val _] au)
 refine dA 0 ?_ (x := sM)
 refine KB ?_
 refine fF ?_
 refine Kx ?_
 refine cH ?_
 refine sP [2, 3, 4, 6, 7, 8, 9, 10] [3, 4, 6, 8, 9] ?_
 refine sL [2, 3, 4, 6, 7, 8, 9] [3, 4, 6, 8] (fun k : Nat => k ≤ e.Store.act.length) (fun k : Nat => [(10, RV.int (k : Int))]) (fun k : Nat => [(9, (108, [val (vI (ed e q l).acv.Id), val (vI (ed e q l).acv.acz), sl aw ((ed e q l).acv.acw.map bj), sl aa ((ed e q l).acv.Out.map ak), val (vI (ed e q l).Time), sl aa ((pZ k).map ak), val (vI (ed e q l).Age), val (vI (ed e q l).Sent), val (vI (ed e q l).Cap), sl az ((ed e q l).Rows.map (bC aa))]))]) (fun k : Nat => e.Store.act.length - k) 0 (by omega) (by exact aI (by exact rfl) tI) (by exact aI (by exact rfl) tI) ?_
 rintro k hk
 have htl := DE k
 refine eH ?_
 refine rA ?_ (x := lF hY)
 refine sD ?_
 refine sc (fun hbb => ?_) (fun hbb => ?_)
 have hlt : k < e.Store.act.length := by omega
 refine bB ?_
 refine sH [2, 3, 4, 6, 7, 8, 9, 10] [3, 4, 6, 8, 9] ?_
 refine rA ?_ (x := lF hR)
 refine tW ?_
 refine qt ?_
 refine LI ?_
 refine sO [(2, _), (3, _), (4, _), (6, _), (7, _), (8, _), (9, _), (10, _)] [(3, _), (4, _), (6, _), (8, _), (9, (108, [val _, val _, sl _ _, sl _ _, val _, sl _ _, val _, val _, val _, sl _ _]))] ?_
 refine fU ?_
 exact Ia
 have hend : k = e.Store.act.length := by omega
 subst hend
 refine bG ?_
 refine sT [2, 3, 4, 6, 7, 8, 9, 10] [3, 4, 6, 8, 9] ?_
 refine rA ?_ (x := cj (qs := []) (by decide) bL fJ (by decide) rfl rfl rfl rfl rfl (by exact nl rfl) (by exact tI) rfl)
 refine qw ?_
 refine aP ?_
 refine sO [(2, _), (3, _), (4, _), (6, _), (7, _), (8, _), (9, _), (10, _)] [(3, _), (4, _), (6, _), (8, (32, [sl _ _, val _, val _, sl _ _, sl _ _, sl _ _, sl _ _, val _])), (9, _)] ?_
 refine bf ?_
 refine rK ?_
 refine sS [2, 3, 4, 6, 7, 8, 9, 10, 11] [3, 4, 6, 8, 9] ?_
 refine tU ?_
 refine rA ?_ (x := aap (ag := false) (qs := [sl _ _]) (by decide) aby ea (fun _ => rfl) (by exact nl rfl) (by exact rfl))
 refine sq ?_
 refine sS [2, 3, 4, 6, 7, 8, 9, 10, 11, 12] [3, 4, 6, 8, 9] ?_
 refine cH ?_
 refine sP [2, 3, 4, 6, 7, 8, 9, 10, 11, 12, 13] [3, 4, 6, 8, 9] ?_
 refine FC (s := 12) (t := 108) (e := 10) (G := 6200) (f := (aQ aw aa aa az aa)) (g := (fun z : acu => [val (vI z.acv.Id), val (vI z.acv.acz), sl .v (z.acv.acw.map bj), sl .v (z.acv.Out.map ak), val (vI z.Time), sl .v (z.acD.map ak), val (vI z.Age), val (vI z.Sent), val (vI z.Cap), sl .v (z.Rows.map (bC aa))])) (fN := eS) (xs := e.acu) (by exact rfl) (by exact rfl) (by exact rfl) (fun _ _ => rfl) (fun _ => rfl) (fun _ => (ap (ap (aH (aH (ap (aH (ap (ap (ap (aH am.nil))))))))))) (fun _ => (by exact lq)) fun za hza => ?_
 have hzal : za.length = e.acu.length := by rw [← aq (f := Prod.fst), hza]
 refine sP [2, 3, 4, 6, 7, 8, 9, 10, 11, 12, 13, 6200] [3, 4, 6, 8, 9] ?_
 refine Px (d := 9) (e := 10) (G := 6300) (f := (aQ aw aa aa az aa)) (g := (fun z : acu => [val (vI z.acv.Id), val (vI z.acv.acz), sl .v (z.acv.acw.map bj), sl .v (z.acv.Out.map ak), val (vI z.Time), sl .v (z.acD.map ak), val (vI z.Age), val (vI z.Sent), val (vI z.Cap), sl .v (z.Rows.map (bC aa))])) (fN := eS) (ed e q l) (by exact rfl) (by exact rfl) (fun _ _ => rfl) (fun _ => rfl) (ap (ap (aH (aH (ap (aH (ap (ap (ap (aH am.nil)))))))))) (by exact lq) fun kNew => ?_
 refine sO [(2, _), (3, _), (4, _), (6, _), (7, _), (8, _), (9, _), (10, _), (11, _), (12, _), (13, _), (6200, _), (6300, _)] [(3, _), (4, _), (6, _), (8, _), (9, (108, [nv _ (val _), nv _ (val _), nv _ (sl _ _), nv _ (sl _ _), nv _ (val _), nv _ (sl _ _), nv _ (val _), nv _ (val _), nv _ (val _), nv _ (sl _ _)]))] ?_
 refine sL [2, 3, 4, 6, 7, 8, 9, 10, 12, 6200, 6300] [3, 4, 6, 9] (fun m : Nat => m ≤ za.length) (fun m : Nat => [(11, RV.bool (decide ((ee e.acu q.Id) < m))), (13, RV.int (m : Int))]) (fun m : Nat => [(8, (32, [sl bo (e.Store.act.map (aC aS aa)), val (vI e.Store.Now), val (vI e.acy), sl aa (e.Order.map ak), sl bS ((jO za (ed e q l, kNew) (ee e.acu q.Id) m).map eS), sl bJ (e.Done.map (aX aw aa az aa)), sl bP (e.acG.map (aZ aa aa aa)), val (vI e.Steps)]))]) (fun m : Nat => za.length - m) 0 (by omega) (by exact aI (by exact gZ (by simp)) (aI (by exact rfl) tI)) (by exact aI (by show _ = some (32, [sl bo (e.Store.act.map (aC aS aa)), val (vI e.Store.Now), val (vI e.acy), sl aa (e.Order.map ak), sl bS ((jO za (ed e q l, kNew) (ee e.acu q.Id) 0).map eS), sl bJ (e.Done.map (aX aw aa az aa)), sl bP (e.acG.map (aZ aa aa aa)), val (vI e.Steps)]); unfold jO; rw [if_neg (by omega)]; exact rfl) tI) ?_
 rintro m hm
 have hazl := abe (zn := (ed e q l, kNew)) (p := (ee e.acu q.Id)) hm
 refine cP ?_
 refine Cd ?_
 refine sc (fun hbc => ?_) (fun hbc => ?_)
 have hmz : m < za.length := by omega
 have hcl2 := abc (x := q.Id) hoe (show m < e.acu.length by omega)
 have hni := abd (x := q.Id) hfn (show m < e.acu.length by omega)
 have hzm : za[m].1 = e.acu[m] := by simp [← hza]
 refine cO ?_
 refine aP ?_
 refine sO [(2, _), (3, _), (4, _), (6, _), (7, _), (8, _), (9, _), (10, _), (11, _), (12, _), (13, _), (6200, _), (6300, _)] [(3, (32, [sl _ _, val _, val _, sl _ _, sl _ _, sl _ _, sl _ _, val _])), (4, (52, [val _, val _, sl _ _, sl _ _])), (6, (32, [sl _ _, val _, val _, sl _ _, sl _ _, sl _ _, sl _ _, val _])), (8, (32, [sl _ _, val _, val _, sl _ _, sl _ _, sl _ _, sl _ _, val _])), (9, (108, [nv _ (val _), nv _ (val _), nv _ (sl _ _), nv _ (sl _ _), nv _ (val _), nv _ (sl _ _), nv _ (val _), nv _ (val _), nv _ (val _), nv _ (sl _ _)]))] ?_
 refine dw dl ?_
 refine dA 0 ?_ (x := sM)
 refine dA 1 ?_ (x := nT)
 refine dA 3 ?_ (x := sM)
 refine dx 77 (fun ge sge => ?_) (fun ge sge => ?_)
 refine dB 7 ge ?_ (x := vM false [sl .v _])
 refine dB 7 ge ?_ (x := sM)
 refine dB 31 ge ?_ (x := aY (by decide) bL (by exact tI) (by exact rfl) (by exact bc (by omega) rfl) (by exact rfl))
 refine dB 63 ge ?_ (x := bI (by decide) fw (by exact nl rfl))
 refine dB 127 ge ?_ (x := bI (by decide) fx (by exact nl rfl))
 refine dB 255 ge ?_ (x := nA (qs := [val _]) (by decide) au (fun _ => rfl) (by exact nl rfl) (by exact (am.cons (PV.nv_to (jn _)) am.nil)) (by exact (an.cons (bor_val _) an.nil)))
 refine dB 7 ge ?_ (x := lF fx)
 refine dB 519 ge ?_ (x := lD [val _] au)
 refine dB 2047 ge ?_ (x := eN)
 refine dA 4095 ?_ (x := aT ge)
 refine sc (fun hbd => ?_) (fun hbd => ?_)
 have hpm : m = (ee e.acu q.Id) := by rw [hzm] at hbd; first | omega | (simp_all; omega)
 refine sS [2, 3, 4, 6, 7, 8, 9, 10, 11, 12, 13, 6200, 6300] [3, 4, 6, 8, 9] ?_
 refine AH ?_
 refine wn ?_
 refine AC ?_
 refine sO [(2, _), (3, _), (4, _), (6, _), (7, _), (8, _), (9, _), (10, _), (11, _), (12, _), (13, _), (6200, _), (6300, _)] [(3, _), (4, _), (6, _), (8, (32, [sl _ _, val _, val _, sl _ _, sl _ _, sl _ _, sl _ _, val _])), (9, _)] ?_
 refine bf ?_
 refine rK ?_
 exact Ag
 have hpm : m ≠ (ee e.acu q.Id) := by first | (rw [hzm] at hbd; omega) | omega | (simp_all; omega)
 refine bm ?_
 exact Ag
 refine dF 7 ge ?_
 refine dF 7 ge ?_
 refine dF 31 ge ?_
 refine dF 63 ge ?_
 refine dF 127 ge ?_
 refine dF 255 ge ?_
 refine dF 7 ge ?_
 refine dF 519 ge ?_
 refine dF 2047 ge ?_
 refine dA 4095 ?_ (x := aK ge)
 refine fT ?_
 have hpm : m ≠ (ee e.acu q.Id) := by first | (rw [hzm] at hb_; omega) | omega | (simp_all; omega)
 refine bm ?_
 exact Ag
 have hend2 : m = za.length := by omega
 subst hend2
 refine bG ?_
 refine fF ?_
 refine sO [(2, _), (3, _), (4, _), (6, _), (7, _), (8, _), (9, _), (10, _), (11, _), (12, _), (13, _), (6200, _), (6300, _)] [(3, (32, [sl _ _, val _, val _, sl _ _, sl _ _, sl _ _, sl _ _, val _])), (4, (52, [val _, val _, sl _ _, sl _ _])), (6, (32, [sl _ _, val _, val _, sl _ _, sl _ _, sl _ _, sl _ _, val _])), (8, (32, [sl _ _, val _, val _, sl _ _, sl _ _, sl _ _, sl _ _, val _])), (9, (108, [nv _ (val _), nv _ (val _), nv _ (sl _ _), nv _ (sl _ _), nv _ (val _), nv _ (sl _ _), nv _ (val _), nv _ (val _), nv _ (val _), nv _ (sl _ _)]))] ?_
 refine oG ?_
 refine rA ?_ (x := nT)
 refine sc (fun hbd => ?_) (fun hbd => ?_)
 have hpl : (ee e.acu q.Id) = za.length := by first | omega | (simp_all; omega)
 refine sG [2, 3, 4, 6, 7, 8, 9, 10, 11, 12, 13, 6200, 6300] [3, 4, 6, 8, 9] ?_
 refine AH ?_
 refine wn ?_
 refine AC ?_
 refine aP ?_
 refine sO [(2, _), (3, _), (4, _), (6, _), (7, _), (8, _), (9, _), (10, _), (11, _), (12, _), (13, _), (6200, _), (6300, _)] [(3, _), (4, _), (6, _), (8, (32, [sl _ _, val _, val _, sl _ _, sl _ _, sl _ _, sl _ _, val _])), (9, _)] ?_
 exact Ie
 have hpl : (ee e.acu q.Id) < za.length := by first | omega | (simp_all; omega)
 refine dt ?_
 refine sP [2, 3, 4, 6, 7, 8, 9, 10, 11, 12, 13, 6200, 6300] [3, 4, 6, 8, 9] ?_
 exact Ie
end Go.Proofs.YtmekkgdboplbjaaGreat
