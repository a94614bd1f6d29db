/- What functions of the program compute. No condition. -/
import Derived.Test.YtmekkgdboplbjaaGreatCX0
import Derived.Test.YtmekkgdboplbjaaGreatCW0
set_option linter.all false
namespace Go.Proofs.YtmekkgdboplbjaaGreat
open Go Go.RowKit M PV Tryz
set_option maxRecDepth 10000
attribute [local irreducible] PV.Lcl PV.LclR RV.Lcl
set_option maxHeartbeats 8000000
def adx : BI prog 32 3 = some (4, 28) := by kernel_rfl
def ady : dY prog 108 = some [(0, 4), (4, 1), (5, 1), (6, 1), (7, 1), (8, 1), (9, 1)] := by kernel_rfl
def adz {p1 p2 p5 p6 p7 p8 p9 p11 p12 p13 p14 p16 p17 p18 : Fl} {e : aA} {q : aeA} {l : Int}  (hb : bp e ≤ 68719000000) (hbq : eZ q ≤ 68719000000) : aN prog 83 [(true, [sl .v (e.Store.aey.map (aG p1 p2)), val (vI e.Store.Now), val (vI e.aeD), sl .v (e.Order.map am), sl .v (e.aez.map (aT p5 p6 p7 p8 p9)), sl .v (e.Done.map (bn p11 p12 p13 p14)), sl .v (e.aeL.map (bl p16 p17 p18)), val (vI e.Steps)]), (true, [val (vI q.Id), val (vI q.aeE), sl .v (q.aeB.map bH), sl .v (q.Out.map am)]), (false, [val (vI l)])] (aJ [(true, [sl bz ((eR e q l).1.Store.aey.map (aG aV ab)), val (vI (eR e q l).1.Store.Now), val (vI (eR e q l).1.aeD), sl ab ((eR e q l).1.Order.map am), sl ce ((eR e q l).1.aez.map (aT aD ab ab aE ab)), sl bT ((eR e q l).1.Done.map (bn aD ab aE ab)), sl bY ((eR e q l).1.aeL.map (bl ab ab ab)), val (vI (eR e q l).1.Steps)]), (false, [val (.bool (eR e q l).2)])]) := by
 refine sF func83 fun h0 w0 Fz0 => ?_
 refine sn 0 0 fun hl0_0 => ?_
 refine sn 0 3 fun hl0_3 => ?_
 refine sn 0 4 fun hl0_4 => ?_
 refine sn 0 5 fun hl0_5 => ?_
 refine sn 0 6 fun hl0_6 => ?_
 refine sn 1 2 fun hl1_2 => ?_
 refine sn 1 3 fun hl1_3 => ?_
 have hbu := hb
 simp only [bp, fB, fC, fV] at hbu
 refine jO ?_
 refine ON ?_
 refine rK ?_
 refine sT [2, 3, 4, 6, 7] [3, 4, 6] ?_
 refine Cz ?_
 refine tK ?_
 refine OF ?_
 refine sB ?_
 refine fz ?_
 refine cx 20 (fun ga sga => ?_) (fun ga sga => ?_)
 refine jq ?_
 refine aq.cases (s := 25) rfl (fun g2 => ?_) (fun g2 => nomatch g2)
 refine nq ?_
 refine aq.cases (s := 30) rfl (fun g3 => ?_) (fun g3 => nomatch g3)
 refine nn ?_
 refine rM ?_
 refine aq.cases (s := 37) rfl (fun g4 => ?_) (fun g4 => nomatch g4)
 exact KS
 refine NW ?_
 refine lO ?_
 refine rM ?_
 refine cx 25 (fun gb sgb => ?_) (fun gb sgb => ?_)
 refine mC ?_
 refine aq.cases (s := 30) rfl (fun g7 => ?_) (fun g7 => nomatch g7)
 refine zt g7 ?_
 refine rA ?_ (x := aO g7)
 refine rM ?_
 refine aq.cases (s := 37) rfl (fun g8 => ?_) (fun g8 => nomatch g8)
 exact KT
 refine rB gb ?_ (x := sM)
 refine rB gb ?_ (x := cL [(false, [val _]), (false, [val _]), (false, [val _])] [(false, [val _]), (false, [val _]), (false, [val _])] kG (hs := by exact kT))
 refine ti ?_
 refine cx 30 (fun gc sgc => ?_) (fun gc sgc => ?_)
 refine zt gc ?_
 refine hY ?_
 refine aq.cases (s := 37) rfl (fun g11 => ?_) (fun g11 => nomatch g11)
 exact KU
 refine PC ?_
 refine rB gc ?_ (x := lD [val _] az)
 refine rB gc ?_ (x := cL [(true, [sl _ _, val _, val _, sl _ _, sl _ _, sl _ _, sl _ _, val _]), (false, [val _])] [(true, [sl .v _, val _, val _, sl .v _, sl .v _, sl .v _, sl .v _, val _]), (false, [val _])] Rt (hs := by exact TY))
 refine rB gc ?_ (x := iy)
 refine tk ?_
 refine cx 37 (fun gd sgd => ?_) (fun gd sgd => ?_)
 exact KV
 refine rB gd ?_ (x := lF ee)
 refine rB gd ?_ (x := lD [sl .v _] dR)
 refine rB gd ?_ (x := lN cg)
 refine rB gd ?_ (x := dQ)
 refine rA ?_ (x := aF gd)
 refine sc ?_ ?_ <;> intro hba
 exact sy
 have hok : jE e q l = true := by
  have ho_ : aX e = true := by simp_all
  have hq_ : ck q = true := by simp_all
  have hl_ : aK l 0 32 = true := by simp_all
  have hef_ := gW ho_
  unfold jE
  rw [ho_, hq_, hl_]
  simp only [Bool.true_and, aS, decide_eq_true_eq]
  exact ⟨by omega, by omega⟩
 obtain ⟨hoe, hoq, hol, hfn, ha8⟩ := rN hok
 have hef := gW hoe
 obtain ⟨hs8, hs1, _, _, _, _⟩ := mN hef.1
 have hcl := SC (e := e) (x := q.Id)
 refine eG ?_
 refine sP [2, 3, 4, 6, 7, 8] [3, 4, 6, 8] ?_
 refine Dn ?_
 refine dA 1 ?_ (x := cL [(true, [val _, val _, sl _ _, sl _ _])] [(true, [val _, val _, sl .v _, sl .v _])] Rw (hs := by exact TR (by omega)))
 refine dA 0 ?_ (x := lF gG)
 refine dA 4 ?_ (x := lF fK)
 refine dA 12 ?_ (x := lD [val _] az)
 refine dA 0 ?_ (x := sM)
 refine Oh ?_
 refine dJ ?_
 refine Oa ?_
 refine vQ ?_
 refine eo ?_
 refine sP [2, 3, 4, 6, 7, 8, 9, 54, 55] [3, 4, 6, 8, 9] ?_
 refine sL [2, 3, 4, 6, 7, 8, 9, 54] [3, 4, 6, 8] (fun k : Nat => k ≤ e.Store.aey.length) (fun k : Nat => [(55, RV.int (k : Int))]) (fun k : Nat => [(9, (108, [val (vI (cJ e q l).aeA.Id), val (vI (cJ e q l).aeA.aeE), sl aD ((cJ e q l).aeA.aeB.map bH), sl ab ((cJ e q l).aeA.Out.map am), val (vI (cJ e q l).Time), sl ab ((lC k).map am), val (vI (cJ e q l).Age), val (vI (cJ e q l).Sent), val (vI (cJ e q l).Cap), sl aE ((cJ e q l).Rows.map (bI ab))]))]) (fun k : Nat => e.Store.aey.length - k) 0 (by omega) (by exact aI (by exact rfl) tI) (by exact aI (by exact rfl) tI) ?_
 rintro k hk
 have htl := wM k
 refine cn ?_
 refine sc ?_ ?_ <;> intro hbb
 have hlt : k < e.Store.aey.length := by omega
 refine bi ?_
 refine sT [2, 3, 4, 6, 7, 8, 9, 54, 55] [3, 4, 6, 8, 9] ?_
 refine rM ?_
 refine rS ?_
 refine sG [2, 3, 4, 6, 7, 8, 9, 10, 54, 55] [3, 4, 6, 8, 9] ?_
 refine rA ?_ (x := lF jt)
 refine qW ?_
 refine Pg ?_
 refine sO [(2, _), (3, _), (4, _), (6, _), (7, _), (8, _), (9, _), (10, _), (54, _), (55, _)] [(3, _), (4, _), (6, _), (8, _), (9, (108, [val _, val _, sl _ _, sl _ _, val _, sl _ _, val _, val _, val _, sl _ _]))] ?_
 refine bd ?_
 refine cF ?_
 exact KW
 have hend : k = e.Store.aey.length := by omega
 subst hend
 refine bq ?_
 refine sT [2, 3, 4, 6, 7, 8, 9, 54, 55] [3, 4, 6, 8, 9] ?_
 refine vi ?_
 refine dJ ?_
 refine sP [2, 3, 4, 6, 7, 8, 9, 11, 54, 55] [3, 4, 6, 8, 9] ?_
 refine sk (d := 8) (t := 108) (e := 10) (G := 6200) (A := [sl _ _, val _, val _, sl _ _]) (B := [sl _ _, sl _ _, val _]) (f := (aT aD ab ab aE ab)) (g := (fun z : aez => [val (vI z.aeA.Id), val (vI z.aeA.aeE), sl .v (z.aeA.aeB.map bH), sl .v (z.aeA.Out.map am), val (vI z.Time), sl .v (z.aeI.map am), val (vI z.Age), val (vI z.Sent), val (vI z.Cap), sl .v (z.Rows.map (bI ab))])) (fN := ff) (xs := e.aez) (by exact rfl) (by exact rfl) (fun _ _ => rfl) (fun _ => rfl) (fun _ => (ak (ak (aB (aB (ak (aB (ak (ak (ak (aB ao.nil))))))))))) (fun _ => (by exact lq)) fun za hza => ?_
 have hzal : za.length = e.aez.length := by rw [← aw (f := Prod.fst), hza]
 refine sO [(2, _), (3, _), (4, _), (6, _), (7, _), (8, _), (9, _), (11, _), (54, _), (55, _), (6200, _)] [(3, _), (4, _), (6, _), (8, (32, [sl _ _, val _, val _, sl _ _, sl _ _, sl _ _, sl _ _, val _])), (9, _)] ?_
 refine Iz (d := 9) (e := 10) (G := 6300) (f := (aT aD ab ab aE ab)) (g := (fun z : aez => [val (vI z.aeA.Id), val (vI z.aeA.aeE), sl .v (z.aeA.aeB.map bH), sl .v (z.aeA.Out.map am), val (vI z.Time), sl .v (z.aeI.map am), val (vI z.Age), val (vI z.Sent), val (vI z.Cap), sl .v (z.Rows.map (bI ab))])) (fN := ff) (cJ e q l) (by exact rfl) (by exact rfl) (fun _ _ => rfl) (fun _ => rfl) (ak (ak (aB (aB (ak (aB (ak (ak (ak (aB ao.nil)))))))))) (by exact lq) fun kNew => ?_
 refine sO [(2, _), (3, _), (4, _), (6, _), (7, _), (8, _), (9, _), (11, _), (54, _), (55, _), (6200, _), (6300, _)] [(3, _), (4, _), (6, _), (8, _), (9, (108, [nv _ (val _), nv _ (val _), nv _ (sl _ _), nv _ (sl _ _), nv _ (val _), nv _ (sl _ _), nv _ (val _), nv _ (val _), nv _ (val _), nv _ (sl _ _)]))] ?_
 refine bd ?_
 refine oz ?_
 refine sP [2, 3, 4, 6, 7, 8, 9, 11, 54, 55, 67, 68, 69, 6200, 6300] [3, 4, 6, 8, 9] ?_
 refine sL [2, 3, 4, 6, 7, 8, 9, 54, 55, 67, 68, 6200, 6300] [3, 4, 6, 8, 9] (fun m : Nat => m ≤ za.length) (fun m : Nat => [(11, RV.slc ce ((jF q.Id (za.take m)).map ff)), (69, RV.int (m : Int))]) (fun m : Nat => []) (fun m : Nat => za.length - m) 0 (by omega) (by exact aI (by exact rfl) (aI (by exact rfl) tI)) (by exact tI) ?_
 rintro m hm
 have hfl := aba (x := q.Id) (zs := za) (k := m)
 refine cn ?_
 refine sc ?_ ?_ <;> intro hbc
 have hmz : m < za.length := by omega
 refine dh ?_
 refine ME ?_
 refine yl ?_
 refine yn ?_
 refine be ?_
 refine sO [(2, _), (3, _), (4, _), (6, _), (7, _), (8, _), (9, _), (11, _), (13, _), (54, _), (55, _), (67, _), (68, _), (69, _), (6200, _), (6300, _)] [(3, _), (4, _), (6, _), (8, _), (9, _), (13, (108, [nv _ (val _), nv _ (val _), nv _ (sl _ _), nv _ (sl _ _), nv _ (val _), nv _ (sl _ _), nv _ (val _), nv _ (val _), nv _ (val _), nv _ (sl _ _)]))] ?_
 refine bd ?_
 refine rA ?_ (x := lF gV)
 refine rA ?_ (x := lF ib)
 refine rA ?_ (x := gp (qs := [val _]) (by decide) az (fun _ => rfl) (by exact nl rfl) (by exact (ao.cons (PV.nv_to (la _)) ao.nil)) (by exact (aj.cons (bor_val _) aj.nil)))
 refine vF ?_
 refine rA ?_ (x := dq)
 refine sc ?_ ?_ <;> intro hbd
 have hlz : jd q.Id za[m].1 = true := by simpa [jd] using hbd
 refine sG [2, 3, 4, 6, 7, 8, 9, 11, 13, 54, 55, 67, 68, 69, 6200, 6300] [3, 4, 6, 8, 9, 13] ?_
 refine rA ?_ (x := tM)
 refine yi ?_
 refine uZ ?_
 exact KX
 have hlz : jd q.Id za[m].1 = false := by simpa [jd] using hbd
 refine bb ?_
 exact KX
 have hend2 : m = za.length := by omega
 have hfa : jF q.Id (za.take m) = jF q.Id za := by rw [hend2, cj]
 rw [hfa]
 have hfl2 := SA (x := q.Id) hza
 refine er ?_
 refine ME ?_
 refine rA ?_ (x := vM false [sl .v _])
 refine rA ?_ (x := lN cg)
 refine rS ?_
 refine PN ?_
 refine yi ?_
 refine uZ ?_
 refine PN ?_
 refine mx ?_
 refine rM ?_
 refine rA ?_ (x := se (i := (dC e.aez q.Id)) (j := za.length) (ys := (za.drop (dC e.aez q.Id))) (r := ((za.length : Nat) : Int)) (by decide) cg (by exact tI) (by exact rfl) (by omega) (by omega) (by omega) (by omega) (fun _ => rfl) (by rw [cj]))
 refine rA ?_ (x := it (by decide) cg gI rfl rfl (by decide) (by intro cs hcs; obtain ⟨x, _, rfl⟩ := List.mem_map.1 hcs; exact rfl) (by intro cs hcs; obtain ⟨x, _, rfl⟩ := List.mem_map.1 hcs; exact (by exact lq)) (by simp only [aw, aM, List.length_cons, List.length_nil, fH]; omega) (by simp only [aw, aM, List.length_cons, List.length_nil, fH]; omega))
 refine sD ?_
 refine be ?_
 refine sO [(2, _), (3, _), (4, _), (6, _), (7, _), (8, _), (9, _), (14, _), (54, _), (55, _), (67, _), (68, _), (69, _), (6200, _), (6300, _)] [(3, _), (4, _), (6, _), (8, (32, [sl _ _, val _, val _, sl _ _, sl _ _, sl _ _, sl _ _, val _])), (9, _)] ?_
 refine cV (d := 8) (by exact rfl) (show _ = [sl bz (e.Store.aey.map (aG aV ab)), val (vI e.Store.Now), val (vI e.aeD), sl ab (e.Order.map am), sl ce ((za.take (dC e.aez q.Id) ++ (cJ e q l, kNew) :: za.drop (dC e.aez q.Id)).map ff), sl bT (e.Done.map (bn aD ab aE ab)), sl bY (e.aeL.map (bl ab ab ab)), val (vI e.Steps)] from by rw [← SB hoe hza]; simp only [bj, List.map_cons, List.map_nil, bu]; exact rfl) ?_
 refine sP [2, 3, 4, 6, 7, 8, 9, 14, 54, 55, 67, 68, 69, 6200, 6300] [3, 4, 6, 8, 9] ?_
 refine If (G := 6300) (H := 6200) (e := 10) (f := (aT aD ab ab aE ab)) (by exact rfl) (by exact rfl) (by exact rfl) ?_
 refine sP [2, 3, 4, 6, 7, 8, 9, 14, 54, 55, 67, 68, 69, 6300] [3, 4, 6, 8, 9] ?_
 refine BH (d := 8) (t := 108) (e := 10) (G := 6300) (A := [sl _ _, val _, val _, sl _ _]) (B := [sl _ _, sl _ _, val _]) (f := (aT aD ab ab aE ab)) (g := (fun z : aez => [val (vI z.aeA.Id), val (vI z.aeA.aeE), sl .v (z.aeA.aeB.map bH), sl .v (z.aeA.Out.map am), val (vI z.Time), sl .v (z.aeI.map am), val (vI z.Age), val (vI z.Sent), val (vI z.Cap), sl .v (z.Rows.map (bI ab))])) (fN := ff) (ys := (za.take (dC e.aez q.Id) ++ (cJ e q l, kNew) :: za.drop (dC e.aez q.Id))) [] (jD e q l) (by exact rfl) (by exact rfl) (fun _ _ => rfl) (fun _ => rfl) (fun _ => rfl) (SE) (SF hoe hza) ?_
 refine sO [(2, _), (3, _), (4, _), (6, _), (7, _), (8, _), (9, _), (14, _), (54, _), (55, _), (67, _), (68, _), (69, _)] [(3, _), (4, _), (6, _), (8, (32, [sl _ _, val _, val _, sl _ _, sl _ _, sl _ _, sl _ _, val _])), (9, _)] ?_
 exact KY
def adA {p1 p2 p5 p6 p7 p8 p9 p11 p12 p13 p14 p16 p17 p18 : Fl} {e : aA} {q : aeA} {l : Int}  (hb : bp e ≤ 68719000000) (hbq : eZ q ≤ 68719000000) : aN prog 87 [(true, [sl .v (e.Store.aey.map (aG p1 p2)), val (vI e.Store.Now), val (vI e.aeD), sl .v (e.Order.map am), sl .v (e.aez.map (aT p5 p6 p7 p8 p9)), sl .v (e.Done.map (bn p11 p12 p13 p14)), sl .v (e.aeL.map (bl p16 p17 p18)), val (vI e.Steps)]), (true, [val (vI q.Id), val (vI q.aeE), sl .v (q.aeB.map bH), sl .v (q.Out.map am)]), (false, [val (vI l)])] (aJ [(true, [sl bz ((eR e q l).1.Store.aey.map (aG aV ab)), val (vI (eR e q l).1.Store.Now), val (vI (eR e q l).1.aeD), sl ab ((eR e q l).1.Order.map am), sl ce ((eR e q l).1.aez.map (aT aD ab ab aE ab)), sl bT ((eR e q l).1.Done.map (bn aD ab aE ab)), sl bY ((eR e q l).1.aeL.map (bl ab ab ab)), val (vI (eR e q l).1.Steps)]), (false, [val (.bool (eR e q l).2)])]) := by
 refine sF func87 fun h0 w0 Fz0 => ?_
 refine sn 0 0 fun hl0_0 => ?_
 refine sn 0 3 fun hl0_3 => ?_
 refine sn 0 4 fun hl0_4 => ?_
 refine sn 0 5 fun hl0_5 => ?_
 refine sn 0 6 fun hl0_6 => ?_
 refine sn 1 2 fun hl1_2 => ?_
 refine sn 1 3 fun hl1_3 => ?_
 have hbu := hb
 simp only [bp, fB, fC, fV] at hbu
 refine jO ?_
 refine ON ?_
 refine rK ?_
 refine sT [2, 3, 4, 6, 7] [3, 4, 6] ?_
 refine ym ?_
 refine tK ?_
 refine OF ?_
 refine CA ?_
 refine fz ?_
 refine cx 19 (fun ga sga => ?_) (fun ga sga => ?_)
 refine jq ?_
 refine aq.cases (s := 24) rfl (fun g2 => ?_) (fun g2 => nomatch g2)
 refine nq ?_
 refine aq.cases (s := 29) rfl (fun g3 => ?_) (fun g3 => nomatch g3)
 refine nn ?_
 refine rM ?_
 refine aq.cases (s := 36) rfl (fun g4 => ?_) (fun g4 => nomatch g4)
 exact KS
 refine rB ga ?_ (x := lD [val _, val _, sl .v _, sl .v _] eQ)
 refine rB ga ?_ (x := cL [(true, [val _, val _, sl _ _, sl _ _])] [(true, [val _, val _, sl .v _, sl .v _])] tQ (hs := by exact ur))
 refine lO ?_
 refine rM ?_
 refine cx 24 (fun gb sgb => ?_) (fun gb sgb => ?_)
 refine mC ?_
 refine aq.cases (s := 29) rfl (fun g7 => ?_) (fun g7 => nomatch g7)
 refine zt g7 ?_
 refine rA ?_ (x := aO g7)
 refine rM ?_
 refine aq.cases (s := 36) rfl (fun g8 => ?_) (fun g8 => nomatch g8)
 exact KT
 refine rB gb ?_ (x := sM)
 refine rB gb ?_ (x := cL [(false, [val _]), (false, [val _]), (false, [val _])] [(false, [val _]), (false, [val _]), (false, [val _])] fX (hs := by exact gl))
 refine ti ?_
 refine cx 29 (fun gc sgc => ?_) (fun gc sgc => ?_)
 refine zt gc ?_
 refine hY ?_
 refine aq.cases (s := 36) rfl (fun g11 => ?_) (fun g11 => nomatch g11)
 exact KU
 refine PC ?_
 refine rB gc ?_ (x := lD [val _] az)
 refine rB gc ?_ (x := cL [(true, [sl _ _, val _, val _, sl _ _, sl _ _, sl _ _, sl _ _, val _]), (false, [val _])] [(true, [sl .v _, val _, val _, sl .v _, sl .v _, sl .v _, sl .v _, val _]), (false, [val _])] Ad (hs := by exact AS))
 refine rB gc ?_ (x := iy)
 refine tk ?_
 refine cx 36 (fun gd sgd => ?_) (fun gd sgd => ?_)
 exact KV
 refine rB gd ?_ (x := lF ee)
 refine rB gd ?_ (x := lD [sl .v _] dR)
 refine rB gd ?_ (x := lN cg)
 refine rB gd ?_ (x := iy)
 refine rA ?_ (x := aF gd)
 refine sc ?_ ?_ <;> intro hba
 exact sy
 have hok : jE e q l = true := by
  have ho_ : aX e = true := by simp_all
  have hq_ : ck q = true := by simp_all
  have hl_ : aK l 0 32 = true := by simp_all
  have hef_ := gW ho_
  unfold jE
  rw [ho_, hq_, hl_]
  simp only [Bool.true_and, aS, decide_eq_true_eq]
  exact ⟨by omega, by omega⟩
 obtain ⟨hoe, hoq, hol, hfn, ha8⟩ := rN hok
 have hef := gW hoe
 obtain ⟨hs8, hs1, _, _, _, _⟩ := mN hef.1
 have hcl := SC (e := e) (x := q.Id)
 refine eG ?_
 refine sP [2, 3, 4, 6, 7, 8] [3, 4, 6, 8] ?_
 refine Dn ?_
 refine dA 1 ?_ (x := cL [(true, [val _, val _, sl _ _, sl _ _])] [(true, [val _, val _, sl .v _, sl .v _])] Ac (hs := by exact AQ (by omega)))
 refine dA 0 ?_ (x := lF gG)
 refine dA 4 ?_ (x := lF fK)
 refine dA 12 ?_ (x := lD [val _] az)
 refine dA 0 ?_ (x := sM)
 refine Oh ?_
 refine dJ ?_
 refine Oa ?_
 refine ca ?_
 refine sP [2, 3, 4, 6, 7, 8, 9, 10] [3, 4, 6, 8, 9] ?_
 refine sL [2, 3, 4, 6, 7, 8, 9] [3, 4, 6, 8] (fun k : Nat => k ≤ e.Store.aey.length) (fun k : Nat => [(10, RV.int (k : Int))]) (fun k : Nat => [(9, (108, [val (vI (cJ e q l).aeA.Id), val (vI (cJ e q l).aeA.aeE), sl aD ((cJ e q l).aeA.aeB.map bH), sl ab ((cJ e q l).aeA.Out.map am), val (vI (cJ e q l).Time), sl ab ((lC k).map am), val (vI (cJ e q l).Age), val (vI (cJ e q l).Sent), val (vI (cJ e q l).Cap), sl aE ((cJ e q l).Rows.map (bI ab))]))]) (fun k : Nat => e.Store.aey.length - k) 0 (by omega) (by exact aI (by exact rfl) tI) (by exact aI (by exact rfl) tI) ?_
 rintro k hk
 have htl := wM k
 refine de ?_
 refine rA ?_ (x := lF gG)
 refine lM ?_
 refine rA ?_ (x := dq)
 refine sc ?_ ?_ <;> intro hbb
 have hlt : k < e.Store.aey.length := by omega
 refine bi ?_
 refine sH [2, 3, 4, 6, 7, 8, 9, 10] [3, 4, 6, 8, 9] ?_
 refine rA ?_ (x := lF jt)
 refine qW ?_
 refine Pg ?_
 refine sO [(2, _), (3, _), (4, _), (6, _), (7, _), (8, _), (9, _), (10, _)] [(3, _), (4, _), (6, _), (8, _), (9, (108, [val _, val _, sl _ _, sl _ _, val _, sl _ _, val _, val _, val _, sl _ _]))] ?_
 refine pE ?_
 exact KW
 have hend : k = e.Store.aey.length := by omega
 subst hend
 refine bq ?_
 refine sT [2, 3, 4, 6, 7, 8, 9, 10] [3, 4, 6, 8, 9] ?_
 refine rA ?_ (x := bP (qs := []) (by decide) cg gI (by decide) rfl rfl rfl rfl rfl (by exact nl rfl) (by exact tI) rfl)
 refine sD ?_
 refine be ?_
 refine sO [(2, _), (3, _), (4, _), (6, _), (7, _), (8, _), (9, _), (10, _)] [(3, _), (4, _), (6, _), (8, (32, [sl _ _, val _, val _, sl _ _, sl _ _, sl _ _, sl _ _, val _])), (9, _)] ?_
 refine bd ?_
 refine rK ?_
 refine sS [2, 3, 4, 6, 7, 8, 9, 10, 11] [3, 4, 6, 8, 9] ?_
 refine ym ?_
 refine rA ?_ (x := VV (ag := false) (qs := [sl _ _]) (by decide) adx dR (fun _ => rfl) (by exact nl rfl) (by exact rfl))
 refine qI ?_
 refine sS [2, 3, 4, 6, 7, 8, 9, 10, 11, 12] [3, 4, 6, 8, 9] ?_
 refine ca ?_
 refine sP [2, 3, 4, 6, 7, 8, 9, 10, 11, 12, 13] [3, 4, 6, 8, 9] ?_
 refine Ie (s := 12) (t := 108) (e := 10) (G := 6200) (f := (aT aD ab ab aE ab)) (g := (fun z : aez => [val (vI z.aeA.Id), val (vI z.aeA.aeE), sl .v (z.aeA.aeB.map bH), sl .v (z.aeA.Out.map am), val (vI z.Time), sl .v (z.aeI.map am), val (vI z.Age), val (vI z.Sent), val (vI z.Cap), sl .v (z.Rows.map (bI ab))])) (fN := ff) (xs := e.aez) (by exact rfl) (by exact rfl) (by exact rfl) (fun _ _ => rfl) (fun _ => rfl) (fun _ => (ak (ak (aB (aB (ak (aB (ak (ak (ak (aB ao.nil))))))))))) (fun _ => (by exact lq)) fun za hza => ?_
 have hzal : za.length = e.aez.length := by rw [← aw (f := Prod.fst), hza]
 refine sP [2, 3, 4, 6, 7, 8, 9, 10, 11, 12, 13, 6200] [3, 4, 6, 8, 9] ?_
 refine Iz (d := 9) (e := 10) (G := 6300) (f := (aT aD ab ab aE ab)) (g := (fun z : aez => [val (vI z.aeA.Id), val (vI z.aeA.aeE), sl .v (z.aeA.aeB.map bH), sl .v (z.aeA.Out.map am), val (vI z.Time), sl .v (z.aeI.map am), val (vI z.Age), val (vI z.Sent), val (vI z.Cap), sl .v (z.Rows.map (bI ab))])) (fN := ff) (cJ e q l) (by exact rfl) (by exact rfl) (fun _ _ => rfl) (fun _ => rfl) (ak (ak (aB (aB (ak (aB (ak (ak (ak (aB ao.nil)))))))))) (by exact lq) fun kNew => ?_
 refine sO [(2, _), (3, _), (4, _), (6, _), (7, _), (8, _), (9, _), (10, _), (11, _), (12, _), (13, _), (6200, _), (6300, _)] [(3, _), (4, _), (6, _), (8, _), (9, (108, [nv _ (val _), nv _ (val _), nv _ (sl _ _), nv _ (sl _ _), nv _ (val _), nv _ (sl _ _), nv _ (val _), nv _ (val _), nv _ (val _), nv _ (sl _ _)]))] ?_
 refine sL [2, 3, 4, 6, 7, 8, 9, 10, 12, 6200, 6300] [3, 4, 6, 9] (fun m : Nat => m ≤ za.length) (fun m : Nat => [(11, RV.bool (decide ((dC e.aez q.Id) < m))), (13, RV.int (m : Int))]) (fun m : Nat => [(8, (32, [sl bz (e.Store.aey.map (aG aV ab)), val (vI e.Store.Now), val (vI e.aeD), sl ab (e.Order.map am), sl ce ((ku za (cJ e q l, kNew) (dC e.aez q.Id) m).map ff), sl bT (e.Done.map (bn aD ab aE ab)), sl bY (e.aeL.map (bl ab ab ab)), val (vI e.Steps)]))]) (fun m : Nat => za.length - m) 0 (by omega) (by exact aI (by exact fS (by simp)) (aI (by exact rfl) tI)) (by exact aI (by show _ = some (32, [sl bz (e.Store.aey.map (aG aV ab)), val (vI e.Store.Now), val (vI e.aeD), sl ab (e.Order.map am), sl ce ((ku za (cJ e q l, kNew) (dC e.aez q.Id) 0).map ff), sl bT (e.Done.map (bn aD ab aE ab)), sl bY (e.aeL.map (bl ab ab ab)), val (vI e.Steps)]); unfold ku; rw [if_neg (by omega)]; exact rfl) tI) ?_
 rintro m hm
 have hazl := abc (zn := (cJ e q l, kNew)) (p := (dC e.aez q.Id)) hm
 refine oq ?_
 refine rA ?_ (x := lN cg)
 refine rA ?_ (x := dq)
 refine sc ?_ ?_ <;> intro hbc
 have hmz : m < za.length := by omega
 have hcl2 := SD (x := q.Id) hoe (show m < e.aez.length by omega)
 have hni := Gi (x := q.Id) hfn (show m < e.aez.length by omega)
 have hzm : za[m].1 = e.aez[m] := by simp [← hza]
 refine bi ?_
 refine MG ?_
 refine qE ?_
 refine dA 1 ?_ (x := nT)
 refine dA 3 ?_ (x := sM)
 refine dx 77 (fun ge sge => ?_) (fun ge sge => ?_)
 refine dB 7 ge ?_ (x := vM false [sl .v _])
 refine dB 7 ge ?_ (x := sM)
 refine dB 31 ge ?_ (x := aU (by decide) cg (by exact tI) (by exact rfl) (by exact aW (by omega) rfl) (by exact rfl))
 refine dB 63 ge ?_ (x := cd (by decide) gV (by exact nl rfl))
 refine dB 127 ge ?_ (x := cd (by decide) ib (by exact nl rfl))
 refine dB 255 ge ?_ (x := nS (qs := [val _]) (by decide) az (fun _ => rfl) (by exact nl rfl) (by exact (ao.cons (PV.nv_to (la _)) ao.nil)) (by exact (aj.cons (bor_val _) aj.nil)))
 refine dB 7 ge ?_ (x := lF ib)
 refine dB 519 ge ?_ (x := lD [val _] az)
 refine dB 2047 ge ?_ (x := dI)
 refine dA 4095 ?_ (x := aO ge)
 refine sc ?_ ?_ <;> intro hbd
 have hpm : m = (dC e.aez q.Id) := by rw [hzm] at hbd; first | omega | (simp_all; omega)
 refine sS [2, 3, 4, 6, 7, 8, 9, 10, 11, 12, 13, 6200, 6300] [3, 4, 6, 8, 9] ?_
 refine CJ ?_
 refine yi ?_
 refine CF ?_
 refine Nt ?_
 refine rK ?_
 exact Cf
 have hpm : m ≠ (dC e.aez q.Id) := by first | (rw [hzm] at hbd; omega) | omega | (simp_all; omega)
 refine bb ?_
 exact Cf
 refine dF 7 ge ?_
 refine dF 7 ge ?_
 refine dF 31 ge ?_
 refine dF 63 ge ?_
 refine dF 127 ge ?_
 refine dF 255 ge ?_
 refine dF 7 ge ?_
 refine dF 519 ge ?_
 refine dF 2047 ge ?_
 refine dA 4095 ?_ (x := aF ge)
 refine eX ?_
 have hpm : m ≠ (dC e.aez q.Id) := by first | (rw [hzm] at hb_; omega) | omega | (simp_all; omega)
 refine bb ?_
 exact Cf
 have hend2 : m = za.length := by omega
 subst hend2
 refine bq ?_
 refine MG ?_
 refine lP ?_
 refine rA ?_ (x := nT)
 refine sc ?_ ?_ <;> intro hbd
 have hpl : (dC e.aez q.Id) = za.length := by first | omega | (simp_all; omega)
 refine sG [2, 3, 4, 6, 7, 8, 9, 10, 11, 12, 13, 6200, 6300] [3, 4, 6, 8, 9] ?_
 refine CJ ?_
 refine yi ?_
 refine CF ?_
 refine be ?_
 refine sO [(2, _), (3, _), (4, _), (6, _), (7, _), (8, _), (9, _), (10, _), (11, _), (12, _), (13, _), (6200, _), (6300, _)] [(3, _), (4, _), (6, _), (8, (32, [sl _ _, val _, val _, sl _ _, sl _ _, sl _ _, sl _ _, val _])), (9, _)] ?_
 exact KZ
 have hpl : (dC e.aez q.Id) < za.length := by first | omega | (simp_all; omega)
 refine eG ?_
 refine sP [2, 3, 4, 6, 7, 8, 9, 10, 11, 12, 13, 6200, 6300] [3, 4, 6, 8, 9] ?_
 exact KZ
end Go.Proofs.YtmekkgdboplbjaaGreat
