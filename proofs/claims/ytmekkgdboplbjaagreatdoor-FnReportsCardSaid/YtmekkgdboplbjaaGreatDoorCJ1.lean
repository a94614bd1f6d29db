/- What functions of the program compute. No condition. -/
import Derived.Test.YtmekkgdboplbjaaGreatDoorCD1
import Derived.Test.YtmekkgdboplbjaaGreatDoorCF1
set_option linter.all false
namespace Go.Proofs.YtmekkgdboplbjaaGreatDoor
open Go Go.RowKit M PV
set_option maxRecDepth 10000
attribute [local irreducible] PV.Lcl PV.LclR RV.Lcl
set_option maxHeartbeats 8000000
def XP : yI Tryz.prog 46 3 = some (4, 42) := by kernel_rfl
def XQ : dL Tryz.prog 102 = some [(0, 4), (4, 1), (5, 1), (6, 1), (7, 1), (8, 1), (9, 1)] := by kernel_rfl
def Nh {p1 p2 p5 p6 p7 p8 p9 p11 p12 p13 p14 p16 p17 p18 : Fl} {e : ay} {q : ZG} {l : Int}  (hb : bB e ≤ 68719000000) (hbq : eM q ≤ 68719000000) : aN Tryz.prog 222 [(true, [sl .v (e.Store.ZE.map (aO p1 p2)), val (vI e.Store.Now), val (vI e.ZJ), sl .v (e.Order.map an), sl .v (e.ZF.map (bq p5 p6 p7 p8 p9)), sl .v (e.Done.map (bN p11 p12 p13 p14)), sl .v (e.ZR.map (bF p16 p17 p18)), val (vI e.Steps)]), (true, [val (vI q.Id), val (vI q.ZK), sl .v (q.ZH.map dj), sl .v (q.Out.map an)]), (false, [val (vI l)])] (aF [(true, [sl bQ ((iT e q l).1.Store.ZE.map (aO be ae)), val (vI (iT e q l).1.Store.Now), val (vI (iT e q l).1.ZJ), sl ae ((iT e q l).1.Order.map an), sl dr ((iT e q l).1.ZF.map (bq aP ae ae aR ae)), sl cQ ((iT e q l).1.Done.map (bN aP ae aR ae)), sl cH ((iT e q l).1.ZR.map (bF ae ae ae)), val (vI (iT e q l).1.Steps)]), (false, [val (.bool (iT e q l).2)])]) := by
 refine sF Tryz.func222 fun h0 w0 Fz0 => ?_
 refine sn 0 0 fun hl0_0 => ?_
 refine sn 0 3 fun hl0_3 => ?_
 refine sn 0 4 fun hl0_4 => ?_
 refine sn 0 5 fun hl0_5 => ?_
 refine sn 0 6 fun hl0_6 => ?_
 refine sn 1 2 fun hl1_2 => ?_
 refine sn 1 3 fun hl1_3 => ?_
 have hbu := hb
 simp only [bB, ix, mC, hZ] at hbu
 refine zip ?_
 refine rX ?_ (x := (fY (ag := true) (cs := [val _, val _, sl _ _, sl _ _]) (by decide) (by exact tI)))
 refine rX ?_ (x := (db (by decide) pj pn))
 refine rK ?_
 refine sT [2, 3, 4, 6, 7] [3, 4, 6] ?_
 refine HP ?_
 refine oE ?_
 refine dO ?_
 refine sO [(2, _), (3, _), (4, _), (6, _), (7, _), (8, _)] [(3, _), (4, _), (6, _), (8, (46, [sl _ _, val _, val _, sl _ _, sl _ _, sl _ _, sl _ _, val _]))] ?_
 refine bi ?_
 refine zx ?_
 refine gk ?_
 refine cx 19 (fun ga sga => ?_) (fun ga sga => ?_)
 refine lO ?_
 refine az.cases (s := 24) rfl (fun g2 => ?_) (fun g2 => nomatch g2)
 refine my ?_
 refine rM ?_
 refine az.cases (s := 29) rfl (fun g3 => ?_) (fun g3 => nomatch g3)
 refine pX ?_
 refine rM ?_
 refine az.cases (s := 36) rfl (fun g4 => ?_) (fun g4 => nomatch g4)
 refine zt g4 ?_
 refine rA ?_ (x := aK g4)
 refine cO ?_
 exact sN
 refine rB ga ?_ (x := lD [val _, val _, sl .v _, sl .v _] fh)
 refine rB ga ?_ (x := cL [(true, [val _, val _, sl _ _, sl _ _])] [(true, [val _, val _, sl .v _, sl .v _])] wM (hs := by exact xr))
 refine rB ga ?_ (x := nT)
 refine lf ?_
 refine cx 24 (fun gb sgb => ?_) (fun gb sgb => ?_)
 refine qa ?_
 refine az.cases (s := 29) rfl (fun g7 => ?_) (fun g7 => nomatch g7)
 refine zt g7 ?_
 refine rA ?_ (x := aK g7)
 refine rM ?_
 refine az.cases (s := 36) rfl (fun g8 => ?_) (fun g8 => nomatch g8)
 refine zt g8 ?_
 refine rA ?_ (x := aK g8)
 refine cO ?_
 exact sN
 refine IF ?_
 refine wG ?_
 refine cx 29 (fun gc sgc => ?_) (fun gc sgc => ?_)
 refine ny ?_
 refine rM ?_
 refine az.cases (s := 36) rfl (fun g11 => ?_) (fun g11 => nomatch g11)
 refine zt g11 ?_
 refine rA ?_ (x := aK g11)
 refine cO ?_
 exact sN
 refine rB gc ?_ (x := lD [sl .v _, val _, val _, sl .v _, sl .v _, sl .v _, sl .v _, val _] co)
 refine rB gc ?_ (x := lF iB)
 refine rB gc ?_ (x := lD [val _] aw)
 refine rB gc ?_ (x := cL [(true, [sl _ _, val _, val _, sl _ _, sl _ _, sl _ _, sl _ _, val _]), (false, [val _])] [(true, [sl .v _, val _, val _, sl .v _, sl .v _, sl .v _, sl .v _, val _]), (false, [val _])] xf (hs := by exact xN))
 refine rB gc ?_ (x := jD)
 refine rA ?_ (x := aH gc)
 refine rM ?_
 refine cx 36 (fun gd sgd => ?_) (fun gd sgd => ?_)
 refine zt gd ?_
 refine rA ?_ (x := aK gd)
 refine cO ?_
 exact sN
 refine rB gd ?_ (x := lF eQ)
 refine rB gd ?_ (x := lD [sl .v _] eG)
 refine rB gd ?_ (x := lN ct)
 refine rB gd ?_ (x := jD)
 refine rA ?_ (x := aH gd)
 refine sc (fun hba => ?_) (fun hba => ?_)
 exact sN
 have hok : mg e q l = true := by
  have ho_ : aT e = true := by simp_all
  have hq_ : bG q = true := by simp_all
  have hl_ : aB l 0 32 = true := by simp_all
  have hef_ := gU ho_
  unfold mg
  rw [ho_, hq_, hl_]
  simp only [Bool.true_and, aL, decide_eq_true_eq]
  exact ⟨by omega, by omega⟩
 obtain ⟨hoe, hoq, hol, hfn, ha8⟩ := xC hok
 have hef := gU hoe
 obtain ⟨hs8, hs1, _, _, _, _⟩ := jd hef.1
 have hcl := Wr (e := e) (x := q.Id)
 refine eA ?_
 refine sP [2, 3, 4, 6, 7, 8] [3, 4, 6, 8] ?_
 refine cv cd ?_
 refine dA 0 ?_ (x := lD [val _, val _, sl .v _, sl .v _] fh)
 refine dA 1 ?_ (x := cL [(true, [val _, val _, sl _ _, sl _ _])] [(true, [val _, val _, sl .v _, sl .v _])] Br (hs := by exact BJ (by omega)))
 refine dA 0 ?_ (x := lF fB)
 refine dA 4 ?_ (x := lF fG)
 refine dA 12 ?_ (x := lD [val _] aw)
 refine dA 0 ?_ (x := sM)
 refine dA 63 ?_ (x := dM (qs := [(true, [val _, val _, sl _ _, sl _ _]), (false, [val _]), (false, [val _])]) (cs := [val _, val _, sl _ _, sl _ _, val _, sl _ _, val _, val _, val _, sl _ _]) (by decide) jl xm XQ (by exact rfl) (by exact (aI (by exact tI) (aI (by exact tI) (aI (by exact tI) tI)))) rfl (by exact rfl))
 refine bv.step 0 (by exact tI) (by exact tI) (bK.of rfl (db (by decide) jl xm)) (pB (cJ.of_ rfl)) (by kernel_rfl) ?_
 refine dA 255 ?_ (x := bf (ag := true) (vs := [val _, val _, sl _ _, sl _ _, val _, sl _ _, val _, val _, val _, sl _ _]) lu (by exact tI) (by exact rfl) (by exact nl rfl))
 refine dO ?_
 refine sO [(2, _), (3, _), (4, _), (6, _), (7, _), (8, _), (9, _)] [(3, _), (4, _), (6, _), (8, _), (9, (102, [val _, val _, sl _ _, sl _ _, val _, sl _ _, val _, val _, val _, sl _ _]))] ?_
 refine rq ?_
 refine sP [2, 3, 4, 6, 7, 8, 9, 10] [3, 4, 6, 8, 9] ?_
 refine sL [2, 3, 4, 6, 7, 8, 9] [3, 4, 6, 8] (fun k : Nat => k ≤ e.Store.ZE.length) (fun k : Nat => [(10, RV.int (k : Int))]) (fun k : Nat => [(9, (102, [val (vI (eU e q l).ZG.Id), val (vI (eU e q l).ZG.ZK), sl aP ((eU e q l).ZG.ZH.map dj), sl ae ((eU e q l).ZG.Out.map an), val (vI (eU e q l).Time), sl ae ((mV k).map an), val (vI (eU e q l).Age), val (vI (eU e q l).Sent), val (vI (eU e q l).Cap), sl aR ((eU e q l).Rows.map (dt ae))]))]) (fun k : Nat => e.Store.ZE.length - k) 0 (by omega) (by exact aI (by exact rfl) tI) (by exact aI (by exact rfl) tI) ?_
 rintro k hk
 have htl := Cm k
 refine cI ?_
 refine rA ?_ (x := lF fB)
 refine rj ?_
 refine sc (fun hbb => ?_) (fun hbb => ?_)
 have hlt : k < e.Store.ZE.length := by omega
 refine bw ?_
 refine sH [2, 3, 4, 6, 7, 8, 9, 10] [3, 4, 6, 8, 9] ?_
 refine rA ?_ (x := lF ls)
 refine sX ?_
 refine qT ?_
 refine rA ?_ (x := lF ls)
 refine rA ?_ (x := bf (ag := false) (vs := [sl _ _]) bz (by exact tI) (by exact rfl) (by exact nl rfl))
 refine sO [(2, _), (3, _), (4, _), (6, _), (7, _), (8, _), (9, _), (10, _)] [(3, _), (4, _), (6, _), (8, _), (9, (102, [val _, val _, sl _ _, sl _ _, val _, sl _ _, val _, val _, val _, sl _ _]))] ?_
 refine rp ?_
 refine nx (k + 1) (by omega) (f := (by exact aI (by rw [Wn, bb]; exact rfl) tI))
 have hend : k = e.Store.ZE.length := by omega
 subst hend
 refine bE ?_
 refine sT [2, 3, 4, 6, 7, 8, 9, 10] [3, 4, 6, 8, 9] ?_
 refine rA ?_ (x := bm (qs := []) (by decide) ct jl (by decide) rfl rfl rfl rfl rfl (by exact nl rfl) (by exact tI) rfl)
 refine qX ?_
 refine ba ?_
 refine sO [(2, _), (3, _), (4, _), (6, _), (7, _), (8, _), (9, _), (10, _)] [(3, _), (4, _), (6, _), (8, (46, [sl _ _, val _, val _, sl _ _, sl _ _, sl _ _, sl _ _, val _])), (9, _)] ?_
 refine bi ?_
 refine rK ?_
 refine sS [2, 3, 4, 6, 7, 8, 9, 10, 11] [3, 4, 6, 8, 9] ?_
 refine HP ?_
 refine rA ?_ (x := PA (ag := false) (qs := [sl _ _]) (by decide) XP eG (fun _ => rfl) (by exact nl rfl) (by exact rfl))
 refine jJ ?_
 refine sS [2, 3, 4, 6, 7, 8, 9, 10, 11, 12] [3, 4, 6, 8, 9] ?_
 refine de ?_
 refine sP [2, 3, 4, 6, 7, 8, 9, 10, 11, 12, 13] [3, 4, 6, 8, 9] ?_
 refine Ph (s := 12) (t := 102) (e := 10) (G := 6200) (f := (bq aP ae ae aR ae)) (g := (fun z : ZF => [val (vI z.ZG.Id), val (vI z.ZG.ZK), sl .v (z.ZG.ZH.map dj), sl .v (z.ZG.Out.map an), val (vI z.Time), sl .v (z.ZO.map an), val (vI z.Age), val (vI z.Sent), val (vI z.Cap), sl .v (z.Rows.map (dt ae))])) (fN := jr) (xs := e.ZF) (by exact rfl) (by exact rfl) (by exact rfl) (fun _ _ => rfl) (fun _ => rfl) (fun _ => (aq (aq (aA (aA (aq (aA (aq (aq (aq (aA ao.nil))))))))))) (fun _ => (by exact lq)) fun za hza => ?_
 have hzal : za.length = e.ZF.length := by rw [← am (f := Prod.fst), hza]
 refine sP [2, 3, 4, 6, 7, 8, 9, 10, 11, 12, 13, 6200] [3, 4, 6, 8, 9] ?_
 refine Pz (d := 9) (e := 10) (G := 6300) (f := (bq aP ae ae aR ae)) (g := (fun z : ZF => [val (vI z.ZG.Id), val (vI z.ZG.ZK), sl .v (z.ZG.ZH.map dj), sl .v (z.ZG.Out.map an), val (vI z.Time), sl .v (z.ZO.map an), val (vI z.Age), val (vI z.Sent), val (vI z.Cap), sl .v (z.Rows.map (dt ae))])) (fN := jr) (eU e q l) (by exact rfl) (by exact rfl) (fun _ _ => rfl) (fun _ => rfl) (aq (aq (aA (aA (aq (aA (aq (aq (aq (aA ao.nil)))))))))) (by exact lq) fun kNew => ?_
 refine sO [(2, _), (3, _), (4, _), (6, _), (7, _), (8, _), (9, _), (10, _), (11, _), (12, _), (13, _), (6200, _), (6300, _)] [(3, _), (4, _), (6, _), (8, _), (9, (102, [nv _ (val _), nv _ (val _), nv _ (sl _ _), nv _ (sl _ _), nv _ (val _), nv _ (sl _ _), nv _ (val _), nv _ (val _), nv _ (val _), nv _ (sl _ _)]))] ?_
 refine sL [2, 3, 4, 6, 7, 8, 9, 10, 12, 6200, 6300] [3, 4, 6, 9] (fun m : Nat => m ≤ za.length) (fun m : Nat => [(11, RV.bool (decide ((dI e.ZF q.Id) < m))), (13, RV.int (m : Int))]) (fun m : Nat => [(8, (46, [sl bQ (e.Store.ZE.map (aO be ae)), val (vI e.Store.Now), val (vI e.ZJ), sl ae (e.Order.map an), sl dr ((ju za (eU e q l, kNew) (dI e.ZF q.Id) m).map jr), sl cQ (e.Done.map (bN aP ae aR ae)), sl cH (e.ZR.map (bF ae ae ae)), val (vI e.Steps)]))]) (fun m : Nat => za.length - m) 0 (by omega) (by exact aI (by exact gZ (by simp)) (aI (by exact rfl) tI)) (by exact aI (by show _ = some (46, [sl bQ (e.Store.ZE.map (aO be ae)), val (vI e.Store.Now), val (vI e.ZJ), sl ae (e.Order.map an), sl dr ((ju za (eU e q l, kNew) (dI e.ZF q.Id) 0).map jr), sl cQ (e.Done.map (bN aP ae aR ae)), sl cH (e.ZR.map (bF ae ae ae)), val (vI e.Steps)]); unfold ju; rw [if_neg (by omega)]; exact rfl) tI) ?_
 rintro m hm
 have hazl := Ws (zn := (eU e q l, kNew)) (p := (dI e.ZF q.Id)) hm
 refine iv ?_
 refine rA ?_ (x := lN ct)
 refine rA ?_ (x := dZ)
 refine sc (fun hbc => ?_) (fun hbc => ?_)
 have hmz : m < za.length := by omega
 have hcl2 := Mw (x := q.Id) hoe (show m < e.ZF.length by omega)
 have hni := Mx (x := q.Id) hfn (show m < e.ZF.length by omega)
 have hzm : za[m].1 = e.ZF[m] := by simp [← hza]
 refine bw ?_
 refine Hu ?_
 refine rc ?_
 refine dA 1 ?_ (x := nT)
 refine dA 3 ?_ (x := sM)
 refine dx 77 (fun ge sge => ?_) (fun ge sge => ?_)
 refine dB 7 ge ?_ (x := vM false [sl .v _])
 refine dB 7 ge ?_ (x := sM)
 refine dB 31 ge ?_ (x := aU (by decide) ct (by exact tI) (by exact rfl) (by exact aV (by omega) rfl) (by exact rfl))
 refine dB 63 ge ?_ (x := cB (by decide) iN (by exact nl rfl))
 refine dB 127 ge ?_ (x := cB (by decide) iB (by exact nl rfl))
 refine dB 255 ge ?_ (x := px (qs := [val _]) (by decide) aw (fun _ => rfl) (by exact nl rfl) (by exact (ao.cons (PV.nv_to (py _)) ao.nil)) (by exact (ab.cons (bor_val _) ab.nil)))
 refine dB 7 ge ?_ (x := lF iB)
 refine dB 519 ge ?_ (x := lD [val _] aw)
 refine dB 2047 ge ?_ (x := dC)
 refine dA 4095 ?_ (x := aK ge)
 refine sc (fun hbd => ?_) (fun hbd => ?_)
 have hpm : m = (dI e.ZF q.Id) := by rw [hzm] at hbd; first | omega | (simp_all; omega)
 refine sS [2, 3, 4, 6, 7, 8, 9, 10, 11, 12, 13, 6200, 6300] [3, 4, 6, 8, 9] ?_
 refine zA ?_
 refine HW ?_
 refine qX ?_
 refine Ic ?_
 refine rK ?_
 exact zg
 have hpm : m ≠ (dI e.ZF q.Id) := by first | (rw [hzm] at hbd; omega) | omega | (simp_all; omega)
 refine bc ?_
 exact zg
 refine dF 7 ge ?_
 refine dF 7 ge ?_
 refine dF 31 ge ?_
 refine dF 63 ge ?_
 refine dF 127 ge ?_
 refine dF 255 ge ?_
 refine dF 7 ge ?_
 refine dF 519 ge ?_
 refine dF 2047 ge ?_
 refine dA 4095 ?_ (x := aH ge)
 refine eJ ?_
 have hpm : m ≠ (dI e.ZF q.Id) := by first | (rw [hzm] at hb_; omega) | omega | (simp_all; omega)
 refine bc ?_
 exact zg
 have hend2 : m = za.length := by omega
 subst hend2
 refine bE ?_
 refine Hu ?_
 refine ku ?_
 refine rA ?_ (x := nT)
 refine sc (fun hbd => ?_) (fun hbd => ?_)
 have hpl : (dI e.ZF q.Id) = za.length := by first | omega | (simp_all; omega)
 refine sG [2, 3, 4, 6, 7, 8, 9, 10, 11, 12, 13, 6200, 6300] [3, 4, 6, 8, 9] ?_
 refine zA ?_
 refine HW ?_
 refine qX ?_
 refine ba ?_
 refine sO [(2, _), (3, _), (4, _), (6, _), (7, _), (8, _), (9, _), (10, _), (11, _), (12, _), (13, _), (6200, _), (6300, _)] [(3, _), (4, _), (6, _), (8, (46, [sl _ _, val _, val _, sl _ _, sl _ _, sl _ _, sl _ _, val _])), (9, _)] ?_
 exact GM
 have hpl : (dI e.ZF q.Id) < za.length := by first | omega | (simp_all; omega)
 refine eA ?_
 refine sP [2, 3, 4, 6, 7, 8, 9, 10, 11, 12, 13, 6200, 6300] [3, 4, 6, 8, 9] ?_
 exact GM
end Go.Proofs.YtmekkgdboplbjaaGreatDoor
