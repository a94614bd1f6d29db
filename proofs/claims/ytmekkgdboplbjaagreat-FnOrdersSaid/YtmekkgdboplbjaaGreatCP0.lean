/- What functions of the program compute. No condition. -/
import Derived.Test.YtmekkgdboplbjaaGreatCI0
import Derived.Test.YtmekkgdboplbjaaGreatCN0
import Derived.Test.YtmekkgdboplbjaaGreatCO0
set_option linter.unusedVariables false
set_option linter.unusedSimpArgs false
namespace Go.Proofs.YtmekkgdboplbjaaGreat
open Go Go.RowKit M PV
set_option maxRecDepth 10000
attribute [local irreducible] PV.Lcl PV.LclR RV.Lcl
theorem Ks {o : List Int}  : aw Tryz.prog 99 [(false, [sl .v (o.map ai)])] (av [(false, [val (.bool (bK o))])]) := by
 refine sF Tryz.func99 fun h0 w0 Fz0 => ?_
 refine sj 0 fun hl0 => ?_
 refine o6 ?_
 refine sL [0] [] (fun k : Nat => k ≤ 3 ∧ nL o k = true) (fun k : Nat => [(3, RV.int (k : Int))]) (fun k : Nat => []) (fun k : Nat => 3 - k) 0 (by exact ⟨by omega, rfl⟩) (by exact aI (by exact rfl) (tI)) (by exact ⟨⟩) ?_
 rintro k ⟨hk, ha⟩
 refine nh ?_
 refine sc (fun hba => ?_) (fun hba => ?_)
 have hlt : k < 3 := by omega
 refine aT ?_
 refine sS [0, 3] [] ?_
 refine HE ?_
 refine rA ?_ (x := nT)
 refine sc (fun hbb => ?_) (fun hbb => ?_)
 have hno : bh o (k : Int) = false := by simpa using hbb
 refine rn ?_
 exact rb ((Ol hlt hno).symm)
 have hyes : bh o (k : Int) = true := by simpa using hbb
 refine nf ?_
 refine bF ?_
 refine nx (k + 1) (by exact ⟨by omega, by rw [uP, ha, hyes]; rfl⟩) (e := (by exact aI (by exact bf (by omega)) (tI)))
 have hend : k = 3 := by omega
 rw [hend] at ha
 refine ng ?_
 refine fZ ?_
 refine rA ?_ (x := dY)
 refine cK ?_
 exact rb (by rw [← Jb, ha, Bool.true_and]; first | rfl | (rw [decide_eq_decide]; omega) | (rw [Bool.eq_iff_iff]; simp; omega) | (rw [Bool.eq_iff_iff]; simp))
theorem QK {p1 p2 p7 : Fl} {s : Store} {a : Active}  : aw Tryz.prog 100 [(true, [sl .v (s.Segments.map (ax p1 p2)), val (vI s.Now)]), (true, [val (vI a.Query.Id), val (vI a.Query.Tenant), sl .v (a.Query.Conds.map bR), sl .v (a.Query.Out.map ai), val (vI a.Time), sl .v (a.Todo.map ai), val (vI a.Age), val (vI a.Sent), val (vI a.Cap), sl .v (a.Rows.map (bn p7))])] (av [(false, [val (.bool (dt s a))])]) := by
 refine sF Tryz.func100 fun h0 w0 Fz0 => ?_
 refine sn 0 0 fun hl0_0 => ?_
 refine sn 1 2 fun hl1_2 => ?_
 refine sn 1 3 fun hl1_3 => ?_
 refine sn 1 5 fun hl1_5 => ?_
 refine sn 1 9 fun hl1_9 => ?_
 refine iJ ?_
 refine rX ?_ (x := (db (ag := true) (cs := [val _, val _, sl _ _, sl _ _, val _, sl _ _, val _, val _, val _, sl _ _]) (by decide) (by exact ⟨⟩)))
 refine qW ?_
 refine qV ?_
 refine cj ?_
 refine sP [2, 3, 4, 8, 9, 10] [2, 3] ?_
 refine sL [2, 3, 8, 9] [2, 3] (fun k : Nat => k ≤ a.Todo.length ∧ gM 0 (iw s.Segments.length) ix a.Todo k = true) (fun k : Nat => [(10, RV.int (k : Int))]) (fun k : Nat => []) (fun k : Nat => a.Todo.length - k) 0 (by exact ⟨by omega, rfl⟩) (by exact aI (by exact rfl) (tI)) (by exact ⟨⟩) ?_
 rintro k ⟨hk, ha⟩
 refine bG ?_
 refine sc (fun hba => ?_) (fun hba => ?_)
 have hlt : k < a.Todo.length := by omega
 have hgk : a.Todo.getD k 0 = a.Todo[k] := cY hlt
 have hgp : 0 < k → a.Todo.getD (k - 1) 0 = a.Todo[k - 1] := fun h => cY (by omega)
 refine aT ?_
 refine sT [2, 3, 8, 9, 10] [2, 3] ?_
 refine rM ?_
 refine kt ?_
 refine rS ?_
 refine sS [2, 3, 5, 6, 8, 9, 10] [2, 3] ?_
 refine rM ?_
 refine i5 ?_
 refine rA ?_ (x := er)
 refine Hc ?_
 refine cx 22 (fun ga sga => ?_) (fun ga sga => ?_)
 refine jI ?_
 exact C7
 refine rB ga ?_ (x := sM)
 refine rB ga ?_ (x := dD)
 refine rB ga ?_ (x := sM)
 refine cx 25 (fun gb sgb => ?_) (fun gb sgb => ?_)
 refine xQ ?_
 refine yx ?_
 refine rB gb ?_ (x := aD (k := k - 1) (by decide) a3 (by exact ⟨⟩) (by omega) (by exact aE (by omega) rfl) (by exact rfl))
 refine rB gb ?_ (x := lE [val _] aq)
 refine rB gb ?_ (x := sM)
 refine rB gb ?_ (x := gH)
 refine rB ga ?_ (x := aA gb)
 refine rA ?_ (x := ay ga)
 refine sc (fun hbb => ?_) (fun hbb => ?_)
 exact C7
 exact C9
 refine zf gb ?_
 refine rB ga ?_ (x := ay gb)
 refine rA ?_ (x := ay ga)
 refine dk ?_
 exact C9
 have hend : k = a.Todo.length := by omega
 have hall : cw 0 (iw s.Segments.length) ix a.Todo = true := lu ha hend
 refine aX ?_
 refine sT [2, 3, 8, 9, 10] [2, 3] ?_
 refine qV ?_
 refine rm ?_
 refine cx 41 (fun ga sga => ?_) (fun ga sga => ?_)
 refine rB ga ?_ (x := lF eU)
 refine rB ga ?_ (x := lD [val _, val _, sl .v _, sl .v _] dp)
 refine rB ga ?_ (x := cL [(true, [val _, val _, sl _ _, sl _ _])] [(true, [val _, val _, sl .v _, sl .v _])] yJ (hs := by exact zp))
 refine rj ?_
 refine cx 46 (fun gb sgb => ?_) (fun gb sgb => ?_)
 refine rB gb ?_ (x := lF ph)
 refine rB gb ?_ (x := lD [val _] aq)
 refine rB gb ?_ (x := lF fc)
 refine GM ?_
 refine ko ?_
 refine cx 53 (fun gc sgc => ?_) (fun gc sgc => ?_)
 refine rB gc ?_ (x := lF kC)
 refine GN ?_
 refine rA ?_ (x := aA gc)
 refine rM ?_
 refine cx 58 (fun gd sgd => ?_) (fun gd sgd => ?_)
 refine rB gd ?_ (x := lF jN)
 refine xr ?_
 refine nn ?_
 refine cx 63 (fun ge sge => ?_) (fun ge sge => ?_)
 refine x7 ?_
 refine rB ge ?_ (x := cL [(false, [val _]), (false, [val _]), (false, [val _])] [(false, [val _]), (false, [val _]), (false, [val _])] iN (hs := by exact iU))
 refine oU ?_
 refine cx 68 (fun gf sgf => ?_) (fun gf sgf => ?_)
 refine tU ?_
 refine rB gf ?_ (x := cL [(false, [sl _ _])] [(false, [sl .v _])] JB (hs := by exact Kf))
 refine rA ?_ (x := aA gf)
 exact mT
 refine zf gf ?_
 refine rA ?_ (x := ay gf)
 exact mT
 refine zf ge ?_
 refine zip ?_
 refine an.cases (s := 68) rfl (fun g13 => nomatch g13) (fun g13 => ?_)
 refine zf g13 ?_
 refine rA ?_ (x := ay g13)
 exact mT
 refine zf gd ?_
 refine np ?_
 refine an.cases (s := 63) rfl (fun g14 => nomatch g14) (fun g14 => ?_)
 refine zf g14 ?_
 refine rA ?_ (x := ay g14)
 refine rM ?_
 refine an.cases (s := 68) rfl (fun g15 => nomatch g15) (fun g15 => ?_)
 refine zf g15 ?_
 refine rA ?_ (x := ay g15)
 exact mT
 refine lh ?_
 refine rM ?_
 refine an.cases (s := 58) rfl (fun g16 => nomatch g16) (fun g16 => ?_)
 refine uf ?_
 refine rM ?_
 refine an.cases (s := 63) rfl (fun g17 => nomatch g17) (fun g17 => ?_)
 refine ug ?_
 refine rM ?_
 refine an.cases (s := 68) rfl (fun g18 => nomatch g18) (fun g18 => ?_)
 refine uh ?_
 exact mT
 refine lm ?_
 refine an.cases (s := 53) rfl (fun g19 => nomatch g19) (fun g19 => ?_)
 refine zf g19 ?_
 refine rA ?_ (x := ay g19)
 refine rM ?_
 refine an.cases (s := 58) rfl (fun g20 => nomatch g20) (fun g20 => ?_)
 refine zf g20 ?_
 refine rA ?_ (x := ay g20)
 refine rM ?_
 refine an.cases (s := 63) rfl (fun g21 => nomatch g21) (fun g21 => ?_)
 refine zf g21 ?_
 refine rA ?_ (x := ay g21)
 refine rM ?_
 refine an.cases (s := 68) rfl (fun g22 => nomatch g22) (fun g22 => ?_)
 refine zf g22 ?_
 refine rA ?_ (x := ay g22)
 exact mT
 refine ii ?_
 refine an.cases (s := 46) rfl (fun g23 => nomatch g23) (fun g23 => ?_)
 refine zf g23 ?_
 refine rA ?_ (x := ay g23)
 refine rM ?_
 refine an.cases (s := 53) rfl (fun g24 => nomatch g24) (fun g24 => ?_)
 refine zf g24 ?_
 refine rA ?_ (x := ay g24)
 refine rM ?_
 refine an.cases (s := 58) rfl (fun g25 => nomatch g25) (fun g25 => ?_)
 refine zf g25 ?_
 refine rA ?_ (x := ay g25)
 refine rM ?_
 refine an.cases (s := 63) rfl (fun g26 => nomatch g26) (fun g26 => ?_)
 refine zf g26 ?_
 refine rA ?_ (x := ay g26)
 refine rM ?_
 refine an.cases (s := 68) rfl (fun g27 => nomatch g27) (fun g27 => ?_)
 refine zf g27 ?_
 refine rA ?_ (x := ay g27)
 exact mT
theorem QL {l : List Int} {n : Int}  (hn : 0 ≤ n ∧ n ≤ 9223372036854775807) : aw Tryz.prog 163 [(false, [sl .v (l.map ai)]), (false, [val (vI n)])] (av [(false, [val (.bool (iy l n))])]) := by
 refine sF Tryz.func163 fun h0 w0 Fz0 => ?_
 refine sj 0 fun hl0 => ?_
 refine kp ?_
 refine bw ?_
 refine sP [0, 1, 4, 5] [] ?_
 refine sL [0, 1] [] (fun k : Nat => k ≤ l.length ∧ gM 0 (iw n) ix l k = true) (fun k : Nat => [(5, RV.int (k : Int))]) (fun k : Nat => []) (fun k : Nat => l.length - k) 0 (by exact ⟨by omega, rfl⟩) (by exact aI (by exact rfl) (tI)) (by exact ⟨⟩) ?_
 rintro k ⟨hk, ha⟩
 refine iK ?_
 refine sc (fun hba => ?_) (fun hba => ?_)
 have hlt : k < l.length := by omega
 have hgk : l.getD k 0 = l[k] := cY hlt
 have hgp : 0 < k → l.getD (k - 1) 0 = l[k - 1] := fun h => cY (by omega)
 refine nj ?_
 refine o9 ?_
 refine dA 0 ?_ (x := sM)
 refine dA 16 ?_ (x := er)
 refine dA 63 ?_ (x := cL [(false, [val _]), (false, [val _]), (false, [val _])] [(false, [val _]), (false, [val _]), (false, [val _])] eT (hs := by exact eZ))
 refine dA 127 ?_ (x := nT)
 refine dA 255 ?_ (x := sM)
 refine dx 20 (fun ga sga => ?_) (fun ga sga => ?_)
 refine dT 511 ga ?_
 refine dT 1023 ga ?_
 refine dT 2047 ga ?_
 refine dU 4095 ?_
 refine dU 4095 ?_
 refine dU 16383 ?_
 refine dU 32767 ?_
 refine dU 4095 ?_
 refine dU 4095 ?_
 refine dU 135167 ?_
 refine dU 462847 ?_
 refine dU 987135 ?_
 refine dU 2097151 ?_
 refine qU ?_
 refine bC ?_
 exact Da
 refine dB 511 ga ?_ (x := sM)
 refine dB 1023 ga ?_ (x := dD)
 refine dB 2047 ga ?_ (x := sM)
 refine dx 23 (fun gb sgb => ?_) (fun gb sgb => ?_)
 refine dB 4095 gb ?_ (x := vM false [sl .v _])
 refine dB 4095 gb ?_ (x := sM)
 refine dB 16383 gb ?_ (x := aD (by decide) a3 (by exact ⟨⟩) (by exact rfl) (by exact aE (by omega) rfl) (by exact rfl))
 refine dB 32767 gb ?_ (x := lE [val _] aq)
 refine dB 4095 gb ?_ (x := vM false [sl .v _])
 refine dB 4095 gb ?_ (x := sM)
 refine dB 135167 gb ?_ (x := er)
 refine dB 462847 gb ?_ (x := aD (k := k - 1) (by decide) a3 (by exact ⟨⟩) (by omega) (by exact aE (by omega) rfl) (by exact rfl))
 refine dB 987135 gb ?_ (x := lE [val _] aq)
 refine xZ ?_
 refine dA 8388607 ?_ (x := ay ga)
 refine sc (fun hbb => ?_) (fun hbb => ?_)
 exact Da
 exact Db
 refine dF 4095 gb ?_
 refine dF 4095 gb ?_
 refine dF 16383 gb ?_
 refine dF 32767 gb ?_
 refine dF 4095 gb ?_
 refine dF 4095 gb ?_
 refine dF 135167 gb ?_
 refine dF 462847 gb ?_
 refine dF 987135 gb ?_
 refine dF 2097151 gb ?_
 refine ya ?_
 refine dk ?_
 exact Db
 have hend : k = l.length := by omega
 have hall : cw 0 (iw n) ix l = true := lu ha hend
 refine ul ?_
 refine fZ ?_
 refine rA ?_ (x := dD)
 refine cK ?_
 exact rb (by first | (simp_all [iy]; done) | (simp_all [iy]; rfl) | (simp_all [iy]; omega) | (simp_all [iy]; intros; omega))
theorem QM {p1 p2 p5 p6 p7 p8 p9 p11 p12 p13 p14 p16 p17 p18 p23 : Fl} {e : am} {a : Active}  : aw Tryz.prog 66 [(true, [sl .v (e.Store.Segments.map (ax p1 p2)), val (vI e.Store.Now), val (vI e.Cursor), sl .v (e.Order.map ai), sl .v (e.Active.map (aG p5 p6 p7 p8 p9)), sl .v (e.Done.map (aP p11 p12 p13 p14)), sl .v (e.Ledger.map (aR p16 p17 p18)), val (vI e.Steps)]), (true, [val (vI a.Query.Id), val (vI a.Query.Tenant), sl .v (a.Query.Conds.map bR), sl .v (a.Query.Out.map ai), val (vI a.Time), sl .v (a.Todo.map ai), val (vI a.Age), val (vI a.Sent), val (vI a.Cap), sl .v (a.Rows.map (bn p23))])] (av [(false, [val (.bool (dt e.Store a))])]) := by
 refine sF Tryz.func66 fun h0 w0 Fz0 => ?_
 refine sn 0 0 fun hl0_0 => ?_
 refine sn 0 3 fun hl0_3 => ?_
 refine sn 0 4 fun hl0_4 => ?_
 refine sn 0 5 fun hl0_5 => ?_
 refine sn 0 6 fun hl0_6 => ?_
 refine sn 1 2 fun hl1_2 => ?_
 refine sn 1 3 fun hl1_3 => ?_
 refine sn 1 5 fun hl1_5 => ?_
 refine sn 1 9 fun hl1_9 => ?_
 refine fY ?_
 refine xy ?_
 refine sT [2, 3, 4] [2, 3] ?_
 refine qJ ?_
 refine rA ?_ (x := cL [(true, [val _, val _, sl _ _, sl _ _])] [(true, [val _, val _, sl .v _, sl .v _])] uC (hs := by exact u7))
 refine rM ?_
 refine cx 8 (fun ga sga => ?_) (fun ga sga => ?_)
 refine x8 ?_
 refine rB ga ?_ (x := lF ee)
 refine qN ?_
 refine tw ?_
 refine rM ?_
 refine cx 16 (fun gb sgb => ?_) (fun gb sgb => ?_)
 refine xQ ?_
 refine rB gb ?_ (x := lF ee)
 refine rB gb ?_ (x := lF gQ)
 refine rB gb ?_ (x := lD [sl .v _] gS)
 refine rB gb ?_ (x := lN dK)
 refine rB gb ?_ (x := cL [(false, [sl _ _]), (false, [val _])] [(false, [sl .v _]), (false, [val _])] Pc (hs := by exact (QL (by omega))))
 refine ko ?_
 refine cx 25 (fun gc sgc => ?_) (fun gc sgc => ?_)
 refine x9 ?_
 refine xw ?_
 refine rM ?_
 refine cx 30 (fun gd sgd => ?_) (fun gd sgd => ?_)
 refine rB gd ?_ (x := lF jN)
 refine GP ?_
 refine nn ?_
 refine cx 35 (fun ge sge => ?_) (fun ge sge => ?_)
 refine rB ge ?_ (x := lF pi)
 refine GO ?_
 refine oU ?_
 refine cx 40 (fun gf sgf => ?_) (fun gf sgf => ?_)
 refine tU ?_
 refine rB gf ?_ (x := cL [(false, [sl _ _])] [(false, [sl .v _])] J0 (hs := by exact Kg))
 refine rA ?_ (x := aA gf)
 exact mU
 refine zf gf ?_
 refine rA ?_ (x := ay gf)
 exact mU
 refine zf ge ?_
 refine zip ?_
 refine an.cases (s := 40) rfl (fun g7 => nomatch g7) (fun g7 => ?_)
 refine re ?_
 exact mU
 refine zf gd ?_
 refine np ?_
 refine an.cases (s := 35) rfl (fun g8 => nomatch g8) (fun g8 => ?_)
 refine zf g8 ?_
 refine rA ?_ (x := ay g8)
 refine rM ?_
 refine an.cases (s := 40) rfl (fun g9 => nomatch g9) (fun g9 => ?_)
 refine rc ?_
 exact mU
 refine lh ?_
 refine rM ?_
 refine an.cases (s := 30) rfl (fun g10 => nomatch g10) (fun g10 => ?_)
 refine oP ?_
 refine rM ?_
 refine an.cases (s := 35) rfl (fun g11 => nomatch g11) (fun g11 => ?_)
 refine ue ?_
 refine rM ?_
 refine an.cases (s := 40) rfl (fun g12 => nomatch g12) (fun g12 => ?_)
 refine zf g12 ?_
 refine rA ?_ (x := ay g12)
 exact mU
 refine lm ?_
 refine an.cases (s := 25) rfl (fun g13 => nomatch g13) (fun g13 => ?_)
 refine zf g13 ?_
 refine rA ?_ (x := ay g13)
 refine rM ?_
 refine an.cases (s := 30) rfl (fun g14 => nomatch g14) (fun g14 => ?_)
 refine zf g14 ?_
 refine rA ?_ (x := ay g14)
 refine rM ?_
 refine an.cases (s := 35) rfl (fun g15 => nomatch g15) (fun g15 => ?_)
 refine zf g15 ?_
 refine rA ?_ (x := ay g15)
 refine rM ?_
 refine an.cases (s := 40) rfl (fun g16 => nomatch g16) (fun g16 => ?_)
 refine uf ?_
 exact mU
 refine ii ?_
 refine an.cases (s := 16) rfl (fun g17 => nomatch g17) (fun g17 => ?_)
 refine ug ?_
 refine rM ?_
 refine an.cases (s := 25) rfl (fun g18 => nomatch g18) (fun g18 => ?_)
 refine uh ?_
 refine rM ?_
 refine an.cases (s := 30) rfl (fun g19 => nomatch g19) (fun g19 => ?_)
 refine zf g19 ?_
 refine rA ?_ (x := ay g19)
 refine rM ?_
 refine an.cases (s := 35) rfl (fun g20 => nomatch g20) (fun g20 => ?_)
 refine zf g20 ?_
 refine rA ?_ (x := ay g20)
 refine rM ?_
 refine an.cases (s := 40) rfl (fun g21 => nomatch g21) (fun g21 => ?_)
 refine zf g21 ?_
 refine rA ?_ (x := ay g21)
 exact mU
theorem Kt {p1 p2 p5 p6 p7 p8 p9 p11 p12 p13 p14 p16 p17 p18 : Fl} {e : am}  (hb : aO e ≤ 68719476736) : aw Tryz.prog 29 [(true, [sl .v (e.Store.Segments.map (ax p1 p2)), val (vI e.Store.Now), val (vI e.Cursor), sl .v (e.Order.map ai), sl .v (e.Active.map (aG p5 p6 p7 p8 p9)), sl .v (e.Done.map (aP p11 p12 p13 p14)), sl .v (e.Ledger.map (aR p16 p17 p18)), val (vI e.Steps)])] (av [(false, [val (.bool (aH e))])]) := by
 refine sF Tryz.func29 fun h0 w0 Fz0 => ?_
 refine sn 0 0 fun hl0_0 => ?_
 refine sn 0 3 fun hl0_3 => ?_
 refine sn 0 4 fun hl0_4 => ?_
 refine sn 0 5 fun hl0_5 => ?_
 refine sn 0 6 fun hl0_6 => ?_
 have hbu := hb
 simp only [aO] at hbu
 refine fY ?_
 refine ie ?_
 refine oL ?_
 refine rA ?_ (x := cL [(true, [sl _ _, val _])] [(true, [sl .v _, val _])] J6 (hs := by exact Kl (by omega)))
 refine dI ?_
 refine cx 13 (fun ga sga => ?_) (fun ga sga => ?_)
 refine ij ?_
 refine an.cases (s := 24) rfl (fun g2 => ?_) (fun g2 => nomatch g2)
 refine ln ?_
 refine an.cases (s := 30) rfl (fun g3 => ?_) (fun g3 => nomatch g3)
 refine lj ?_
 exact la
 refine qO ?_
 refine rB ga ?_ (x := lF ee)
 refine xT ?_
 refine rB ga ?_ (x := lN dK)
 refine rB ga ?_ (x := er)
 refine qz ?_
 refine gJ ?_
 refine cx 24 (fun gb sgb => ?_) (fun gb sgb => ?_)
 refine kr ?_
 refine an.cases (s := 30) rfl (fun g6 => ?_) (fun g6 => nomatch g6)
 refine ne ?_
 exact la
 refine xU ?_
 refine rB gb ?_ (x := cL [(false, [sl _ _])] [(false, [sl .v _])] J7 (hs := by exact Ks))
 refine ri ?_
 refine cx 30 (fun gc sgc => ?_) (fun gc sgc => ?_)
 refine jF ?_
 exact la
 refine rB gc ?_ (x := lF io)
 refine GN ?_
 refine rB gc ?_ (x := nT)
 refine rA ?_ (x := ay gc)
 refine sc (fun hba => ?_) (fun hba => ?_)
 exact wW
 have hp1 : (bA e.Store && (aB e.Cursor 0 (e.Store.Segments.length - 1) && (bK e.Order && aB e.Steps 0 100000))) = true := by first | (simp_all; done) | (simp_all; omega)
 refine nq ?_
 refine tG ?_
 refine rm ?_
 refine cx 40 (fun gd sgd => ?_) (fun gd sgd => ?_)
 refine zt gd ?_
 refine nn ?_
 refine an.cases (s := 46) rfl (fun g12 => ?_) (fun g12 => nomatch g12)
 refine uj ?_
 refine bC ?_
 exact wX
 refine xV ?_
 refine rB gd ?_ (x := lN iq)
 refine rB gd ?_ (x := dD)
 refine np ?_
 refine cx 46 (fun ge sge => ?_) (fun ge sge => ?_)
 refine zt ge ?_
 refine rA ?_ (x := aA ge)
 refine bC ?_
 exact wX
 refine xW ?_
 refine rB ge ?_ (x := lN fq)
 refine rB ge ?_ (x := dD)
 refine rA ?_ (x := ay ge)
 refine sc (fun hbb => ?_) (fun hbb => ?_)
 exact wX
 have hpr : f8 e = true := by unfold f8; rw [hp1]; first | (simp_all; done) | (simp_all; omega)
 refine nq ?_
 refine nt ?_
 refine sP [1, 2, 53, 54, 55] [1] ?_
 refine sL [1, 53, 54] [1] (fun k : Nat => k ≤ e.Active.length ∧ gM eX (dt e.Store) iR e.Active k = true) (fun k : Nat => [(55, RV.int (k : Int))]) (fun k : Nat => []) (fun k : Nat => e.Active.length - k) 0 (by exact ⟨by omega, rfl⟩) (by exact aI (by exact rfl) (tI)) (by exact ⟨⟩) ?_
 rintro k ⟨hk, ha⟩
 refine bG ?_
 refine sc (fun hbc => ?_) (fun hbc => ?_)
 have hlt : k < e.Active.length := by omega
 have hgk : e.Active.getD k eX = e.Active[k] := cY hlt
 have hgp : 0 < k → e.Active.getD (k - 1) eX = e.Active[k - 1] := fun h => cY (by omega)
 refine aT ?_
 refine sT [1, 53, 54, 55] [1] ?_
 refine rM ?_
 refine oE ?_
 refine rX ?_ (x := (bB (by decide) fe nH))
 refine rS ?_
 refine GU ?_
 refine sO [(1, _), (3, _), (4, _), (53, _), (54, _), (55, _)] [(1, _), (4, (108, [val _, val _, sl _ _, sl _ _, val _, sl _ _, val _, val _, val _, sl _ _]))] ?_
 refine b9 bP ?_
 refine xO ?_
 refine dA 0 ?_ (x := lD [val _, val _, sl .v _, sl .v _, val _, sl .v _, val _, val _, val _, sl .v _] eK)
 refine dA 7 ?_ (x := cL [(true, [sl _ _, val _]), (true, [val _, val _, sl _ _, sl _ _, val _, sl _ _, val _, val _, val _, sl _ _])] [(true, [sl .v _, val _]), (true, [val _, val _, sl .v _, sl .v _, val _, sl .v _, val _, val _, val _, sl .v _])] OU (hs := by exact QK))
 refine dA 15 ?_ (x := nT)
 refine dA 31 ?_ (x := sM)
 refine dx 65 (fun gf sgf => ?_) (fun gf sgf => ?_)
 refine dT 63 gf ?_
 refine dT 127 gf ?_
 refine dT 255 gf ?_
 refine dU 511 ?_
 refine dU 1023 ?_
 refine dU 511 ?_
 refine dU 2559 ?_
 refine dU 8191 ?_
 refine dU 16383 ?_
 refine dU 32767 ?_
 refine dU 65535 ?_
 refine dU 511 ?_
 refine dU 131583 ?_
 refine dU 393727 ?_
 refine dU 1048575 ?_
 refine dT 2097151 gf ?_
 refine dA 4194303 ?_ (x := aA gf)
 refine bC ?_
 exact Dc
 refine dB 63 gf ?_ (x := sM)
 refine dB 127 gf ?_ (x := dD)
 refine dB 255 gf ?_ (x := sM)
 refine dx 68 (fun gg sgg => ?_) (fun gg sgg => ?_)
 refine dB 511 gg ?_ (x := lF dJ)
 refine dB 1023 gg ?_ (x := lD [sl .v _] dm)
 refine dB 511 gg ?_ (x := sM)
 refine dB 2559 gg ?_ (x := er)
 refine dB 8191 gg ?_ (x := aD (k := k - 1) (by decide) bJ (by exact ⟨⟩) (by omega) (by exact aE (by omega) rfl) (by exact rfl))
 refine dB 16383 gg ?_ (x := bl (by decide) eU (by exact nl rfl))
 refine dB 32767 gg ?_ (x := bl (by decide) gu (by exact nl rfl))
 refine dB 65535 gg ?_ (x := lE [val _] aq)
 refine dB 511 gg ?_ (x := lF eU)
 refine dB 131583 gg ?_ (x := lF gu)
 refine dB 393727 gg ?_ (x := lD [val _] aq)
 refine dB 1048575 gg ?_ (x := gH)
 refine dB 2097151 gf ?_ (x := aA gg)
 refine dA 4194303 ?_ (x := ay gf)
 refine sc (fun hbd => ?_) (fun hbd => ?_)
 exact Dc
 exact De
 refine dF 511 gg ?_
 refine dF 1023 gg ?_
 refine dF 511 gg ?_
 refine dF 2559 gg ?_
 refine dF 8191 gg ?_
 refine dF 16383 gg ?_
 refine dF 32767 gg ?_
 refine dF 65535 gg ?_
 refine dF 511 gg ?_
 refine dF 131583 gg ?_
 refine dF 393727 gg ?_
 refine dF 1048575 gg ?_
 refine dB 2097151 gf ?_ (x := ay gg)
 refine dA 4194303 ?_ (x := ay gf)
 refine dk ?_
 exact De
 have hend : k = e.Active.length := by omega
 have hall : cw eX (dt e.Store) iR e.Active = true := lu ha hend
 refine et ?_
 refine sT [1, 53, 54, 55] [1] ?_
 refine qZ ?_
 refine cj ?_
 refine sP [1, 53, 54, 55, 85, 86, 87] [1] ?_
 refine sL [1, 53, 54, 55, 85, 86] [1] (fun k : Nat => k ≤ e.Done.length ∧ (List.take k e.Done).all (ez e.Store.Now) = true) (fun k : Nat => [(87, RV.int (k : Int))]) (fun k : Nat => []) (fun k : Nat => e.Done.length - k) 0 (by exact ⟨by omega, rfl⟩) (by exact aI (by exact rfl) (tI)) (by exact ⟨⟩) ?_
 rintro k ⟨hk, ha⟩
 refine bG ?_
 refine sc (fun hbd => ?_) (fun hbd => ?_)
 have hlt : k < e.Done.length := by omega
 refine aT ?_
 refine sT [1, 53, 54, 55, 85, 86, 87] [1] ?_
 refine pb ?_
 refine aJ ?_
 refine sO [(1, _), (6, _), (53, _), (54, _), (55, _), (85, _), (86, _), (87, _)] [(1, _), (6, (63, [val _, val _, sl _ _, sl _ _, val _, val _, sl _ _]))] ?_
 refine aM ?_
 refine qK ?_
 refine Hw ?_
 refine cx 95 (fun gf sgf => ?_) (fun gf sgf => ?_)
 refine up ?_
 refine rM ?_
 refine an.cases (s := 104) rfl (fun g25 => ?_) (fun g25 => nomatch g25)
 refine zt g25 ?_
 refine rA ?_ (x := aA g25)
 refine rM ?_
 refine an.cases (s := 110) rfl (fun g26 => ?_) (fun g26 => nomatch g26)
 refine zt g26 ?_
 refine rA ?_ (x := aA g26)
 refine bC ?_
 exact tc
 refine rB gf ?_ (x := lF IG)
 refine rB gf ?_ (x := lD [val _] aq)
 refine rB gf ?_ (x := lF ee)
 refine rB gf ?_ (x := lF fc)
 refine rB gf ?_ (x := lD [val _] aq)
 refine rB gf ?_ (x := cL [(false, [val _]), (false, [val _]), (false, [val _])] [(false, [val _]), (false, [val _]), (false, [val _])] iN (hs := by exact iU))
 refine rB gf ?_ (x := nT)
 refine rA ?_ (x := ay gf)
 refine rM ?_
 refine cx 104 (fun gg sgg => ?_) (fun gg sgg => ?_)
 refine zt gg ?_
 refine rA ?_ (x := aA gg)
 refine rM ?_
 refine an.cases (s := 110) rfl (fun g29 => ?_) (fun g29 => nomatch g29)
 refine zt g29 ?_
 refine rA ?_ (x := aA g29)
 refine bC ?_
 exact tc
 refine rB gg ?_ (x := lF IH)
 refine rB gg ?_ (x := lD [val _] aq)
 refine rB gg ?_ (x := cL [(false, [val _]), (false, [val _]), (false, [val _])] [(false, [val _]), (false, [val _]), (false, [val _])] iN (hs := by exact iU))
 refine rB gg ?_ (x := nT)
 refine rA ?_ (x := ay gg)
 refine rM ?_
 refine cx 110 (fun gh sgh => ?_) (fun gh sgh => ?_)
 refine zt gh ?_
 refine rA ?_ (x := aA gh)
 refine bC ?_
 exact tc
 refine rB gh ?_ (x := lF pk)
 refine rB gh ?_ (x := lD [sl .v _] ir)
 refine rB gh ?_ (x := cL [(false, [sl _ _])] [(false, [sl .v _])] JB (hs := by exact Kf))
 refine rB gh ?_ (x := nT)
 refine rA ?_ (x := ay gh)
 refine sc (fun hbe => ?_) (fun hbe => ?_)
 exact tc
 have hyes : (ez e.Store.Now) e.Done[k] = true := by first | (simp_all [ez]; done) | (simp_all [ez]; omega)
 refine aN ?_
 refine sG [1, 6, 53, 54, 55, 85, 86, 87] [1, 6] ?_
 exact qj
 have hfa : e.Done.all (ez e.Store.Now) = true := ik (by rw [show e.Done.length = k by omega]; exact ha)
 refine et ?_
 refine sT [1, 53, 54, 55, 85, 86, 87] [1] ?_
 refine ra ?_
 refine cj ?_
 refine sP [1, 53, 54, 55, 85, 86, 87, 118, 119, 120] [1] ?_
 refine sL [1, 53, 54, 55, 85, 86, 87, 118, 119] [1] (fun k : Nat => k ≤ e.Ledger.length ∧ (List.take k e.Ledger).all dQ = true) (fun k : Nat => [(120, RV.int (k : Int))]) (fun k : Nat => []) (fun k : Nat => e.Ledger.length - k) 0 (by exact ⟨by omega, rfl⟩) (by exact aI (by exact rfl) (tI)) (by exact ⟨⟩) ?_
 rintro k ⟨hk, ha⟩
 refine bG ?_
 refine sc (fun hbe => ?_) (fun hbe => ?_)
 have hlt : k < e.Ledger.length := by omega
 refine aT ?_
 refine sT [1, 53, 54, 55, 85, 86, 87, 118, 119, 120] [1] ?_
 refine xv ?_
 refine xu ?_
 refine aJ ?_
 refine sO [(1, _), (8, _), (53, _), (54, _), (55, _), (85, _), (86, _), (87, _), (118, _), (119, _), (120, _)] [(1, _), (8, (70, [val _, val _, sl _ _, sl _ _, sl _ _]))] ?_
 refine aM ?_
 refine rA ?_ (x := lD [val _, val _, sl .v _, sl .v _, sl .v _] it)
 refine rA ?_ (x := cL [(true, [val _, val _, sl _ _, sl _ _, sl _ _])] [(true, [val _, val _, sl .v _, sl .v _, sl .v _])] OV (hs := by exact QI))
 refine rA ?_ (x := nT)
 refine sc (fun hbf => ?_) (fun hbf => ?_)
 have hno : dQ e.Ledger[k] = false := by simpa using hbf
 have hbad2 := I9 (jK hlt hno)
 refine sS [1, 8, 53, 54, 55, 85, 86, 87, 118, 119, 120] [1, 8] ?_
 exact oy
 have hyes : dQ e.Ledger[k] = true := by simpa using hbf
 refine aN ?_
 refine sG [1, 8, 53, 54, 55, 85, 86, 87, 118, 119, 120] [1, 8] ?_
 exact qj
 have hla : e.Ledger.all dQ = true := ik (by rw [show e.Ledger.length = k by omega]; exact ha)
 refine aX ?_
 refine sT [1, 53, 54, 55, 85, 86, 87, 118, 119, 120] [1] ?_
 exact Df
theorem rN {p1 p2 p5 p6 p7 p8 p9 p11 p12 p13 p14 p16 p17 p18 : Fl} {e : am}  (hb : aO e ≤ 68719476736) : aw Tryz.prog 14 [(true, [sl .v (e.Store.Segments.map (ax p1 p2)), val (vI e.Store.Now), val (vI e.Cursor), sl .v (e.Order.map ai), sl .v (e.Active.map (aG p5 p6 p7 p8 p9)), sl .v (e.Done.map (aP p11 p12 p13 p14)), sl .v (e.Ledger.map (aR p16 p17 p18)), val (vI e.Steps)])] (av [(false, [val (.bool (aH e))])]) := by
 refine sF Tryz.func14 fun h0 w0 Fz0 => ?_
 refine sn 0 0 fun hl0_0 => ?_
 refine sn 0 3 fun hl0_3 => ?_
 refine sn 0 4 fun hl0_4 => ?_
 refine sn 0 5 fun hl0_5 => ?_
 refine sn 0 6 fun hl0_6 => ?_
 have hbu := hb
 simp only [aO] at hbu
 refine fY ?_
 refine ie ?_
 refine oL ?_
 refine rA ?_ (x := cL [(true, [sl _ _, val _])] [(true, [sl .v _, val _])] zi (hs := by exact zu (by omega)))
 refine dI ?_
 refine cx 11 (fun ga sga => ?_) (fun ga sga => ?_)
 refine ij ?_
 refine an.cases (s := 22) rfl (fun g2 => ?_) (fun g2 => nomatch g2)
 refine ln ?_
 refine an.cases (s := 28) rfl (fun g3 => ?_) (fun g3 => nomatch g3)
 refine lj ?_
 refine rM ?_
 refine an.cases (s := 34) rfl (fun g4 => ?_) (fun g4 => nomatch g4)
 refine uo ?_
 refine rM ?_
 refine an.cases (s := 40) rfl (fun g5 => ?_) (fun g5 => nomatch g5)
 refine zt g5 ?_
 refine rA ?_ (x := aA g5)
 refine rM ?_
 refine an.cases (s := 46) rfl (fun g6 => ?_) (fun g6 => nomatch g6)
 refine ne ?_
 exact la
 refine qO ?_
 refine rB ga ?_ (x := lF ee)
 refine xT ?_
 refine rB ga ?_ (x := lN dK)
 refine rB ga ?_ (x := er)
 refine qA ?_
 refine gJ ?_
 refine cx 22 (fun gb sgb => ?_) (fun gb sgb => ?_)
 refine kr ?_
 refine an.cases (s := 28) rfl (fun g9 => ?_) (fun g9 => nomatch g9)
 refine zt g9 ?_
 refine rA ?_ (x := aA g9)
 refine rM ?_
 refine an.cases (s := 34) rfl (fun g10 => ?_) (fun g10 => nomatch g10)
 refine zt g10 ?_
 refine rA ?_ (x := aA g10)
 refine rM ?_
 refine an.cases (s := 40) rfl (fun g11 => ?_) (fun g11 => nomatch g11)
 refine ui ?_
 refine rM ?_
 refine an.cases (s := 46) rfl (fun g12 => ?_) (fun g12 => nomatch g12)
 refine uj ?_
 exact la
 refine xU ?_
 refine rB gb ?_ (x := cL [(false, [sl _ _])] [(false, [sl .v _])] zh (hs := by exact zw))
 refine ri ?_
 refine cx 28 (fun gc sgc => ?_) (fun gc sgc => ?_)
 refine jF ?_
 refine rM ?_
 refine an.cases (s := 34) rfl (fun g15 => ?_) (fun g15 => nomatch g15)
 refine zt g15 ?_
 refine rA ?_ (x := aA g15)
 refine rM ?_
 refine an.cases (s := 40) rfl (fun g16 => ?_) (fun g16 => nomatch g16)
 refine zt g16 ?_
 refine rA ?_ (x := aA g16)
 refine rM ?_
 refine an.cases (s := 46) rfl (fun g17 => ?_) (fun g17 => nomatch g17)
 refine zt g17 ?_
 refine rA ?_ (x := aA g17)
 exact la
 refine xX ?_
 refine rB gc ?_ (x := lN bJ)
 refine yu ?_
 refine rM ?_
 refine cx 34 (fun gd sgd => ?_) (fun gd sgd => ?_)
 refine zt gd ?_
 refine nn ?_
 refine an.cases (s := 40) rfl (fun g20 => ?_) (fun g20 => nomatch g20)
 refine zt g20 ?_
 refine rA ?_ (x := aA g20)
 refine rM ?_
 refine an.cases (s := 46) rfl (fun g21 => ?_) (fun g21 => nomatch g21)
 refine zt g21 ?_
 refine rA ?_ (x := aA g21)
 exact la
 refine rB gd ?_ (x := lF io)
 refine GP ?_
 refine rB gd ?_ (x := nT)
 refine np ?_
 refine cx 40 (fun ge sge => ?_) (fun ge sge => ?_)
 refine zt ge ?_
 refine oU ?_
 refine an.cases (s := 46) rfl (fun g24 => ?_) (fun g24 => nomatch g24)
 refine zt g24 ?_
 refine rA ?_ (x := aA g24)
 exact la
 refine rB ge ?_ (x := lF jO)
 refine rB ge ?_ (x := lD [sl .v _] jR)
 refine rB ge ?_ (x := lN iq)
 refine rB ge ?_ (x := dD)
 refine zip ?_
 refine cx 46 (fun gf sgf => ?_) (fun gf sgf => ?_)
 refine up ?_
 exact la
 refine rB gf ?_ (x := lF gt)
 refine rB gf ?_ (x := lD [sl .v _] gw)
 refine rB gf ?_ (x := lN fq)
 refine rB gf ?_ (x := dD)
 refine rA ?_ (x := ay gf)
 refine sc (fun hba => ?_) (fun hba => ?_)
 exact wW
 have hpr : f8 e = true := by first | (simp_all [f8]; done) | (simp_all [f8]; omega)
 refine nq ?_
 refine oR ?_
 refine sL [1] [1] (fun k : Nat => k ≤ e.Active.length ∧ gM eX (dt e.Store) iR e.Active k = true) (fun k : Nat => [(3, RV.int (k : Int))]) (fun k : Nat => []) (fun k : Nat => e.Active.length - k) 0 (by exact ⟨by omega, rfl⟩) (by exact aI (by exact rfl) (tI)) (by exact ⟨⟩) ?_
 rintro k ⟨hk, ha⟩
 refine bu ?_
 refine nk ?_
 refine sc (fun hbb => ?_) (fun hbb => ?_)
 have hlt : k < e.Active.length := by omega
 have hgk : e.Active.getD k eX = e.Active[k] := cY hlt
 have hgp : 0 < k → e.Active.getD (k - 1) eX = e.Active[k - 1] := fun h => cY (by omega)
 refine cE ?_
 refine sQ [1, 3] [1] ?_
 refine qG ?_
 refine tY ?_
 refine dA 0 ?_ (x := sM)
 refine dA 14 ?_ (x := aD (by decide) bJ (by exact ⟨⟩) (by exact rfl) (by exact aE (by omega) rfl) (by exact rfl))
 refine dA 30 ?_ (x := lE [val _, val _, sl .v _, sl .v _, val _, sl .v _, val _, val _, val _, sl .v _] eK)
 refine dA 63 ?_ (x := cL [(true, [sl _ _, val _, val _, sl _ _, sl _ _, sl _ _, sl _ _, val _]), (true, [val _, val _, sl _ _, sl _ _, val _, sl _ _, val _, val _, val _, sl _ _])] [(true, [sl .v _, val _, val _, sl .v _, sl .v _, sl .v _, sl .v _, val _]), (true, [val _, val _, sl .v _, sl .v _, val _, sl .v _, val _, val _, val _, sl .v _])] PY (hs := by exact QM))
 refine dA 127 ?_ (x := nT)
 refine dA 255 ?_ (x := sM)
 refine dx 67 (fun gg sgg => ?_) (fun gg sgg => ?_)
 refine dT 511 gg ?_
 refine dT 1023 gg ?_
 refine dT 2047 gg ?_
 refine rq ?_
 refine dU 4095 ?_
 refine dU 32767 ?_
 refine dU 65535 ?_
 refine dU 131071 ?_
 refine dU 262143 ?_
 refine dU 4095 ?_
 refine dU 528383 ?_
 refine dU 4095 ?_
 refine dU 2101247 ?_
 refine dU 7868415 ?_
 refine dU 16257023 ?_
 refine dU 33034239 ?_
 refine dU 66588671 ?_
 refine dU 134217727 ?_
 refine dT 268435455 gg ?_
 refine dA 536870911 ?_ (x := aA gg)
 refine bC ?_
 exact Dg
 refine dB 511 gg ?_ (x := sM)
 refine dB 1023 gg ?_ (x := dD)
 refine dB 2047 gg ?_ (x := sM)
 refine dx 70 (fun gh sgh => ?_) (fun gh sgh => ?_)
 refine dB 4095 gh ?_ (x := lF dJ)
 refine dB 8191 gh ?_ (x := lD [sl .v _] dm)
 refine dB 4095 gh ?_ (x := sM)
 refine dB 32767 gh ?_ (x := aD (by decide) bJ (by exact ⟨⟩) (by exact rfl) (by exact aE (by omega) rfl) (by exact rfl))
 refine dB 65535 gh ?_ (x := bl (by decide) eU (by exact nl rfl))
 refine dB 131071 gh ?_ (x := bl (by decide) gu (by exact nl rfl))
 refine dB 262143 gh ?_ (x := lE [val _] aq)
 refine dB 4095 gh ?_ (x := lF dJ)
 refine dB 528383 gh ?_ (x := lD [sl .v _] dm)
 refine dB 4095 gh ?_ (x := sM)
 refine dB 2101247 gh ?_ (x := er)
 refine dB 7868415 gh ?_ (x := aD (k := k - 1) (by decide) bJ (by exact ⟨⟩) (by omega) (by exact aE (by omega) rfl) (by exact rfl))
 refine dB 16257023 gh ?_ (x := bl (by decide) eU (by exact nl rfl))
 refine dB 33034239 gh ?_ (x := bl (by decide) gu (by exact nl rfl))
 refine dB 66588671 gh ?_ (x := lE [val _] aq)
 refine dB 134217727 gh ?_ (x := eR)
 refine dB 268435455 gg ?_ (x := aA gh)
 refine dA 536870911 ?_ (x := ay gg)
 refine sc (fun hbc => ?_) (fun hbc => ?_)
 exact Dg
 exact Dh
 refine dF 4095 gh ?_
 refine dF 8191 gh ?_
 refine dF 4095 gh ?_
 refine dF 32767 gh ?_
 refine dF 65535 gh ?_
 refine dF 131071 gh ?_
 refine dF 262143 gh ?_
 refine dF 4095 gh ?_
 refine dF 528383 gh ?_
 refine dF 4095 gh ?_
 refine dF 2101247 gh ?_
 refine dF 7868415 gh ?_
 refine dF 16257023 gh ?_
 refine dF 33034239 gh ?_
 refine dF 66588671 gh ?_
 refine dF 134217727 gh ?_
 refine dB 268435455 gg ?_ (x := ay gh)
 refine dA 536870911 ?_ (x := ay gg)
 refine dk ?_
 exact Dh
 have hend : k = e.Active.length := by omega
 have hall : cw eX (dt e.Store) iR e.Active = true := lu ha hend
 refine et ?_
 refine sT [1, 3] [1] ?_
 refine bw ?_
 refine sP [1, 3, 4] [1] ?_
 refine sL [1, 3] [1] (fun k : Nat => k ≤ e.Done.length ∧ (List.take k e.Done).all (ez e.Store.Now) = true) (fun k : Nat => [(4, RV.int (k : Int))]) (fun k : Nat => []) (fun k : Nat => e.Done.length - k) 0 (by exact ⟨by omega, rfl⟩) (by exact aI (by exact rfl) (tI)) (by exact ⟨⟩) ?_
 rintro k ⟨hk, ha⟩
 refine bu ?_
 refine qZ ?_
 refine rA ?_ (x := cb)
 refine sc (fun hbc => ?_) (fun hbc => ?_)
 have hlt : k < e.Done.length := by omega
 refine aT ?_
 refine sT [1, 3, 4] [1] ?_
 refine qF ?_
 refine rM ?_
 refine pb ?_
 refine aJ ?_
 refine sO [(1, _), (3, _), (4, _), (5, _)] [(1, _), (5, (63, [val _, val _, sl _ _, sl _ _, val _, val _, sl _ _]))] ?_
 refine aM ?_
 refine qK ?_
 refine rA ?_ (x := cL [(true, [val _, val _, sl _ _, sl _ _])] [(true, [val _, val _, sl .v _, sl .v _])] uC (hs := by exact u7))
 refine dI ?_
 refine cx 105 (fun gg sgg => ?_) (fun gg sgg => ?_)
 refine zt gg ?_
 refine rA ?_ (x := aA gg)
 refine rM ?_
 refine an.cases (s := 114) rfl (fun g37 => ?_) (fun g37 => nomatch g37)
 refine zt g37 ?_
 refine rA ?_ (x := aA g37)
 refine rM ?_
 refine an.cases (s := 120) rfl (fun g38 => ?_) (fun g38 => nomatch g38)
 refine zt g38 ?_
 refine rA ?_ (x := aA g38)
 refine bC ?_
 exact td
 refine yb ?_
 refine rB gg ?_ (x := lF ee)
 refine rB gg ?_ (x := lF fc)
 refine rB gg ?_ (x := lD [val _] aq)
 refine rB gg ?_ (x := cL [(false, [val _]), (false, [val _]), (false, [val _])] [(false, [val _]), (false, [val _]), (false, [val _])] eT (hs := by exact eZ))
 refine rB gg ?_ (x := nT)
 refine rA ?_ (x := ay gg)
 refine rM ?_
 refine cx 114 (fun gh sgh => ?_) (fun gh sgh => ?_)
 refine zt gh ?_
 refine rA ?_ (x := aA gh)
 refine rM ?_
 refine an.cases (s := 120) rfl (fun g41 => ?_) (fun g41 => nomatch g41)
 refine zt g41 ?_
 refine rA ?_ (x := aA g41)
 refine bC ?_
 exact td
 refine yc ?_
 refine rB gh ?_ (x := cL [(false, [val _]), (false, [val _]), (false, [val _])] [(false, [val _]), (false, [val _]), (false, [val _])] eT (hs := by exact eZ))
 refine rB gh ?_ (x := nT)
 refine rA ?_ (x := ay gh)
 refine rM ?_
 refine cx 120 (fun gi sgi => ?_) (fun gi sgi => ?_)
 refine zt gi ?_
 refine rA ?_ (x := aA gi)
 refine bC ?_
 exact td
 refine xY ?_
 refine rB gi ?_ (x := cL [(false, [sl _ _])] [(false, [sl .v _])] J0 (hs := by exact Kg))
 refine rB gi ?_ (x := nT)
 refine rA ?_ (x := ay gi)
 refine sc (fun hbd => ?_) (fun hbd => ?_)
 exact td
 have hyes : (ez e.Store.Now) e.Done[k] = true := by first | (simp_all [ez]; done) | (simp_all [ez]; omega)
 refine aN ?_
 refine sG [1, 3, 4, 5] [1, 5] ?_
 exact mR
 have hfa : e.Done.all (ez e.Store.Now) = true := ik (by rw [show e.Done.length = k by omega]; exact ha)
 refine et ?_
 refine sT [1, 3, 4] [1] ?_
 refine bw ?_
 refine sP [1, 3, 4, 6] [1] ?_
 refine sL [1, 3, 4] [1] (fun k : Nat => k ≤ e.Ledger.length ∧ (List.take k e.Ledger).all dQ = true) (fun k : Nat => [(6, RV.int (k : Int))]) (fun k : Nat => []) (fun k : Nat => e.Ledger.length - k) 0 (by exact ⟨by omega, rfl⟩) (by exact aI (by exact rfl) (tI)) (by exact ⟨⟩) ?_
 rintro k ⟨hk, ha⟩
 refine bu ?_
 refine ra ?_
 refine rA ?_ (x := cb)
 refine sc (fun hbd => ?_) (fun hbd => ?_)
 have hlt : k < e.Ledger.length := by omega
 refine aT ?_
 refine sT [1, 3, 4, 6] [1] ?_
 refine rA ?_ (x := lF gt)
 refine rA ?_ (x := lD [sl .v _] gw)
 refine rM ?_
 refine xv ?_
 refine rA ?_ (x := cL [(true, [val _, val _, sl _ _, sl _ _, sl _ _])] [(true, [val _, val _, sl .v _, sl .v _, sl .v _])] PZ (hs := by exact QJ))
 refine rA ?_ (x := nT)
 refine sc (fun hbe => ?_) (fun hbe => ?_)
 have hno : dQ e.Ledger[k] = false := by simpa using hbe
 have hbad2 := I9 (jK hlt hno)
 refine sS [1, 3, 4, 6] [1] ?_
 exact oy
 have hyes : dQ e.Ledger[k] = true := by simpa using hbe
 refine aN ?_
 refine sG [1, 3, 4, 6] [1] ?_
 exact mR
 have hla : e.Ledger.all dQ = true := ik (by rw [show e.Ledger.length = k by omega]; exact ha)
 refine aX ?_
 refine sT [1, 3, 4, 6] [1] ?_
 exact Df
end Go.Proofs.YtmekkgdboplbjaaGreat
