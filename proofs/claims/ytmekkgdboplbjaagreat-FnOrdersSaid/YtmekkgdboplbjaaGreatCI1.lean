/- What functions of the program compute. No condition. -/
import Derived.Test.YtmekkgdboplbjaaGreatCF1
import Derived.Test.YtmekkgdboplbjaaGreatCP0
set_option linter.unusedVariables false
set_option linter.unusedSimpArgs false
namespace Go.Proofs.YtmekkgdboplbjaaGreat
open Go Go.RowKit M PV
set_option maxRecDepth 10000
attribute [local irreducible] PV.Lcl PV.LclR RV.Lcl
set_option maxHeartbeats 8000000
theorem S9 {p1 p3 : Fl} {x : List aF} {y : List aF}  : aw Tryz.prog 154 [(false, [sl .v (x.map (dO p1))]), (false, [sl .v (y.map (dO p3))])] (av [(false, [val (.bool (dl x y))])]) := by
 refine sF Tryz.func154 fun h0 w0 Fz0 => ?_
 refine sj 0 fun hl0 => ?_
 refine sj 1 fun hl1 => ?_
 refine kp ?_
 refine i3 ?_
 refine i3 ?_
 refine rA ?_ (x := co)
 refine sc (fun hba => ?_) (fun hba => ?_)
 exact ox
 have hl : x.length = y.length := by omega
 refine ni ?_
 refine bw ?_
 refine qw ?_
 rintro k ⟨hk, ha⟩
 refine bu ?_
 refine uu ?_
 refine sc (fun hbb => ?_) (fun hbb => ?_)
 have hlt : k < x.length := by omega
 have hlt2 : k < y.length := by omega
 refine nj ?_
 refine md ?_
 refine GT ?_
 refine dA 15 ?_ (x := lE [val _] aq)
 refine dG ?_
 refine dA 96 ?_ (x := aD (by decide) bT (by exact ⟨⟩) (by exact rfl) (by exact aE (by omega) rfl) (by exact rfl))
 refine dA 224 ?_ (x := bl (by decide) lx (by exact nl rfl))
 refine dA 480 ?_ (x := lE [val _] aq)
 refine dA 1023 ?_ (x := co)
 refine dA 2047 ?_ (x := sM)
 refine dx 28 (fun ga sga => ?_) (fun ga sga => ?_)
 refine uq ?_
 refine dT 16383 ga ?_
 refine dT 32767 ga ?_
 refine dT 65535 ga ?_
 refine uq ?_
 refine dT 397311 ga ?_
 refine dT 921599 ga ?_
 refine dT 1970175 ga ?_
 refine qU ?_
 refine dA 16777215 ?_ (x := sM)
 refine a4.cases (s := 41) rfl (fun g4 => ?_) (fun g4 => nomatch g4)
 refine t8 ?_
 refine dT 134217727 g4 ?_
 refine dT 268435455 g4 ?_
 refine dT 536870911 g4 ?_
 refine t8 ?_
 refine dT 3254779903 g4 ?_
 refine dT 7549747199 g4 ?_
 refine dT 16139681791 g4 ?_
 refine dT 34359738367 g4 ?_
 refine dA 68719476735 ?_ (x := aA g4)
 refine dA 137438953471 ?_ (x := sM)
 refine a4.cases (s := 54) rfl (fun g5 => ?_) (fun g5 => nomatch g5)
 refine dT 274877906943 g5 ?_
 refine dT 274877906943 g5 ?_
 refine dT 1099511627775 g5 ?_
 refine dT 2199023255551 g5 ?_
 refine dT 4398046511103 g5 ?_
 refine dT 274877906943 g5 ?_
 refine dT 274877906943 g5 ?_
 refine dT 26663156973567 g5 ?_
 refine dT 61847529062399 g5 ?_
 refine dT 132216273240063 g5 ?_
 refine dT 281474976710655 g5 ?_
 refine dT 562949953421311 g5 ?_
 refine dA 1125899906842623 ?_ (x := aA g5)
 exact qm
 refine tT ?_
 refine dB 16383 ga ?_ (x := aD (by decide) bT (by exact ⟨⟩) (by exact rfl) (by exact aE (by omega) rfl) (by exact rfl))
 refine dB 32767 ga ?_ (x := bl (by decide) im (by exact nl rfl))
 refine dB 65535 ga ?_ (x := lE [val _] aq)
 refine tT ?_
 refine dB 397311 ga ?_ (x := aD (by decide) bT (by exact ⟨⟩) (by exact rfl) (by exact aE (by omega) rfl) (by exact rfl))
 refine dB 921599 ga ?_ (x := bl (by decide) im (by exact nl rfl))
 refine dB 1970175 ga ?_ (x := lE [val _] aq)
 refine dB 4194303 ga ?_ (x := co)
 refine dA 8388607 ?_ (x := ay ga)
 refine dA 16777215 ?_ (x := sM)
 refine dx 41 (fun gb sgb => ?_) (fun gb sgb => ?_)
 refine t9 ?_
 refine dT 134217727 gb ?_
 refine dT 268435455 gb ?_
 refine dT 536870911 gb ?_
 refine t9 ?_
 refine dT 3254779903 gb ?_
 refine dT 7549747199 gb ?_
 refine dT 16139681791 gb ?_
 refine dT 34359738367 gb ?_
 refine dA 68719476735 ?_ (x := aA gb)
 refine dA 137438953471 ?_ (x := sM)
 refine a4.cases (s := 54) rfl (fun g8 => ?_) (fun g8 => nomatch g8)
 refine dT 274877906943 g8 ?_
 refine dT 274877906943 g8 ?_
 refine dT 1099511627775 g8 ?_
 refine dT 2199023255551 g8 ?_
 refine dT 4398046511103 g8 ?_
 refine dT 274877906943 g8 ?_
 refine dT 274877906943 g8 ?_
 refine dT 26663156973567 g8 ?_
 refine dT 61847529062399 g8 ?_
 refine dT 132216273240063 g8 ?_
 refine dT 281474976710655 g8 ?_
 refine dT 562949953421311 g8 ?_
 refine dA 1125899906842623 ?_ (x := aA g8)
 exact qm
 refine tS ?_
 refine dB 134217727 gb ?_ (x := aD (by decide) bT (by exact ⟨⟩) (by exact rfl) (by exact aE (by omega) rfl) (by exact rfl))
 refine dB 268435455 gb ?_ (x := bl (by decide) gP (by exact nl rfl))
 refine dB 536870911 gb ?_ (x := lE [val _] aq)
 refine tS ?_
 refine dB 3254779903 gb ?_ (x := aD (by decide) bT (by exact ⟨⟩) (by exact rfl) (by exact aE (by omega) rfl) (by exact rfl))
 refine dB 7549747199 gb ?_ (x := bl (by decide) gP (by exact nl rfl))
 refine dB 16139681791 gb ?_ (x := lE [val _] aq)
 refine dB 34359738367 gb ?_ (x := co)
 refine dA 68719476735 ?_ (x := ay gb)
 refine dA 137438953471 ?_ (x := sM)
 refine dx 54 (fun gc sgc => ?_) (fun gc sgc => ?_)
 refine dT 274877906943 gc ?_
 refine dT 274877906943 gc ?_
 refine dT 1099511627775 gc ?_
 refine dT 2199023255551 gc ?_
 refine dT 4398046511103 gc ?_
 refine dT 274877906943 gc ?_
 refine dT 274877906943 gc ?_
 refine dT 26663156973567 gc ?_
 refine dT 61847529062399 gc ?_
 refine dT 132216273240063 gc ?_
 refine dT 281474976710655 gc ?_
 refine dT 562949953421311 gc ?_
 refine dA 1125899906842623 ?_ (x := aA gc)
 exact qm
 refine Il ?_
 refine dB 1099511627775 gc ?_ (x := aD (by decide) bT (by exact ⟨⟩) (by exact rfl) (by exact aE (by omega) rfl) (by exact rfl))
 refine dB 2199023255551 gc ?_ (x := bl (by decide) jd (by exact nl rfl))
 refine dB 4398046511103 gc ?_ (x := lE [sl .v _] aZ)
 refine Il ?_
 refine dB 26663156973567 gc ?_ (x := aD (by decide) bT (by exact ⟨⟩) (by exact rfl) (by exact aE (by omega) rfl) (by exact rfl))
 refine dB 61847529062399 gc ?_ (x := bl (by decide) jd (by exact nl rfl))
 refine dB 132216273240063 gc ?_ (x := lE [sl .v _] aZ)
 refine dB 281474976710655 gc ?_ (x := cL [(false, [sl _ _]), (false, [sl _ _])] [(false, [sl .v _]), (false, [sl .v _])] nD (hs := by exact nV))
 refine dB 562949953421311 gc ?_ (x := nT)
 refine dA 1125899906842623 ?_ (x := ay gc)
 refine sc (fun hbc => ?_) (fun hbc => ?_)
 exact qk
 refine ns ?_
 refine nx (k + 1) (by exact ⟨by omega, lp ha hlt hlt2 (by rw [NR]; simp_all [eI])⟩)
 exact ql
theorem Ta {x : dZ} {y : dZ}  : aw Tryz.prog 59 [(true, [val (vI x.Segment), val (vI x.Base), sl .v (x.Ids.map ai), sl .v (x.Tenants.map ai), sl .v (x.Rows.map ai)]), (true, [val (vI y.Segment), val (vI y.Base), sl .v (y.Ids.map ai), sl .v (y.Tenants.map ai), sl .v (y.Rows.map ai)])] (av [(false, [val (.bool (dl x y))])]) := by
 refine sF Tryz.func59 fun h0 w0 Fz0 => ?_
 refine sn 0 2 fun hl0_2 => ?_
 refine sn 0 3 fun hl0_3 => ?_
 refine sn 0 4 fun hl0_4 => ?_
 refine sn 1 2 fun hl1_2 => ?_
 refine sn 1 3 fun hl1_3 => ?_
 refine sn 1 4 fun hl1_4 => ?_
 refine qE ?_
 refine rX ?_ (x := (db (ag := true) (cs := [val _, val _, sl _ _, sl _ _, sl _ _]) (by decide) (by exact ⟨⟩)))
 refine un ?_
 refine rA ?_ (x := lF rF)
 refine rA ?_ (x := lD [val _] aq)
 refine rA ?_ (x := lF rF)
 refine nu ?_
 refine cx 10 (fun ga sga => ?_) (fun ga sga => ?_)
 refine rB ga ?_ (x := lF nE)
 refine rB ga ?_ (x := lD [val _] aq)
 refine rB ga ?_ (x := lF nE)
 refine rB ga ?_ (x := lD [val _] aq)
 refine nb ?_
 refine rM ?_
 refine cx 17 (fun gb sgb => ?_) (fun gb sgb => ?_)
 refine rB gb ?_ (x := lF kE)
 refine rB gb ?_ (x := lD [sl .v _] aZ)
 refine rB gb ?_ (x := lF kE)
 refine xx ?_
 refine ko ?_
 refine cx 24 (fun gc sgc => ?_) (fun gc sgc => ?_)
 refine rB gc ?_ (x := lF jP)
 refine rB gc ?_ (x := lD [sl .v _] aZ)
 refine rB gc ?_ (x := lF jP)
 refine He ?_
 refine rA ?_ (x := aA gc)
 refine rM ?_
 refine cx 31 (fun gd sgd => ?_) (fun gd sgd => ?_)
 refine xS ?_
 refine xS ?_
 refine rB gd ?_ (x := cL [(false, [sl _ _]), (false, [sl _ _])] [(false, [sl .v _]), (false, [sl .v _])] nD (hs := by exact nV))
 refine rA ?_ (x := aA gd)
 exact qp
 refine zf gd ?_
 refine rA ?_ (x := ay gd)
 exact qp
 refine lh ?_
 refine rM ?_
 refine an.cases (s := 31) rfl (fun g5 => nomatch g5) (fun g5 => ?_)
 refine zf g5 ?_
 refine rA ?_ (x := ay g5)
 exact qp
 refine lm ?_
 refine an.cases (s := 24) rfl (fun g6 => nomatch g6) (fun g6 => ?_)
 refine zf g6 ?_
 refine rA ?_ (x := ay g6)
 refine rM ?_
 refine an.cases (s := 31) rfl (fun g7 => nomatch g7) (fun g7 => ?_)
 refine re ?_
 exact qp
 refine ii ?_
 refine an.cases (s := 17) rfl (fun g8 => nomatch g8) (fun g8 => ?_)
 refine zf g8 ?_
 refine rA ?_ (x := ay g8)
 refine rM ?_
 refine an.cases (s := 24) rfl (fun g9 => nomatch g9) (fun g9 => ?_)
 refine rc ?_
 refine rM ?_
 refine an.cases (s := 31) rfl (fun g10 => nomatch g10) (fun g10 => ?_)
 refine oP ?_
 exact qp
theorem Tb {p4 p9 : Fl} {x : Active} {y : Active}  : aw Tryz.prog 57 [(true, [val (vI x.Query.Id), val (vI x.Query.Tenant), sl .v (x.Query.Conds.map bR), sl .v (x.Query.Out.map ai), val (vI x.Time), sl .v (x.Todo.map ai), val (vI x.Age), val (vI x.Sent), val (vI x.Cap), sl .v (x.Rows.map (bn p4))]), (true, [val (vI y.Query.Id), val (vI y.Query.Tenant), sl .v (y.Query.Conds.map bR), sl .v (y.Query.Out.map ai), val (vI y.Time), sl .v (y.Todo.map ai), val (vI y.Age), val (vI y.Sent), val (vI y.Cap), sl .v (y.Rows.map (bn p9))])] (av [(false, [val (.bool (dl x y))])]) := by
 refine sF Tryz.func57 fun h0 w0 Fz0 => ?_
 refine sn 0 2 fun hl0_2 => ?_
 refine sn 0 3 fun hl0_3 => ?_
 refine sn 0 5 fun hl0_5 => ?_
 refine sn 0 9 fun hl0_9 => ?_
 refine sn 1 2 fun hl1_2 => ?_
 refine sn 1 3 fun hl1_3 => ?_
 refine sn 1 5 fun hl1_5 => ?_
 refine sn 1 9 fun hl1_9 => ?_
 refine Hn ?_
 refine xy ?_
 refine sT [2, 3, 4] [2, 3] ?_
 refine qJ ?_
 refine qJ ?_
 refine rA ?_ (x := cL [(true, [val _, val _, sl _ _, sl _ _]), (true, [val _, val _, sl _ _, sl _ _])] [(true, [val _, val _, sl .v _, sl .v _]), (true, [val _, val _, sl .v _, sl .v _])] JX (hs := by exact LB))
 refine rM ?_
 refine cx 10 (fun ga sga => ?_) (fun ga sga => ?_)
 refine x8 ?_
 refine x8 ?_
 refine nb ?_
 refine rM ?_
 refine cx 17 (fun gb sgb => ?_) (fun gb sgb => ?_)
 refine xQ ?_
 refine rB gb ?_ (x := lF gO)
 refine xx ?_
 refine ko ?_
 refine cx 24 (fun gc sgc => ?_) (fun gc sgc => ?_)
 refine x9 ?_
 refine x9 ?_
 refine rB gc ?_ (x := dY)
 refine rA ?_ (x := aA gc)
 refine rM ?_
 refine cx 31 (fun gd sgd => ?_) (fun gd sgd => ?_)
 refine rB gd ?_ (x := lF jN)
 refine rB gd ?_ (x := lD [val _] aq)
 refine rB gd ?_ (x := lF jN)
 refine rB gd ?_ (x := lD [val _] aq)
 refine rB gd ?_ (x := dY)
 refine nn ?_
 refine cx 38 (fun ge sge => ?_) (fun ge sge => ?_)
 refine x7 ?_
 refine x7 ?_
 refine rB ge ?_ (x := dY)
 refine oU ?_
 refine cx 45 (fun gf sgf => ?_) (fun gf sgf => ?_)
 refine tU ?_
 refine tU ?_
 refine rB gf ?_ (x := cL [(false, [sl _ _]), (false, [sl _ _])] [(false, [sl .v _]), (false, [sl .v _])] JS (hs := by exact Ko))
 refine rA ?_ (x := aA gf)
 exact mV
 refine zf gf ?_
 refine rA ?_ (x := ay gf)
 exact mV
 refine zf ge ?_
 refine zip ?_
 refine an.cases (s := 45) rfl (fun g7 => nomatch g7) (fun g7 => ?_)
 refine re ?_
 exact mV
 refine zf gd ?_
 refine np ?_
 refine an.cases (s := 38) rfl (fun g8 => nomatch g8) (fun g8 => ?_)
 refine zf g8 ?_
 refine rA ?_ (x := ay g8)
 refine rM ?_
 refine an.cases (s := 45) rfl (fun g9 => nomatch g9) (fun g9 => ?_)
 refine rc ?_
 exact mV
 refine lh ?_
 refine rM ?_
 refine an.cases (s := 31) rfl (fun g10 => nomatch g10) (fun g10 => ?_)
 refine oP ?_
 refine rM ?_
 refine an.cases (s := 38) rfl (fun g11 => nomatch g11) (fun g11 => ?_)
 refine ue ?_
 refine rM ?_
 refine an.cases (s := 45) rfl (fun g12 => nomatch g12) (fun g12 => ?_)
 refine zf g12 ?_
 refine rA ?_ (x := ay g12)
 exact mV
 refine lm ?_
 refine an.cases (s := 24) rfl (fun g13 => nomatch g13) (fun g13 => ?_)
 refine zf g13 ?_
 refine rA ?_ (x := ay g13)
 refine rM ?_
 refine an.cases (s := 31) rfl (fun g14 => nomatch g14) (fun g14 => ?_)
 refine zf g14 ?_
 refine rA ?_ (x := ay g14)
 refine rM ?_
 refine an.cases (s := 38) rfl (fun g15 => nomatch g15) (fun g15 => ?_)
 refine zf g15 ?_
 refine rA ?_ (x := ay g15)
 refine rM ?_
 refine an.cases (s := 45) rfl (fun g16 => nomatch g16) (fun g16 => ?_)
 refine uf ?_
 exact mV
 refine ii ?_
 refine an.cases (s := 17) rfl (fun g17 => nomatch g17) (fun g17 => ?_)
 refine ug ?_
 refine rM ?_
 refine an.cases (s := 24) rfl (fun g18 => nomatch g18) (fun g18 => ?_)
 refine uh ?_
 refine rM ?_
 refine an.cases (s := 31) rfl (fun g19 => nomatch g19) (fun g19 => ?_)
 refine zf g19 ?_
 refine rA ?_ (x := ay g19)
 refine rM ?_
 refine an.cases (s := 38) rfl (fun g20 => nomatch g20) (fun g20 => ?_)
 refine zf g20 ?_
 refine rA ?_ (x := ay g20)
 refine rM ?_
 refine an.cases (s := 45) rfl (fun g21 => nomatch g21) (fun g21 => ?_)
 refine zf g21 ?_
 refine rA ?_ (x := ay g21)
 exact mV
theorem Tc {p1 p2 p4 p5 : Fl} {x : Store} {y : Store}  : aw Tryz.prog 55 [(true, [sl .v (x.Segments.map (ax p1 p2)), val (vI x.Now)]), (true, [sl .v (y.Segments.map (ax p4 p5)), val (vI y.Now)])] (av [(false, [val (.bool (dl x y))])]) := by
 refine sF Tryz.func55 fun h0 w0 Fz0 => ?_
 refine sn 0 0 fun hl0_0 => ?_
 refine sn 1 0 fun hl1_0 => ?_
 refine iJ ?_
 refine rX ?_ (x := (db (ag := true) (cs := [sl _ _, val _]) (by decide) (by exact ⟨⟩)))
 refine qW ?_
 refine i5 ?_
 refine i5 ?_
 refine rA ?_ (x := co)
 refine rM ?_
 refine cx 13 (fun ga sga => ?_) (fun ga sga => ?_)
 refine jI ?_
 exact ED
 refine qN ?_
 refine qN ?_
 refine yr ?_
 refine sc (fun hba => ?_) (fun hba => ?_)
 exact ED
 have hl0 : x.Segments.length = y.Segments.length ∧ x.Now = y.Now := by first | (simp_all; done) | (simp_all; omega)
 obtain ⟨hl0, hnw⟩ := hl0
 refine uk ?_
 refine bw ?_
 refine sP [2, 3, 4, 5] [2, 3] ?_
 refine sL [2, 3] [2, 3] (fun k : Nat => k ≤ x.Segments.length ∧ List.take k x.Segments = List.take k y.Segments) (fun k : Nat => [(5, RV.int (k : Int))]) (fun k : Nat => []) (fun k : Nat => x.Segments.length - k) 0 (by exact ⟨by omega, by simp⟩) (by exact aI (by exact rfl) (tI)) (by exact ⟨⟩) ?_
 rintro k ⟨hk0, ha0⟩
 refine o8 ?_
 refine sc (fun hbb => ?_) (fun hbb => ?_)
 have hlt0 : k < x.Segments.length := by omega
 have hlu0 : k < y.Segments.length := by omega
 refine cE ?_
 refine sQ [2, 3, 5] [2, 3] ?_
 refine b9 bP ?_
 refine dA 0 ?_ (x := lF gQ)
 refine dA 1 ?_ (x := lD [sl .v _] gS)
 refine dA 0 ?_ (x := sM)
 refine dA 7 ?_ (x := aD (by decide) dK (by exact ⟨⟩) (by exact rfl) (by exact aE (by omega) rfl) (by exact rfl))
 refine dA 15 ?_ (x := lE [sl .v _] f7)
 refine dA 0 ?_ (x := lF gQ)
 refine dA 32 ?_ (x := lD [sl .v _] gS)
 refine dA 0 ?_ (x := sM)
 refine dA 224 ?_ (x := aD (by decide) dK (by exact ⟨⟩) (by exact rfl) (by exact aE (by omega) rfl) (by exact rfl))
 refine dA 480 ?_ (x := lE [sl .v _] f7)
 refine dA 1023 ?_ (x := cL [(false, [sl _ _]), (false, [sl _ _])] [(false, [sl .v _]), (false, [sl .v _])] O6 (hs := by exact S9))
 refine dA 2047 ?_ (x := nT)
 refine sc (fun hbc => ?_) (fun hbc => ?_)
 exact EE
 have heq : x.Segments[k] = y.Segments[k] := by exact eI.1 (by simpa using hbc)
 exact EF
 have hend0 : x.Segments = y.Segments := pe hl0 (by rw [show x.Segments.length = k by omega]; exact ha0)
 refine aX ?_
 refine sT [2, 3, 5] [2, 3] ?_
 refine bD ?_
 exact rb ((nz (NV.2 ⟨hend0, hnw⟩)).symm)
theorem LD {p1 p2 p5 p6 p7 p8 p9 p11 p12 p13 p14 p16 p17 p18 p20 p21 p24 p25 p26 p27 p28 p30 p31 p32 p33 p35 p36 p37 : Fl} {x : am} {y : am}  : aw Tryz.prog 10 [(true, [sl .v (x.Store.Segments.map (ax p1 p2)), val (vI x.Store.Now), val (vI x.Cursor), sl .v (x.Order.map ai), sl .v (x.Active.map (aG p5 p6 p7 p8 p9)), sl .v (x.Done.map (aP p11 p12 p13 p14)), sl .v (x.Ledger.map (aR p16 p17 p18)), val (vI x.Steps)]), (true, [sl .v (y.Store.Segments.map (ax p20 p21)), val (vI y.Store.Now), val (vI y.Cursor), sl .v (y.Order.map ai), sl .v (y.Active.map (aG p24 p25 p26 p27 p28)), sl .v (y.Done.map (aP p30 p31 p32 p33)), sl .v (y.Ledger.map (aR p35 p36 p37)), val (vI y.Steps)])] (av [(false, [val (.bool (dl x y))])]) := by
 refine sF Tryz.func10 fun h0 w0 Fz0 => ?_
 refine sn 0 0 fun hl0_0 => ?_
 refine sn 0 3 fun hl0_3 => ?_
 refine sn 0 4 fun hl0_4 => ?_
 refine sn 0 5 fun hl0_5 => ?_
 refine sn 0 6 fun hl0_6 => ?_
 refine sn 1 0 fun hl1_0 => ?_
 refine sn 1 3 fun hl1_3 => ?_
 refine sn 1 4 fun hl1_4 => ?_
 refine sn 1 5 fun hl1_5 => ?_
 refine sn 1 6 fun hl1_6 => ?_
 refine fY ?_
 refine rX ?_ (x := (db (ag := true) (cs := [sl _ _, val _, val _, sl _ _, sl _ _, sl _ _, sl _ _, val _]) (by decide) (by exact ⟨⟩)))
 refine qW ?_
 refine oL ?_
 refine oL ?_
 refine rA ?_ (x := cL [(true, [sl _ _, val _]), (true, [sl _ _, val _])] [(true, [sl .v _, val _]), (true, [sl .v _, val _])] PT (hs := by exact Tc))
 refine dI ?_
 refine cx 16 (fun ga sga => ?_) (fun ga sga => ?_)
 refine ij ?_
 refine an.cases (s := 23) rfl (fun g2 => ?_) (fun g2 => nomatch g2)
 refine ln ?_
 refine an.cases (s := 31) rfl (fun g3 => ?_) (fun g3 => nomatch g3)
 refine lj ?_
 refine rM ?_
 refine an.cases (s := 40) rfl (fun g4 => ?_) (fun g4 => nomatch g4)
 refine uo ?_
 refine rM ?_
 refine an.cases (s := 49) rfl (fun g5 => ?_) (fun g5 => nomatch g5)
 refine zt g5 ?_
 refine rA ?_ (x := aA g5)
 refine rM ?_
 refine an.cases (s := 58) rfl (fun g6 => ?_) (fun g6 => nomatch g6)
 refine ne ?_
 exact oz
 refine qO ?_
 refine qO ?_
 refine rB ga ?_ (x := co)
 refine gJ ?_
 refine cx 23 (fun gb sgb => ?_) (fun gb sgb => ?_)
 refine kr ?_
 refine an.cases (s := 31) rfl (fun g9 => ?_) (fun g9 => nomatch g9)
 refine zt g9 ?_
 refine rA ?_ (x := aA g9)
 refine rM ?_
 refine an.cases (s := 40) rfl (fun g10 => ?_) (fun g10 => nomatch g10)
 refine zt g10 ?_
 refine rA ?_ (x := aA g10)
 refine rM ?_
 refine an.cases (s := 49) rfl (fun g11 => ?_) (fun g11 => nomatch g11)
 refine ui ?_
 refine rM ?_
 refine an.cases (s := 58) rfl (fun g12 => ?_) (fun g12 => nomatch g12)
 refine uj ?_
 exact oz
 refine xU ?_
 refine rB gb ?_ (x := lF mn)
 refine xx ?_
 refine ri ?_
 refine cx 31 (fun gc sgc => ?_) (fun gc sgc => ?_)
 refine jF ?_
 refine rM ?_
 refine an.cases (s := 40) rfl (fun g15 => ?_) (fun g15 => nomatch g15)
 refine zt g15 ?_
 refine rA ?_ (x := aA g15)
 refine rM ?_
 refine an.cases (s := 49) rfl (fun g16 => ?_) (fun g16 => nomatch g16)
 refine zt g16 ?_
 refine rA ?_ (x := aA g16)
 refine rM ?_
 refine an.cases (s := 58) rfl (fun g17 => ?_) (fun g17 => nomatch g17)
 refine zt g17 ?_
 refine rA ?_ (x := aA g17)
 exact oz
 refine xX ?_
 refine rB gc ?_ (x := lN bJ)
 refine xX ?_
 refine rB gc ?_ (x := lN bJ)
 refine yt ?_
 refine rM ?_
 refine cx 40 (fun gd sgd => ?_) (fun gd sgd => ?_)
 refine zt gd ?_
 refine nn ?_
 refine an.cases (s := 49) rfl (fun g20 => ?_) (fun g20 => nomatch g20)
 refine zt g20 ?_
 refine rA ?_ (x := aA g20)
 refine rM ?_
 refine an.cases (s := 58) rfl (fun g21 => ?_) (fun g21 => nomatch g21)
 refine zt g21 ?_
 refine rA ?_ (x := aA g21)
 exact oz
 refine xV ?_
 refine rB gd ?_ (x := lN iq)
 refine xV ?_
 refine rB gd ?_ (x := lN iq)
 refine rB gd ?_ (x := co)
 refine np ?_
 refine cx 49 (fun ge sge => ?_) (fun ge sge => ?_)
 refine zt ge ?_
 refine oU ?_
 refine an.cases (s := 58) rfl (fun g24 => ?_) (fun g24 => nomatch g24)
 refine zt g24 ?_
 refine rA ?_ (x := aA g24)
 exact oz
 refine xW ?_
 refine rB ge ?_ (x := lN fq)
 refine xW ?_
 refine rB ge ?_ (x := lN fq)
 refine rB ge ?_ (x := co)
 refine zip ?_
 refine cx 58 (fun gf sgf => ?_) (fun gf sgf => ?_)
 refine up ?_
 exact oz
 refine rB gf ?_ (x := lF io)
 refine rB gf ?_ (x := lD [val _] aq)
 refine rB gf ?_ (x := lF io)
 refine rB gf ?_ (x := lD [val _] aq)
 refine rB gf ?_ (x := co)
 refine rA ?_ (x := ay gf)
 refine sc (fun hba => ?_) (fun hba => ?_)
 exact EG
 have hall : x.Store = y.Store ∧ x.Cursor = y.Cursor ∧ x.Order = y.Order ∧ x.Active.length = y.Active.length ∧ x.Done.length = y.Done.length ∧ x.Ledger.length = y.Ledger.length ∧ x.Steps = y.Steps := by refine ⟨?_, ?_, ?_, ?_, ?_, ?_, ?_⟩ <;> first | (simp_all [eI]; done) | (simp_all [eI]; omega)
 obtain ⟨he1, he2, he3, hl0, hl1, hl2, he4⟩ := hall
 refine uk ?_
 refine bw ?_
 refine sP [2, 3, 4, 5] [2, 3] ?_
 refine sL [2, 3] [2, 3] (fun k : Nat => k ≤ x.Active.length ∧ List.take k x.Active = List.take k y.Active) (fun k : Nat => [(5, RV.int (k : Int))]) (fun k : Nat => []) (fun k : Nat => x.Active.length - k) 0 (by exact ⟨by omega, by simp⟩) (by exact aI (by exact rfl) (tI)) (by exact ⟨⟩) ?_
 rintro k ⟨hk0, ha0⟩
 refine bu ?_
 refine nk ?_
 refine sc (fun hbb => ?_) (fun hbb => ?_)
 have hlt0 : k < x.Active.length := by omega
 have hlu0 : k < y.Active.length := by omega
 refine cE ?_
 refine sQ [2, 3, 5] [2, 3] ?_
 refine b9 bP ?_
 refine dA 0 ?_ (x := lF dJ)
 refine dA 1 ?_ (x := lD [sl .v _] dm)
 refine dA 0 ?_ (x := sM)
 refine dA 7 ?_ (x := aD (by decide) bJ (by exact ⟨⟩) (by exact rfl) (by exact aE (by omega) rfl) (by exact rfl))
 refine dA 15 ?_ (x := lE [val _, val _, sl .v _, sl .v _, val _, sl .v _, val _, val _, val _, sl .v _] eK)
 refine dA 0 ?_ (x := lF dJ)
 refine dA 32 ?_ (x := lD [sl .v _] dm)
 refine dA 0 ?_ (x := sM)
 refine dA 224 ?_ (x := aD (by decide) bJ (by exact ⟨⟩) (by exact rfl) (by exact aE (by omega) rfl) (by exact rfl))
 refine dA 480 ?_ (x := lE [val _, val _, sl .v _, sl .v _, val _, sl .v _, val _, val _, val _, sl .v _] eK)
 refine dA 1023 ?_ (x := cL [(true, [val _, val _, sl _ _, sl _ _, val _, sl _ _, val _, val _, val _, sl _ _]), (true, [val _, val _, sl _ _, sl _ _, val _, sl _ _, val _, val _, val _, sl _ _])] [(true, [val _, val _, sl .v _, sl .v _, val _, sl .v _, val _, val _, val _, sl .v _]), (true, [val _, val _, sl .v _, sl .v _, val _, sl .v _, val _, val _, val _, sl .v _])] PU (hs := by exact Tb))
 refine dA 2047 ?_ (x := nT)
 refine sc (fun hbc => ?_) (fun hbc => ?_)
 exact EE
 have heq : x.Active[k] = y.Active[k] := by exact eI.1 (by simpa using hbc)
 exact EF
 have hend0 : x.Active = y.Active := pe hl0 (by rw [show x.Active.length = k by omega]; exact ha0)
 refine et ?_
 refine sT [2, 3, 5] [2, 3] ?_
 refine bw ?_
 refine sP [2, 3, 5, 6] [2, 3] ?_
 refine sL [2, 3, 5] [2, 3] (fun k : Nat => k ≤ x.Done.length ∧ List.take k x.Done = List.take k y.Done) (fun k : Nat => [(6, RV.int (k : Int))]) (fun k : Nat => []) (fun k : Nat => x.Done.length - k) 0 (by exact ⟨by omega, by simp⟩) (by exact aI (by exact rfl) (tI)) (by exact ⟨⟩) ?_
 rintro k ⟨hk1, ha1⟩
 refine bu ?_
 refine qZ ?_
 refine rA ?_ (x := cb)
 refine sc (fun hbc => ?_) (fun hbc => ?_)
 have hlt1 : k < x.Done.length := by omega
 have hlu1 : k < y.Done.length := by omega
 refine aT ?_
 refine sT [2, 3, 5, 6] [2, 3] ?_
 refine qF ?_
 refine rM ?_
 refine pb ?_
 refine aJ ?_
 refine sO [(2, _), (3, _), (5, _), (6, _), (7, _)] [(2, _), (3, _), (7, (63, [val _, val _, sl _ _, sl _ _, val _, val _, sl _ _]))] ?_
 refine aM ?_
 refine qF ?_
 refine rM ?_
 refine pb ?_
 refine aJ ?_
 refine sO [(2, _), (3, _), (5, _), (6, _), (7, _), (8, _)] [(2, _), (3, _), (7, _), (8, (63, [val _, val _, sl _ _, sl _ _, val _, val _, sl _ _]))] ?_
 refine aM ?_
 refine qK ?_
 refine qK ?_
 refine rA ?_ (x := cL [(true, [val _, val _, sl _ _, sl _ _]), (true, [val _, val _, sl _ _, sl _ _])] [(true, [val _, val _, sl .v _, sl .v _]), (true, [val _, val _, sl .v _, sl .v _])] JX (hs := by exact LB))
 refine dI ?_
 refine cx 107 (fun gg sgg => ?_) (fun gg sgg => ?_)
 refine zt gg ?_
 refine rA ?_ (x := aA gg)
 refine rM ?_
 refine an.cases (s := 114) rfl (fun g33 => ?_) (fun g33 => nomatch g33)
 refine zt g33 ?_
 refine rA ?_ (x := aA g33)
 refine rM ?_
 refine an.cases (s := 121) rfl (fun g34 => ?_) (fun g34 => nomatch g34)
 refine zt g34 ?_
 refine rA ?_ (x := aA g34)
 refine bC ?_
 exact th
 refine yb ?_
 refine yb ?_
 refine rB gg ?_ (x := co)
 refine rA ?_ (x := ay gg)
 refine rM ?_
 refine cx 114 (fun gh sgh => ?_) (fun gh sgh => ?_)
 refine zt gh ?_
 refine rA ?_ (x := aA gh)
 refine rM ?_
 refine an.cases (s := 121) rfl (fun g37 => ?_) (fun g37 => nomatch g37)
 refine zt g37 ?_
 refine rA ?_ (x := aA g37)
 refine bC ?_
 exact th
 refine yc ?_
 refine yc ?_
 refine rB gh ?_ (x := co)
 refine rA ?_ (x := ay gh)
 refine rM ?_
 refine cx 121 (fun gi sgi => ?_) (fun gi sgi => ?_)
 refine zt gi ?_
 refine rA ?_ (x := aA gi)
 refine bC ?_
 exact th
 refine xY ?_
 refine xY ?_
 refine rB gi ?_ (x := cL [(false, [sl _ _]), (false, [sl _ _])] [(false, [sl .v _]), (false, [sl .v _])] JS (hs := by exact Ko))
 refine rB gi ?_ (x := nT)
 refine rA ?_ (x := ay gi)
 refine sc (fun hbd => ?_) (fun hbd => ?_)
 exact th
 have heq1 : x.Done[k] = y.Done[k] := by rw [NU]; simp_all [eI]
 refine aN ?_
 refine sG [2, 3, 5, 6, 7, 8] [2, 3, 7, 8] ?_
 refine bF ?_
 refine nx (k + 1) (by exact ⟨by omega, lp ha1 hlt1 hlu1 heq1⟩)
 have hend1 : x.Done = y.Done := pe hl1 (by rw [show x.Done.length = k by omega]; exact ha1)
 refine et ?_
 refine sT [2, 3, 5, 6] [2, 3] ?_
 refine bw ?_
 refine sP [2, 3, 5, 6, 9] [2, 3] ?_
 refine sL [2, 3, 5, 6] [2, 3] (fun k : Nat => k ≤ x.Ledger.length ∧ List.take k x.Ledger = List.take k y.Ledger) (fun k : Nat => [(9, RV.int (k : Int))]) (fun k : Nat => []) (fun k : Nat => x.Ledger.length - k) 0 (by exact ⟨by omega, by simp⟩) (by exact aI (by exact rfl) (tI)) (by exact ⟨⟩) ?_
 rintro k ⟨hk2, ha2⟩
 refine bu ?_
 refine ra ?_
 refine rA ?_ (x := cb)
 refine sc (fun hbd => ?_) (fun hbd => ?_)
 have hlt2 : k < x.Ledger.length := by omega
 have hlu2 : k < y.Ledger.length := by omega
 refine cE ?_
 refine sQ [2, 3, 5, 6, 9] [2, 3] ?_
 refine b9 bP ?_
 refine dA 0 ?_ (x := lF gt)
 refine dA 1 ?_ (x := lD [sl .v _] gw)
 refine dA 0 ?_ (x := sM)
 refine dA 7 ?_ (x := aD (by decide) fq (by exact ⟨⟩) (by exact rfl) (by exact aE (by omega) rfl) (by exact rfl))
 refine dA 15 ?_ (x := lE [val _, val _, sl .v _, sl .v _, sl .v _] it)
 refine dA 0 ?_ (x := lF gt)
 refine dA 32 ?_ (x := lD [sl .v _] gw)
 refine dA 0 ?_ (x := sM)
 refine dA 224 ?_ (x := aD (by decide) fq (by exact ⟨⟩) (by exact rfl) (by exact aE (by omega) rfl) (by exact rfl))
 refine dA 480 ?_ (x := lE [val _, val _, sl .v _, sl .v _, sl .v _] it)
 refine dA 1023 ?_ (x := cL [(true, [val _, val _, sl _ _, sl _ _, sl _ _]), (true, [val _, val _, sl _ _, sl _ _, sl _ _])] [(true, [val _, val _, sl .v _, sl .v _, sl .v _]), (true, [val _, val _, sl .v _, sl .v _, sl .v _])] PW (hs := by exact Ta))
 refine dA 2047 ?_ (x := nT)
 refine sc (fun hbe => ?_) (fun hbe => ?_)
 have hne : ¬ x = y := by intro e_; subst e_; simp_all [i8]
 refine sS [2, 3, 5, 6, 9] [2, 3] ?_
 exact qr
 have heq2 : x.Ledger[k] = y.Ledger[k] := by exact eI.1 (by simpa using hbe)
 refine aN ?_
 refine sG [2, 3, 5, 6, 9] [2, 3] ?_
 refine bF ?_
 refine nx (k + 1) (by exact ⟨by omega, lp ha2 hlt2 hlu2 heq2⟩)
 have hend2 : x.Ledger = y.Ledger := pe hl2 (by rw [show x.Ledger.length = k by omega]; exact ha2)
 refine aX ?_
 refine sT [2, 3, 5, 6, 9] [2, 3] ?_
 refine bD ?_
 exact rb ((nz (NW.2 ⟨he1, he2, he3, hend0, hend1, hend2, he4⟩)).symm)
end Go.Proofs.YtmekkgdboplbjaaGreat
