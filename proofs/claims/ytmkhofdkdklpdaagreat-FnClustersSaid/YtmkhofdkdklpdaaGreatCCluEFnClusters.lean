/- What functions of the program compute. No condition. -/
import Derived.Test.YtmkhofdkdklpdaaGreatCZMFnClusters
import Derived.Test.YtmkhofdkdklpdaaGreatCFcFnClusters
import Derived.Test.YtmkhofdkdklpdaaGreatCCluDFnClusters
import Derived.Test.YtmkhofdkdklpdaaGreatCDc
import Derived.KernelRfl
set_option linter.unusedVariables false
set_option linter.unusedSimpArgs false
namespace Go.Proofs.YtmkhofdkdklpdaaGreat
open Go Go.RowKit M PV
set_option maxRecDepth 10000
attribute [local irreducible] PV.Lcl PV.LclR RV.Lcl
theorem impl_IsCluster {p3 p4 p9 p10 p13 p14 : Fl} {c : Cluster}  (hb : wtRowSS c.Parts ≤ 68719476736) : SCall Tryz.prog 10 [(true, [val (vI c.Query.Id), val (vI c.Query.Tenant), sl .v (c.Query.Conds.map cCond), sl .v (c.Query.Out.map cInt), sl .v (c.Parts.map (cRowS p3 p4)), sl .v (c.Up.map cBool), sl .v (c.At.map cInt), sl .v (c.Pos.map cInt), sl .v (c.Buffer.map (cRowS p9 p10)), sl .v (c.Done.map cInt), sl .v (c.Rows.map (cRowS p13 p14))])] (resRV [(false, [val (.bool (isCl c))])]) := by
 refine sF Tryz.func10 fun h0 w0 Fz0 => ?_
 refine sn 0 2 fun hl0_2 => ?_
 refine sn 0 3 fun hl0_3 => ?_
 refine sn 0 4 fun hl0_4 => ?_
 refine sn 0 5 fun hl0_5 => ?_
 refine sn 0 6 fun hl0_6 => ?_
 refine sn 0 7 fun hl0_7 => ?_
 refine sn 0 8 fun hl0_8 => ?_
 refine sn 0 9 fun hl0_9 => ?_
 refine sn 0 10 fun hl0_10 => ?_
 have hwp : ∀ s : Int, wtRowS (partAt c s) ≤ 68719476736 := fun s => part_wt hb
 refine zen ?_
 refine rK ?_
 refine sT [1, 2] [1] ?_
 refine zfz ?_
 refine sS [1, 2, 3] [1] ?_
 refine zeo ?_
 refine zfr ?_
 refine rM ?_
 refine rA ?_ (x := cL [(true, [val _, val _, sl _ _, sl _ _]), (false, [sl _ _]), (false, [val _])] [(true, [val _, val _, sl .v _, sl .v _]), (false, [sl .v _]), (false, [val _])] c_39 (hs := by exact impl_startOk (by omega)))
 refine zep ?_
 refine cx 20 (fun ga sga => ?_) (fun ga sga => ?_)
 refine zdz ?_
 refine RunS.cases (s := 27) rfl (fun g2 => ?_) (fun g2 => nomatch g2)
 refine ze0 ?_
 refine rM ?_
 refine RunS.cases (s := 34) rfl (fun g3 => ?_) (fun g3 => nomatch g3)
 refine zec ?_
 refine rM ?_
 refine RunS.cases (s := 41) rfl (fun g4 => ?_) (fun g4 => nomatch g4)
 refine zeq ?_
 exact zgd
 refine rB ga ?_ (x := lF fd_31_3)
 refine rB ga ?_ (x := lD [sl .v _] ty_25)
 refine rB ga ?_ (x := lN sl_25)
 refine rB ga ?_ (x := sM)
 refine zee ?_
 refine rM ?_
 refine cx 27 (fun gb sgb => ?_) (fun gb sgb => ?_)
 refine zef ?_
 refine rM ?_
 refine RunS.cases (s := 34) rfl (fun g7 => ?_) (fun g7 => nomatch g7)
 refine zt g7 ?_
 refine rA ?_ (x := pkT g7)
 refine rM ?_
 refine RunS.cases (s := 41) rfl (fun g8 => ?_) (fun g8 => nomatch g8)
 refine zt g8 ?_
 refine rA ?_ (x := pkT g8)
 exact zgd
 refine rB gb ?_ (x := lF fd_31_4)
 refine rB gb ?_ (x := lD [sl .v _] ty_25)
 refine rB gb ?_ (x := lN sl_25)
 refine rB gb ?_ (x := sM)
 refine zeh ?_
 refine rM ?_
 refine cx 34 (fun gc sgc => ?_) (fun gc sgc => ?_)
 refine zei ?_
 refine rM ?_
 refine RunS.cases (s := 41) rfl (fun g11 => ?_) (fun g11 => nomatch g11)
 refine zt g11 ?_
 refine rA ?_ (x := pkT g11)
 exact zgd
 refine rB gc ?_ (x := lF fd_31_5)
 refine rB gc ?_ (x := lD [sl .v _] ty_28)
 refine rB gc ?_ (x := lN sl_28)
 refine rB gc ?_ (x := sM)
 refine zge ?_
 refine rM ?_
 refine cx 41 (fun gd sgd => ?_) (fun gd sgd => ?_)
 refine zeu ?_
 exact zgd
 refine rB gd ?_ (x := lF fd_31_7)
 refine rB gd ?_ (x := lD [sl .v _] ty_28)
 refine rB gd ?_ (x := lN sl_28)
 refine rB gd ?_ (x := lF fd_31_1)
 refine rB gd ?_ (x := lD [sl .v _] ty_28)
 refine rB gd ?_ (x := lN sl_28)
 refine rB gd ?_ (x := B_neq)
 refine rA ?_ (x := pkF gd)
 refine sc (fun hba => ?_) (fun hba => ?_)
 exact zgf
 have hh : headB c := by unfold headB; first | (simp_all; done) | (simp_all; omega)
 have hh2 := hh
 unfold headB at hh2
 obtain ⟨_, hh3, hh4, hh5, hh6⟩ := hh2
 refine zaj ?_
 refine sS [1, 2, 3] [1] ?_
 refine zgg ?_
 refine zc0 ?_
 refine sP [1, 2, 3, 51, 52, 53] [1] ?_
 refine sL [1, 3, 51, 52] [1] (fun k : Nat => k ≤ c.Done.length ∧ adjTo 0 (doneP c) ltI c.Done k = true) (fun k : Nat => [(53, RV.int (k : Int))]) (fun k : Nat => []) (fun k : Nat => c.Done.length - k) 0 (by exact ⟨by omega, rfl⟩) (by exact aI (by exact rfl) (tI)) (by exact ⟨⟩) ?_
 rintro k ⟨hk, ha⟩
 refine zbn ?_
 refine sc (fun hbb => ?_) (fun hbb => ?_)
 have hlt : k < c.Done.length := by omega
 have hgk : c.Done.getD k 0 = c.Done[k] := getD_at hlt
 have hgp : 0 < k → c.Done.getD (k - 1) 0 = c.Done[k - 1] := fun h => getD_at (by omega)
 refine za6 ?_
 refine sT [1, 3, 51, 52, 53] [1] ?_
 refine rM ?_
 refine zbo ?_
 refine rS ?_
 refine sS [1, 3, 4, 5, 51, 52, 53] [1] ?_
 refine rM ?_
 refine zg7 ?_
 refine rA ?_ (x := B_sub)
 refine zc1 ?_
 refine rM ?_
 refine cx 65 (fun ge sge => ?_) (fun ge sge => ?_)
 refine zt ge ?_
 refine rA ?_ (x := pkT ge)
 refine scT ?_
 exact zgh
 refine rB ge ?_ (x := sM)
 refine rB ge ?_ (x := B_gtr)
 refine rB ge ?_ (x := sM)
 refine cx 68 (fun gf sgf => ?_) (fun gf sgf => ?_)
 refine zex ?_
 refine rB gf ?_ (x := sM)
 refine rB gf ?_ (x := B_sub)
 refine rB gf ?_ (x := loc_index (k := k - 1) (by decide) sl_25 (by exact ⟨⟩) (by omega) (by exact getm2 (by omega) rfl) (by exact rfl))
 refine rB gf ?_ (x := lE [val _] ty_3)
 refine rB gf ?_ (x := sM)
 refine rB gf ?_ (x := B_geq)
 refine rB ge ?_ (x := pkT gf)
 refine rA ?_ (x := pkF ge)
 refine sc (fun hbc => ?_) (fun hbc => ?_)
 exact zgh
 exact zgi
 refine zf gf ?_
 refine rB ge ?_ (x := pkF gf)
 refine rA ?_ (x := pkF ge)
 refine scF ?_
 exact zgi
 have hend : k = c.Done.length := by omega
 have hdone : adjAll 0 (doneP c) ltI c.Done = true := adj_end ha hend
 refine zay ?_
 refine sT [1, 3, 51, 52, 53] [1] ?_
 refine zgj ?_
 refine rA ?_ (x := lN sl_28)
 refine zbm ?_
 refine sP [1, 3, 51, 52, 53, 81, 82, 83] [1] ?_
 refine sL [1, 3, 51, 52, 53, 81, 82] [1] (fun k : Nat => k ≤ c.Rows.length ∧ (∀ i : Nat, i < k → rowOk c (i : Int) = true)) (fun k : Nat => [(83, RV.int (k : Int))]) (fun k : Nat => []) (fun k : Nat => c.Rows.length - k) 0 (by exact ⟨by omega, fun i hi => absurd hi (Nat.not_lt_zero _)⟩) (by exact aI (by exact rfl) (tI)) (by exact ⟨⟩) ?_
 rintro k ⟨hk, ha⟩
 refine zbn ?_
 refine sc (fun hbc => ?_) (fun hbc => ?_)
 have hlt : k < c.Rows.length := by omega
 have hlt2 : k < c.Parts.length := by omega
 refine za6 ?_
 refine sT [1, 3, 51, 52, 53, 81, 82, 83] [1] ?_
 refine rM ?_
 refine zgk ?_
 refine rS ?_
 refine rA ?_ (x := vA false [sl .v _])
 refine sS [1, 3, 6, 7, 51, 52, 53, 81, 82, 83] [1] ?_
 refine zch ?_
 refine sS [1, 3, 6, 7, 8, 51, 52, 53, 81, 82, 83] [1] ?_
 refine zgg ?_
 refine zgl ?_
 refine sc (fun hbd => ?_) (fun hbd => ?_)
 have hdn := hbd
 refine sP [1, 3, 6, 7, 8, 51, 52, 53, 81, 82, 83] [1] ?_
 refine sw_draw hm_ ?_
 refine zfp ?_
 refine zfq ?_
 refine dA 0 ?_ (x := sM)
 refine zgm ?_
 refine dA 127 ?_ (x := cL [(true, [val _, val _, sl _ _, sl _ _]), (false, [sl _ _])] [(true, [val _, val _, sl .v _, sl .v _]), (false, [sl .v _])] c_42 (hs := by exact impl_matching (by first | omega | exact hwp _)))
 refine dA 255 ?_ (x := tA)
 exact zgn
 have hdn := hbd
 refine sw_skip ?_
 exact zgn
 have hrows : ∀ i : Nat, i < c.Parts.length → rowOk c (i : Int) = true := fun i hi => ha i (by omega)
 refine zay ?_
 refine sT [1, 3, 51, 52, 53, 81, 82, 83] [1] ?_
 refine rA ?_ (x := lF fd_31_3)
 refine rA ?_ (x := lD [sl .v _] ty_25)
 refine zc0 ?_
 refine sP [1, 3, 51, 52, 53, 81, 82, 83, 108, 109] [1] ?_
 refine sL [1, 3, 51, 52, 53, 81, 82, 83, 108] [1] (fun k : Nat => k ≤ c.At.length ∧ (∀ i : Nat, i < k → nodeI c (i : Int) = true)) (fun k : Nat => [(109, RV.int (k : Int))]) (fun k : Nat => []) (fun k : Nat => c.At.length - k) 0 (by exact ⟨by omega, fun i hi => absurd hi (Nat.not_lt_zero _)⟩) (by exact aI (by exact rfl) (tI)) (by exact ⟨⟩) ?_
 rintro k ⟨hk, ha⟩
 refine zbn ?_
 refine sc (fun hbd => ?_) (fun hbd => ?_)
 have hlt : k < c.Up.length := by omega
 refine za6 ?_
 refine sT [1, 3, 51, 52, 53, 81, 82, 83, 108, 109] [1] ?_
 refine zb8 ?_
 refine sS [1, 3, 9, 51, 52, 53, 81, 82, 83, 108, 109] [1] ?_
 refine zgo ?_
 refine rA ?_ (x := cL [(true, [val _, val _, sl _ _, sl _ _, sl _ _, sl _ _, sl _ _, sl _ _, sl _ _, sl _ _, sl _ _]), (false, [val _])] [(true, [val _, val _, sl .v _, sl .v _, sl .v _, sl .v _, sl .v _, sl .v _, sl .v _, sl .v _, sl .v _]), (false, [val _])] c_44 (hs := by exact impl_nodeOk (by omega) (by omega) (by omega)))
 refine rA ?_ (x := nT)
 refine sc (fun hbe => ?_) (fun hbe => ?_)
 have hbad : isCl c = false := isCl_node hlt (by simp_all)
 refine sS [1, 3, 9, 51, 52, 53, 81, 82, 83, 108, 109] [1] ?_
 exact zfl
 have hno : nodeI c (k : Int) = true := by simp_all
 refine sw_skip ?_
 refine sG [1, 3, 9, 51, 52, 53, 81, 82, 83, 108, 109] [1] ?_
 refine zbr ?_
 exact zgp
 have hcl : isCl c = true := isCl_iff.2 ⟨hh, hdone, hrows, fun i hi => ha i (by omega)⟩
 refine sw_exit ?_
 refine sT [1, 3, 51, 52, 53, 81, 82, 83, 108, 109] [1] ?_
 refine zcd ?_
 exact rb (hcl.symm)
theorem spec_IsCluster {p3 p4 p9 p10 p13 p14 : Fl} {c : Cluster}  (hb : wtRowSS c.Parts ≤ 68719476736) : SCall Tryz.prog 11 [(true, [val (vI c.Query.Id), val (vI c.Query.Tenant), sl .v (c.Query.Conds.map cCond), sl .v (c.Query.Out.map cInt), sl .v (c.Parts.map (cRowS p3 p4)), sl .v (c.Up.map cBool), sl .v (c.At.map cInt), sl .v (c.Pos.map cInt), sl .v (c.Buffer.map (cRowS p9 p10)), sl .v (c.Done.map cInt), sl .v (c.Rows.map (cRowS p13 p14))])] (resRV [(false, [val (.bool (isCl c))])]) := by
 refine sF Tryz.func11 fun h0 w0 Fz0 => ?_
 refine sn 0 2 fun hl0_2 => ?_
 refine sn 0 3 fun hl0_3 => ?_
 refine sn 0 4 fun hl0_4 => ?_
 refine sn 0 5 fun hl0_5 => ?_
 refine sn 0 6 fun hl0_6 => ?_
 refine sn 0 7 fun hl0_7 => ?_
 refine sn 0 8 fun hl0_8 => ?_
 refine sn 0 9 fun hl0_9 => ?_
 refine sn 0 10 fun hl0_10 => ?_
 have hwp : ∀ s : Int, wtRowS (partAt c s) ≤ 68719476736 := fun s => part_wt hb
 refine zen ?_
 refine rK ?_
 refine sT [1, 2] [1] ?_
 refine zfz ?_
 refine sS [1, 2, 3] [1] ?_
 refine zeo ?_
 refine zgq ?_
 refine cx 16 (fun ga sga => ?_) (fun ga sga => ?_)
 refine zdz ?_
 refine RunS.cases (s := 22) rfl (fun g2 => ?_) (fun g2 => nomatch g2)
 refine ze0 ?_
 refine rM ?_
 refine RunS.cases (s := 27) rfl (fun g3 => ?_) (fun g3 => nomatch g3)
 refine zec ?_
 refine rM ?_
 refine RunS.cases (s := 34) rfl (fun g4 => ?_) (fun g4 => nomatch g4)
 refine zeq ?_
 refine rM ?_
 refine RunS.cases (s := 41) rfl (fun g5 => ?_) (fun g5 => nomatch g5)
 refine zt g5 ?_
 refine rA ?_ (x := pkT g5)
 refine rM ?_
 refine RunS.cases (s := 48) rfl (fun g6 => ?_) (fun g6 => nomatch g6)
 refine zeg ?_
 exact zgd
 refine zer ?_
 refine zgr ?_
 refine cx 22 (fun gb sgb => ?_) (fun gb sgb => ?_)
 refine zef ?_
 refine rM ?_
 refine RunS.cases (s := 27) rfl (fun g9 => ?_) (fun g9 => nomatch g9)
 refine zt g9 ?_
 refine rA ?_ (x := pkT g9)
 refine rM ?_
 refine RunS.cases (s := 34) rfl (fun g10 => ?_) (fun g10 => nomatch g10)
 refine zt g10 ?_
 refine rA ?_ (x := pkT g10)
 refine rM ?_
 refine RunS.cases (s := 41) rfl (fun g11 => ?_) (fun g11 => nomatch g11)
 refine zt g11 ?_
 refine rA ?_ (x := pkT g11)
 refine rM ?_
 refine RunS.cases (s := 48) rfl (fun g12 => ?_) (fun g12 => nomatch g12)
 refine zt g12 ?_
 refine rA ?_ (x := pkT g12)
 exact zgd
 refine zgs ?_
 refine zfg ?_
 refine rM ?_
 refine cx 27 (fun gc sgc => ?_) (fun gc sgc => ?_)
 refine zei ?_
 refine rM ?_
 refine RunS.cases (s := 34) rfl (fun g15 => ?_) (fun g15 => nomatch g15)
 refine zt g15 ?_
 refine rA ?_ (x := pkT g15)
 refine rM ?_
 refine RunS.cases (s := 41) rfl (fun g16 => ?_) (fun g16 => nomatch g16)
 refine zt g16 ?_
 refine rA ?_ (x := pkT g16)
 refine rM ?_
 refine RunS.cases (s := 48) rfl (fun g17 => ?_) (fun g17 => nomatch g17)
 refine zt g17 ?_
 refine rA ?_ (x := pkT g17)
 exact zgd
 refine zet ?_
 refine rB gc ?_ (x := lN sl_25)
 refine rB gc ?_ (x := sM)
 refine zge ?_
 refine rM ?_
 refine cx 34 (fun gd sgd => ?_) (fun gd sgd => ?_)
 refine zeu ?_
 refine rM ?_
 refine RunS.cases (s := 41) rfl (fun g20 => ?_) (fun g20 => nomatch g20)
 refine zt g20 ?_
 refine rA ?_ (x := pkT g20)
 refine rM ?_
 refine RunS.cases (s := 48) rfl (fun g21 => ?_) (fun g21 => nomatch g21)
 refine zt g21 ?_
 refine rA ?_ (x := pkT g21)
 exact zgd
 refine zev ?_
 refine rB gd ?_ (x := lN sl_25)
 refine rB gd ?_ (x := sM)
 refine rB gd ?_ (x := B_neq)
 refine rA ?_ (x := pkF gd)
 refine rM ?_
 refine cx 41 (fun ge sge => ?_) (fun ge sge => ?_)
 refine zt ge ?_
 refine rA ?_ (x := pkT ge)
 refine rM ?_
 refine RunS.cases (s := 48) rfl (fun g24 => ?_) (fun g24 => nomatch g24)
 refine zt g24 ?_
 refine rA ?_ (x := pkT g24)
 exact zgd
 refine zew ?_
 refine rB ge ?_ (x := lN sl_28)
 refine rB ge ?_ (x := sM)
 refine rB ge ?_ (x := B_neq)
 refine rA ?_ (x := pkF ge)
 refine rM ?_
 refine cx 48 (fun gf sgf => ?_) (fun gf sgf => ?_)
 refine zt gf ?_
 refine rA ?_ (x := pkT gf)
 exact zgd
 refine rB gf ?_ (x := lF fd_31_7)
 refine rB gf ?_ (x := lD [sl .v _] ty_28)
 refine rB gf ?_ (x := lN sl_28)
 refine rB gf ?_ (x := lF fd_31_1)
 refine rB gf ?_ (x := lD [sl .v _] ty_28)
 refine rB gf ?_ (x := lN sl_28)
 refine rB gf ?_ (x := B_neq)
 refine rA ?_ (x := pkF gf)
 refine sc (fun hba => ?_) (fun hba => ?_)
 exact zgf
 have hh : headB c := by unfold headB; first | (simp_all; done) | (simp_all; omega)
 have hh2 := hh
 unfold headB at hh2
 obtain ⟨_, hh3, hh4, hh5, hh6⟩ := hh2
 refine zaj ?_
 refine sS [1, 2, 3] [1] ?_
 refine zas ?_
 refine sP [1, 2, 3, 4] [1] ?_
 refine sL [1, 3] [1] (fun k : Nat => k ≤ c.Done.length ∧ adjTo 0 (doneP c) ltI c.Done k = true) (fun k : Nat => [(4, RV.int (k : Int))]) (fun k : Nat => []) (fun k : Nat => c.Done.length - k) 0 (by exact ⟨by omega, rfl⟩) (by exact aI (by exact rfl) (tI)) (by exact ⟨⟩) ?_
 rintro k ⟨hk, ha⟩
 refine za4 ?_
 refine zgg ?_
 refine rA ?_ (x := lN sl_25)
 refine rA ?_ (x := B_lss)
 refine sc (fun hbb => ?_) (fun hbb => ?_)
 have hlt : k < c.Done.length := by omega
 have hgk : c.Done.getD k 0 = c.Done[k] := getD_at hlt
 have hgp : 0 < k → c.Done.getD (k - 1) 0 = c.Done[k - 1] := fun h => getD_at (by omega)
 refine zau ?_
 refine sQ [1, 3, 4] [1] ?_
 refine zgt ?_
 refine zgu ?_
 refine dA 7 ?_ (x := loc_index (by decide) sl_25 (by exact ⟨⟩) (by exact rfl) (by exact getm2 (by omega) rfl) (by exact rfl))
 refine dA 15 ?_ (x := lE [val _] ty_3)
 refine dA 0 ?_ (x := lF fd_31_1)
 refine dA 32 ?_ (x := lD [sl .v _] ty_28)
 refine dA 96 ?_ (x := lN sl_28)
 refine dA 224 ?_ (x := B_sub)
 refine dA 511 ?_ (x := cL [(false, [val _]), (false, [val _]), (false, [val _])] [(false, [val _]), (false, [val _]), (false, [val _])] c_47 (hs := by exact spec_l1In))
 refine dA 1023 ?_ (x := nT)
 refine dA 2047 ?_ (x := sM)
 refine dx 75 (fun gg sgg => ?_) (fun gg sgg => ?_)
 refine dT 4095 gg ?_
 refine dT 8191 gg ?_
 refine dT 16383 gg ?_
 refine dU 32767 ?_
 refine dU 65535 ?_
 refine dU 32767 ?_
 refine dU 262143 ?_
 refine dU 524287 ?_
 refine dU 32767 ?_
 refine dU 1081343 ?_
 refine dU 32767 ?_
 refine dU 4227071 ?_
 refine dU 15761407 ?_
 refine dU 32538623 ?_
 refine dU 67108863 ?_
 refine dT 134217727 gg ?_
 refine dA 268435455 ?_ (x := pkT gg)
 refine scT ?_
 exact zgv
 refine dB 4095 gg ?_ (x := sM)
 refine dB 8191 gg ?_ (x := B_gtr)
 refine dB 16383 gg ?_ (x := sM)
 refine dx 78 (fun gh sgh => ?_) (fun gh sgh => ?_)
 refine dB 32767 gh ?_ (x := lF fd_31_6)
 refine dB 65535 gh ?_ (x := lD [sl .v _] ty_25)
 refine dB 32767 gh ?_ (x := sM)
 refine dB 262143 gh ?_ (x := loc_index (by decide) sl_25 (by exact ⟨⟩) (by exact rfl) (by exact getm2 (by omega) rfl) (by exact rfl))
 refine dB 524287 gh ?_ (x := lE [val _] ty_3)
 refine dB 32767 gh ?_ (x := lF fd_31_6)
 refine dB 1081343 gh ?_ (x := lD [sl .v _] ty_25)
 refine dB 32767 gh ?_ (x := sM)
 refine dB 4227071 gh ?_ (x := B_sub)
 refine dB 15761407 gh ?_ (x := loc_index (k := k - 1) (by decide) sl_25 (by exact ⟨⟩) (by omega) (by exact getm2 (by omega) rfl) (by exact rfl))
 refine dB 32538623 gh ?_ (x := lE [val _] ty_3)
 refine dB 67108863 gh ?_ (x := B_leq)
 refine dB 134217727 gg ?_ (x := pkT gh)
 refine dA 268435455 ?_ (x := pkF gg)
 refine sc (fun hbc => ?_) (fun hbc => ?_)
 exact zgv
 exact zgw
 refine dF 32767 gh ?_
 refine dF 65535 gh ?_
 refine dF 32767 gh ?_
 refine dF 262143 gh ?_
 refine dF 524287 gh ?_
 refine dF 32767 gh ?_
 refine dF 1081343 gh ?_
 refine dF 32767 gh ?_
 refine dF 4227071 gh ?_
 refine dF 15761407 gh ?_
 refine dF 32538623 gh ?_
 refine dF 67108863 gh ?_
 refine dB 134217727 gg ?_ (x := pkF gh)
 refine dA 268435455 ?_ (x := pkF gg)
 refine scF ?_
 exact zgw
 have hend : k = c.Done.length := by omega
 have hdone : adjAll 0 (doneP c) ltI c.Done = true := adj_end ha hend
 refine zay ?_
 refine sT [1, 3, 4] [1] ?_
 refine zas ?_
 refine sP [1, 3, 4, 5] [1] ?_
 refine sL [1, 3, 4] [1] (fun k : Nat => k ≤ c.Parts.length ∧ (∀ i : Nat, i < k → rowOk c (i : Int) = true)) (fun k : Nat => [(5, RV.int (k : Int))]) (fun k : Nat => []) (fun k : Nat => c.Parts.length - k) 0 (by exact ⟨by omega, fun i hi => absurd hi (Nat.not_lt_zero _)⟩) (by exact aI (by exact rfl) (tI)) (by exact ⟨⟩) ?_
 rintro k ⟨hk, ha⟩
 refine za4 ?_
 refine zg7 ?_
 refine rA ?_ (x := B_lss)
 refine sc (fun hbc => ?_) (fun hbc => ?_)
 have hlt : k < c.Rows.length := by omega
 have hlt2 : k < c.Parts.length := by omega
 refine za6 ?_
 refine sT [1, 3, 4, 5] [1] ?_
 refine zch ?_
 refine sS [1, 3, 4, 5, 6] [1] ?_
 refine zgg ?_
 refine zgx ?_
 refine sc (fun hbd => ?_) (fun hbd => ?_)
 have hdn := hbd
 refine sP [1, 3, 4, 5, 6] [1] ?_
 refine zgy ?_
 refine dA 0 ?_ (x := sM)
 refine zfq ?_
 refine dA 0 ?_ (x := sM)
 refine zgm ?_
 refine dA 124 ?_ (x := lN sl_36)
 refine dA 255 ?_ (x := cL [(true, [val _, val _, sl _ _, sl _ _, sl _ _, sl _ _, sl _ _, sl _ _, sl _ _, sl _ _, sl _ _]), (false, [val _]), (false, [val _])] [(true, [val _, val _, sl .v _, sl .v _, sl .v _, sl .v _, sl .v _, sl .v _, sl .v _, sl .v _, sl .v _]), (false, [val _]), (false, [val _])] c_49 (hs := by exact spec_l18Found (by omega) (by first | omega | assumption)))
 refine dA 511 ?_ (x := tA)
 exact zgz
 have hdn := hbd
 refine sw_skip ?_
 exact zgz
 have hrows : ∀ i : Nat, i < c.Parts.length → rowOk c (i : Int) = true := fun i hi => ha i (by omega)
 refine zay ?_
 refine sT [1, 3, 4, 5] [1] ?_
 refine zas ?_
 refine sP [1, 3, 4, 5, 7] [1] ?_
 refine sL [1, 3, 4, 5] [1] (fun k : Nat => k ≤ c.Up.length ∧ (∀ i : Nat, i < k → nodeI c (i : Int) = true)) (fun k : Nat => [(7, RV.int (k : Int))]) (fun k : Nat => []) (fun k : Nat => c.Up.length - k) 0 (by exact ⟨by omega, fun i hi => absurd hi (Nat.not_lt_zero _)⟩) (by exact aI (by exact rfl) (tI)) (by exact ⟨⟩) ?_
 rintro k ⟨hk, ha⟩
 refine zfo ?_
 refine sc (fun hbd => ?_) (fun hbd => ?_)
 have hlt : k < c.Up.length := by omega
 refine zau ?_
 refine sT [1, 3, 4, 5, 7] [1] ?_
 refine zgo ?_
 refine rA ?_ (x := cL [(true, [val _, val _, sl _ _, sl _ _, sl _ _, sl _ _, sl _ _, sl _ _, sl _ _, sl _ _, sl _ _]), (false, [val _])] [(true, [val _, val _, sl .v _, sl .v _, sl .v _, sl .v _, sl .v _, sl .v _, sl .v _, sl .v _, sl .v _]), (false, [val _])] c_50 (hs := by exact spec_l18Node (by omega) (by omega) (by omega)))
 refine rA ?_ (x := nT)
 refine sc (fun hbe => ?_) (fun hbe => ?_)
 have hbad : isCl c = false := isCl_node hlt (by unfold nodeI; simp_all)
 refine sS [1, 3, 4, 5, 7] [1] ?_
 exact zfl
 have hnb := hbe
 refine sw_skip ?_
 refine sS [1, 3, 4, 5, 7] [1] ?_
 refine zas ?_
 refine sP [1, 3, 4, 5, 7, 8] [1] ?_
 refine sL [1, 3, 4, 5, 7] [1] (fun j : Nat => j ≤ k ∧ (∀ i : Nat, i < j → ¬ (atI c.At (k : Int) ≠ -1 ∧ atI c.At (k : Int) = atI c.At (i : Int)))) (fun j : Nat => [(8, RV.int (j : Int))]) (fun j : Nat => []) (fun j : Nat => k - j) 0 (by exact ⟨by omega, fun i hi => absurd hi (Nat.not_lt_zero _)⟩) (by exact aI (by exact rfl) (tI)) (by exact ⟨⟩) ?_
 rintro j ⟨hj, haj⟩
 refine zfo ?_
 refine sc (fun hbf => ?_) (fun hbf => ?_)
 have hltj : j < k := by omega
 refine zau ?_
 refine sQ [1, 3, 4, 5, 7, 8] [1] ?_
 refine zh0 ?_
 refine zgu ?_
 refine dA 7 ?_ (x := loc_index (by decide) sl_25 (by exact ⟨⟩) (by exact rfl) (by exact getm2 (by omega) (by rw [atN (by omega)])) (by exact rfl))
 refine dA 15 ?_ (x := lE [val _] ty_3)
 refine dA 31 ?_ (x := B_neq)
 refine dA 63 ?_ (x := sM)
 refine dx 142 (fun gg sgg => ?_) (fun gg sgg => ?_)
 refine dB 127 gg ?_ (x := lF fd_31_3)
 refine dB 255 gg ?_ (x := lD [sl .v _] ty_25)
 refine dB 127 gg ?_ (x := sM)
 refine dB 1023 gg ?_ (x := loc_index (by decide) sl_25 (by exact ⟨⟩) (by exact rfl) (by exact getm2 (by omega) (by rw [atN (by omega)])) (by exact rfl))
 refine dB 2047 gg ?_ (x := lE [val _] ty_3)
 refine dB 127 gg ?_ (x := lF fd_31_3)
 refine dB 4223 gg ?_ (x := lD [sl .v _] ty_25)
 refine dB 127 gg ?_ (x := sM)
 refine dB 28799 gg ?_ (x := loc_index (by decide) sl_25 (by exact ⟨⟩) (by exact rfl) (by exact getm2 (by omega) (by rw [atN (by omega)])) (by exact rfl))
 refine dB 61567 gg ?_ (x := lE [val _] ty_3)
 refine dB 131071 gg ?_ (x := B_eql)
 refine dA 262143 ?_ (x := pkT gg)
 refine sc (fun hbg => ?_) (fun hbg => ?_)
 have hbad : isCl c = false := isCl_node hlt (lone_no hltj (by omega) (by first | assumption | (simp_all; done)) (by first | assumption | (simp_all; done)))
 refine sS [1, 3, 4, 5, 7, 8] [1] ?_
 exact zfl
 exact zh1
 refine dF 127 gg ?_
 refine dF 255 gg ?_
 refine dF 127 gg ?_
 refine dF 1023 gg ?_
 refine dF 2047 gg ?_
 refine dF 127 gg ?_
 refine dF 4223 gg ?_
 refine dF 127 gg ?_
 refine dF 28799 gg ?_
 refine dF 61567 gg ?_
 refine dF 131071 gg ?_
 refine dA 262143 ?_ (x := pkF gg)
 refine scF ?_
 exact zh1
 have hno : nodeI c (k : Int) = true := by unfold nodeI; rw [lone_yes (fun i hi => haj i (by omega))]; simp_all
 refine sw_exit ?_
 refine sH [1, 3, 4, 5, 7, 8] [1] ?_
 refine za8 ?_
 exact zgp
 have hcl : isCl c = true := isCl_iff.2 ⟨hh, hdone, hrows, fun i hi => ha i (by omega)⟩
 refine sw_exit ?_
 refine sT [1, 3, 4, 5, 7] [1] ?_
 refine zcd ?_
 exact rb (hcl.symm)
end Go.Proofs.YtmkhofdkdklpdaaGreat
