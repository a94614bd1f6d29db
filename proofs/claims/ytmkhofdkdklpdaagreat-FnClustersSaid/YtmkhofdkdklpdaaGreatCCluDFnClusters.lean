/- What functions of the program compute. No condition. -/
import Derived.Test.YtmkhofdkdklpdaaGreatCZMFnClusters
import Derived.Test.YtmkhofdkdklpdaaGreatCFcFnClusters
import Derived.Test.YtmkhofdkdklpdaaGreatCCluCFnClusters
import Derived.KernelRfl
set_option linter.unusedVariables false
set_option linter.unusedSimpArgs false
namespace Go.Proofs.YtmkhofdkdklpdaaGreat
open Go Go.RowKit M PV
set_option maxRecDepth 10000
attribute [local irreducible] PV.Lcl PV.LclR RV.Lcl
theorem spec_l18Node {p3 p4 p9 p10 p13 p14 : Fl} {c : Cluster} {n : Int}  (hn : 0 ≤ n ∧ n.toNat < c.Up.length) (hl : c.At.length = c.Up.length ∧ c.Pos.length = c.Up.length ∧ c.Buffer.length = c.Up.length) (hb : wtRowSS c.Parts ≤ 68719476736) : SCall Tryz.prog 50 [(true, [val (vI c.Query.Id), val (vI c.Query.Tenant), sl .v (c.Query.Conds.map cCond), sl .v (c.Query.Out.map cInt), sl .v (c.Parts.map (cRowS p3 p4)), sl .v (c.Up.map cBool), sl .v (c.At.map cInt), sl .v (c.Pos.map cInt), sl .v (c.Buffer.map (cRowS p9 p10)), sl .v (c.Done.map cInt), sl .v (c.Rows.map (cRowS p13 p14))]), (false, [val (vI n)])] (resRV [(false, [val (.bool (nodeB c n))])]) := by
 refine sF Tryz.func50 fun h0 w0 Fz0 => ?_
 refine sn 0 2 fun hl0_2 => ?_
 refine sn 0 3 fun hl0_3 => ?_
 refine sn 0 4 fun hl0_4 => ?_
 refine sn 0 5 fun hl0_5 => ?_
 refine sn 0 6 fun hl0_6 => ?_
 refine sn 0 7 fun hl0_7 => ?_
 refine sn 0 8 fun hl0_8 => ?_
 refine sn 0 9 fun hl0_9 => ?_
 refine sn 0 10 fun hl0_10 => ?_
 have hwp := part_wt (s := atI c.At n) hb
 have hwt := take_wt (k := (atI c.Pos n).toNat) hwp
 refine zen ?_
 refine zby ?_
 refine sT [1, 2, 4] [2] ?_
 refine rA ?_ (x := lF fd_31_3)
 refine zfu ?_
 refine zfv ?_
 refine rA ?_ (x := B_eql)
 refine sc (fun hba => ?_) (fun hba => ?_)
 refine sS [1, 2, 4] [2] ?_
 refine rA ?_ (x := lF fd_31_4)
 refine zfu ?_
 refine zfv ?_
 refine zd8 ?_
 refine cx 18 (fun ga sga => ?_) (fun ga sga => ?_)
 refine rB ga ?_ (x := lF fd_31_5)
 refine rB ga ?_ (x := lD [sl .v _] ty_28)
 refine rB ga ?_ (x := sM)
 refine zfw ?_
 refine rB ga ?_ (x := lN sl_36)
 refine zfx ?_
 exact zfy
 refine zaa ?_
 exact zfy
 refine sw_skip ?_
 refine sS [1, 2, 4] [2] ?_
 refine zfz ?_
 refine sw_seq ?_
 refine sP [1, 2, 4, 5] [2] ?_
 refine sw_draw hm_ ?_
 refine dA 0 ?_ (x := lF fd_31_2)
 refine dA 1 ?_ (x := lD [sl .v _] ty_29)
 refine dA 0 ?_ (x := sM)
 refine dA 7 ?_ (x := loc_index (k := (n).toNat) (by decide) sl_29 (by exact ⟨⟩) (by omega) (by exact getm2 (by omega) (by rw [upAt_eq (by omega)])) (by exact rfl))
 refine dA 15 ?_ (x := lE [val _] ty_4)
 refine dA 31 ?_ (x := nT)
 refine dA 63 ?_ (x := sM)
 refine dx 36 (fun ga sga => ?_) (fun ga sga => ?_)
 refine dT 127 ga ?_
 refine dT 255 ga ?_
 refine dT 127 ga ?_
 refine dT 1023 ga ?_
 refine dT 2047 ga ?_
 refine dT 127 ga ?_
 refine dT 4223 ga ?_
 refine dT 12415 ga ?_
 refine dT 28799 ga ?_
 refine dT 65535 ga ?_
 refine dT 131071 ga ?_
 refine dA 262143 ?_ (x := pkT ga)
 refine dA 524287 ?_ (x := sM)
 refine Run.cases (s := 49) rfl (fun g4 => ?_) (fun g4 => nomatch g4)
 refine dT 1048575 g4 ?_
 refine dT 2097151 g4 ?_
 refine dT 1048575 g4 ?_
 refine dT 5242879 g4 ?_
 refine dT 1048575 g4 ?_
 refine dT 30408703 g4 ?_
 refine dT 63963135 g4 ?_
 refine dT 134217727 g4 ?_
 refine dA 268435455 ?_ (x := pkT g4)
 refine dA 536870911 ?_ (x := sM)
 refine Run.cases (s := 59) rfl (fun g5 => ?_) (fun g5 => nomatch g5)
 refine dT 1073741823 g5 ?_
 refine dT 2147483647 g5 ?_
 refine dT 1073741823 g5 ?_
 refine dT 8589934591 g5 ?_
 refine dT 17179869183 g5 ?_
 refine dT 1073741823 g5 ?_
 refine dT 68719476735 g5 ?_
 refine dT 1073741823 g5 ?_
 refine dT 274877906943 g5 ?_
 refine dT 549755813887 g5 ?_
 refine zg0 ?_
 refine dU 1099511627775 ?_
 refine zg1 ?_
 refine zg2 ?_
 refine zg3 ?_
 refine dT 562949953421311 g5 ?_
 refine dA 1125899906842623 ?_ (x := pkT g5)
 refine scT ?_
 exact zg4
 refine dB 127 ga ?_ (x := lF fd_31_3)
 refine dB 255 ga ?_ (x := lD [sl .v _] ty_25)
 refine dB 127 ga ?_ (x := sM)
 refine dB 1023 ga ?_ (x := loc_index (k := (n).toNat) (by decide) sl_25 (by exact ⟨⟩) (by omega) (by exact getm2 (by omega) (by rw [atI_eq (by omega)])) (by exact rfl))
 refine dB 2047 ga ?_ (x := lE [val _] ty_3)
 refine dB 127 ga ?_ (x := lF fd_31_1)
 refine dB 4223 ga ?_ (x := lD [sl .v _] ty_28)
 refine dB 12415 ga ?_ (x := lN sl_28)
 refine dB 28799 ga ?_ (x := B_sub)
 refine dB 65535 ga ?_ (x := cL [(false, [val _]), (false, [val _]), (false, [val _])] [(false, [val _]), (false, [val _]), (false, [val _])] c_47 (hs := by exact spec_l1In))
 refine dB 131071 ga ?_ (x := nT)
 refine dA 262143 ?_ (x := pkF ga)
 refine dA 524287 ?_ (x := sM)
 refine dx 49 (fun gb sgb => ?_) (fun gb sgb => ?_)
 refine dT 1048575 gb ?_
 refine dT 2097151 gb ?_
 refine dT 1048575 gb ?_
 refine dT 5242879 gb ?_
 refine dT 1048575 gb ?_
 refine dT 30408703 gb ?_
 refine dT 63963135 gb ?_
 refine dT 134217727 gb ?_
 refine dA 268435455 ?_ (x := pkT gb)
 refine dA 536870911 ?_ (x := sM)
 refine Run.cases (s := 59) rfl (fun g8 => ?_) (fun g8 => nomatch g8)
 refine dT 1073741823 g8 ?_
 refine dT 2147483647 g8 ?_
 refine dT 1073741823 g8 ?_
 refine dT 8589934591 g8 ?_
 refine dT 17179869183 g8 ?_
 refine dT 1073741823 g8 ?_
 refine dT 68719476735 g8 ?_
 refine dT 1073741823 g8 ?_
 refine dT 274877906943 g8 ?_
 refine dT 549755813887 g8 ?_
 refine zg0 ?_
 refine dU 1099511627775 ?_
 refine zg1 ?_
 refine zg2 ?_
 refine zg3 ?_
 refine dT 562949953421311 g8 ?_
 refine dA 1125899906842623 ?_ (x := pkT g8)
 refine scT ?_
 exact zg4
 refine dB 1048575 gb ?_ (x := lF fd_31_6)
 refine dB 2097151 gb ?_ (x := lD [sl .v _] ty_25)
 refine dB 1048575 gb ?_ (x := lF fd_31_3)
 refine dB 5242879 gb ?_ (x := lD [sl .v _] ty_25)
 refine dB 1048575 gb ?_ (x := sM)
 refine dB 30408703 gb ?_ (x := loc_index (k := (n).toNat) (by decide) sl_25 (by exact ⟨⟩) (by omega) (by exact getm2 (by omega) (by rw [atI_eq (by omega)])) (by exact rfl))
 refine dB 63963135 gb ?_ (x := lE [val _] ty_3)
 refine dB 134217727 gb ?_ (x := cL [(false, [sl _ _]), (false, [val _])] [(false, [sl .v _]), (false, [val _])] c_48 (hs := by exact spec_HasMember))
 refine dA 268435455 ?_ (x := pkF gb)
 refine dA 536870911 ?_ (x := sM)
 refine dx 59 (fun gc sgc => ?_) (fun gc sgc => ?_)
 refine dT 1073741823 gc ?_
 refine dT 2147483647 gc ?_
 refine dT 1073741823 gc ?_
 refine dT 8589934591 gc ?_
 refine dT 17179869183 gc ?_
 refine dT 1073741823 gc ?_
 refine dT 68719476735 gc ?_
 refine dT 1073741823 gc ?_
 refine dT 274877906943 gc ?_
 refine dT 549755813887 gc ?_
 refine zg0 ?_
 refine dU 1099511627775 ?_
 refine zg1 ?_
 refine zg2 ?_
 refine zg3 ?_
 refine dT 562949953421311 gc ?_
 refine dA 1125899906842623 ?_ (x := pkT gc)
 refine scT ?_
 exact zg4
 refine dB 1073741823 gc ?_ (x := lF fd_31_3)
 refine dB 2147483647 gc ?_ (x := lD [sl .v _] ty_25)
 refine dB 1073741823 gc ?_ (x := sM)
 refine dB 8589934591 gc ?_ (x := loc_index (k := (n).toNat) (by decide) sl_25 (by exact ⟨⟩) (by omega) (by exact getm2 (by omega) (by rw [atI_eq (by omega)])) (by exact rfl))
 refine dB 17179869183 gc ?_ (x := lE [val _] ty_3)
 refine dB 1073741823 gc ?_ (x := sM)
 refine dB 68719476735 gc ?_ (x := cL [(false, [val _]), (false, [val _])] [(false, [val _]), (false, [val _])] c_13 (hs := by exact spec_HomeOf))
 refine dB 1073741823 gc ?_ (x := sM)
 refine dB 274877906943 gc ?_ (x := B_neq)
 refine dB 549755813887 gc ?_ (x := sM)
 refine dx 69 (fun gd sgd => ?_) (fun gd sgd => ?_)
 refine dB 1099511627775 gd ?_ (x := lF fd_31_3)
 refine dB 2199023255551 gd ?_ (x := lD [sl .v _] ty_25)
 refine dB 1099511627775 gd ?_ (x := sM)
 refine dB 8796093022207 gd ?_ (x := loc_index (k := (n).toNat) (by decide) sl_25 (by exact ⟨⟩) (by omega) (by exact getm2 (by omega) (by rw [atI_eq (by omega)])) (by exact rfl))
 refine dB 17592186044415 gd ?_ (x := lE [val _] ty_3)
 refine dB 1099511627775 gd ?_ (x := sM)
 refine dB 70368744177663 gd ?_ (x := cL [(false, [val _]), (false, [val _])] [(false, [val _]), (false, [val _])] c_14 (hs := by exact spec_BackupOf))
 refine dB 1099511627775 gd ?_ (x := sM)
 refine dB 281474976710655 gd ?_ (x := B_neq)
 refine dB 562949953421311 gc ?_ (x := pkT gd)
 refine dA 1125899906842623 ?_ (x := pkF gc)
 refine sc (fun hbb => ?_) (fun hbb => ?_)
 exact zg4
 exact zg5
 refine dF 1099511627775 gd ?_
 refine dF 2199023255551 gd ?_
 refine dF 1099511627775 gd ?_
 refine dF 8796093022207 gd ?_
 refine dF 17592186044415 gd ?_
 refine dF 1099511627775 gd ?_
 refine dF 70368744177663 gd ?_
 refine dF 1099511627775 gd ?_
 refine dF 281474976710655 gd ?_
 refine dB 562949953421311 gc ?_ (x := pkF gd)
 refine dA 1125899906842623 ?_ (x := pkF gc)
 refine scF ?_
 exact zg5
theorem impl_nodeOk {p3 p4 p9 p10 p13 p14 : Fl} {c : Cluster} {n : Int}  (hn : 0 ≤ n ∧ n.toNat < c.Up.length) (hl : c.At.length = c.Up.length ∧ c.Pos.length = c.Up.length ∧ c.Buffer.length = c.Up.length) (hb : wtRowSS c.Parts ≤ 68719476736) : SCall Tryz.prog 44 [(true, [val (vI c.Query.Id), val (vI c.Query.Tenant), sl .v (c.Query.Conds.map cCond), sl .v (c.Query.Out.map cInt), sl .v (c.Parts.map (cRowS p3 p4)), sl .v (c.Up.map cBool), sl .v (c.At.map cInt), sl .v (c.Pos.map cInt), sl .v (c.Buffer.map (cRowS p9 p10)), sl .v (c.Done.map cInt), sl .v (c.Rows.map (cRowS p13 p14))]), (false, [val (vI n)])] (resRV [(false, [val (.bool (nodeI c n))])]) := by
 refine sF Tryz.func44 fun h0 w0 Fz0 => ?_
 refine sn 0 2 fun hl0_2 => ?_
 refine sn 0 3 fun hl0_3 => ?_
 refine sn 0 4 fun hl0_4 => ?_
 refine sn 0 5 fun hl0_5 => ?_
 refine sn 0 6 fun hl0_6 => ?_
 refine sn 0 7 fun hl0_7 => ?_
 refine sn 0 8 fun hl0_8 => ?_
 refine sn 0 9 fun hl0_9 => ?_
 refine sn 0 10 fun hl0_10 => ?_
 have hwp := part_wt (s := atI c.At n) hb
 have hwt := take_wt (k := (atI c.Pos n).toNat) hwp
 refine zen ?_
 refine rK ?_
 refine sT [1, 2, 4] [2] ?_
 refine rA ?_ (x := lF fd_31_3)
 refine zfu ?_
 refine zfv ?_
 refine za2 ?_
 refine sS [1, 2, 4, 5] [2] ?_
 refine rM ?_
 refine rA ?_ (x := B_eql)
 refine sc (fun hba => ?_) (fun hba => ?_)
 refine sS [1, 2, 4, 5] [2] ?_
 refine rA ?_ (x := lF fd_31_4)
 refine zfu ?_
 refine zfv ?_
 refine zd8 ?_
 refine cx 21 (fun ga sga => ?_) (fun ga sga => ?_)
 refine rB ga ?_ (x := lF fd_31_5)
 refine rB ga ?_ (x := lD [sl .v _] ty_28)
 refine rB ga ?_ (x := sM)
 refine zfw ?_
 refine rB ga ?_ (x := lN sl_36)
 refine zfx ?_
 exact zg6
 refine zaa ?_
 exact zg6
 refine zaj ?_
 refine sS [1, 2, 4, 5] [2] ?_
 refine rM ?_
 refine zg7 ?_
 refine rA ?_ (x := B_sub)
 refine zc1 ?_
 refine rM ?_
 refine cx 37 (fun ga sga => ?_) (fun ga sga => ?_)
 refine zdz ?_
 refine RunS.cases (s := 45) rfl (fun g4 => ?_) (fun g4 => nomatch g4)
 refine zeq ?_
 refine rM ?_
 refine RunS.cases (s := 51) rfl (fun g5 => ?_) (fun g5 => nomatch g5)
 refine zt g5 ?_
 refine rA ?_ (x := pkT g5)
 refine scT ?_
 exact zg8
 refine rB ga ?_ (x := lF fd_31_2)
 refine rB ga ?_ (x := lD [sl .v _] ty_29)
 refine rB ga ?_ (x := sM)
 refine rB ga ?_ (x := loc_index (k := (n).toNat) (by decide) sl_29 (by exact ⟨⟩) (by omega) (by exact getm2 (by omega) (by rw [upAt_eq (by omega)])) (by exact rfl))
 refine rB ga ?_ (x := lE [val _] ty_4)
 refine ze3 ?_
 refine cx 45 (fun gb sgb => ?_) (fun gb sgb => ?_)
 refine zef ?_
 refine rM ?_
 refine RunS.cases (s := 51) rfl (fun g8 => ?_) (fun g8 => nomatch g8)
 refine zt g8 ?_
 refine rA ?_ (x := pkT g8)
 refine scT ?_
 exact zg8
 refine zg9 ?_
 refine rB gb ?_ (x := sM)
 refine zga ?_
 refine rM ?_
 refine cx 51 (fun gc sgc => ?_) (fun gc sgc => ?_)
 refine zei ?_
 refine scT ?_
 exact zg8
 refine zet ?_
 refine rB gc ?_ (x := sM)
 refine rB gc ?_ (x := loc_sliceM (i := 0) (j := n.toNat) (ys := (c.At.take n.toNat)) (q := (0 : Int)) (by decide) sl_25 (by exact rfl) (by exact ⟨⟩) (by omega) (by omega) (by omega) (by omega) (fun _ => rfl) (by simp))
 refine rB gc ?_ (x := sM)
 refine rB gc ?_ (x := cL [(false, [sl _ _]), (false, [val _])] [(false, [sl .v _]), (false, [val _])] c_41 (hs := by exact impl_hasInt))
 refine rA ?_ (x := pkF gc)
 refine sc (fun hbb => ?_) (fun hbb => ?_)
 exact zg8
 have hin : inB (atI c.At n) 0 ((c.Parts.length : Int) - 1) = true := by simp_all
 have hin2 := hin
 simp only [inB, Bool.and_eq_true, decide_eq_true_eq] at hin2
 refine sw_skip ?_
 refine sS [1, 2, 4, 5] [2] ?_
 refine zfz ?_
 refine sS [1, 2, 4, 5, 6] [2] ?_
 refine zgb ?_
 refine rM ?_
 refine rA ?_ (x := B_neq)
 refine rM ?_
 refine cx 67 (fun gd sgd => ?_) (fun gd sgd => ?_)
 refine rB gd ?_ (x := sM)
 refine rB gd ?_ (x := sM)
 refine rB gd ?_ (x := cL [(false, [val _]), (false, [val _])] [(false, [val _]), (false, [val _])] c_31 (hs := by exact impl_BackupOf))
 refine rB gd ?_ (x := sM)
 refine rB gd ?_ (x := B_neq)
 refine rA ?_ (x := pkT gd)
 refine sc (fun hbc => ?_) (fun hbc => ?_)
 have hbad : nodeI c n = false := by unfold nodeI nodeB loneB; rw [if_neg (by assumption)]; simp_all; try (intros; simp_all)
 refine sS [1, 2, 4, 5, 6] [2] ?_
 exact zfl
 exact zgc
 refine zf gd ?_
 refine rA ?_ (x := pkF gd)
 refine scF ?_
 exact zgc
end Go.Proofs.YtmkhofdkdklpdaaGreat
