/- What functions of the program compute. No condition. -/
import Derived.Test.YtmkhofdkdklpdaaGreatCZMFnClusters
import Derived.Test.YtmkhofdkdklpdaaGreatCFcFnClusters
import Derived.Test.YtmkhofdkdklpdaaGreatCBigFnClusters
import Derived.Test.YtmkhofdkdklpdaaGreatCClsFnClusters
import Derived.KernelRfl
set_option linter.unusedVariables false
set_option linter.unusedSimpArgs false
namespace Go.Proofs.YtmkhofdkdklpdaaGreat
open Go Go.RowKit M PV
set_option maxRecDepth 10000
attribute [local irreducible] PV.Lcl PV.LclR RV.Lcl
attribute [local irreducible] belowC byteC
theorem FLawFnClusters_ub_4 : Tryz.prog.underlying 4 = some .bool := by kernel_rfl
theorem law_FnClusters {code : List Int}  : SCall Tryz.prog 3 [(false, [sl .v (code.map cU8)])] (resRV [(false, [val (.bool true)])]) := by
 refine sF Tryz.func3 fun h0 w0 Fz0 => ?_
 refine sj 0 fun hl0 => ?_
 refine zab ?_
 refine za1 ?_
 refine rA ?_ (x := cL [(false, [sl _ _])] [(false, [sl .v _])] c_5 (hs := by exact laws_big))
 refine sc (fun hba => ?_) (fun hba => ?_)
 refine sS [0, 2] [] ?_
 refine rK ?_
 exact zbw
 have hbig : code.length ≤ 1048576 := by have hh := hba; simp at hh; omega
 have hb : code.length ≤ 9223372036854775807 := by omega
 have hb2 : code.length ≤ 4611686018427387904 := by omega
 have hcw := anyClu_wt (curNew code hb)
 have e1 : (drClu code hb).1 = (anyClu (curNew code hb)).1 := rfl
 rw [← e1] at hcw
 have hfw := finC_wt (drClu code hb).1 (by omega)
 have hq1 := parts_wt (drClu code hb).1
 have hq2 := parts_wt (finC (drClu code hb).1)
 refine sw_skip ?_
 refine za1 ?_
 refine rA ?_ (x := cL [(false, [sl _ _])] [(false, [sl .v _])] c_6 (hs := by exact (spec_DrawFinishCluster (by omega) (by omega))))
 refine zhz ?_
 refine sT [0, 2, 3] [3] ?_
 refine rA ?_ (x := lD [val _, val _, sl .v _, sl .v _, sl .v _, sl .v _, sl .v _, sl .v _, sl .v _, sl .v _, sl .v _] ty_31)
 refine rA ?_ (x := cL [(true, [val _, val _, sl _ _, sl _ _, sl _ _, sl _ _, sl _ _, sl _ _, sl _ _, sl _ _, sl _ _])] [(true, [val _, val _, sl .v _, sl .v _, sl .v _, sl .v _, sl .v _, sl .v _, sl .v _, sl .v _, sl .v _])] c_7 (hs := by exact impl_FinishCluster (by omega)))
 refine zjh ?_
 refine sO [(0, _), (2, _), (3, _), (4, _)] [(3, _), (4, (31, [val _, val _, sl _ _, sl _ _, sl _ _, sl _ _, sl _ _, sl _ _, sl _ _, sl _ _, sl _ _]))] ?_
 refine zgy ?_
 refine dA 0 ?_ (x := lD [val _, val _, sl .v _, sl .v _, sl .v _, sl .v _, sl .v _, sl .v _, sl .v _, sl .v _, sl .v _] ty_31)
 refine dA 2 ?_ (x := cL [(true, [val _, val _, sl _ _, sl _ _, sl _ _, sl _ _, sl _ _, sl _ _, sl _ _, sl _ _, sl _ _])] [(true, [val _, val _, sl .v _, sl .v _, sl .v _, sl .v _, sl .v _, sl .v _, sl .v _, sl .v _, sl .v _])] c_9 (hs := by exact spec_FinishCluster (by omega)))
 refine dA 7 ?_ (x := cL [(true, [val _, val _, sl _ _, sl _ _, sl _ _, sl _ _, sl _ _, sl _ _, sl _ _, sl _ _, sl _ _]), (true, [val _, val _, sl _ _, sl _ _, sl _ _, sl _ _, sl _ _, sl _ _, sl _ _, sl _ _, sl _ _])] [(true, [val _, val _, sl .v _, sl .v _, sl .v _, sl .v _, sl .v _, sl .v _, sl .v _, sl .v _, sl .v _]), (true, [val _, val _, sl .v _, sl .v _, sl .v _, sl .v _, sl .v _, sl .v _, sl .v _, sl .v _, sl .v _])] c_8 (hs := by exact spec_EqualClusters))
 refine dA 15 ?_ (x := nT)
 refine dA 31 ?_ (x := sM)
 refine dx 22 (fun ga sga => ?_) (fun ga sga => ?_)
 ·first | exact absurd ga (by simp [deq_self]) | (simp [deq_self] at ga; done)
 refine dB 63 ga ?_ (x := lD [val _, val _, sl .v _, sl .v _, sl .v _, sl .v _, sl .v _, sl .v _, sl .v _, sl .v _, sl .v _] ty_31)
 refine dB 127 ga ?_ (x := cL [(true, [val _, val _, sl _ _, sl _ _, sl _ _, sl _ _, sl _ _, sl _ _, sl _ _, sl _ _, sl _ _])] [(true, [val _, val _, sl .v _, sl .v _, sl .v _, sl .v _, sl .v _, sl .v _, sl .v _, sl .v _, sl .v _])] c_10 (hs := by exact impl_IsCluster (by omega)))
 refine dB 63 ga ?_ (x := lD [val _, val _, sl .v _, sl .v _, sl .v _, sl .v _, sl .v _, sl .v _, sl .v _, sl .v _, sl .v _] ty_31)
 refine dB 511 ga ?_ (x := cL [(true, [val _, val _, sl _ _, sl _ _, sl _ _, sl _ _, sl _ _, sl _ _, sl _ _, sl _ _, sl _ _])] [(true, [val _, val _, sl .v _, sl .v _, sl .v _, sl .v _, sl .v _, sl .v _, sl .v _, sl .v _, sl .v _])] c_11 (hs := by exact spec_IsCluster (by omega)))
 refine dB 1023 ga ?_ (x := loc_bneq (by decide) FLawFnClusters_ub_4 (by exact ⟨⟩) (by exact ⟨⟩))
 refine dA 2047 ?_ (x := pkF ga)
 refine sc (fun hbb => ?_) (fun hbb => ?_)
 ·first | exact absurd hbb (by simp [deq_self]) | (simp [deq_self] at hbb; done)
 refine zaj ?_
 refine sS [0, 2, 3, 4] [3, 4] ?_
 refine zhd ?_
 refine rA ?_ (x := nT)
 refine sc (fun hbc => ?_) (fun hbc => ?_)
 refine sS [0, 2, 3, 4] [3, 4] ?_
 refine rK ?_
 exact zbw
 have hcl : isCl (drClu code hb).1 = true := by simpa using hbc
 have hfl := fin_law hcl
 have hcL := clLen hcl
 refine sw_skip ?_
 refine sS [0, 2, 3, 4] [3, 4] ?_
 refine zlc ?_
 refine sS [0, 2, 3, 4, 5] [3, 4] ?_
 refine zlc ?_
 refine sS [0, 2, 3, 4, 5, 6] [3, 4] ?_
 refine zby ?_
 refine sS [0, 2, 3, 4, 5, 6, 7] [3, 4] ?_
 refine zas ?_
 refine sP [0, 2, 3, 4, 5, 6, 7, 8] [3, 4] ?_
 refine sL [0, 3, 4] [3, 4] (fun k : Nat => k ≤ (drClu code hb).1.Parts.length) (fun k : Nat => [(5, RV.slc (.own 63 2) ((((drClu code hb).1.Parts.take k).flatten).map (cRow .v))), (6, RV.slc (.own 63 2) ((partsOn (drClu code hb).1 (finC (drClu code hb).1) k).map (cRow .v))), (7, RV.bool (upTo (drClu code hb).1 k)), (8, RV.int (k : Int))]) (fun k : Nat => []) (fun k : Nat => (drClu code hb).1.Parts.length - k) 0 (by omega) (by exact aI (by exact rfl) (aI (by exact rfl) (aI (by exact rfl) (aI (by exact rfl) (tI))))) (by exact ⟨⟩) ?_
 rintro k hk
 have hft := flat_twt (drClu code hb).1.Parts k
 have hftl : ((drClu code hb).1.Parts.take k).flatten.length ≤ wtRowS ((drClu code hb).1.Parts.take k).flatten := Nat.le_add_right _ _
 have hpo := partsOn_le (drClu code hb).1 (finC (drClu code hb).1) hk
 have hpol : (partsOn (drClu code hb).1 (finC (drClu code hb).1) k).length ≤ wtRowS (partsOn (drClu code hb).1 (finC (drClu code hb).1) k) := Nat.le_add_right _ _
 refine za4 ?_
 refine zg7 ?_
 refine rA ?_ (x := B_lss)
 refine sc (fun hbd => ?_) (fun hbd => ?_)
 have hlt : k < (drClu code hb).1.Parts.length := by omega
 have hxk := fin_has hcl hlt
 have hhi := home_in (i := (k : Int)) hcl (by omega)
 have hbi := back_in (i := (k : Int)) hcl (by omega)
 have hwm := wt_mem (f := wtRowS) hlt
 have hwS : wtRowSS (drClu code hb).1.Parts = (drClu code hb).1.Parts.length + ((drClu code hb).1.Parts.map wtRowS).sum := rfl
 have hln : ((drClu code hb).1.Parts[k]).length ≤ wtRowS (drClu code hb).1.Parts[k] := Nat.le_add_right _ _
 refine za6 ?_
 refine sT [0, 3, 4, 5, 6, 7, 8] [3, 4] ?_
 refine zfz ?_
 refine sP [0, 3, 4, 5, 6, 7, 8, 9] [3, 4] ?_
 refine zgt ?_
 refine zgu ?_
 refine dA 7 ?_ (x := cL [(false, [sl _ _]), (false, [val _])] [(false, [sl .v _]), (false, [val _])] c_12 (hs := by exact laws_has))
 refine dA 15 ?_ (x := sM)
 refine dx 48 (fun gb sgb => ?_) (fun gb sgb => ?_)
 have hfd : hasI (drClu code hb).1.Done (k : Int) = true := (by simpa using gb); have hfi := fine_d hfd
 have sgb := gb
 try simp only [qq] at sgb
 refine dT 31 gb ?_
 refine dT 63 gb ?_
 refine dT 31 gb ?_
 refine dT 31 gb ?_
 refine dT 415 gb ?_
 refine dT 1023 gb ?_
 refine dT 2047 gb ?_
 refine dA 4095 ?_ (x := pkT gb)
 refine dA 8191 ?_ (x := sM)
 refine Run.cases (s := 57) rfl (fun g7 => ?_) (fun g7 => nomatch g7)
 refine dT 16383 g7 ?_
 refine dT 32767 g7 ?_
 refine dT 16383 g7 ?_
 refine dT 16383 g7 ?_
 refine dT 212991 g7 ?_
 refine dT 524287 g7 ?_
 refine dT 1048575 g7 ?_
 refine dA 2097151 ?_ (x := pkT g7)
 refine dA 4194303 ?_ (x := sA)
 refine sS [0, 3, 4, 5, 6, 7, 8, 9, 10] [3, 4] ?_
 refine zbp ?_
 refine cx 67 (fun gc sgc => ?_) (fun gc sgc => ?_)
 have hup : upTo (drClu code hb).1 k = true := by simpa using gc
 have sgc := gc
 try simp only [qq] at sgc
 refine rB gc ?_ (x := sM)
 refine rA ?_ (x := pkT gc)
 exact zld
 have hup : upTo (drClu code hb).1 k = false := by simpa using gc
 have sgc := gc
 try simp only [qq] at sgc
 refine RunS.s0f gc ?_
 refine rA ?_ (x := pkF gc)
 exact zld
 have hfd : hasI (drClu code hb).1.Done (k : Int) = false := by simpa using gb
 have sgb := gb
 try simp only [qq] at sgb
 refine dB 31 gb ?_ (x := lF fd_31_2)
 refine dB 63 gb ?_ (x := lD [sl .v _] ty_29)
 refine dB 31 gb ?_ (x := sM)
 refine dB 31 gb ?_ (x := sM)
 refine dB 415 gb ?_ (x := cL [(false, [val _]), (false, [val _])] [(false, [val _]), (false, [val _])] c_13 (hs := by exact spec_HomeOf))
 refine dB 1023 gb ?_ (x := loc_index (k := (homeOf (k : Int) (drClu code hb).1.Up.length).toNat) (by decide) sl_29 (by exact ⟨⟩) (by omega) (by exact getm2 (by omega) (by rw [upAt_eq (by omega)])) (by exact rfl))
 refine dB 2047 gb ?_ (x := lE [val _] ty_4)
 refine dA 4095 ?_ (x := pkF gb)
 refine dA 8191 ?_ (x := sM)
 refine dx 57 (fun gc sgc => ?_) (fun gc sgc => ?_)
 have hfh : upAt (drClu code hb).1 (homeOf (k : Int) (drClu code hb).1.Up.length) = true := (by simpa using gc); have hfi := fine_h hfh
 have sgc := gc
 try simp only [qq] at sgc
 refine dT 16383 gc ?_
 refine dT 32767 gc ?_
 refine dT 16383 gc ?_
 refine dT 16383 gc ?_
 refine dT 212991 gc ?_
 refine dT 524287 gc ?_
 refine dT 1048575 gc ?_
 refine dA 2097151 ?_ (x := pkT gc)
 exact zle
 have hfh : upAt (drClu code hb).1 (homeOf (k : Int) (drClu code hb).1.Up.length) = false := (by simpa using gc); have hfi := fine_b hfd hfh
 have sgc := gc
 try simp only [qq] at sgc
 refine dB 16383 gc ?_ (x := lF fd_31_2)
 refine dB 32767 gc ?_ (x := lD [sl .v _] ty_29)
 refine dB 16383 gc ?_ (x := sM)
 refine dB 16383 gc ?_ (x := sM)
 refine dB 212991 gc ?_ (x := cL [(false, [val _]), (false, [val _])] [(false, [val _]), (false, [val _])] c_14 (hs := by exact spec_BackupOf))
 refine dB 524287 gc ?_ (x := loc_index (k := (backupOf (k : Int) (drClu code hb).1.Up.length).toNat) (by decide) sl_29 (by exact ⟨⟩) (by omega) (by exact getm2 (by omega) (by rw [upAt_eq (by omega)])) (by exact rfl))
 refine dB 1048575 gc ?_ (x := lE [val _] ty_4)
 refine dA 2097151 ?_ (x := pkF gc)
 exact zle
 have hend : k = (drClu code hb).1.Parts.length := by omega
 have hro : cluRows (finC (drClu code hb).1) = isort (lessQ cmpRow) (found (drClu code hb).1.Query (partsOn (drClu code hb).1 (finC (drClu code hb).1) k)) := by rw [hend]; exact fin_rows hcl
 refine zay ?_
 refine sQ [0, 3, 4, 5, 6, 7, 8] [3, 4] ?_
 refine zgy ?_
 refine dA 1 ?_ (x := cL [(true, [val _, val _, sl _ _, sl _ _, sl _ _, sl _ _, sl _ _, sl _ _, sl _ _, sl _ _, sl _ _])] [(true, [val _, val _, sl .v _, sl .v _, sl .v _, sl .v _, sl .v _, sl .v _, sl .v _, sl .v _, sl .v _])] c_10 (hs := by exact impl_IsCluster (by omega)))
 refine dA 3 ?_ (x := sM)
 refine dx 96 (fun gb sgb => ?_) (fun gb sgb => ?_)
 refine dB 7 gb ?_ (x := lD [val _, val _, sl .v _, sl .v _, sl .v _, sl .v _, sl .v _, sl .v _, sl .v _, sl .v _, sl .v _] ty_31)
 refine dB 15 gb ?_ (x := cL [(true, [val _, val _, sl _ _, sl _ _, sl _ _, sl _ _, sl _ _, sl _ _, sl _ _, sl _ _, sl _ _])] [(true, [val _, val _, sl .v _, sl .v _, sl .v _, sl .v _, sl .v _, sl .v _, sl .v _, sl .v _, sl .v _])] c_16 (hs := by exact impl_ClusterRows (by omega)))
 refine dB 7 gb ?_ (x := lF fd_31_0)
 refine dB 39 gb ?_ (x := lD [val _, val _, sl .v _, sl .v _] ty_27)
 refine dB 7 gb ?_ (x := vM false [sl .v _])
 refine dB 255 gb ?_ (x := cL [(true, [val _, val _, sl _ _, sl _ _]), (false, [sl _ _])] [(true, [val _, val _, sl .v _, sl .v _]), (false, [sl .v _])] c_17 (hs := by exact (spec_AnswerAlone (by omega))))
 refine dB 511 gb ?_ (x := cL [(false, [sl _ _]), (false, [sl _ _])] [(false, [sl .v _]), (false, [sl .v _])] c_15 (hs := by exact spec_EqualRows))
 refine dA 1023 ?_ (x := pkT gb)
 refine dA 2047 ?_ (x := sM)
 refine dx 105 (fun gc sgc => ?_) (fun gc sgc => ?_)
 refine dB 4095 gc ?_ (x := sM)
 refine dB 8191 gc ?_ (x := nT)
 refine dB 16383 gc ?_ (x := sM)
 refine dx 108 (fun gd sgd => ?_) (fun gd sgd => ?_)
 refine dT 32767 gd ?_
 refine dT 65535 gd ?_
 refine dT 32767 gd ?_
 refine dT 163839 gd ?_
 refine dT 32767 gd ?_
 refine dT 1048575 gd ?_
 refine dT 2097151 gd ?_
 refine dB 4194303 gc ?_ (x := pkT gd)
 exact zlf
 have hup : upTo (drClu code hb).1 k = true := (by simpa using gd); have hal : cluRows (finC (drClu code hb).1) = isort (lessQ cmpRow) (found (drClu code hb).1.Query ((drClu code hb).1.Parts.take k).flatten) := by rw [hro, hend, fin_all hcl (by rw [← hend]; exact hup), List.take_length]
 have sgd := gd
 try simp only [qq] at sgd
 refine dB 32767 gd ?_ (x := lD [val _, val _, sl .v _, sl .v _, sl .v _, sl .v _, sl .v _, sl .v _, sl .v _, sl .v _, sl .v _] ty_31)
 refine dB 65535 gd ?_ (x := cL [(true, [val _, val _, sl _ _, sl _ _, sl _ _, sl _ _, sl _ _, sl _ _, sl _ _, sl _ _, sl _ _])] [(true, [val _, val _, sl .v _, sl .v _, sl .v _, sl .v _, sl .v _, sl .v _, sl .v _, sl .v _, sl .v _])] c_16 (hs := by exact impl_ClusterRows (by omega)))
 refine dB 32767 gd ?_ (x := lF fd_31_0)
 refine dB 163839 gd ?_ (x := lD [val _, val _, sl .v _, sl .v _] ty_27)
 refine dB 32767 gd ?_ (x := vM false [sl .v _])
 refine dB 1048575 gd ?_ (x := cL [(true, [val _, val _, sl _ _, sl _ _]), (false, [sl _ _])] [(true, [val _, val _, sl .v _, sl .v _]), (false, [sl .v _])] c_17 (hs := by exact (spec_AnswerAlone (by omega))))
 refine dB 2097151 gd ?_ (x := cL [(false, [sl _ _]), (false, [sl _ _])] [(false, [sl .v _]), (false, [sl .v _])] c_15 (hs := by exact spec_EqualRows))
 refine dB 4194303 gc ?_ (x := pkF gd)
 exact zlf
 exact absurd gc (by rw [← hro]; simp [deq_self])
 exact absurd gb (by rw [hfl.1]; simp)
end Go.Proofs.YtmkhofdkdklpdaaGreat
