/- What functions of the program compute. No condition. -/
import Derived.Test.YtmkhofdkdklpdaaGreatCZMFnFailures
import Derived.Test.YtmkhofdkdklpdaaGreatCFcFnFailures
import Derived.Test.YtmkhofdkdklpdaaGreatCBigFnFailures
import Derived.Test.YtmkhofdkdklpdaaGreatCCluRFnFailures
import Derived.Test.YtmkhofdkdklpdaaGreatCCluJFnFailures
import Derived.Test.YtmkhofdkdklpdaaGreatCDfl2
import Derived.KernelRfl
set_option linter.unusedVariables false
set_option linter.unusedSimpArgs false
namespace Go.Proofs.YtmkhofdkdklpdaaGreat
open Go Go.RowKit M PV
set_option maxRecDepth 10000
attribute [local irreducible] PV.Lcl PV.LclR RV.Lcl
attribute [local irreducible] belowC byteC
theorem FLawFnFailures_ub_4 : Tryz.prog.underlying 4 = some .bool := by kernel_rfl
theorem law_FnFailures {code : List Int}  : SCall Tryz.prog 4 [(false, [sl .v (code.map cU8)])] (resRV [(false, [val (.bool true)])]) := by
 refine sF Tryz.func4 fun h0 w0 Fz0 => ?_
 refine sj 0 fun hl0 => ?_
 refine zab ?_
 refine za1 ?_
 refine rA ?_ (x := cL [(false, [sl _ _])] [(false, [sl .v _])] c_5 (hs := by exact laws_big))
 refine sc (fun hba => ?_) (fun hba => ?_)
 refine sS [0, 2] [] ?_
 refine rK ?_
 exact zl9
 have hbig : code.length ≤ 1048576 := by have hh := hba; simp at hh; omega
 have hb : code.length ≤ 9223372036854775807 := by omega
 have hb2 : code.length ≤ 4611686018427387904 := by omega
 have hcw := anyClu_wt (curNew code hb)
 have e1 : (drClu code hb).1 = (anyClu (curNew code hb)).1 := rfl
 rw [← e1] at hcw
 have hsw := stepNode_wt (drClu code hb).1 (drClu code hb).2
 have hfw := failNode_wt (drClu code hb).1 (drClu code hb).2
 have hrw := recNode_wt (failNode (drClu code hb).1 (drClu code hb).2).1 (drClu code hb).2
 have hd1 := done_wt (drClu code hb).1
 have hq1 := parts_wt (drClu code hb).1
 have hq2 := parts_wt (stepNode (drClu code hb).1 (drClu code hb).2).1
 have hq3 := parts_wt (failNode (drClu code hb).1 (drClu code hb).2).1
 have hq4 := parts_wt (recNode (failNode (drClu code hb).1 (drClu code hb).2).1 (drClu code hb).2).1
 refine sw_skip ?_
 refine za1 ?_
 refine rA ?_ (x := cL [(false, [sl _ _])] [(false, [sl .v _])] c_18 (hs := by exact (spec_DrawStepNode (by omega) (by omega))))
 refine zla ?_
 refine zjk ?_
 refine rS ?_
 refine sT [0, 2, 3, 4] [3] ?_
 refine zgi ?_
 refine rA ?_ (x := cL [(true, [val _, val _, sl _ _, sl _ _, sl _ _, sl _ _, sl _ _, sl _ _, sl _ _, sl _ _, sl _ _]), (false, [val _])] [(true, [val _, val _, sl .v _, sl .v _, sl .v _, sl .v _, sl .v _, sl .v _, sl .v _, sl .v _, sl .v _]), (false, [val _])] c_19 (hs := by exact impl_StepNode (by omega)))
 refine zju ?_
 refine sO [(0, _), (2, _), (3, _), (4, _), (5, _), (6, _)] [(3, _), (5, (31, [val _, val _, sl _ _, sl _ _, sl _ _, sl _ _, sl _ _, sl _ _, sl _ _, sl _ _, sl _ _]))] ?_
 refine sw_reg ?_
 refine zjz ?_
 refine zju ?_
 refine sw_seq ?_
 refine sO [(0, _), (2, _), (3, _), (4, _), (5, _), (6, _), (7, _), (8, _)] [(3, _), (5, _), (7, (31, [val _, val _, sl _ _, sl _ _, sl _ _, sl _ _, sl _ _, sl _ _, sl _ _, sl _ _, sl _ _]))] ?_
 refine zaf ?_
 refine dA 0 ?_ (x := sM)
 refine dA 3 ?_ (x := loc_bneq (by decide) FLawFnFailures_ub_4 (by exact ⟨⟩) (by exact ⟨⟩))
 refine dA 7 ?_ (x := sM)
 refine dx 41 (fun ga sga => ?_) (fun ga sga => ?_)
 ·first | exact absurd ga (by simp [deq_self]) | (simp [deq_self] at ga; done)
 refine dB 15 ga ?_ (x := lD [val _, val _, sl .v _, sl .v _, sl .v _, sl .v _, sl .v _, sl .v _, sl .v _, sl .v _, sl .v _] ty_31)
 refine dB 15 ga ?_ (x := lD [val _, val _, sl .v _, sl .v _, sl .v _, sl .v _, sl .v _, sl .v _, sl .v _, sl .v _, sl .v _] ty_31)
 refine dB 63 ga ?_ (x := cL [(true, [val _, val _, sl _ _, sl _ _, sl _ _, sl _ _, sl _ _, sl _ _, sl _ _, sl _ _, sl _ _]), (true, [val _, val _, sl _ _, sl _ _, sl _ _, sl _ _, sl _ _, sl _ _, sl _ _, sl _ _, sl _ _])] [(true, [val _, val _, sl .v _, sl .v _, sl .v _, sl .v _, sl .v _, sl .v _, sl .v _, sl .v _, sl .v _]), (true, [val _, val _, sl .v _, sl .v _, sl .v _, sl .v _, sl .v _, sl .v _, sl .v _, sl .v _, sl .v _])] c_8 (hs := by exact spec_EqualClusters))
 refine dB 127 ga ?_ (x := nT)
 refine dA 255 ?_ (x := pkF ga)
 refine dA 511 ?_ (x := sM)
 refine dx 47 (fun gb sgb => ?_) (fun gb sgb => ?_)
 ·first | exact absurd gb (by simp [deq_self]) | (simp [deq_self] at gb; done)
 refine zlb ?_
 refine dB 4095 gb ?_ (x := cL [(true, [val _, val _, sl _ _, sl _ _, sl _ _, sl _ _, sl _ _, sl _ _, sl _ _, sl _ _, sl _ _]), (false, [val _])] [(true, [val _, val _, sl .v _, sl .v _, sl .v _, sl .v _, sl .v _, sl .v _, sl .v _, sl .v _, sl .v _]), (false, [val _])] c_21 (hs := by exact impl_NextSegment (by omega)))
 refine zlb ?_
 refine dB 32767 gb ?_ (x := cL [(true, [val _, val _, sl _ _, sl _ _, sl _ _, sl _ _, sl _ _, sl _ _, sl _ _, sl _ _, sl _ _]), (false, [val _])] [(true, [val _, val _, sl .v _, sl .v _, sl .v _, sl .v _, sl .v _, sl .v _, sl .v _, sl .v _, sl .v _]), (false, [val _])] c_22 (hs := by exact spec_NextSegment (by omega)))
 refine dB 65535 gb ?_ (x := B_neq)
 refine dA 131071 ?_ (x := pkF gb)
 refine sc (fun hbb => ?_) (fun hbb => ?_)
 ·first | exact absurd hbb (by simp [deq_self]) | (simp [deq_self] at hbb; done)
 refine sw_skip ?_
 refine sS [0, 2, 3, 4, 5, 6, 7, 8] [3, 5, 7] ?_
 refine zgi ?_
 refine rA ?_ (x := cL [(true, [val _, val _, sl _ _, sl _ _, sl _ _, sl _ _, sl _ _, sl _ _, sl _ _, sl _ _, sl _ _]), (false, [val _])] [(true, [val _, val _, sl .v _, sl .v _, sl .v _, sl .v _, sl .v _, sl .v _, sl .v _, sl .v _, sl .v _]), (false, [val _])] c_23 (hs := by exact impl_FailNode (by omega)))
 refine zju ?_
 refine sO [(0, _), (2, _), (3, _), (4, _), (5, _), (6, _), (7, _), (8, _), (9, _), (10, _)] [(3, _), (5, _), (7, _), (9, (31, [val _, val _, sl _ _, sl _ _, sl _ _, sl _ _, sl _ _, sl _ _, sl _ _, sl _ _, sl _ _]))] ?_
 refine sw_reg ?_
 refine zjw ?_
 refine zju ?_
 refine sO [(0, _), (2, _), (3, _), (4, _), (5, _), (6, _), (7, _), (8, _), (9, _), (10, _), (11, _), (12, _)] [(3, _), (5, _), (7, _), (9, _), (11, (31, [val _, val _, sl _ _, sl _ _, sl _ _, sl _ _, sl _ _, sl _ _, sl _ _, sl _ _, sl _ _]))] ?_
 refine sw_reg ?_
 refine zgi ?_
 refine rA ?_ (x := cL [(true, [val _, val _, sl _ _, sl _ _, sl _ _, sl _ _, sl _ _, sl _ _, sl _ _, sl _ _, sl _ _]), (false, [val _])] [(true, [val _, val _, sl .v _, sl .v _, sl .v _, sl .v _, sl .v _, sl .v _, sl .v _, sl .v _, sl .v _]), (false, [val _])] c_25 (hs := by exact impl_RecoverNode (by omega)))
 refine zju ?_
 refine sO [(0, _), (2, _), (3, _), (4, _), (5, _), (6, _), (7, _), (8, _), (9, _), (10, _), (11, _), (12, _), (13, _), (14, _)] [(3, _), (5, _), (7, _), (9, _), (11, _), (13, (31, [val _, val _, sl _ _, sl _ _, sl _ _, sl _ _, sl _ _, sl _ _, sl _ _, sl _ _, sl _ _]))] ?_
 refine sw_reg ?_
 refine zjy ?_
 refine zju ?_
 refine sw_seq ?_
 refine sO [(0, _), (2, _), (3, _), (4, _), (5, _), (6, _), (7, _), (8, _), (9, _), (10, _), (11, _), (12, _), (13, _), (14, _), (15, _), (16, _)] [(3, _), (5, _), (7, _), (9, _), (11, _), (13, _), (15, (31, [val _, val _, sl _ _, sl _ _, sl _ _, sl _ _, sl _ _, sl _ _, sl _ _, sl _ _, sl _ _]))] ?_
 refine sw_reg ?_
 refine zbu ?_
 refine rA ?_ (x := loc_bneq (by decide) FLawFnFailures_ub_4 (by exact ⟨⟩) (by exact ⟨⟩))
 refine rM ?_
 refine cx 83 (fun gc sgc => ?_) (fun gc sgc => ?_)
 ·first | exact absurd gc (by simp [deq_self]) | (simp [deq_self] at gc; done)
 refine rB gc ?_ (x := lD [val _, val _, sl .v _, sl .v _, sl .v _, sl .v _, sl .v _, sl .v _, sl .v _, sl .v _, sl .v _] ty_31)
 refine rB gc ?_ (x := lD [val _, val _, sl .v _, sl .v _, sl .v _, sl .v _, sl .v _, sl .v _, sl .v _, sl .v _, sl .v _] ty_31)
 refine rB gc ?_ (x := cL [(true, [val _, val _, sl _ _, sl _ _, sl _ _, sl _ _, sl _ _, sl _ _, sl _ _, sl _ _, sl _ _]), (true, [val _, val _, sl _ _, sl _ _, sl _ _, sl _ _, sl _ _, sl _ _, sl _ _, sl _ _, sl _ _])] [(true, [val _, val _, sl .v _, sl .v _, sl .v _, sl .v _, sl .v _, sl .v _, sl .v _, sl .v _, sl .v _]), (true, [val _, val _, sl .v _, sl .v _, sl .v _, sl .v _, sl .v _, sl .v _, sl .v _, sl .v _, sl .v _])] c_8 (hs := by exact spec_EqualClusters))
 refine rB gc ?_ (x := nT)
 refine rA ?_ (x := pkF gc)
 refine rM ?_
 refine cx 89 (fun gd sgd => ?_) (fun gd sgd => ?_)
 ·first | exact absurd gd (by simp [deq_self]) | (simp [deq_self] at gd; done)
 refine rB gd ?_ (x := sM)
 refine rB gd ?_ (x := sM)
 refine rB gd ?_ (x := loc_bneq (by decide) FLawFnFailures_ub_4 (by exact ⟨⟩) (by exact ⟨⟩))
 refine rA ?_ (x := pkF gd)
 refine rM ?_
 refine cx 94 (fun ge sge => ?_) (fun ge sge => ?_)
 ·first | exact absurd ge (by simp [deq_self]) | (simp [deq_self] at ge; done)
 refine rB ge ?_ (x := lD [val _, val _, sl .v _, sl .v _, sl .v _, sl .v _, sl .v _, sl .v _, sl .v _, sl .v _, sl .v _] ty_31)
 refine rB ge ?_ (x := lD [val _, val _, sl .v _, sl .v _, sl .v _, sl .v _, sl .v _, sl .v _, sl .v _, sl .v _, sl .v _] ty_31)
 refine rB ge ?_ (x := cL [(true, [val _, val _, sl _ _, sl _ _, sl _ _, sl _ _, sl _ _, sl _ _, sl _ _, sl _ _, sl _ _]), (true, [val _, val _, sl _ _, sl _ _, sl _ _, sl _ _, sl _ _, sl _ _, sl _ _, sl _ _, sl _ _])] [(true, [val _, val _, sl .v _, sl .v _, sl .v _, sl .v _, sl .v _, sl .v _, sl .v _, sl .v _, sl .v _]), (true, [val _, val _, sl .v _, sl .v _, sl .v _, sl .v _, sl .v _, sl .v _, sl .v _, sl .v _, sl .v _])] c_8 (hs := by exact spec_EqualClusters))
 refine rB ge ?_ (x := nT)
 refine rA ?_ (x := pkF ge)
 refine sc (fun hbc => ?_) (fun hbc => ?_)
 ·first | exact absurd hbc (by simp [deq_self]) | (simp [deq_self] at hbc; done)
 refine zlc ?_
 refine zh6 ?_
 refine rA ?_ (x := nT)
 refine sc (fun hbd => ?_) (fun hbd => ?_)
 have hcl : isCl (drClu code hb).1 = false := by simpa using hbd
 have hup : upOk (drClu code hb).1 (drClu code hb).2 = false := by unfold upOk; rw [hcl]; rfl
 have hsn := step_no hup
 have hfn := fail_no hup
 refine sS [0, 2, 3, 4, 5, 6, 7, 8, 9, 10, 11, 12, 13, 14, 15, 16] [3, 5, 7, 9, 11, 13, 15] ?_
 refine rA ?_ (x := lD [val _, val _, sl .v _, sl .v _, sl .v _, sl .v _, sl .v _, sl .v _, sl .v _, sl .v _, sl .v _] ty_31)
 refine rA ?_ (x := lD [val _, val _, sl .v _, sl .v _, sl .v _, sl .v _, sl .v _, sl .v _, sl .v _, sl .v _, sl .v _] ty_31)
 refine rA ?_ (x := cL [(true, [val _, val _, sl _ _, sl _ _, sl _ _, sl _ _, sl _ _, sl _ _, sl _ _, sl _ _, sl _ _]), (true, [val _, val _, sl _ _, sl _ _, sl _ _, sl _ _, sl _ _, sl _ _, sl _ _, sl _ _, sl _ _])] [(true, [val _, val _, sl .v _, sl .v _, sl .v _, sl .v _, sl .v _, sl .v _, sl .v _, sl .v _, sl .v _]), (true, [val _, val _, sl .v _, sl .v _, sl .v _, sl .v _, sl .v _, sl .v _, sl .v _, sl .v _, sl .v _])] c_8 (hs := by exact spec_EqualClusters))
 refine rM ?_
 refine cx 106 (fun gf sgf => ?_) (fun gf sgf => ?_)
 refine rB gf ?_ (x := sM)
 refine rB gf ?_ (x := nT)
 refine rA ?_ (x := pkT gf)
 refine zan ?_
 exact rb (by first | rfl | (rw [hfn]; rfl) | simp [hfn])
 ·first | (simp [hsn, deq_self] at gf; done) | (rw [hsn] at gf; simp [deq_self] at gf; done)
 have hcl : isCl (drClu code hb).1 = true := by simpa using hbd
 have hsg := step_good (n := (drClu code hb).2) hcl
 have hfg := fail_good (n := (drClu code hb).2) hcl
 refine zlc ?_
 refine zga ?_
 refine zga ?_
 refine rA ?_ (x := B_lss)
 refine rM ?_
 refine cx 117 (fun gf sgf => ?_) (fun gf sgf => ?_)
 ·exfalso; obtain ⟨hs1_, hs2_, hs3_⟩ := hsg; first | omega | (have hz_ := gf; simp only [decide_eq_true_eq] at hz_; omega) | (simp [hs1_, hfg.1, hfg.2.1, deq_self] at gf; done)
 refine zev ?_
 refine rB gf ?_ (x := lN sl_25)
 refine zev ?_
 refine rB gf ?_ (x := lN sl_25)
 refine rB gf ?_ (x := B_add)
 refine rB gf ?_ (x := B_gtr)
 refine rA ?_ (x := pkF gf)
 refine rM ?_
 refine cx 127 (fun gg sgg => ?_) (fun gg sgg => ?_)
 ·exfalso; obtain ⟨hs1_, hs2_, hs3_⟩ := hsg; first | omega | (have hz_ := gg; simp only [decide_eq_true_eq] at hz_; omega) | (simp [hs1_, hfg.1, hfg.2.1, deq_self] at gg; done)
 refine rB gg ?_ (x := lD [val _, val _, sl .v _, sl .v _, sl .v _, sl .v _, sl .v _, sl .v _, sl .v _, sl .v _, sl .v _] ty_31)
 refine rB gg ?_ (x := cL [(true, [val _, val _, sl _ _, sl _ _, sl _ _, sl _ _, sl _ _, sl _ _, sl _ _, sl _ _, sl _ _])] [(true, [val _, val _, sl .v _, sl .v _, sl .v _, sl .v _, sl .v _, sl .v _, sl .v _, sl .v _, sl .v _])] c_10 (hs := by exact impl_IsCluster (by omega)))
 refine rB gg ?_ (x := nT)
 refine rA ?_ (x := pkF gg)
 refine rM ?_
 refine cx 132 (fun gh sgh => ?_) (fun gh sgh => ?_)
 ·exfalso; obtain ⟨hs1_, hs2_, hs3_⟩ := hsg; first | omega | (have hz_ := gh; simp only [decide_eq_true_eq] at hz_; omega) | (simp [hs1_, hfg.1, hfg.2.1, deq_self] at gh; done)
 refine rB gh ?_ (x := lD [val _, val _, sl .v _, sl .v _, sl .v _, sl .v _, sl .v _, sl .v _, sl .v _, sl .v _, sl .v _] ty_31)
 refine rB gh ?_ (x := cL [(true, [val _, val _, sl _ _, sl _ _, sl _ _, sl _ _, sl _ _, sl _ _, sl _ _, sl _ _, sl _ _])] [(true, [val _, val _, sl .v _, sl .v _, sl .v _, sl .v _, sl .v _, sl .v _, sl .v _, sl .v _, sl .v _])] c_10 (hs := by exact impl_IsCluster (by omega)))
 refine rB gh ?_ (x := nT)
 refine rA ?_ (x := pkF gh)
 refine rM ?_
 refine cx 137 (fun gi sgi => ?_) (fun gi sgi => ?_)
 ·exfalso; obtain ⟨hs1_, hs2_, hs3_⟩ := hsg; first | omega | (have hz_ := gi; simp only [decide_eq_true_eq] at hz_; omega) | (simp [hs1_, hfg.1, hfg.2.1, deq_self] at gi; done)
 refine rB gi ?_ (x := lF fd_31_6)
 refine rB gi ?_ (x := lD [sl .v _] ty_25)
 refine rB gi ?_ (x := lF fd_31_6)
 refine rB gi ?_ (x := lD [sl .v _] ty_25)
 refine rB gi ?_ (x := cL [(false, [sl _ _]), (false, [sl _ _])] [(false, [sl .v _]), (false, [sl .v _])] c_27 (hs := by exact same_Ints))
 refine rB gi ?_ (x := nT)
 refine rA ?_ (x := pkF gi)
 refine sc (fun hbe => ?_) (fun hbe => ?_)
 ·exfalso; obtain ⟨hs1_, hs2_, hs3_⟩ := hsg; first | omega | (have hz_ := hbe; simp only [decide_eq_true_eq] at hz_; omega) | (simp [hs1_, hfg.1, hfg.2.1, deq_self] at hbe; done)
 refine sw_skip ?_
 refine sS [0, 2, 3, 4, 5, 6, 7, 8, 9, 10, 11, 12, 13, 14, 15, 16] [3, 5, 7, 9, 11, 13, 15] ?_
 refine rA ?_ (x := vM false [sl .v _])
 refine rA ?_ (x := cL [(false, [sl _ _])] [(false, [sl .v _])] c_28 (hs := by exact (spec_DrawHomeOf (by omega) (by omega))))
 refine rA ?_ (x := tM)
 refine rA ?_ (x := loc_extractb (cs := [val _]) (by decide) (by exact rfl) (by exact (BorL.cons (bor_val _) BorL.nil)))
 refine rA ?_ (x := loc_extractb (cs := [val _]) (by decide) (by exact rfl) (by exact (BorL.cons (bor_val _) BorL.nil)))
 refine rS ?_
 refine za2 ?_
 refine sP [0, 2, 3, 4, 5, 6, 7, 8, 9, 10, 11, 12, 13, 14, 15, 16, 17, 18] [3, 5, 7, 9, 11, 13, 15] ?_
 refine zgr ?_
 refine dA 1 ?_ (x := cL [(true, [val _, val _, sl _ _, sl _ _, sl _ _, sl _ _, sl _ _, sl _ _, sl _ _, sl _ _, sl _ _])] [(true, [val _, val _, sl .v _, sl .v _, sl .v _, sl .v _, sl .v _, sl .v _, sl .v _, sl .v _, sl .v _])] c_16 (hs := by exact impl_ClusterRows (by omega)))
 refine dA 0 ?_ (x := lD [val _, val _, sl .v _, sl .v _, sl .v _, sl .v _, sl .v _, sl .v _, sl .v _, sl .v _, sl .v _] ty_31)
 refine dA 7 ?_ (x := cL [(true, [val _, val _, sl _ _, sl _ _, sl _ _, sl _ _, sl _ _, sl _ _, sl _ _, sl _ _, sl _ _])] [(true, [val _, val _, sl .v _, sl .v _, sl .v _, sl .v _, sl .v _, sl .v _, sl .v _, sl .v _, sl .v _])] c_29 (hs := by exact spec_ClusterRows (by omega)))
 refine dA 15 ?_ (x := cL [(false, [sl _ _]), (false, [sl _ _])] [(false, [sl .v _]), (false, [sl .v _])] c_15 (hs := by exact spec_EqualRows))
 refine dA 31 ?_ (x := sM)
 refine dx 155 (fun gj sgj => ?_) (fun gj sgj => ?_)
 refine dB 63 gj ?_ (x := sM)
 refine dB 63 gj ?_ (x := sM)
 refine dB 255 gj ?_ (x := cL [(false, [val _]), (false, [val _])] [(false, [val _]), (false, [val _])] c_30 (hs := by exact impl_HomeOf))
 refine dB 63 gj ?_ (x := sM)
 refine dB 63 gj ?_ (x := sM)
 refine dB 2047 gj ?_ (x := cL [(false, [val _]), (false, [val _])] [(false, [val _]), (false, [val _])] c_13 (hs := by exact spec_HomeOf))
 refine dB 4095 gj ?_ (x := B_eql)
 refine dA 8191 ?_ (x := pkT gj)
 refine dA 16383 ?_ (x := sM)
 refine dx 164 (fun gk sgk => ?_) (fun gk sgk => ?_)
 refine dB 32767 gk ?_ (x := sM)
 refine dB 32767 gk ?_ (x := sM)
 refine dB 131071 gk ?_ (x := cL [(false, [val _]), (false, [val _])] [(false, [val _]), (false, [val _])] c_31 (hs := by exact impl_BackupOf))
 refine dB 32767 gk ?_ (x := sM)
 refine dB 32767 gk ?_ (x := sM)
 refine dB 1048575 gk ?_ (x := cL [(false, [val _]), (false, [val _])] [(false, [val _]), (false, [val _])] c_14 (hs := by exact spec_BackupOf))
 refine dB 2097151 gk ?_ (x := B_eql)
 refine dA 4194303 ?_ (x := pkT gk)
 refine dA 8388607 ?_ (x := sM)
 refine dx 173 (fun gl sgl => ?_) (fun gl sgl => ?_)
 refine dB 16777215 gl ?_ (x := sM)
 refine dB 33554431 gl ?_ (x := B_lss)
 refine dB 67108863 gl ?_ (x := sM)
 refine dx 176 (fun gm sgm => ?_) (fun gm sgm => ?_)
 refine dT 134217727 gm ?_
 refine dT 268435455 gm ?_
 refine dB 536870911 gl ?_ (x := pkT gm)
 refine dB 1073741823 gl ?_ (x := sM)
 refine Run.cases (s := 180) rfl (fun g20 => ?_) (fun g20 => nomatch g20)
 refine dT 2147483647 g20 ?_
 refine dT 4294967295 g20 ?_
 refine dB 8589934591 gl ?_ (x := pkT g20)
 refine dB 17179869183 gl ?_ (x := sM)
 refine Run.cases (s := 184) rfl (fun g21 => ?_) (fun g21 => nomatch g21)
 refine dT 34359738367 g21 ?_
 refine dT 34359738367 g21 ?_
 refine dT 137438953471 g21 ?_
 refine dT 34359738367 g21 ?_
 refine dT 34359738367 g21 ?_
 refine dT 1099511627775 g21 ?_
 refine dT 2199023255551 g21 ?_
 refine dB 4398046511103 gl ?_ (x := pkT g21)
 exact zld
 refine dB 134217727 gm ?_ (x := sM)
 refine dB 268435455 gm ?_ (x := B_gtr)
 refine dB 536870911 gl ?_ (x := pkF gm)
 refine dB 1073741823 gl ?_ (x := sM)
 refine dx 180 (fun gn sgn => ?_) (fun gn sgn => ?_)
 refine dT 2147483647 gn ?_
 refine dT 4294967295 gn ?_
 refine dB 8589934591 gl ?_ (x := pkT gn)
 refine dB 17179869183 gl ?_ (x := sM)
 refine Run.cases (s := 184) rfl (fun g23 => ?_) (fun g23 => nomatch g23)
 refine dT 34359738367 g23 ?_
 refine dT 34359738367 g23 ?_
 refine dT 137438953471 g23 ?_
 refine dT 34359738367 g23 ?_
 refine dT 34359738367 g23 ?_
 refine dT 1099511627775 g23 ?_
 refine dT 2199023255551 g23 ?_
 refine dB 4398046511103 gl ?_ (x := pkT g23)
 exact zld
 refine dB 2147483647 gn ?_ (x := sM)
 refine dB 4294967295 gn ?_ (x := B_lss)
 refine dB 8589934591 gl ?_ (x := pkF gn)
 refine dB 17179869183 gl ?_ (x := sM)
 refine dx 184 (fun go sgo => ?_) (fun go sgo => ?_)
 refine dT 34359738367 go ?_
 refine dT 34359738367 go ?_
 refine dT 137438953471 go ?_
 refine dT 34359738367 go ?_
 refine dT 34359738367 go ?_
 refine dT 1099511627775 go ?_
 refine dT 2199023255551 go ?_
 refine dB 4398046511103 gl ?_ (x := pkT go)
 exact zld
 refine dB 34359738367 go ?_ (x := sM)
 refine dB 34359738367 go ?_ (x := sM)
 refine dB 137438953471 go ?_ (x := cL [(false, [val _]), (false, [val _])] [(false, [val _]), (false, [val _])] c_30 (hs := by exact impl_HomeOf))
 refine dB 34359738367 go ?_ (x := sM)
 refine dB 34359738367 go ?_ (x := sM)
 refine dB 1099511627775 go ?_ (x := cL [(false, [val _]), (false, [val _])] [(false, [val _]), (false, [val _])] c_31 (hs := by exact impl_BackupOf))
 refine dB 2199023255551 go ?_ (x := B_neq)
 refine dB 4398046511103 gl ?_ (x := pkF go)
 exact zld
 ·first | (simp [hfg.2.2, deq_self] at gl; done) | (simp at gl; done)
 ·first | (simp [hfg.2.2, deq_self] at gk; done) | (simp at gk; done)
 ·first | (simp [hfg.2.2, deq_self] at gj; done) | (simp at gj; done)
end Go.Proofs.YtmkhofdkdklpdaaGreat
