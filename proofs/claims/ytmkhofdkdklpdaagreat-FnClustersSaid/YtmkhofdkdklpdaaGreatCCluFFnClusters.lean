/- What functions of the program compute. No condition. -/
import Derived.Test.YtmkhofdkdklpdaaGreatCZMFnClusters
import Derived.Test.YtmkhofdkdklpdaaGreatCFcFnClusters
import Derived.Test.YtmkhofdkdklpdaaGreatCCluEFnClusters
import Derived.Test.YtmkhofdkdklpdaaGreatCDn
import Derived.KernelRfl
set_option linter.unusedVariables false
set_option linter.unusedSimpArgs false
namespace Go.Proofs.YtmkhofdkdklpdaaGreat
open Go Go.RowKit M PV
set_option maxRecDepth 10000
attribute [local irreducible] PV.Lcl PV.LclR RV.Lcl
theorem impl_isUp {p3 p4 p9 p10 p13 p14 : Fl} {c : Cluster} {n : Int}  (hb : wtRowSS c.Parts ≤ 68719476736) : SCall Tryz.prog 57 [(true, [val (vI c.Query.Id), val (vI c.Query.Tenant), sl .v (c.Query.Conds.map cCond), sl .v (c.Query.Out.map cInt), sl .v (c.Parts.map (cRowS p3 p4)), sl .v (c.Up.map cBool), sl .v (c.At.map cInt), sl .v (c.Pos.map cInt), sl .v (c.Buffer.map (cRowS p9 p10)), sl .v (c.Done.map cInt), sl .v (c.Rows.map (cRowS p13 p14))]), (false, [val (vI n)])] (resRV [(false, [val (.bool (upOk c n))])]) := by
 refine sF Tryz.func57 fun h0 w0 Fz0 => ?_
 refine sn 0 2 fun hl0_2 => ?_
 refine sn 0 3 fun hl0_3 => ?_
 refine sn 0 4 fun hl0_4 => ?_
 refine sn 0 5 fun hl0_5 => ?_
 refine sn 0 6 fun hl0_6 => ?_
 refine sn 0 7 fun hl0_7 => ?_
 refine sn 0 8 fun hl0_8 => ?_
 refine sn 0 9 fun hl0_9 => ?_
 refine sn 0 10 fun hl0_10 => ?_
 refine zen ?_
 refine rK ?_
 refine sT [1, 2, 4] [2] ?_
 refine zh2 ?_
 refine rM ?_
 refine cx 7 (fun ga sga => ?_) (fun ga sga => ?_)
 refine zh3 ?_
 refine rB ga ?_ (x := lD [sl .v _] ty_29)
 refine rB ga ?_ (x := lN sl_29)
 refine rB ga ?_ (x := B_sub)
 refine rB ga ?_ (x := cL [(false, [val _]), (false, [val _]), (false, [val _])] [(false, [val _]), (false, [val _]), (false, [val _])] c_40 (hs := by exact impl_within))
 refine zdi ?_
 refine cx 15 (fun gb sgb => ?_) (fun gb sgb => ?_)
 refine zes ?_
 refine zh4 ?_
 refine rA ?_ (x := pkT gb)
 exact zh5
 refine zdm ?_
 exact zh5
 refine zdn ?_
 refine RunS.cases (s := 15) rfl (fun g3 => nomatch g3) (fun g3 => ?_)
 refine zf g3 ?_
 refine rA ?_ (x := pkF g3)
 exact zh5
theorem impl_NextSegment {p3 p4 p9 p10 p13 p14 : Fl} {c : Cluster} {n : Int}  (hb : wtRowSS c.Parts ≤ 68719476736) : SCall Tryz.prog 21 [(true, [val (vI c.Query.Id), val (vI c.Query.Tenant), sl .v (c.Query.Conds.map cCond), sl .v (c.Query.Out.map cInt), sl .v (c.Parts.map (cRowS p3 p4)), sl .v (c.Up.map cBool), sl .v (c.At.map cInt), sl .v (c.Pos.map cInt), sl .v (c.Buffer.map (cRowS p9 p10)), sl .v (c.Done.map cInt), sl .v (c.Rows.map (cRowS p13 p14))]), (false, [val (vI n)])] (resRV [(false, [val (vI (nextSeg c n))])]) := by
 refine sF Tryz.func21 fun h0 w0 Fz0 => ?_
 refine sn 0 2 fun hl0_2 => ?_
 refine sn 0 3 fun hl0_3 => ?_
 refine sn 0 4 fun hl0_4 => ?_
 refine sn 0 5 fun hl0_5 => ?_
 refine sn 0 6 fun hl0_6 => ?_
 refine sn 0 7 fun hl0_7 => ?_
 refine sn 0 8 fun hl0_8 => ?_
 refine sn 0 9 fun hl0_9 => ?_
 refine sn 0 10 fun hl0_10 => ?_
 refine zen ?_
 refine zby ?_
 refine sT [1, 2, 4] [2] ?_
 refine zgo ?_
 refine rA ?_ (x := cL [(true, [val _, val _, sl _ _, sl _ _, sl _ _, sl _ _, sl _ _, sl _ _, sl _ _, sl _ _, sl _ _]), (false, [val _])] [(true, [val _, val _, sl .v _, sl .v _, sl .v _, sl .v _, sl .v _, sl .v _, sl .v _, sl .v _, sl .v _]), (false, [val _])] c_57 (hs := by exact impl_isUp (by omega)))
 refine zep ?_
 refine cx 13 (fun ga sga => ?_) (fun ga sga => ?_)
 refine zf5 ?_
 refine scT ?_
 exact zh6
 refine rB ga ?_ (x := lF fd_31_3)
 refine rB ga ?_ (x := lD [sl .v _] ty_25)
 refine rB ga ?_ (x := sM)
 refine rB ga ?_ (x := loc_index (k := n.toNat) (by decide) sl_25 (by exact ⟨⟩) (by have hup := ‹upOk c n = true›; unfold upOk at hup; simp only [Bool.and_eq_true] at hup; have hq := inB_iff.1 hup.2.1; have hl := clLen hup.1; omega) (by exact getm2 (by have hup := ‹upOk c n = true›; unfold upOk at hup; simp only [Bool.and_eq_true] at hup; have hq := inB_iff.1 hup.2.1; have hl := clLen hup.1; omega) (by rw [atI_eq (by have hup := ‹upOk c n = true›; unfold upOk at hup; simp only [Bool.and_eq_true] at hup; have hq := inB_iff.1 hup.2.1; have hl := clLen hup.1; omega)])) (by exact rfl))
 refine rB ga ?_ (x := lE [val _] ty_3)
 refine zee ?_
 refine sc (fun hba => ?_) (fun hba => ?_)
 exact zh6
 have hok : upOk c n = true ∧ atI c.At n = -1 := by simp_all
 have hok2 := hok.1
 unfold upOk at hok2
 simp only [Bool.and_eq_true] at hok2
 have hl := clLen hok2.1
 have hq := inB_iff.1 hok2.2.1
 refine sw_skip ?_
 refine sS [1, 2, 4] [2] ?_
 refine zey ?_
 refine rS ?_
 refine sS [1, 2, 4, 5] [2] ?_
 refine zby ?_
 refine sS [1, 2, 4, 5, 6] [2] ?_
 refine zg7 ?_
 refine zbm ?_
 refine sP [1, 2, 4, 5, 6, 26, 27] [2] ?_
 refine sL [1, 2, 5, 26] [2] (fun k : Nat => k ≤ c.Parts.length ∧ (∀ i : Nat, i < k → homeP c n (i : Int) = false)) (fun k : Nat => [(6, RV.int (firstIx (backP c n) 0 k)), (27, RV.int (k : Int))]) (fun k : Nat => []) (fun k : Nat => c.Parts.length - k) 0 (by exact ⟨by omega, fun i hi => absurd hi (Nat.not_lt_zero _)⟩) (by exact aI (by first | exact rfl | simp) (aI (by exact rfl) (tI))) (by exact ⟨⟩) ?_
 rintro k ⟨hk, ha⟩
 refine zbn ?_
 refine sc (fun hbb => ?_) (fun hbb => ?_)
 have hlt : k < c.Parts.length := by omega
 have hhm := home_in (i := (k : Int)) hok2.1 (by omega)
 refine za6 ?_
 refine sT [1, 2, 5, 6, 26, 27] [2] ?_
 refine rM ?_
 refine za2 ?_
 refine sS [1, 2, 5, 6, 7, 26, 27] [2] ?_
 refine zgg ?_
 refine zgl ?_
 refine rM ?_
 refine cx 34 (fun gb sgb => ?_) (fun gb sgb => ?_)
 refine ze4 ?_
 exact zh7
 refine rB gb ?_ (x := lF fd_31_3)
 refine rB gb ?_ (x := lD [sl .v _] ty_25)
 refine rB gb ?_ (x := sM)
 refine zga ?_
 refine sc (fun hbc => ?_) (fun hbc => ?_)
 exact zh7
 have hfree : freeB c (k : Int) = true := by unfold freeB; simp_all
 refine sw_skip ?_
 refine sS [1, 2, 5, 6, 7, 26, 27] [2] ?_
 refine zgb ?_
 refine za2 ?_
 refine sS [1, 2, 5, 6, 7, 8, 26, 27] [2] ?_
 refine zbp ?_
 refine rA ?_ (x := B_eql)
 refine sc (fun hbd => ?_) (fun hbd => ?_)
 have hP : homeP c n (k : Int) = true := by unfold homeP; simp_all
 have hhit := nextSeg_hit hok hlt hP ha
 refine sS [1, 2, 5, 6, 7, 8, 26, 27] [2] ?_
 exact zh8
 have hP : homeP c n (k : Int) = false := by unfold homeP; simp_all
 refine sw_skip ?_
 refine sS [1, 2, 5, 6, 7, 8, 26, 27] [2] ?_
 refine rM ?_
 refine zd8 ?_
 refine cx 49 (fun gc sgc => ?_) (fun gc sgc => ?_)
 refine zh9 ?_
 refine rB gc ?_ (x := cL [(false, [val _]), (false, [val _])] [(false, [val _]), (false, [val _])] c_31 (hs := by exact impl_BackupOf))
 refine rB gc ?_ (x := sM)
 refine rB gc ?_ (x := B_eql)
 refine rA ?_ (x := pkT gc)
 refine rM ?_
 refine cx 56 (fun gd sgd => ?_) (fun gd sgd => ?_)
 refine rB gd ?_ (x := lF fd_31_2)
 refine rB gd ?_ (x := lD [sl .v _] ty_29)
 refine rB gd ?_ (x := sM)
 refine rB gd ?_ (x := loc_index (k := (homeOf (k : Int) c.Up.length).toNat) (by decide) sl_29 (by exact ⟨⟩) (by omega) (by exact getm2 (by omega) (by rw [upAt_eq (by omega)])) (by exact rfl))
 refine rB gd ?_ (x := lE [val _] ty_4)
 refine rB gd ?_ (x := nT)
 refine rA ?_ (x := pkT gd)
 refine sc (fun hbe => ?_) (fun hbe => ?_)
 have hB : firstIx (backP c n) 0 k = -1 ∧ backP c n (k : Int) = true := by unfold backP at *; simp_all
 refine sG [1, 2, 5, 6, 7, 8, 26, 27] [2] ?_
 refine zb8 ?_
 refine sG [1, 2, 5, 6, 7, 8, 26, 27] [2] ?_
 exact zha
 exact zhb
 refine zf gd ?_
 refine rA ?_ (x := pkF gd)
 refine scF ?_
 exact zhb
 refine zdl ?_
 refine rM ?_
 refine RunS.cases (s := 56) rfl (fun g13 => nomatch g13) (fun g13 => ?_)
 refine zf g13 ?_
 refine rA ?_ (x := pkF g13)
 refine scF ?_
 exact zhb
 have hend : nextSeg c n = firstIx (backP c n) 0 k := by rw [nextSeg_end hok fun i hi => ha i (by omega), show c.Parts.length = k by omega]
 refine sw_exit ?_
 refine sT [1, 2, 5, 6, 26, 27] [2] ?_
 exact zhc
theorem spec_NextSegment {p3 p4 p9 p10 p13 p14 : Fl} {c : Cluster} {n : Int}  (hb : wtRowSS c.Parts ≤ 68719476736) : SCall Tryz.prog 22 [(true, [val (vI c.Query.Id), val (vI c.Query.Tenant), sl .v (c.Query.Conds.map cCond), sl .v (c.Query.Out.map cInt), sl .v (c.Parts.map (cRowS p3 p4)), sl .v (c.Up.map cBool), sl .v (c.At.map cInt), sl .v (c.Pos.map cInt), sl .v (c.Buffer.map (cRowS p9 p10)), sl .v (c.Done.map cInt), sl .v (c.Rows.map (cRowS p13 p14))]), (false, [val (vI n)])] (resRV [(false, [val (vI (nextSeg c n))])]) := by
 refine sF Tryz.func22 fun h0 w0 Fz0 => ?_
 refine sn 0 2 fun hl0_2 => ?_
 refine sn 0 3 fun hl0_3 => ?_
 refine sn 0 4 fun hl0_4 => ?_
 refine sn 0 5 fun hl0_5 => ?_
 refine sn 0 6 fun hl0_6 => ?_
 refine sn 0 7 fun hl0_7 => ?_
 refine sn 0 8 fun hl0_8 => ?_
 refine sn 0 9 fun hl0_9 => ?_
 refine sn 0 10 fun hl0_10 => ?_
 refine zen ?_
 refine rK ?_
 refine sT [1, 2, 4] [2] ?_
 refine zfz ?_
 refine sS [1, 2, 4, 5] [2] ?_
 refine zhd ?_
 refine zep ?_
 refine cx 15 (fun ga sga => ?_) (fun ga sga => ?_)
 refine zdz ?_
 refine RunS.cases (s := 22) rfl (fun g2 => ?_) (fun g2 => nomatch g2)
 refine ze0 ?_
 refine rM ?_
 refine RunS.cases (s := 30) rfl (fun g3 => ?_) (fun g3 => nomatch g3)
 refine zec ?_
 refine scT ?_
 exact zhe
 refine rB ga ?_ (x := sM)
 refine rB ga ?_ (x := sM)
 refine zhf ?_
 refine ze3 ?_
 refine cx 22 (fun gb sgb => ?_) (fun gb sgb => ?_)
 refine zef ?_
 refine rM ?_
 refine RunS.cases (s := 30) rfl (fun g6 => ?_) (fun g6 => nomatch g6)
 refine zeg ?_
 refine scT ?_
 exact zhe
 refine zes ?_
 refine zh4 ?_
 refine zfg ?_
 refine rM ?_
 refine cx 30 (fun gc sgc => ?_) (fun gc sgc => ?_)
 refine zei ?_
 refine scT ?_
 exact zhe
 refine zet ?_
 refine rB gc ?_ (x := sM)
 refine rB gc ?_ (x := loc_index (k := (n).toNat) (by decide) sl_25 (by exact ⟨⟩) (by have hq := inB_iff.1 ‹inB n 0 ((c.Up.length : Int) - 1) = true›; have hl := clLen ‹isCl c = true›; omega) (by exact getm2 (by have hq := inB_iff.1 ‹inB n 0 ((c.Up.length : Int) - 1) = true›; have hl := clLen ‹isCl c = true›; omega) (by rw [atI_eq (by have hq := inB_iff.1 ‹inB n 0 ((c.Up.length : Int) - 1) = true›; have hl := clLen ‹isCl c = true›; omega)])) (by exact rfl))
 refine rB gc ?_ (x := lE [val _] ty_3)
 refine zge ?_
 refine sc (fun hba => ?_) (fun hba => ?_)
 exact zhe
 have hok : upOk c n = true ∧ atI c.At n = -1 := by unfold upOk; simp_all
 have hok2 := hok.1
 unfold upOk at hok2
 simp only [Bool.and_eq_true] at hok2
 have hl := clLen hok2.1
 have hq := inB_iff.1 hok2.2.1
 refine sw_skip ?_
 refine sS [1, 2, 4, 5] [2] ?_
 refine zby ?_
 refine sS [1, 2, 4, 5, 6] [2] ?_
 refine zg7 ?_
 refine rA ?_ (x := B_sub)
 refine zbb ?_
 refine sP [1, 2, 4, 5, 6, 7] [2] ?_
 refine sL [1, 2, 4, 5] [2] (fun m : Nat => m ≤ c.Parts.length) (fun m : Nat => [(6, RV.int (firstIx (backP c n) m (c.Parts.length - m))), (7, RV.int ((m : Int) - 1))]) (fun m : Nat => []) (fun m : Nat => m) c.Parts.length (Nat.le_refl _) (by exact aI (by exact int_eq (by rw [Nat.sub_self]; rfl)) (aI (by exact int_eq (by omega)) (tI))) (by exact ⟨⟩) ?_
 rintro m hm
 refine za4 ?_
 refine rA ?_ (x := B_geq)
 refine sc (fun hbb => ?_) (fun hbb => ?_)
 have hm1 : 1 ≤ m := by omega
 have hhm := home_in (i := (m : Int) - 1) hok2.1 (by omega)
 refine zau ?_
 refine sT [1, 2, 4, 5, 6, 7] [2] ?_
 refine zgg ?_
 refine zgx ?_
 refine rM ?_
 refine cx 50 (fun gd sgd => ?_) (fun gd sgd => ?_)
 refine zeu ?_
 refine scT ?_
 exact zhg
 refine rB gd ?_ (x := lF fd_31_3)
 refine rB gd ?_ (x := lD [sl .v _] ty_25)
 refine zhh ?_
 refine rA ?_ (x := pkF gd)
 refine sc (fun hbc => ?_) (fun hbc => ?_)
 exact zhg
 have hfree : freeB c ((m : Int) - 1) = true := by unfold freeB; simp_all
 refine zaj ?_
 refine sP [1, 2, 4, 5, 6, 7] [2] ?_
 refine zaf ?_
 refine dA 0 ?_ (x := sM)
 refine dA 3 ?_ (x := cL [(false, [val _]), (false, [val _])] [(false, [val _]), (false, [val _])] c_14 (hs := by exact spec_BackupOf))
 refine dA 0 ?_ (x := sM)
 refine dA 15 ?_ (x := B_eql)
 refine dA 31 ?_ (x := sM)
 refine dx 61 (fun ge sge => ?_) (fun ge sge => ?_)
 refine dB 63 ge ?_ (x := lF fd_31_2)
 refine dB 127 ge ?_ (x := lD [sl .v _] ty_29)
 refine dB 63 ge ?_ (x := sM)
 refine dB 63 ge ?_ (x := sM)
 refine dB 831 ge ?_ (x := cL [(false, [val _]), (false, [val _])] [(false, [val _]), (false, [val _])] c_13 (hs := by exact spec_HomeOf))
 refine dB 2047 ge ?_ (x := loc_index (k := (homeOf ((m : Int) - 1) c.Up.length).toNat) (by decide) sl_29 (by exact ⟨⟩) (by omega) (by exact getm2 (by omega) (by rw [upAt_eq (by omega)])) (by exact rfl))
 refine dB 4095 ge ?_ (x := lE [val _] ty_4)
 refine dB 8191 ge ?_ (x := nT)
 refine dA 16383 ?_ (x := pkT ge)
 refine sc (fun hbd => ?_) (fun hbd => ?_)
 have hB : backP c n ((m : Int) - 1) = true := by unfold backP; simp_all
 refine sG [1, 2, 4, 5, 6, 7] [2] ?_
 refine zb8 ?_
 exact zhi
 exact zhj
 refine dF 63 ge ?_
 refine dF 127 ge ?_
 refine dF 63 ge ?_
 refine dF 63 ge ?_
 refine dF 831 ge ?_
 refine dF 2047 ge ?_
 refine dF 4095 ge ?_
 refine dF 8191 ge ?_
 refine dA 16383 ?_ (x := pkF ge)
 refine scF ?_
 exact zhj
 have hm0 : m = 0 := by omega
 refine zay ?_
 refine sT [1, 2, 4, 5, 6, 7] [2] ?_
 refine zas ?_
 refine sP [1, 2, 4, 5, 6, 7, 8] [2] ?_
 refine sL [1, 2, 5, 6, 7] [2] (fun k : Nat => k ≤ c.Parts.length ∧ (∀ i : Nat, i < k → homeP c n (i : Int) = false)) (fun k : Nat => [(8, RV.int (k : Int))]) (fun k : Nat => []) (fun k : Nat => c.Parts.length - k) 0 (by exact ⟨by omega, fun i hi => absurd hi (Nat.not_lt_zero _)⟩) (by exact aI (by exact rfl) (tI)) (by exact ⟨⟩) ?_
 rintro k ⟨hk, ha⟩
 refine za4 ?_
 refine zg7 ?_
 refine rA ?_ (x := B_lss)
 refine sc (fun hbc => ?_) (fun hbc => ?_)
 have hlt : k < c.Parts.length := by omega
 have hhm2 := home_in (i := (k : Int)) hok2.1 (by omega)
 refine za6 ?_
 refine sT [1, 2, 5, 6, 7, 8] [2] ?_
 refine zgg ?_
 refine zgx ?_
 refine zep ?_
 refine cx 84 (fun gd sgd => ?_) (fun gd sgd => ?_)
 refine rB gd ?_ (x := lF fd_31_3)
 refine rB gd ?_ (x := lD [sl .v _] ty_25)
 refine zhh ?_
 refine rB gd ?_ (x := nT)
 refine rA ?_ (x := pkT gd)
 refine rM ?_
 refine cx 91 (fun ge sge => ?_) (fun ge sge => ?_)
 refine rB ge ?_ (x := sM)
 refine rB ge ?_ (x := sM)
 refine rB ge ?_ (x := cL [(false, [val _]), (false, [val _])] [(false, [val _]), (false, [val _])] c_13 (hs := by exact spec_HomeOf))
 refine rB ge ?_ (x := sM)
 refine rB ge ?_ (x := B_eql)
 refine rA ?_ (x := pkT ge)
 refine sc (fun hbd => ?_) (fun hbd => ?_)
 have hP : homeP c n (k : Int) = true := by unfold homeP freeB; simp_all
 have hhit := nextSeg_hit hok hlt hP ha
 refine sS [1, 2, 5, 6, 7, 8] [2] ?_
 exact zh8
 exact zhk
 refine zf ge ?_
 refine rA ?_ (x := pkF ge)
 refine scF ?_
 exact zhk
 refine zf gd ?_
 refine rA ?_ (x := pkF gd)
 refine rM ?_
 refine RunS.cases (s := 91) rfl (fun g23 => nomatch g23) (fun g23 => ?_)
 refine zf g23 ?_
 refine rA ?_ (x := pkF g23)
 refine scF ?_
 exact zhk
 have hend : nextSeg c n = firstIx (backP c n) m (c.Parts.length - m) := by rw [nextSeg_end hok fun i hi => ha i (by omega), hm0, Nat.sub_zero]
 refine sw_exit ?_
 refine sT [1, 2, 5, 6, 7, 8] [2] ?_
 exact zhc
end Go.Proofs.YtmkhofdkdklpdaaGreat
