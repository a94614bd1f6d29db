/- What functions of the program compute. No condition. -/
import Derived.Test.YtmekkgdboplbjaaCZMFnIsolation
import Derived.Test.YtmekkgdboplbjaaCFcFnIsolation
import Derived.Test.YtmekkgdboplbjaaCProgFnIsolation
import Derived.Test.YtmekkgdboplbjaaCDs7
import Derived.KernelRfl
set_option linter.unusedVariables false
set_option linter.unusedSimpArgs false
namespace Go.Proofs.Ytmekkgdboplbjaa
open Go Go.RowKit M PV
set_option maxRecDepth 10000
attribute [local irreducible] PV.Lcl PV.LclR RV.Lcl
theorem FSto_pl_45 : placesI Try.prog 45 = some [(0, 1), (1, 1)] := by kernel_rfl
theorem impl_IsVisible {v : Version} {t : Int}  : SCall Try.prog 55 [(true, [val (vI v.Id), sl .v (v.Values.map cInt), val (vI v.Born), val (vI v.Died)]), (false, [val (vI t)])] (resRV [(false, [val (.bool (visV v t))])]) := by
 refine sF Try.func55 fun h0 w0 Fz0 => ?_
 refine sn 0 1 fun hl0_1 => ?_
 refine zcs ?_
 refine rK ?_
 refine sT [1, 2, 4] [2] ?_
 refine rA ?_ (x := lF fd_107_2)
 refine rA ?_ (x := lD [val _] ty_3)
 refine rM ?_
 refine rA ?_ (x := B_leq)
 refine rM ?_
 refine cx 9 (fun ga sga => ?_) (fun ga sga => ?_)
 refine rB ga ?_ (x := lF fd_107_3)
 refine zcq ?_
 refine rB ga ?_ (x := sM)
 refine cx 13 (fun gb sgb => ?_) (fun gb sgb => ?_)
 refine zt gb ?_
 refine rB ga ?_ (x := pkT gb)
 refine rA ?_ (x := pkT ga)
 exact zct
 refine zcu ?_
 refine rB gb ?_ (x := sM)
 refine rB gb ?_ (x := B_gtr)
 refine rB ga ?_ (x := pkF gb)
 refine rA ?_ (x := pkT ga)
 exact zct
 refine zam ?_
 exact zct
theorem impl_rowOf {v : Version}  (hb : wtVersion v ≤ 68719476736) : SCall Try.prog 56 [(true, [val (vI v.Id), sl .v (v.Values.map cInt), val (vI v.Born), val (vI v.Died)])] (resRV [(true, [val (vI (rowOfV v).Id), sl (.own 3 1) ((rowOfV v).Values.map cInt)])]) := by
 refine sF Try.func56 fun h0 w0 Fz0 => ?_
 refine sn 0 1 fun hl0_1 => ?_
 have hbu := hb
 simp only [wtVersion, wtIntS_len, wtInt] at hbu
 refine zcs ?_
 refine zaz ?_
 refine zb0 ?_
 refine dA 0 ?_ (x := lF fd_107_0)
 refine dA 1 ?_ (x := lD [val _] ty_3)
 refine dA 0 ?_ (x := lF fd_107_1)
 refine zb1 ?_
 refine dA 31 ?_ (x := loc_build (qs := [(false, [val _]), (false, [sl _ _])]) (cs := [val _, sl _ _]) (by decide) z_45 zo_45 FSto_pl_45 (by exact rfl) (by exact (aI (by exact ⟨⟩) (aI (by exact ⟨⟩) tI))) rfl (by exact rfl))
 exact zb2
theorem impl_meetInTime {v : Version} {w : Version}  : SCall Try.prog 80 [(true, [val (vI v.Id), sl .v (v.Values.map cInt), val (vI v.Born), val (vI v.Died)]), (true, [val (vI w.Id), sl .v (w.Values.map cInt), val (vI w.Born), val (vI w.Died)])] (resRV [(false, [val (.bool (meetV v w))])]) := by
 refine sF Try.func80 fun h0 w0 Fz0 => ?_
 refine sn 0 1 fun hl0_1 => ?_
 refine sn 1 1 fun hl1_1 => ?_
 refine zcv ?_
 refine zcw ?_
 refine rA ?_ (x := lD [val _, sl .v _, val _, val _] ty_107)
 refine rA ?_ (x := lF fd_107_2)
 refine rA ?_ (x := lD [val _] ty_3)
 refine rA ?_ (x := cL [(true, [val _, sl _ _, val _, val _]), (false, [val _])] [(true, [val _, sl .v _, val _, val _]), (false, [val _])] c_55 (hs := by exact impl_IsVisible))
 refine rM ?_
 refine cx 9 (fun ga sga => ?_) (fun ga sga => ?_)
 refine zc4 ?_
 exact zcx
 refine rB ga ?_ (x := lD [val _, sl .v _, val _, val _] ty_107)
 refine rB ga ?_ (x := lF fd_107_2)
 refine rB ga ?_ (x := lD [val _] ty_3)
 refine rB ga ?_ (x := cL [(true, [val _, sl _ _, val _, val _]), (false, [val _])] [(true, [val _, sl .v _, val _, val _]), (false, [val _])] c_55 (hs := by exact impl_IsVisible))
 refine rA ?_ (x := pkF ga)
 exact zcx
theorem spec_l7Apart {a : Version} {b : Version}  : SCall Try.prog 69 [(true, [val (vI a.Id), sl .v (a.Values.map cInt), val (vI a.Born), val (vI a.Died)]), (true, [val (vI b.Id), sl .v (b.Values.map cInt), val (vI b.Born), val (vI b.Died)])] (resRV [(false, [val (.bool (apartV a b))])]) := by
 refine sF Try.func69 fun h0 w0 Fz0 => ?_
 refine sn 0 1 fun hl0_1 => ?_
 refine sn 1 1 fun hl1_1 => ?_
 refine zcv ?_
 refine zcw ?_
 refine zcy ?_
 refine zcy ?_
 refine rA ?_ (x := B_neq)
 refine rM ?_
 refine cx 10 (fun ga sga => ?_) (fun ga sga => ?_)
 refine zbk ?_
 refine RunS.cases (s := 22) rfl (fun g2 => ?_) (fun g2 => nomatch g2)
 refine zbl ?_
 exact zcz
 refine rB ga ?_ (x := lF fd_107_3)
 refine rB ga ?_ (x := lD [val _] ty_3)
 refine rB ga ?_ (x := B_neq)
 refine rB ga ?_ (x := sM)
 refine cx 14 (fun gb sgb => ?_) (fun gb sgb => ?_)
 refine zcu ?_
 refine rB gb ?_ (x := lF fd_107_2)
 refine rB gb ?_ (x := lD [val _] ty_3)
 refine rB gb ?_ (x := B_leq)
 refine rB ga ?_ (x := pkT gb)
 refine zbo ?_
 refine cx 22 (fun gc sgc => ?_) (fun gc sgc => ?_)
 refine zd0 ?_
 exact zcz
 refine zd1 ?_
 refine zd2 ?_
 refine cx 26 (fun gd sgd => ?_) (fun gd sgd => ?_)
 refine rB gd ?_ (x := lF fd_107_3)
 refine rB gd ?_ (x := lD [val _] ty_3)
 refine rB gd ?_ (x := lF fd_107_2)
 refine rB gd ?_ (x := lD [val _] ty_3)
 refine rB gd ?_ (x := B_leq)
 refine zd3 ?_
 exact zcz
 refine zf gd ?_
 refine zd4 ?_
 exact zcz
 refine zf gb ?_
 refine rB ga ?_ (x := pkF gb)
 refine zbo ?_
 refine RunS.cases (s := 22) rfl (fun g6 => nomatch g6) (fun g6 => ?_)
 refine rB g6 ?_ (x := lF fd_107_3)
 refine rB g6 ?_ (x := lD [val _] ty_3)
 refine rB g6 ?_ (x := B_neq)
 refine rB g6 ?_ (x := sM)
 refine cx 26 (fun gc sgc => ?_) (fun gc sgc => ?_)
 refine zd1 ?_
 refine rB gc ?_ (x := lF fd_107_2)
 refine rB gc ?_ (x := lD [val _] ty_3)
 refine rB gc ?_ (x := B_leq)
 refine rB g6 ?_ (x := pkT gc)
 refine rA ?_ (x := pkF g6)
 exact zcz
 refine zf gc ?_
 refine rB g6 ?_ (x := pkF gc)
 refine rA ?_ (x := pkF g6)
 exact zcz
theorem spec_l7Version {v : Version} {now : Int}  (hn : now ≤ 100000) : SCall Try.prog 68 [(true, [val (vI v.Id), sl .v (v.Values.map cInt), val (vI v.Born), val (vI v.Died)]), (false, [val (vI now)])] (resRV [(false, [val (.bool (verOk now v))])]) := by
 refine sF Try.func68 fun h0 w0 Fz0 => ?_
 refine sn 0 1 fun hl0_1 => ?_
 refine zcs ?_
 refine rK ?_
 refine sT [1, 2, 4] [2] ?_
 refine zcy ?_
 refine rA ?_ (x := lF fd_107_1)
 refine rA ?_ (x := lD [sl .v _] ty_27)
 refine rA ?_ (x := loc_build (qs := [(false, [val _]), (false, [sl _ _])]) (cs := [val _, sl _ _]) (by decide) z_45 zo_45 FSto_pl_45 (by exact rfl) (by exact (aI (by exact ⟨⟩) (aI (by exact ⟨⟩) tI))) rfl (by exact rfl))
 refine rA ?_ (x := cL [(true, [val _, sl _ _])] [(true, [val _, sl .v _])] c_90 (hs := by exact (spec_IsRow (x := ⟨v.Id, v.Values⟩))))
 refine rM ?_
 refine cx 11 (fun ga sga => ?_) (fun ga sga => ?_)
 refine rB ga ?_ (x := lF fd_107_2)
 refine rB ga ?_ (x := lD [val _] ty_3)
 refine zd5 ?_
 refine zb9 ?_
 refine cx 17 (fun gb sgb => ?_) (fun gb sgb => ?_)
 refine zcu ?_
 refine rB gb ?_ (x := B_eql)
 refine rB gb ?_ (x := sM)
 refine cx 21 (fun gc sgc => ?_) (fun gc sgc => ?_)
 refine zt gc ?_
 refine rB gb ?_ (x := pkT gc)
 refine rA ?_ (x := pkT gb)
 exact zd6
 refine zd1 ?_
 refine rB gc ?_ (x := lF fd_107_2)
 refine rB gc ?_ (x := lD [val _] ty_3)
 refine rB gc ?_ (x := loc_add (by decide) (by exact ⟨⟩) (ok_sc rfl) (by simp only [inB, Bool.and_eq_true, decide_eq_true_eq] at *; unfold I64; omega))
 refine rB gc ?_ (x := sM)
 refine rB gc ?_ (x := cL [(false, [val _]), (false, [val _]), (false, [val _])] [(false, [val _]), (false, [val _]), (false, [val _])] c_66 (hs := by exact spec_l1In))
 refine rB gb ?_ (x := pkF gc)
 refine rA ?_ (x := pkT gb)
 exact zd6
 refine zf gb ?_
 refine rA ?_ (x := pkF gb)
 exact zd6
 refine zbf ?_
 refine RunS.cases (s := 17) rfl (fun g4 => nomatch g4) (fun g4 => ?_)
 refine zbe ?_
 exact zd6
theorem spec_l7All {p1 p2 : Fl} {s : Store}  (hb : wtStore s ≤ 68719476736) : SCall Try.prog 67 [(true, [sl .v (s.Segments.map (cVersionS p1 p2)), val (vI s.Now)])] (resRV [(false, [sl (.own 107 4) ((allV s).map (cVersion .v))])]) := by
 refine sF Try.func67 fun h0 w0 Fz0 => ?_
 refine sn 0 0 fun hl0_0 => ?_
 refine zd7 ?_
 refine rA ?_ (x := loc_const (.inr rfl) (by decide) (ok_nil (t := 107) (e := 4)))
 refine sT [1, 2] [1] ?_
 refine zd8 ?_
 refine sw_seq ?_
 refine sS [1, 2, 3] [1] ?_
 refine zao ?_
 refine sP [1, 2, 3, 4] [1] ?_
 refine sL [1, 2] [1] (fun k : Nat => k ≤ s.Segments.length) (fun k : Nat => [(3, RV.slc (.own 107 4) ((preN s k).map (cVersion .v))), (4, RV.int (k : Int))]) (fun k : Nat => []) (fun k : Nat => s.Segments.length - k) 0 (by omega) (by exact aI (by exact rfl) (aI (by exact rfl) (tI))) (by exact ⟨⟩) ?_
 rintro k hk
 refine zap ?_
 refine zd9 ?_
 refine sc (fun hba => ?_) (fun hba => ?_)
 have hlt : k < s.Segments.length := by omega
 have hal := allV_len s
 have hsp := congrArg List.length (allV_split hlt)
 simp only [List.length_append] at hsp
 refine za6 ?_
 refine sH [1, 2, 3, 4] [1] ?_
 refine rA ?_ (x := tM)
 refine zda ?_
 refine rM ?_
 refine rA ?_ (x := loc_index (by decide) sl_24 (by exact ⟨⟩) (by exact rfl) (by exact getm2 (by omega) rfl) (by exact rfl))
 refine rA ?_ (x := loc_eload (qs := [sl .v _]) (by decide) ty_71 (fun _ => rfl) (by exact nl rfl) (by exact (ToL.cons (PV.to_map (fun _ => (ToL.cons (PV.To.refl _) (ToL.cons (PV.to_map (fun _ => (ToL.cons (PV.To.refl _) ToL.nil))) (ToL.cons (PV.To.refl _) (ToL.cons (PV.To.refl _) ToL.nil)))))) ToL.nil)) (by exact (BorL.cons (bor_sl _) BorL.nil)))
 refine rA ?_ (x := loc_appendb (by decide) sl_71 z_107 rfl rfl (by decide) (by first | (intro cs hcs; obtain ⟨x, _, rfl⟩ := List.mem_map.1 hcs; exact rfl) | simp) (by first | (intro cs hcs; obtain ⟨x, _, rfl⟩ := List.mem_map.1 hcs; exact (by exact lq)) | simp) (by simp only [List.length_map, List.length_append, List.length_cons, List.length_nil]; omega) (by simp only [List.length_map, List.length_append, List.length_cons, List.length_nil]; omega))
 refine rA ?_ (x := tA)
 refine sG [1, 2, 3, 4] [1] ?_
 refine zdb ?_
 refine nx (k + 1) (by omega) (e := (by exact aI (by exact slc_eq (by rw [preN_succ hlt, List.map_append]; rfl)) (aI (by exact rfl) (tI))))
 have hend : k = s.Segments.length := by omega
 refine sw_exit ?_
 refine sT [1, 2, 3, 4] [1] ?_
 refine zdc ?_
 exact (aI (by refine slc_eq ?_; rw [hend, allV_end]) tI)
theorem spec_IsStore {p1 p2 : Fl} {s : Store}  (hb : wtStore s ≤ 68719476736) : SCall Try.prog 34 [(true, [sl .v (s.Segments.map (cVersionS p1 p2)), val (vI s.Now)])] (resRV [(false, [val (.bool (okStore s))])]) := by
 refine sF Try.func34 fun h0 w0 Fz0 => ?_
 refine sn 0 0 fun hl0_0 => ?_
 refine zd7 ?_
 refine zaf ?_
 refine zdd ?_
 refine rA ?_ (x := cL [(false, [val _]), (false, [val _]), (false, [val _])] [(false, [val _]), (false, [val _]), (false, [val _])] c_66 (hs := by exact spec_l1In))
 refine zbj ?_
 refine cx 12 (fun ga sga => ?_) (fun ga sga => ?_)
 exact zde
 refine rB ga ?_ (x := lF fd_26_1)
 refine rB ga ?_ (x := lD [val _] ty_3)
 refine rB ga ?_ (x := cL [(false, [val _]), (false, [val _]), (false, [val _])] [(false, [val _]), (false, [val _]), (false, [val _])] c_66 (hs := by exact spec_l1In))
 refine zc6 ?_
 refine sc (fun hba => ?_) (fun hba => ?_)
 exact zdf
 have hpr : stoPre s = true := by simp_all [stoPre]
 have hnow : 0 ≤ s.Now ∧ s.Now ≤ 100000 := by have h_ := hpr; simp [stoPre, inB] at h_; omega
 refine zbr ?_
 refine sS [1, 2] [1] ?_
 refine zao ?_
 refine sP [1, 2, 3] [1] ?_
 refine sL [1] [1] (fun k : Nat => k ≤ s.Segments.length ∧ (s.Segments.take k).all smallS = true) (fun k : Nat => [(3, RV.int (k : Int))]) (fun k : Nat => []) (fun k : Nat => s.Segments.length - k) 0 (by exact ⟨by omega, by simp⟩) (by exact aI (by exact rfl) (tI)) (by exact ⟨⟩) ?_
 rintro k ⟨hk, ha⟩
 refine zap ?_
 refine zd9 ?_
 refine sc (fun hbb => ?_) (fun hbb => ?_)
 have hlt : k < s.Segments.length := by omega
 refine za6 ?_
 refine sT [1, 3] [1] ?_
 refine zda ?_
 refine rM ?_
 refine zdg ?_
 refine rA ?_ (x := lN sl_71)
 refine rA ?_ (x := B_gtr)
 refine sc (fun hbc => ?_) (fun hbc => ?_)
 have hbad : okStore s = false := sto_big hlt (by omega)
 refine sS [1, 3] [1] ?_
 exact zdh
 have hyes : smallS s.Segments[k] = true := by simp [smallS]; omega
 exact zar
 have hsm : s.Segments.all smallS = true := all_end (by rw [show s.Segments.length = k by omega]; exact ha)
 have hal := allV_len s
 refine sw_exit ?_
 refine sT [1, 3] [1] ?_
 refine zdi ?_
 refine rA ?_ (x := tA)
 refine sw_seq ?_
 refine sS [1, 3, 4] [1] ?_
 refine zao ?_
 refine sP [1, 3, 4, 5] [1] ?_
 refine sL [1, 3, 4] [1] (fun i : Nat => i ≤ (allV s).length ∧ goodTo s.Now (allV s) i = true) (fun i : Nat => [(5, RV.int (i : Int))]) (fun i : Nat => []) (fun i : Nat => (allV s).length - i) 0 (by exact ⟨by omega, rfl⟩) (by exact aI (by exact rfl) (tI)) (by exact ⟨⟩) ?_
 rintro i ⟨hi, hg⟩
 refine zap ?_
 refine zdj ?_
 refine rA ?_ (x := B_lss)
 refine sc (fun hbc => ?_) (fun hbc => ?_)
 have hlt2 : i < (allV s).length := by omega
 refine za6 ?_
 refine zdk ?_
 refine sQ [1, 3, 4, 5] [1] ?_
 refine zdl ?_
 refine zdm ?_
 refine dA 0 ?_ (x := lF fd_26_1)
 refine dA 16 ?_ (x := lD [val _] ty_3)
 refine dA 63 ?_ (x := cL [(true, [val _, sl _ _, val _, val _]), (false, [val _])] [(true, [val _, sl .v _, val _, val _]), (false, [val _])] c_68 (hs := by exact (spec_l7Version (by omega))))
 refine dA 127 ?_ (x := nT)
 refine sc (fun hbd => ?_) (fun hbd => ?_)
 have hvo : verOk s.Now ((allV s).getD i v0) = false := by simp_all
 have hbad := sto_no hlt2 (good_no1 hvo)
 refine sS [1, 3, 4, 5] [1] ?_
 exact zdh
 have hvo : verOk s.Now ((allV s).getD i v0) = true := by simp_all
 refine sw_skip ?_
 refine sS [1, 3, 4, 5] [1] ?_
 refine zao ?_
 refine sP [1, 3, 4, 5, 6] [1] ?_
 refine sL [1, 3, 4, 5] [1] (fun m : Nat => m ≤ i ∧ freeOf (allV s) i m = true) (fun m : Nat => [(6, RV.int (m : Int))]) (fun m : Nat => []) (fun m : Nat => i - m) 0 (by exact ⟨by omega, rfl⟩) (by exact aI (by exact rfl) (tI)) (by exact ⟨⟩) ?_
 rintro m ⟨hm, hfr⟩
 refine zap ?_
 refine rM ?_
 refine rA ?_ (x := B_lss)
 refine sc (fun hbe => ?_) (fun hbe => ?_)
 have hlt3 : m < i := by omega
 have hlt4 : m < (allV s).length := by omega
 refine zdn ?_
 refine sQ [1, 3, 4, 5, 6] [1] ?_
 refine zdl ?_
 refine zdm ?_
 refine zdo ?_
 refine dA 48 ?_ (x := loc_index (k := m) (by decide) sl_71 (by exact ⟨⟩) (by rfl) (by exact getm2 hlt4 (by rw [gDt_ (d := v0) hlt4])) (by exact rfl))
 refine dA 112 ?_ (x := lE [val _, sl .v _, val _, val _] ty_107)
 refine dA 255 ?_ (x := cL [(true, [val _, sl _ _, val _, val _]), (true, [val _, sl _ _, val _, val _])] [(true, [val _, sl .v _, val _, val _]), (true, [val _, sl .v _, val _, val _])] c_69 (hs := by exact spec_l7Apart))
 refine dA 511 ?_ (x := nT)
 refine sc (fun hbf => ?_) (fun hbf => ?_)
 have hap : apartV ((allV s).getD i v0) ((allV s).getD m v0) = false := by simp_all
 have hbad := sto_no hlt2 (good_no2 hlt3 hap)
 refine sS [1, 3, 4, 5, 6] [1] ?_
 exact zdh
 have hap : apartV ((allV s).getD i v0) ((allV s).getD m v0) = true := by simp_all
 refine sw_skip ?_
 refine sG [1, 3, 4, 5, 6] [1] ?_
 refine zdb ?_
 exact zdp
 have hend2 : m = i := by omega
 refine sw_exit ?_
 refine sH [1, 3, 4, 5, 6] [1] ?_
 refine zdb ?_
 refine nx (i + 1) (by refine ⟨by omega, ?_⟩; rw [goodTo_succ, hg, Bool.true_and]; unfold goodV; rw [hvo, Bool.true_and, ← hend2]; rw [hend2] at hfr ⊢; exact hfr)
 have hend1 : i = (allV s).length := by omega
 rw [hend1] at hg
 refine sw_exit ?_
 refine sT [1, 3, 4, 5] [1] ?_
 refine za9 ?_
 exact rb (by unfold okStore; rw [hpr, hsm, hg]; rfl)
theorem impl_IsStore {p1 p2 : Fl} {s : Store}  (hb : wtStore s ≤ 68719476736) : SCall Try.prog 46 [(true, [sl .v (s.Segments.map (cVersionS p1 p2)), val (vI s.Now)])] (resRV [(false, [val (.bool (okStore s))])]) := by
 refine sF Try.func46 fun h0 w0 Fz0 => ?_
 refine sn 0 0 fun hl0_0 => ?_
 have hbu := hb
 simp only [wtStore, wtVersionSS, wtInt] at hbu
 refine zd7 ?_
 refine zaf ?_
 refine zdd ?_
 refine zah ?_
 refine rM ?_
 refine cx 15 (fun ga sga => ?_) (fun ga sga => ?_)
 exact zde
 refine rB ga ?_ (x := lF fd_26_1)
 refine zbn ?_
 refine rA ?_ (x := pkF ga)
 refine sc (fun hba => ?_) (fun hba => ?_)
 exact zdf
 have hpr : stoPre s = true := by simp_all [stoPre]
 have hnow : 0 ≤ s.Now ∧ s.Now ≤ 100000 := by have h_ := hpr; simp [stoPre, inB] at h_; omega
 have hal := allV_len s
 refine sw_skip ?_
 refine sS [1, 2] [1] ?_
 refine zd8 ?_
 refine sw_seq ?_
 refine sS [1, 2, 3] [1] ?_
 refine zdd ?_
 refine za4 ?_
 refine sP [1, 2, 3, 23, 24, 25] [1] ?_
 refine sL [1, 23, 24] [1] (fun k : Nat => k ≤ s.Segments.length ∧ ((s.Segments.take k).all smallS = true ∧ goodTo s.Now (allV s) (preN s k).length = true)) (fun k : Nat => [(3, RV.slc (.own 107 4) ((preN s k).map (cVersion .v))), (25, RV.int (k : Int))]) (fun k : Nat => []) (fun k : Nat => s.Segments.length - k) 0 (by exact ⟨by omega, ⟨by simp, rfl⟩⟩) (by exact aI (by exact rfl) (aI (by exact rfl) (tI))) (by exact ⟨⟩) ?_
 rintro k ⟨hk, ha⟩
 refine za5 ?_
 refine sc (fun hbb => ?_) (fun hbb => ?_)
 have hlt : k < s.Segments.length := by omega
 have hwm := wt_mem (f := wtVersionS) hlt
 have hws : wtVersionS s.Segments[k] = s.Segments[k].length + (s.Segments[k].map wtVersion).sum := rfl
 refine za6 ?_
 refine sT [1, 3, 23, 24, 25] [1] ?_
 refine zdq ?_
 refine sw_seq ?_
 refine sS [1, 3, 5, 23, 24, 25] [1] ?_
 refine zdj ?_
 refine rA ?_ (x := B_gtr)
 refine sc (fun hbc => ?_) (fun hbc => ?_)
 have hbad : okStore s = false := sto_big hlt (by omega)
 refine sS [1, 3, 5, 23, 24, 25] [1] ?_
 exact zdh
 have hyes : smallS s.Segments[k] = true := by simp [smallS]; omega
 refine sw_skip ?_
 refine sS [1, 3, 5, 23, 24, 25] [1] ?_
 refine zdr ?_
 refine sP [1, 3, 5, 23, 24, 25, 32, 33, 34] [1] ?_
 refine sL [1, 5, 23, 24, 25, 32, 33] [1] (fun j : Nat => j ≤ s.Segments[k].length ∧ goodTo s.Now (allV s) ((preN s k).length + j) = true) (fun j : Nat => [(3, RV.slc (.own 107 4) ((preN s k ++ s.Segments[k].take j).map (cVersion .v))), (34, RV.int (j : Int))]) (fun j : Nat => []) (fun j : Nat => s.Segments[k].length - j) 0 (by exact ⟨by omega, ha.2⟩) (by exact aI (by exact slc_eq (by simp)) (aI (by exact rfl) (tI))) (by exact ⟨⟩) ?_
 rintro j ⟨hj, hg⟩
 refine za5 ?_
 refine sc (fun hbd => ?_) (fun hbd => ?_)
 have hlt2 : j < s.Segments[k].length := by omega
 have hwm2 := wt_mem (f := wtVersion) hlt2
 have hag := allV_get hlt hlt2
 have hat := allV_take hlt (Nat.le_of_lt hlt2)
 have hln : (preN s k ++ s.Segments[k].take j).length = (preN s k).length + j := by rw [List.length_append, List.length_take]; omega
 have hlm : (s.Segments[k].take j).length = j := by rw [List.length_take]; omega
 refine za6 ?_
 refine sT [1, 3, 5, 23, 24, 25, 32, 33, 34] [1] ?_
 refine zds ?_
 refine zdt ?_
 refine zdk ?_
 refine sO [(1, _), (3, _), (5, _), (7, _), (23, _), (24, _), (25, _), (32, _), (33, _), (34, _)] [(1, _), (7, (107, [val _, sl _ _, val _, val _]))] ?_
 refine sw_reg ?_
 refine zdu ?_
 refine rA ?_ (x := cL [(true, [val _, sl _ _])] [(true, [val _, sl .v _])] c_57 (hs := by exact impl_IsRow))
 refine zbj ?_
 refine cx 42 (fun gb sgb => ?_) (fun gb sgb => ?_)
 refine zt gb ?_
 refine zba ?_
 refine RunS.cases (s := 50) rfl (fun g8 => ?_) (fun g8 => nomatch g8)
 refine zt g8 ?_
 refine rA ?_ (x := pkT g8)
 refine scT ?_
 exact zdv
 refine rB gb ?_ (x := lF fd_107_2)
 refine rB gb ?_ (x := lD [val _] ty_3)
 refine rB gb ?_ (x := lF fd_26_1)
 refine zdw ?_
 refine rB gb ?_ (x := nT)
 refine zdx ?_
 refine cx 50 (fun gc sgc => ?_) (fun gc sgc => ?_)
 refine zd0 ?_
 refine scT ?_
 exact zdv
 refine zd1 ?_
 refine zd2 ?_
 refine cx 54 (fun gd sgd => ?_) (fun gd sgd => ?_)
 refine rB gd ?_ (x := lF fd_107_3)
 refine rB gd ?_ (x := lD [val _] ty_3)
 refine rB gd ?_ (x := lF fd_107_2)
 refine rB gd ?_ (x := lD [val _] ty_3)
 refine rB gd ?_ (x := loc_add (by decide) (by exact ⟨⟩) (ok_sc rfl) (by simp only [inB, Bool.and_eq_true, decide_eq_true_eq] at *; unfold I64; omega))
 refine rB gd ?_ (x := lF fd_26_1)
 refine zdy ?_
 refine rB gd ?_ (x := nT)
 refine zd3 ?_
 refine sc (fun hbe => ?_) (fun hbe => ?_)
 exact zdv
 have hvo : verOk s.Now s.Segments[k][j] = true := by first | (simp_all [verOk, rowOfV]; done) | (simp_all [verOk, rowOfV]; omega)
 refine zbr ?_
 refine sS [1, 3, 5, 7, 23, 24, 25, 32, 33, 34] [1, 7] ?_
 refine zdr ?_
 refine zdz ?_
 rintro m ⟨hm, hfr⟩
 refine za5 ?_
 refine sc (fun hbf => ?_) (fun hbf => ?_)
 have hlt3 : m < (preN s k).length + j := by omega
 have hlt4 : m < (preN s k ++ s.Segments[k].take j).length := by omega
 have hsg : (preN s k ++ s.Segments[k].take j)[m] = (allV s).getD m v0 := by rw [gDt_ (d := v0) hlt4, hat, List.getD_eq_getElem?_getD, List.getElem?_take_of_lt hlt3, ← List.getD_eq_getElem?_getD]
 have hvm := goodTo_at hg hlt3
 have hma := meet_apart hvo hvm
 rw [← hag.2] at hma
 refine za6 ?_
 refine ze0 ?_
 refine rA ?_ (x := lE [val _, sl .v _, val _, val _] ty_107)
 refine zdt ?_
 refine ze1 ?_
 refine sw_reg ?_
 refine zcy ?_
 refine zcy ?_
 refine zc0 ?_
 refine cx 77 (fun ge sge => ?_) (fun ge sge => ?_)
 refine rB ge ?_ (x := lD [val _, sl .v _, val _, val _] ty_107)
 refine ze2 ?_
 refine rA ?_ (x := pkT ge)
 refine sc (fun hbg => ?_) (fun hbg => ?_)
 exact ze3
 exact ze4
 exact ze5
 exact ze6
 refine zf gd ?_
 refine zd4 ?_
 refine scF ?_
 have hvo : verOk s.Now s.Segments[k][j] = true := by first | (simp_all [verOk, rowOfV]; done) | (simp_all [verOk, rowOfV]; omega)
 refine zbr ?_
 refine sS [1, 3, 5, 7, 23, 24, 25, 32, 33, 34] [1, 7] ?_
 refine zdr ?_
 refine zdz ?_
 rintro m ⟨hm, hfr⟩
 refine za5 ?_
 refine sc (fun hbe => ?_) (fun hbe => ?_)
 have hlt3 : m < (preN s k).length + j := by omega
 have hlt4 : m < (preN s k ++ s.Segments[k].take j).length := by omega
 have hsg : (preN s k ++ s.Segments[k].take j)[m] = (allV s).getD m v0 := by rw [gDt_ (d := v0) hlt4, hat, List.getD_eq_getElem?_getD, List.getElem?_take_of_lt hlt3, ← List.getD_eq_getElem?_getD]
 have hvm := goodTo_at hg hlt3
 have hma := meet_apart hvo hvm
 rw [← hag.2] at hma
 refine za6 ?_
 refine ze0 ?_
 refine rA ?_ (x := lE [val _, sl .v _, val _, val _] ty_107)
 refine zdt ?_
 refine ze1 ?_
 refine sw_reg ?_
 refine zcy ?_
 refine zcy ?_
 refine zc0 ?_
 refine cx 77 (fun ge sge => ?_) (fun ge sge => ?_)
 refine rB ge ?_ (x := lD [val _, sl .v _, val _, val _] ty_107)
 refine ze2 ?_
 refine rA ?_ (x := pkT ge)
 refine sc (fun hbf => ?_) (fun hbf => ?_)
 exact ze3
 exact ze4
 exact ze5
 exact ze6
 have hend2 : j = s.Segments[k].length := by omega
 refine sw_exit ?_
 refine sH [1, 3, 5, 23, 24, 25, 32, 33, 34] [1] ?_
 refine zaa ?_
 refine nx (k + 1) (by exact ⟨by omega, ⟨all_succ ha.1 hlt hyes, by rw [preN_succ hlt, List.length_append, ← hend2]; exact hg⟩⟩) (e := (by exact aI (by exact slc_eq (by rw [hend2, List.take_length, preN_succ hlt])) (aI (by exact rfl) (tI))))
 have hend : k = s.Segments.length := by omega
 have hsm : s.Segments.all smallS = true := all_end (by rw [← hend]; exact ha.1)
 have hgd := ha.2
 rw [hend, allV_end] at hgd
 refine sw_exit ?_
 refine sT [1, 3, 23, 24, 25] [1] ?_
 refine za9 ?_
 exact rb (by unfold okStore; rw [hpr, hsm, hgd]; rfl)
end Go.Proofs.Ytmekkgdboplbjaa
