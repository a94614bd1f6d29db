/- What functions of the program compute. No condition. -/
import Derived.Test.YtmekkgdboplbjaaCZMFnIsolation
import Derived.Test.YtmekkgdboplbjaaCFcFnIsolation
import Derived.Test.YtmekkgdboplbjaaCCpyFnIsolation
import Derived.Test.YtmekkgdboplbjaaCRclFnIsolation
import Derived.Test.YtmekkgdboplbjaaCDup
import Derived.Test.YtmekkgdboplbjaaCF2
import Derived.KernelRfl
set_option linter.unusedVariables false
set_option linter.unusedSimpArgs false
namespace Go.Proofs.Ytmekkgdboplbjaa
open Go Go.RowKit M PV
set_option maxRecDepth 10000
attribute [local irreducible] PV.Lcl PV.LclR RV.Lcl
set_option maxHeartbeats 8000000
theorem FUpd_pl_107 : placesI Try.prog 107 = some [(0, 1), (1, 1), (2, 1), (3, 1)] := by kernel_rfl
theorem FUpd_ub_4 : Try.prog.underlying 4 = some .bool := by kernel_rfl
theorem impl_findAlive {p1 p2 : Fl} {s : Store} {id : Int}  (hb : wtStore s ≤ 68719476736) : SCall Try.prog 88 [(true, [sl .v (s.Segments.map (cVersionS p1 p2)), val (vI s.Now)]), (false, [val (vI id)])] (resRV [(false, [val (vI (findI s id))]), (false, [val (vI (findK s id))])]) := by
 refine sF Try.func88 fun h0 w0 Fz0 => ?_
 refine sn 0 0 fun hl0_0 => ?_
 have hbu := hb
 simp only [wtStore, wtVersionSS, wtInt] at hbu
 refine zd7 ?_
 refine rK ?_
 refine zbz ?_
 refine sT [1, 2, 4, 5] [2] ?_
 refine zdd ?_
 refine za4 ?_
 refine sP [1, 2, 4, 5, 11, 12, 13] [2] ?_
 refine sL [1, 2, 11, 12] [2] (fun i : Nat => i ≤ s.Segments.length ∧ (s.Segments.take i).any (hasAl id) = false) (fun i : Nat => [(13, RV.int (i : Int))]) (fun i : Nat => []) (fun i : Nat => s.Segments.length - i) 0 (by exact ⟨by omega, rfl⟩) (by exact aI (by exact rfl) (tI)) (by exact ⟨⟩) ?_
 rintro i ⟨hi, ha⟩
 refine za5 ?_
 refine sc (fun hba => ?_) (fun hba => ?_)
 have hlt : i < s.Segments.length := by omega
 have hwm := wt_mem (f := wtVersionS) hlt
 have hws : wtVersionS s.Segments[i] = s.Segments[i].length + (s.Segments[i].map wtVersion).sum := rfl
 refine za6 ?_
 refine sT [1, 2, 11, 12, 13] [2] ?_
 refine rM ?_
 refine zdg ?_
 refine rS ?_
 refine rA ?_ (x := vA false [sl .v _])
 refine sS [1, 2, 6, 7, 11, 12, 13] [2] ?_
 refine zdr ?_
 refine sP [1, 2, 6, 7, 11, 12, 13, 18, 19, 20] [2] ?_
 refine sL [1, 2, 6, 7, 11, 12, 13, 18, 19] [2] (fun j : Nat => j ≤ s.Segments[i].length ∧ (s.Segments[i].take j).any (aliveP id) = false) (fun j : Nat => [(20, RV.int (j : Int))]) (fun j : Nat => []) (fun j : Nat => s.Segments[i].length - j) 0 (by exact ⟨by omega, rfl⟩) (by exact aI (by exact rfl) (tI)) (by exact ⟨⟩) ?_
 rintro j ⟨hj, hc⟩
 refine za5 ?_
 refine sc (fun hbb => ?_) (fun hbb => ?_)
 have hlt2 : j < s.Segments[i].length := by omega
 refine za6 ?_
 refine sT [1, 2, 6, 7, 11, 12, 13, 18, 19, 20] [2] ?_
 refine rM ?_
 refine zds ?_
 refine rX ?_ (x := (loc_alloc (by decide) z_107 zo_107))
 refine rS ?_
 refine rA ?_ (x := loc_store (ag := true) (vs := [val _, sl _ _, val _, val _]) ty_107 (by exact ⟨⟩) (by exact rfl) (by exact nl rfl))
 refine sw_seq ?_
 refine sO [(1, _), (2, _), (6, _), (7, _), (8, _), (9, _), (11, _), (12, _), (13, _), (18, _), (19, _), (20, _)] [(2, _), (9, (107, [val _, sl _ _, val _, val _]))] ?_
 refine sw_reg ?_
 refine zcy ?_
 refine rM ?_
 refine zc0 ?_
 refine cx 29 (fun ga sga => ?_) (fun ga sga => ?_)
 refine rB ga ?_ (x := lF fd_107_3)
 refine zcq ?_
 refine rA ?_ (x := pkT ga)
 refine sc (fun hbc => ?_) (fun hbc => ?_)
 have hyy : aliveP id s.Segments[i][j] = true := by first | (simp_all [aliveP]; done) | (unfold aliveP; simp_all)
 have hfa := find_at hlt ha hlt2 hc hyy
 refine sS [1, 2, 6, 7, 8, 9, 11, 12, 13, 18, 19, 20] [2, 9] ?_
 exact zgx
 exact zgy
 refine zc2 ?_
 exact zgy
 have hno1 : hasAl id s.Segments[i] = false := by unfold hasAl; rw [show j = s.Segments[i].length by omega, List.take_length] at hc; exact hc
 refine sw_exit ?_
 refine sH [1, 2, 6, 7, 11, 12, 13, 18, 19, 20] [2] ?_
 refine zaa ?_
 exact zgz
 have hend : i = s.Segments.length := by omega
 have hfn := find_none (s := s) (id := id) (by rw [hend, List.take_length] at ha; exact ha)
 refine sw_exit ?_
 refine sT [1, 2, 11, 12, 13] [2] ?_
 exact zh0
theorem spec_l8Find {p1 p2 : Fl} {s : Store} {id : Int}  (hb : wtStore s ≤ 68719476736) : SCall Try.prog 75 [(true, [sl .v (s.Segments.map (cVersionS p1 p2)), val (vI s.Now)]), (false, [val (vI id)])] (resRV [(false, [val (vI (findI s id))]), (false, [val (vI (findK s id))])]) := by
 refine sF Try.func75 fun h0 w0 Fz0 => ?_
 refine sn 0 0 fun hl0_0 => ?_
 have hbu := hb
 simp only [wtStore, wtVersionSS, wtInt] at hbu
 refine zd7 ?_
 refine rK ?_
 refine zbz ?_
 refine sT [1, 2, 4, 5] [2] ?_
 refine zao ?_
 refine sP [1, 2, 4, 5, 6] [2] ?_
 refine sL [1, 2] [2] (fun i : Nat => i ≤ s.Segments.length ∧ (s.Segments.take i).any (hasAl id) = false) (fun i : Nat => [(6, RV.int (i : Int))]) (fun i : Nat => []) (fun i : Nat => s.Segments.length - i) 0 (by exact ⟨by omega, rfl⟩) (by exact aI (by exact rfl) (tI)) (by exact ⟨⟩) ?_
 rintro i ⟨hi, ha⟩
 refine zap ?_
 refine zd9 ?_
 refine sc (fun hba => ?_) (fun hba => ?_)
 have hlt : i < s.Segments.length := by omega
 have hwm := wt_mem (f := wtVersionS) hlt
 have hws : wtVersionS s.Segments[i] = s.Segments[i].length + (s.Segments[i].map wtVersion).sum := rfl
 refine za6 ?_
 refine sT [1, 2, 6] [2] ?_
 refine zao ?_
 refine sP [1, 2, 6, 7] [2] ?_
 refine sL [1, 2, 6] [2] (fun j : Nat => j ≤ s.Segments[i].length ∧ (s.Segments[i].take j).any (aliveP id) = false) (fun j : Nat => [(7, RV.int (j : Int))]) (fun j : Nat => []) (fun j : Nat => s.Segments[i].length - j) 0 (by exact ⟨by omega, rfl⟩) (by exact aI (by exact rfl) (tI)) (by exact ⟨⟩) ?_
 rintro j ⟨hj, hc⟩
 refine zap ?_
 refine zda ?_
 refine rM ?_
 refine zdg ?_
 refine zh1 ?_
 refine sc (fun hbb => ?_) (fun hbb => ?_)
 have hlt2 : j < s.Segments[i].length := by omega
 refine za6 ?_
 refine sT [1, 2, 6, 7] [2] ?_
 refine zda ?_
 refine rM ?_
 refine zdg ?_
 refine rM ?_
 refine rA ?_ (x := loc_index (by decide) sl_71 (by exact ⟨⟩) (by exact rfl) (by exact getm2 (by omega) rfl) (by exact rfl))
 refine zh2 ?_
 refine rM ?_
 refine zc0 ?_
 refine cx 36 (fun ga sga => ?_) (fun ga sga => ?_)
 refine rB ga ?_ (x := lF fd_26_0)
 refine rB ga ?_ (x := lD [sl .v _] ty_24)
 refine rB ga ?_ (x := sM)
 refine rB ga ?_ (x := loc_index (by decide) sl_24 (by exact ⟨⟩) (by exact rfl) (by exact getm2 (by omega) rfl) (by exact rfl))
 refine rB ga ?_ (x := lE [sl .v _] ty_71)
 refine rB ga ?_ (x := sM)
 refine rB ga ?_ (x := loc_index (by decide) sl_71 (by exact ⟨⟩) (by exact rfl) (by exact getm2 (by omega) rfl) (by exact rfl))
 refine rB ga ?_ (x := loc_efield (by decide) fd_107_3 (by exact nl rfl))
 refine rB ga ?_ (x := lE [val _] ty_3)
 refine rB ga ?_ (x := B_eql)
 refine rA ?_ (x := pkT ga)
 refine sc (fun hbc => ?_) (fun hbc => ?_)
 have hyy : aliveP id s.Segments[i][j] = true := by first | (simp_all [aliveP]; done) | (unfold aliveP; simp_all)
 have hfa := find_at hlt ha hlt2 hc hyy
 refine sS [1, 2, 6, 7] [2] ?_
 exact zgx
 exact zh3
 refine zc2 ?_
 exact zh3
 have hno1 : hasAl id s.Segments[i] = false := by unfold hasAl; rw [show j = s.Segments[i].length by omega, List.take_length] at hc; exact hc
 refine sw_exit ?_
 refine sH [1, 2, 6, 7] [2] ?_
 refine zdb ?_
 exact zgz
 have hend : i = s.Segments.length := by omega
 have hfn := find_none (s := s) (id := id) (by rw [hend, List.take_length] at ha; exact ha)
 refine sw_exit ?_
 refine sT [1, 2, 6] [2] ?_
 exact zh0
theorem spec_l8Room {p1 p2 : Fl} {s : Store}  (hb : wtStore s ≤ 68719476736) : SCall Try.prog 76 [(true, [sl .v (s.Segments.map (cVersionS p1 p2)), val (vI s.Now)])] (resRV [(false, [val (vI (roomN s.Segments))])]) := by
 refine sF Try.func76 fun h0 w0 Fz0 => ?_
 refine sn 0 0 fun hl0_0 => ?_
 have hbu := hb
 simp only [wtStore, wtVersionSS, wtInt] at hbu
 refine zd7 ?_
 refine zaf ?_
 refine zao ?_
 refine sP [1, 2, 3] [1] ?_
 refine sL [1] [1] (fun k : Nat => k ≤ s.Segments.length ∧ (s.Segments.take k).any smallV = false) (fun k : Nat => [(3, RV.int (k : Int))]) (fun k : Nat => []) (fun k : Nat => s.Segments.length - k) 0 (by exact ⟨by omega, rfl⟩) (by exact aI (by exact rfl) (tI)) (by exact ⟨⟩) ?_
 rintro k ⟨hk, ha⟩
 refine zap ?_
 refine zd9 ?_
 refine sc (fun hba => ?_) (fun hba => ?_)
 have hlt : k < s.Segments.length := by omega
 have hwm := wt_mem (f := wtVersionS) hlt
 have hws : wtVersionS s.Segments[k] = s.Segments[k].length + (s.Segments[k].map wtVersion).sum := rfl
 refine za6 ?_
 refine sT [1, 3] [1] ?_
 refine zda ?_
 refine rM ?_
 refine zdg ?_
 refine zh1 ?_
 refine sc (fun hbb => ?_) (fun hbb => ?_)
 have hy : smallV s.Segments[k] = true := by unfold smallV; simpa using hbb
 have hra := room_at hlt ha hy
 refine sS [1, 3] [1] ?_
 refine rM ?_
 refine zfu ?_
 exact (aI (by refine int_eq ?_; rw [hra]) tI)
 have hno1 : smallV s.Segments[k] = false := by unfold smallV; simpa using hbb
 refine sw_skip ?_
 refine sG [1, 3] [1] ?_
 refine zdb ?_
 refine nx (k + 1) (by exact ⟨by omega, any_succ ha hlt hno1⟩)
 have hend : k = s.Segments.length := by omega
 have hrn := room_none (by rw [hend, List.take_length] at ha; exact ha)
 refine sw_exit ?_
 refine sT [1, 3] [1] ?_
 refine za9 ?_
 exact (aI (by refine int_eq ?_; rw [hrn]) tI)
theorem impl_ApplyUpdate {p1 p2 : Fl} {s : Store} {u : Update}  (hb : wtStore s ≤ 68719000000) (hbu0 : wtUpdate u ≤ 68719000000) : SCall Try.prog 63 [(true, [sl .v (s.Segments.map (cVersionS p1 p2)), val (vI s.Now)]), (true, [val (vI u.Kind), val (vI u.Row.Id), sl .v (u.Row.Values.map cInt), val (vI u.Field), val (vI u.Value)])] (resRV [(true, [sl (.own 71 1) ((applyU s u).1.Segments.map (cVersionS (.own 107 4) (.own 3 1))), val (vI (applyU s u).1.Now)]), (false, [val (.bool (applyU s u).2)])]) := by
 refine scall_lo (largs := fun L => [(true, [sl (.lo L) (s.Segments.map (cVersionS (.lo L) (.lo L))), val (vI s.Now)]), (true, [val (vI u.Kind), val (vI u.Row.Id), sl (.lo L) (u.Row.Values.map cInt), val (vI u.Field), val (vI u.Value)])]) (rs := [(true, [sl (.own 71 1) ((applyU s u).1.Segments.map (cVersionS (.own 107 4) (.own 3 1))), val (vI (applyU s u).1.Now)]), (false, [val (.bool (applyU s u).2)])]) Try.func63 rfl (nl rfl) (fun L => by exact (aI (aI rfl (ToBL.cons (PV.tob_map (fun _ => nl rfl) (fun _ => (ToBL.cons (PV.tob_map (fun _ => nl rfl) (fun _ => (ToBL.cons PV.tob_refl (ToBL.cons (PV.tob_map (fun _ => nl rfl) (fun _ => (ToBL.cons PV.tob_refl ToBL.nil))) (ToBL.cons PV.tob_refl (ToBL.cons PV.tob_refl ToBL.nil)))))) ToBL.nil))) (ToBL.cons PV.tob_refl ToBL.nil))) (aI (aI rfl (ToBL.cons PV.tob_refl (ToBL.cons PV.tob_refl (ToBL.cons (PV.tob_map (fun _ => nl rfl) (fun _ => (ToBL.cons PV.tob_refl ToBL.nil))) (ToBL.cons PV.tob_refl (ToBL.cons PV.tob_refl ToBL.nil)))))) tI))) (fun L => by exact lq) ?_
 intro w0 Fz0
 refine sn 0 0 fun hl0_0 => ?_
 refine sn 1 2 fun hl1_2 => ?_
 have hbu := hb
 simp only [wtStore, wtVersionSS, wtInt] at hbu
 have hbv := hbu0
 simp only [wtUpdate, wtRow, wtIntS_len, wtInt] at hbv
 have hvl2 := vals_le s u
 have hul := up_len s u
 refine sR ?_
 refine zh4 ?_
 refine zfw ?_
 refine zh5 ?_
 refine zfx ?_
 refine zfa ?_
 refine zh6 ?_
 refine zfy ?_
 refine zbj ?_
 refine cx 17 (fun ga sga => ?_) (fun ga sga => ?_)
 refine zbk ?_
 refine RunS.cases (s := 22) rfl (fun g2 => ?_) (fun g2 => nomatch g2)
 exact zh7
 refine rB ga ?_ (x := lD [val _, val _, sl (.lo _) _, val _, val _] ty_47)
 refine rB ga ?_ (x := cL [(true, [val _, val _, sl (.lo _) _, val _, val _])] [(true, [val _, val _, sl .v _, val _, val _])] c_62 (hs := by exact impl_IsUpdate))
 refine zc6 ?_
 refine rM ?_
 refine cx 22 (fun gb sgb => ?_) (fun gb sgb => ?_)
 exact zh8
 refine rB gb ?_ (x := lF fd_26_1)
 refine rB gb ?_ (x := lD [val _] ty_3)
 refine rB gb ?_ (x := B_eql)
 refine rA ?_ (x := pkF gb)
 refine sc (fun hba => ?_) (fun hba => ?_)
 exact zh9
 have hos : okStore s = true := by simp_all
 have hou : okUpdate u = true := by simp_all
 obtain ⟨hs8, hs1, hn0, hn1, hs4, hver⟩ := sto_facts hos
 have hnw : s.Now < 100000 := by first | omega | (simp_all; omega)
 refine sw_skip ?_
 refine zha ?_
 refine rA ?_ (x := lF fd_47_1)
 refine zhb ?_
 refine rA ?_ (x := cL [(true, [sl (.lo _) _, val _]), (false, [val _])] [(true, [sl .v _, val _]), (false, [val _])] c_88 (hs := by exact (impl_findAlive (by omega))))
 refine rA ?_ (x := tM)
 refine zhc ?_
 refine rS ?_
 refine zca ?_
 refine sS [2, 3, 4, 5, 6, 7, 8] [2, 3, 4, 6] ?_
 refine rM ?_
 refine rA ?_ (x := B_geq)
 refine zhd ?_
 refine rA ?_ (x := loc_beql (by decide) FUpd_ub_4 (by exact ⟨⟩) (by exact ⟨⟩))
 refine sc (fun hbb => ?_) (fun hbb => ?_)
 have hno : applyOk s u = false := by rw [← Bool.not_eq_true]; intro hc_; obtain ⟨h1_, h2_, h3_, h4_, h5_⟩ := applyOk_f hc_; have hh_ := hbb; by_cases h1 : 0 ≤ findI s u.Row.Id <;> by_cases h2 : u.Kind = 1 <;> simp_all [GE.ge]
 refine sS [2, 3, 4, 5, 6, 7, 8] [2, 3, 4, 6] ?_
 exact zhe
 have hkd : 0 ≤ findI s u.Row.Id ↔ ¬ u.Kind = 1 := by have h_ := hbb; by_cases h1 : 0 ≤ findI s u.Row.Id <;> by_cases h2 : u.Kind = 1 <;> simp_all [GE.ge]
 refine sw_skip ?_
 refine sS [2, 3, 4, 5, 6, 7, 8] [2, 3, 4, 6] ?_
 refine rA ?_ (x := lF fd_26_1)
 refine zhf ?_
 refine rA ?_ (x := lF fd_26_1)
 refine zhg ?_
 refine sO [(2, _), (3, _), (4, _), (5, _), (6, _), (7, _), (8, _)] [(2, _), (3, _), (4, _), (6, (26, [sl _ _, val _]))] ?_
 refine sw_reg ?_
 refine rA ?_ (x := lF fd_47_1)
 refine rA ?_ (x := lF fd_45_1)
 refine rA ?_ (x := lD [sl (.lo _) _] ty_27)
 refine zhh ?_
 refine sw_seq ?_
 refine sS [2, 3, 4, 5, 6, 7, 8, 9] [2, 3, 4, 6] ?_
 refine rM ?_
 refine rA ?_ (x := B_geq)
 refine sc (fun hbc => ?_) (fun hbc => ?_)
 have hge : 0 ≤ findI s u.Row.Id := by omega
 obtain ⟨i, k, hi, hk, hfi, hfk, hal⟩ := find_ge hge
 obtain ⟨hu1, hu2⟩ := up_yes hi hk hfi hfk
 have hwm := wt_mem (f := wtVersionS) hi
 have hws : wtVersionS s.Segments[i] = s.Segments[i].length + (s.Segments[i].map wtVersion).sum := rfl
 have hwm2 := wt_mem (f := wtVersion) hk
 have hwv : wtVersion s.Segments[i][k] = s.Segments[i][k].Values.length := by simp only [wtVersion, wtIntS_len, wtInt]; omega
 refine sw_seq ?_
 refine sP [2, 3, 4, 5, 6, 7, 8, 9] [2, 3, 4, 6] ?_
 refine sw_thawB (d := 6) (t := 26) (D := 920) (G := 2920) (E := 71) (e := 1) (L := (Lw w0.heap.size)) (A := []) (B := [val _]) (es := (s.Segments).map (cVersionS (.own 107 4) (.own 3 1))) (by exact rfl) (map_ne hi) (by exact rfl) (by exact rfl) rfl (by exact rfl) (fun x hx => hx) (by exact lq) (by exact lq) (by exact LclC.nil) (by exact lc) (LclC.map fun x => (LclC.cons (lcl_own (LclC.map fun x => (LclC.cons lcl_val (LclC.cons (lcl_own (LclC.map fun x => (LclC.cons lcl_val LclC.nil))) (LclC.cons lcl_val (LclC.cons lcl_val LclC.nil)))))) LclC.nil)) fun uu920 cp920 jk920 hlD920 hcp920 hjk920 => ?_
 rw [List.length_map] at hlD920 hcp920 hjk920
 refine sw_boxEq (d := 920) (by exact rfl) (at_split (k := i) hi) ?_
 have hA920 := at_len (f := (cVersionS (.own 107 4) (.own 3 1))) (e := 1) (xs := s.Segments) (k := i) (fun _ => rfl) (Nat.le_of_lt hi)
 refine sO [(2, _), (3, _), (4, _), (5, _), (6, _), (7, _), (8, _), (9, _), (2920, _)] [(2, _), (3, _), (4, _), (6, (26, [val _, val _])), (920, (71, _ ++ ([sl _ _] ++ _)))] ?_
 refine sw_thawB (d := 920) (t := 71) (D := 921) (G := 2921) (E := 107) (e := 4) (L := (Lw w0.heap.size)) (A := _) (B := [] ++ _) (es := (s.Segments[i]).map (cVersion (.own 3 1))) (by exact rfl) (map_ne hk) (by exact rfl) (by exact rfl) rfl (by exact rfl) (fun x hx => hx) (by exact lq) (by exact lq) (by exact lc) (by exact lc) (LclC.map fun x => (LclC.cons lcl_val (LclC.cons (lcl_own (LclC.map fun x => (LclC.cons lcl_val LclC.nil))) (LclC.cons lcl_val (LclC.cons lcl_val LclC.nil))))) fun uu921 cp921 jk921 hlD921 hcp921 hjk921 => ?_
 rw [List.length_map] at hlD921 hcp921 hjk921
 refine sw_boxEq (d := 921) (by exact rfl) (at_split (k := k) hk) ?_
 have hA921 := at_len (f := (cVersion (.own 3 1))) (e := 4) (xs := s.Segments[i]) (k := k) (fun _ => rfl) (Nat.le_of_lt hk)
 refine sO [(2, _), (3, _), (4, _), (5, _), (6, _), (7, _), (8, _), (9, _), (2920, _), (2921, _)] [(2, _), (3, _), (4, _), (6, _), (920, (71, _ ++ ([val _] ++ _))), (921, (107, _ ++ ([val _, sl _ _, val _, val _] ++ _)))] ?_
 refine sw_draw hm_ ?_
 refine zhi ?_
 refine zhj ?_
 refine zhk ?_
 refine zhl ?_
 refine zhm ?_
 refine zhn ?_
 refine zho ?_
 refine sO [(2, _), (3, _), (4, _), (5, _), (6, _), (7, _), (8, _), (9, _)] [(2, _), (3, _), (4, _), (6, (26, [sl _ _, val _]))] ?_
 refine sw_reg ?_
 refine zhp ?_
 refine zhq ?_
 refine rA ?_ (x := lE [sl (.lo _) _] ty_71)
 refine rM ?_
 refine zhr ?_
 refine rA ?_ (x := lE [sl (.lo _) _] ty_27)
 refine zhh ?_
 exact zhs
 have hge : ¬ 0 ≤ findI s u.Row.Id := by omega
 obtain ⟨hu1, hu2⟩ := up_no hge
 refine sw_skip ?_
 exact zhs
theorem spec_ApplyUpdate {p1 p2 : Fl} {s : Store} {u : Update}  (hb : wtStore s ≤ 68719000000) (hbu0 : wtUpdate u ≤ 68719000000) : SCall Try.prog 39 [(true, [sl .v (s.Segments.map (cVersionS p1 p2)), val (vI s.Now)]), (true, [val (vI u.Kind), val (vI u.Row.Id), sl .v (u.Row.Values.map cInt), val (vI u.Field), val (vI u.Value)])] (resRV [(true, [sl (.own 71 1) ((applyU s u).1.Segments.map (cVersionS (.own 107 4) (.own 3 1))), val (vI (applyU s u).1.Now)]), (false, [val (.bool (applyU s u).2)])]) := by
 refine scall_lo (largs := fun L => [(true, [sl (.lo L) (s.Segments.map (cVersionS (.lo L) (.lo L))), val (vI s.Now)]), (true, [val (vI u.Kind), val (vI u.Row.Id), sl (.lo L) (u.Row.Values.map cInt), val (vI u.Field), val (vI u.Value)])]) (rs := [(true, [sl (.own 71 1) ((applyU s u).1.Segments.map (cVersionS (.own 107 4) (.own 3 1))), val (vI (applyU s u).1.Now)]), (false, [val (.bool (applyU s u).2)])]) Try.func39 rfl (nl rfl) (fun L => by exact (aI (aI rfl (ToBL.cons (PV.tob_map (fun _ => nl rfl) (fun _ => (ToBL.cons (PV.tob_map (fun _ => nl rfl) (fun _ => (ToBL.cons PV.tob_refl (ToBL.cons (PV.tob_map (fun _ => nl rfl) (fun _ => (ToBL.cons PV.tob_refl ToBL.nil))) (ToBL.cons PV.tob_refl (ToBL.cons PV.tob_refl ToBL.nil)))))) ToBL.nil))) (ToBL.cons PV.tob_refl ToBL.nil))) (aI (aI rfl (ToBL.cons PV.tob_refl (ToBL.cons PV.tob_refl (ToBL.cons (PV.tob_map (fun _ => nl rfl) (fun _ => (ToBL.cons PV.tob_refl ToBL.nil))) (ToBL.cons PV.tob_refl (ToBL.cons PV.tob_refl ToBL.nil)))))) tI))) (fun L => by exact lq) ?_
 intro w0 Fz0
 refine sn 0 0 fun hl0_0 => ?_
 refine sn 1 2 fun hl1_2 => ?_
 have hbu := hb
 simp only [wtStore, wtVersionSS, wtInt] at hbu
 have hbv := hbu0
 simp only [wtUpdate, wtRow, wtIntS_len, wtInt] at hbv
 have hvl2 := vals_le s u
 have hul := up_len s u
 refine sR ?_
 refine zh4 ?_
 refine zfw ?_
 refine zh5 ?_
 refine rA ?_ (x := lD [sl (.lo _) _, val _] ty_26)
 refine rA ?_ (x := cL [(true, [sl (.lo _) _, val _])] [(true, [sl .v _, val _])] c_35 (hs := by exact (spec_l7Copy (by omega))))
 refine zfa ?_
 refine zh6 ?_
 refine rA ?_ (x := lD [sl (.lo _) _, val _] ty_26)
 refine rA ?_ (x := cL [(true, [sl (.lo _) _, val _])] [(true, [sl .v _, val _])] c_34 (hs := by exact spec_IsStore (by omega)))
 refine zbj ?_
 refine cx 16 (fun ga sga => ?_) (fun ga sga => ?_)
 refine zbk ?_
 refine RunS.cases (s := 21) rfl (fun g2 => ?_) (fun g2 => nomatch g2)
 exact zh7
 refine rB ga ?_ (x := lD [val _, val _, sl (.lo _) _, val _, val _] ty_47)
 refine rB ga ?_ (x := cL [(true, [val _, val _, sl (.lo _) _, val _, val _])] [(true, [val _, val _, sl .v _, val _, val _])] c_74 (hs := by exact spec_IsUpdate))
 refine zc6 ?_
 refine rM ?_
 refine cx 21 (fun gb sgb => ?_) (fun gb sgb => ?_)
 exact zh8
 refine rB gb ?_ (x := lF fd_26_1)
 refine rB gb ?_ (x := lD [val _] ty_3)
 refine rB gb ?_ (x := B_geq)
 refine rA ?_ (x := pkF gb)
 refine sc (fun hba => ?_) (fun hba => ?_)
 exact zh9
 have hos : okStore s = true := by simp_all
 have hou : okUpdate u = true := by simp_all
 obtain ⟨hs8, hs1, hn0, hn1, hs4, hver⟩ := sto_facts hos
 have hnw : s.Now < 100000 := by first | omega | (simp_all; omega)
 refine sw_skip ?_
 refine zha ?_
 refine rA ?_ (x := lF fd_47_1)
 refine zhb ?_
 refine rA ?_ (x := cL [(true, [sl (.lo _) _, val _]), (false, [val _])] [(true, [sl .v _, val _]), (false, [val _])] c_75 (hs := by exact (spec_l8Find (by omega))))
 refine rA ?_ (x := tM)
 refine zhc ?_
 refine rS ?_
 refine rS ?_
 refine sS [2, 3, 4, 5, 6, 7, 8] [2, 3, 4, 6] ?_
 refine rA ?_ (x := lD [sl (.lo _) _, val _] ty_26)
 refine rA ?_ (x := cL [(true, [sl (.lo _) _, val _])] [(true, [sl .v _, val _])] c_76 (hs := by exact (spec_l8Room (by omega))))
 refine zca ?_
 refine sS [2, 3, 4, 5, 6, 7, 8, 9] [2, 3, 4, 6] ?_
 refine zcb ?_
 refine zc0 ?_
 refine rA ?_ (x := B_lss)
 refine rA ?_ (x := loc_bneq (by decide) FUpd_ub_4 (by exact ⟨⟩) (by exact ⟨⟩))
 refine rM ?_
 refine cx 43 (fun gc sgc => ?_) (fun gc sgc => ?_)
 refine zd0 ?_
 refine scT ?_
 exact zht
 refine rB gc ?_ (x := lF fd_47_0)
 refine rB gc ?_ (x := lD [val _] ty_3)
 refine zd2 ?_
 refine cx 47 (fun gd sgd => ?_) (fun gd sgd => ?_)
 refine rB gd ?_ (x := sM)
 refine rB gd ?_ (x := B_lss)
 refine zd3 ?_
 refine sc (fun hbb => ?_) (fun hbb => ?_)
 exact zht
 have hkr : (0 ≤ findI s u.Row.Id ↔ ¬ u.Kind = 1) ∧ (u.Kind = 2 ∨ 0 ≤ roomN s.Segments) := by by_cases h1 : 0 ≤ findI s u.Row.Id <;> by_cases h2 : u.Kind = 1 <;> by_cases h3 : u.Kind = 2 <;> by_cases h4 : 0 ≤ roomN s.Segments <;> by_cases h6 : findI s u.Row.Id < 0 <;> (first | omega | (simp_all; done) | (simp_all; omega))
 obtain ⟨hkd, hrr⟩ := hkr
 have hok := applyOk_of hos hou hnw hkd hrr
 refine sw_skip ?_
 refine sS [2, 3, 4, 5, 6, 7, 8, 9] [2, 3, 4, 6] ?_
 refine rA ?_ (x := lF fd_26_1)
 refine zhf ?_
 refine rA ?_ (x := lF fd_26_1)
 refine zhg ?_
 refine zhu ?_
 refine dA 0 ?_ (x := lF fd_47_1)
 refine dA 1 ?_ (x := lF fd_45_0)
 refine zhv ?_
 refine dA 0 ?_ (x := lF fd_47_1)
 refine dA 16 ?_ (x := lF fd_45_1)
 refine zhw ?_
 refine zhx ?_
 refine zhy ?_
 refine zhz ?_
 refine zg2 ?_
 refine rA ?_ (x := B_geq)
 refine sc (fun hbc => ?_) (fun hbc => ?_)
 have hge : 0 ≤ findI s u.Row.Id := by omega
 obtain ⟨i, k, hi, hk, hfi, hfk, hal⟩ := find_ge hge
 obtain ⟨hu1, hu2⟩ := up_yes hi hk hfi hfk
 have hwm := wt_mem (f := wtVersionS) hi
 have hws : wtVersionS s.Segments[i] = s.Segments[i].length + (s.Segments[i].map wtVersion).sum := rfl
 have hwm2 := wt_mem (f := wtVersion) hk
 have hwv : wtVersion s.Segments[i][k] = s.Segments[i][k].Values.length := by simp only [wtVersion, wtIntS_len, wtInt]; omega
 refine zi0 ?_
 refine zda ?_
 refine zhq ?_
 refine rA ?_ (x := lE [sl .v _] ty_71)
 refine rM ?_
 refine zhr ?_
 refine zi1 ?_
 refine rA ?_ (x := lF fd_107_1)
 refine zi2 ?_
 refine sw_thawB (d := 6) (t := 26) (D := 920) (G := 2920) (E := 71) (e := 1) (L := (Lw w0.heap.size)) (A := []) (B := [val _]) (es := (s.Segments).map (cVersionS (.own 107 4) (.own 3 1))) (by exact rfl) (map_ne hi) (by exact rfl) (by exact rfl) rfl (by exact rfl) (fun x hx => hx) (by exact lq) (by exact lq) (by exact LclC.nil) (by exact lc) (LclC.map fun x => (LclC.cons (lcl_own (LclC.map fun x => (LclC.cons lcl_val (LclC.cons (lcl_own (LclC.map fun x => (LclC.cons lcl_val LclC.nil))) (LclC.cons lcl_val (LclC.cons lcl_val LclC.nil)))))) LclC.nil)) fun uu920 cp920 jk920 hlD920 hcp920 hjk920 => ?_
 rw [List.length_map] at hlD920 hcp920 hjk920
 refine sw_boxEq (d := 920) (by exact rfl) (at_split (k := i) hi) ?_
 have hA920 := at_len (f := (cVersionS (.own 107 4) (.own 3 1))) (e := 1) (xs := s.Segments) (k := i) (fun _ => rfl) (Nat.le_of_lt hi)
 refine sO [(2, _), (3, _), (4, _), (5, _), (6, _), (7, _), (8, _), (9, _), (10, _), (2920, _)] [(2, _), (3, _), (4, _), (6, (26, [val _, val _])), (10, _), (920, (71, _ ++ ([sl _ _] ++ _)))] ?_
 refine sw_thawB (d := 920) (t := 71) (D := 921) (G := 2921) (E := 107) (e := 4) (L := (Lw w0.heap.size)) (A := _) (B := [] ++ _) (es := (s.Segments[i]).map (cVersion (.own 3 1))) (by exact rfl) (map_ne hk) (by exact rfl) (by exact rfl) rfl (by exact rfl) (fun x hx => hx) (by exact lq) (by exact lq) (by exact lc) (by exact lc) (LclC.map fun x => (LclC.cons lcl_val (LclC.cons (lcl_own (LclC.map fun x => (LclC.cons lcl_val LclC.nil))) (LclC.cons lcl_val (LclC.cons lcl_val LclC.nil))))) fun uu921 cp921 jk921 hlD921 hcp921 hjk921 => ?_
 rw [List.length_map] at hlD921 hcp921 hjk921
 refine sw_boxEq (d := 921) (by exact rfl) (at_split (k := k) hk) ?_
 have hA921 := at_len (f := (cVersion (.own 3 1))) (e := 4) (xs := s.Segments[i]) (k := k) (fun _ => rfl) (Nat.le_of_lt hk)
 refine zi3 ?_
 refine zhi ?_
 refine zhj ?_
 refine zhk ?_
 refine zhl ?_
 refine zhm ?_
 refine zhn ?_
 refine zho ?_
 refine zi4 ?_
 exact zi5
 have hge : ¬ 0 ≤ findI s u.Row.Id := by omega
 obtain ⟨hu1, hu2⟩ := up_no hge
 refine zbr ?_
 refine zi6 ?_
 exact zi5
 refine zf gd ?_
 refine zd4 ?_
 refine scF ?_
 have hkr : (0 ≤ findI s u.Row.Id ↔ ¬ u.Kind = 1) ∧ (u.Kind = 2 ∨ 0 ≤ roomN s.Segments) := by by_cases h1 : 0 ≤ findI s u.Row.Id <;> by_cases h2 : u.Kind = 1 <;> by_cases h3 : u.Kind = 2 <;> by_cases h4 : 0 ≤ roomN s.Segments <;> by_cases h6 : findI s u.Row.Id < 0 <;> (first | omega | (simp_all; done) | (simp_all; omega))
 obtain ⟨hkd, hrr⟩ := hkr
 have hok := applyOk_of hos hou hnw hkd hrr
 refine sw_skip ?_
 refine sS [2, 3, 4, 5, 6, 7, 8, 9] [2, 3, 4, 6] ?_
 refine rA ?_ (x := lF fd_26_1)
 refine zhf ?_
 refine rA ?_ (x := lF fd_26_1)
 refine zhg ?_
 refine zhu ?_
 refine dA 0 ?_ (x := lF fd_47_1)
 refine dA 1 ?_ (x := lF fd_45_0)
 refine zhv ?_
 refine dA 0 ?_ (x := lF fd_47_1)
 refine dA 16 ?_ (x := lF fd_45_1)
 refine zhw ?_
 refine zhx ?_
 refine zhy ?_
 refine zhz ?_
 refine zg2 ?_
 refine rA ?_ (x := B_geq)
 refine sc (fun hbb => ?_) (fun hbb => ?_)
 have hge : 0 ≤ findI s u.Row.Id := by omega
 obtain ⟨i, k, hi, hk, hfi, hfk, hal⟩ := find_ge hge
 obtain ⟨hu1, hu2⟩ := up_yes hi hk hfi hfk
 have hwm := wt_mem (f := wtVersionS) hi
 have hws : wtVersionS s.Segments[i] = s.Segments[i].length + (s.Segments[i].map wtVersion).sum := rfl
 have hwm2 := wt_mem (f := wtVersion) hk
 have hwv : wtVersion s.Segments[i][k] = s.Segments[i][k].Values.length := by simp only [wtVersion, wtIntS_len, wtInt]; omega
 refine zi0 ?_
 refine zda ?_
 refine zhq ?_
 refine rA ?_ (x := lE [sl .v _] ty_71)
 refine rM ?_
 refine zhr ?_
 refine zi1 ?_
 refine rA ?_ (x := lF fd_107_1)
 refine zi2 ?_
 refine sw_thawB (d := 6) (t := 26) (D := 920) (G := 2920) (E := 71) (e := 1) (L := (Lw w0.heap.size)) (A := []) (B := [val _]) (es := (s.Segments).map (cVersionS (.own 107 4) (.own 3 1))) (by exact rfl) (map_ne hi) (by exact rfl) (by exact rfl) rfl (by exact rfl) (fun x hx => hx) (by exact lq) (by exact lq) (by exact LclC.nil) (by exact lc) (LclC.map fun x => (LclC.cons (lcl_own (LclC.map fun x => (LclC.cons lcl_val (LclC.cons (lcl_own (LclC.map fun x => (LclC.cons lcl_val LclC.nil))) (LclC.cons lcl_val (LclC.cons lcl_val LclC.nil)))))) LclC.nil)) fun uu920 cp920 jk920 hlD920 hcp920 hjk920 => ?_
 rw [List.length_map] at hlD920 hcp920 hjk920
 refine sw_boxEq (d := 920) (by exact rfl) (at_split (k := i) hi) ?_
 have hA920 := at_len (f := (cVersionS (.own 107 4) (.own 3 1))) (e := 1) (xs := s.Segments) (k := i) (fun _ => rfl) (Nat.le_of_lt hi)
 refine sO [(2, _), (3, _), (4, _), (5, _), (6, _), (7, _), (8, _), (9, _), (10, _), (2920, _)] [(2, _), (3, _), (4, _), (6, (26, [val _, val _])), (10, _), (920, (71, _ ++ ([sl _ _] ++ _)))] ?_
 refine sw_thawB (d := 920) (t := 71) (D := 921) (G := 2921) (E := 107) (e := 4) (L := (Lw w0.heap.size)) (A := _) (B := [] ++ _) (es := (s.Segments[i]).map (cVersion (.own 3 1))) (by exact rfl) (map_ne hk) (by exact rfl) (by exact rfl) rfl (by exact rfl) (fun x hx => hx) (by exact lq) (by exact lq) (by exact lc) (by exact lc) (LclC.map fun x => (LclC.cons lcl_val (LclC.cons (lcl_own (LclC.map fun x => (LclC.cons lcl_val LclC.nil))) (LclC.cons lcl_val (LclC.cons lcl_val LclC.nil))))) fun uu921 cp921 jk921 hlD921 hcp921 hjk921 => ?_
 rw [List.length_map] at hlD921 hcp921 hjk921
 refine sw_boxEq (d := 921) (by exact rfl) (at_split (k := k) hk) ?_
 have hA921 := at_len (f := (cVersion (.own 3 1))) (e := 4) (xs := s.Segments[i]) (k := k) (fun _ => rfl) (Nat.le_of_lt hk)
 refine zi3 ?_
 refine zhi ?_
 refine zhj ?_
 refine zhk ?_
 refine zhl ?_
 refine zhm ?_
 refine zhn ?_
 refine zho ?_
 refine zi4 ?_
 exact zi7
 have hge : ¬ 0 ≤ findI s u.Row.Id := by omega
 obtain ⟨hu1, hu2⟩ := up_no hge
 refine zbr ?_
 refine zi6 ?_
 exact zi7
end Go.Proofs.Ytmekkgdboplbjaa
