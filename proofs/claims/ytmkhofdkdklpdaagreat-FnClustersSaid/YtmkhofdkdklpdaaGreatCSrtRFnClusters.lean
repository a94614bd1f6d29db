/- What functions of the program compute. No condition. -/
import Derived.Test.YtmkhofdkdklpdaaGreatCZMFnClusters
import Derived.Test.YtmkhofdkdklpdaaGreatCFcFnClusters
import Derived.Test.YtmkhofdkdklpdaaGreatCStERFnClusters
import Derived.KernelRfl
set_option linter.unusedVariables false
set_option linter.unusedSimpArgs false
namespace Go.Proofs.YtmkhofdkdklpdaaGreat
open Go Go.RowKit M PV
set_option maxRecDepth 10000
attribute [local irreducible] PV.Lcl PV.LclR RV.Lcl
theorem impl_SortRows_nil {p1 : Fl} {x : List Row}  (hE0 : x = []) (hb : wtRowS x ≤ 68719476736) : SCall Tryz.prog 52 [(false, [sl .v (x.map (cRow p1))])] (resRV [(false, [sl (.own 63 2) ((isort (lessQ cmpRow) x).map (cRow (.own 3 1)))])]) := by
 refine sF Tryz.func52 fun h0 w0 Fz0 => ?_
 refine sj 0 fun hl0 => ?_
 have hbl : x.length ≤ wtRowS x := Nat.le_add_right _ _
 refine sR ?_
 refine zcg ?_
 refine zhq ?_
 refine rA ?_ (x := tA)
 refine sS [0, 2, 3] [] ?_
 refine rA ?_ (x := vM false [sl .v _])
 refine rA ?_ (x := loc_call (qs := [(false, [sl _ _]), (false, [PV.clo Tryz.prog (as2 (fun x : Row => (true, [val (vI x.Id), sl .v (x.Values.map cInt)]))) (rsI cmpRow)])]) (as_ := [(false, [sl .v _]), (false, [PV.clo Tryz.prog (as2 (fun x : Row => (true, [val (vI x.Id), sl .v (x.Values.map cInt)]))) (rsI cmpRow)])]) (by decide) c_81 (by exact (aI (by exact ⟨⟩) (aI (ok_clo c_82 (fun x => by exact impl_SortRows_1)) tI))) (by exact (aI (aI rfl (ToL.cons PV.to_none ToL.nil)) (aI (aI rfl (ToL.cons (PV.To.refl _) ToL.nil)) tI))) (by exact (sstE_Row hE0)))
 refine sS [0, 2, 3] [] ?_
 refine zjq ?_
 refine sw_ret ?_
 exact (aI (by refine slc_eq ?_; rw [hE0]; rfl) tI)
theorem impl_SortRows_ne {p1 : Fl} {x : List Row}  (hE0 : 0 < x.length) (hb : wtRowS x ≤ 68719476736) : SCall Tryz.prog 52 [(false, [sl .v (x.map (cRow p1))])] (resRV [(false, [sl (.own 63 2) ((isort (lessQ cmpRow) x).map (cRow (.own 3 1)))])]) := by
 refine scall_lo (largs := fun L => [(false, [sl (.lo L) (x.map (cRow (.lo L)))])]) (rs := [(false, [sl (.own 63 2) ((isort (lessQ cmpRow) x).map (cRow (.own 3 1)))])]) Tryz.func52 rfl (nl rfl) (fun L => by exact (aI (aI rfl (ToBL.cons (PV.tob_map (fun _ => nl rfl) (fun _ => (ToBL.cons PV.tob_refl (ToBL.cons (PV.tob_map (fun _ => nl rfl) (fun _ => (ToBL.cons PV.tob_refl ToBL.nil))) ToBL.nil)))) ToBL.nil)) tI)) (fun L => by exact (borA_cons (BorL.cons (bor_lo _ _) BorL.nil) borA_nil)) ?_
 intro w0 Fz0
 refine sj 0 fun hl0 => ?_
 have hbl : x.length ≤ wtRowS x := Nat.le_add_right _ _
 refine sR ?_
 refine zcg ?_
 refine rA ?_ (x := vM false [sl (.lo _) _])
 refine rA ?_ (x := cL [(false, [sl (.lo _) _])] [(false, [sl .v _])] c_60 (hs := by exact impl_copyRows (by omega)))
 refine rA ?_ (x := tA)
 refine sw_seq ?_
 refine sP [0, 2, 3] [] ?_
 refine sw_thawS (s := 3) (D := 900) (G := 2900) (E := 63) (e := 2) (L := (Lw w0.heap.size)) (es := (x).map (cRow (.own 3 1))) (by exact rfl) (map_ne hE0) (by exact rfl) (by exact rfl) rfl (by exact rfl) (fun x hx => hx) (by exact (aI (.inr (RV.lcl_sv (LclC.cons (lcl_lo (LclRC.map fun x => (LclRC.cons PV.lclr_val (LclRC.cons (PV.lclr_lo (LclRC.map fun x => (LclRC.cons PV.lclr_val LclRC.nil))) LclRC.nil)))) LclC.nil))) (aI (.inr (RV.lcl_sv (LclC.cons (lcl_own (by first | exact (LclC.map fun x => (LclC.cons lcl_val (LclC.cons (lcl_own (LclC.map fun x => (LclC.cons lcl_val LclC.nil))) LclC.nil))) | exact (fun cs h => nomatch h))) LclC.nil))) (aI (.inl rfl) tI)))) (by exact ⟨⟩) (LclC.map fun x => (LclC.cons lcl_val (LclC.cons (lcl_own (LclC.map fun x => (LclC.cons lcl_val LclC.nil))) LclC.nil))) fun uu900 cp900 jk900 hlD900 hcp900 hjk900 => ?_
 rw [List.length_map] at hlD900 hcp900 hjk900
 refine sw_boxEq (d := 900) (by exact rfl) (show _ = arr (cRow (.own 3 1)) (x) jk900 from rfl) ?_
 refine sO [(0, _), (2, _), (3, _), (2900, _)] [(900, (63, arr (cRow (.own 3 1)) _ _))] ?_
 refine sw_lendA (d := 900) (G := 4900) (e := 2) (f := (cRow (.own 3 1))) (g := (cRow .v)) (fN := nRow) (by exact rfl) (by exact rfl) (fun _ _ => rfl) (fun _ => rfl) (fun _ => (ToL.cons (PV.To.refl _) (ToL.cons PV.to_none ToL.nil))) (fun _ => (BorL.cons (bor_val _) (BorL.cons (bor_sl _) BorL.nil))) fun zs900 hz900 => ?_
 refine sO [(0, _), (2, _), (3, _), (2900, _), (4900, _)] [(900, (63, arr nRow _ _))] ?_
 refine sw_reg ?_
 refine rA ?_ (x := vM false [val _])
 refine rA ?_ (x := loc_acall0 (bx := 900) (G := 2900) (qs := [(false, [PV.clo Tryz.prog (as2 (fun x : Row => (true, [val (vI x.Id), sl .v (x.Values.map cInt)]))) (rsI cmpRow)])]) (as_ := [(false, [PV.clo Tryz.prog (as2 (fun x : Row => (true, [val (vI x.Id), sl .v (x.Values.map cInt)]))) (rsI cmpRow)])]) (by decide) c_81 rfl (by exact (aI (ok_clo c_82 (fun x => by exact impl_SortRows_1)) tI)) (by exact (aI (aI rfl (ToL.cons (PV.To.refl _) ToL.nil)) tI)) (bor_arr bor_nRow _ _) (by exact (borA_cons (BorL.cons (bor_clo _ _) BorL.nil) borA_nil)) (by exact (sst_Row (by have e_ := congrArg List.length hz900; rw [List.length_map] at e_; first | exact e_.symm | (rw [List.length_map]; exact e_.symm) | omega) cmpRow_ok.ordC cmpRow_ok.irrC (by have e_ := congrArg List.length hz900; rw [List.length_map] at e_; first | exact e_.symm | (rw [List.length_map]; exact e_.symm) | omega))))
 refine sw_backA (d := 900) (G := 4900) (e := 2) (f := (cRow (.own 3 1))) (g := (cRow .v)) (fN := nRow) (by exact rfl) (by exact rfl) (fun _ _ => rfl) (fun _ => rfl) (fun _ => rfl) (by exact perm_isort _) ?_
 refine sw_boxEq (d := 900) (by exact rfl) (congrArg (fun z_ => arr (cRow (.own 3 1)) z_ jk900) ((isortC _).trans (congrArg _ hz900))) ?_
 refine sw_frzS (s := 3) (D := 900) (G := 2900) (e := 2) (es := (isort (lessQ cmpRow) x).map (cRow (.own 3 1))) (by exact rfl) (by exact rfl) (by exact rfl) rfl (by decide) (by rw [List.length_map, isort_len, List.length_map]) (by intro c hc; obtain ⟨y, _, rfl⟩ := List.mem_map.1 hc; exact rfl) (by rw [List.length_map]; exact hjk900) ?_
 refine sS [0, 2, 3] [] ?_
 refine zjq ?_
 exact zbw
theorem impl_SortRows {p1 : Fl} {x : List Row}  (hb : wtRowS x ≤ 68719476736) : SCall Tryz.prog 52 [(false, [sl .v (x.map (cRow p1))])] (resRV [(false, [sl (.own 63 2) ((isort (lessQ cmpRow) x).map (cRow (.own 3 1)))])]) := by
 by_cases hE0 : x = []
 exact (impl_SortRows_nil hE0 hb)
 exact (impl_SortRows_ne (by have := mt List.length_eq_zero_iff.1 hE0; omega) hb)
theorem spec_SortRows {p1 : Fl} {x : List Row}  (hb : wtRowS x ≤ 68719476736) : SCall Tryz.prog 55 [(false, [sl .v (x.map (cRow p1))])] (resRV [(false, [sl (.own 63 2) ((isort (lessQ cmpRow) x).map (cRow .v))])]) := by
 refine sF Tryz.func55 fun h0 w0 Fz0 => ?_
 refine sj 0 fun hl0 => ?_
 have hbl : x.length ≤ wtRowS x := Nat.le_add_right _ _
 have hbu := hb
 simp only [wtRowS] at hbu
 refine sR ?_
 refine zcg ?_
 refine zch ?_
 refine za3 ?_
 refine sL [0, 2] [] (fun i : Nat => i ≤ x.length) (fun i : Nat => [(3, RV.slc (.own 63 2) (((isort (lessQ cmpRow) (x.take i))).map (cRow .v))), (4, RV.int (i : Int))]) (fun i : Nat => []) (fun i : Nat => x.length - i) 0 (by omega) (by exact aI (by exact rfl) (aI (by exact rfl) (tI))) (by exact ⟨⟩) ?_
 rintro i hk
 have hll : (isort (lessQ cmpRow) (x.take i)).length = i := by rw [isort_len, List.length_take]; omega
 refine za4 ?_
 refine zcm ?_
 refine sc (fun hba => ?_) (fun hba => ?_)
 have hlt : i < x.length := by omega
 have hwm := wt_mem (f := wtRow) hlt
 refine za6 ?_
 refine sS [0, 2, 3, 4] [] ?_
 refine zcb ?_
 refine zk7 ?_
 refine sP [0, 2, 3, 4, 5] [] ?_
 refine sL [0, 2, 3, 4] [] (fun j : Nat => j ≤ i ∧ ∀ t : Nat, j ≤ t → (h : t < (isort (lessQ cmpRow) (x.take i)).length) → (lessQ cmpRow) x[i] (isort (lessQ cmpRow) (x.take i))[t] = true) (fun j : Nat => [(5, RV.int (j : Int))]) (fun j : Nat => []) (fun j : Nat => j) i (by exact ⟨Nat.le_refl _, fun t h1 h2 => by omega⟩) (by exact aI (by exact int_eq (by first | rfl | (rw [List.length_map]; omega) | omega)) (tI)) (by exact ⟨⟩) ?_
 rintro j ⟨hj, haj⟩
 refine zae ?_
 refine zaf ?_
 refine dA 1 ?_ (x := B_gtr)
 refine dA 3 ?_ (x := sM)
 refine dx 18 (fun ga sga => ?_) (fun ga sga => ?_)
 refine dB 7 ga ?_ (x := vM false [sl .v _])
 refine dB 7 ga ?_ (x := sM)
 refine dB 31 ga ?_ (x := loc_index (by decide) sl_36 (by exact ⟨⟩) (by exact rfl) (by exact getm2 (by omega) rfl) (by exact rfl))
 refine dB 63 ga ?_ (x := lE [val _, sl .v _] ty_63)
 refine dB 7 ga ?_ (x := vM false [sl .v _])
 refine dB 7 ga ?_ (x := sM)
 refine dB 263 ga ?_ (x := B_sub)
 refine dB 903 ga ?_ (x := loc_index (k := j - 1) (by decide) sl_36 (by exact ⟨⟩) (by omega) (by exact getm2 (by omega) rfl) (by exact rfl))
 refine dB 1927 ga ?_ (x := lE [val _, sl .v _] ty_63)
 refine dB 4095 ga ?_ (x := cL [(true, [val _, sl _ _]), (true, [val _, sl _ _])] [(true, [val _, sl .v _]), (true, [val _, sl .v _])] c_84 (hs := by exact spec_l3Less))
 refine dA 8191 ?_ (x := pkT ga)
 refine sc (fun hbb => ?_) (fun hbb => ?_)
 have hj1 : 1 ≤ j := by omega
 have hlt2 : (lessQ cmpRow) x[i] ((isort (lessQ cmpRow) (x.take i))[j - 1]'(by omega)) = true := (show (lessQ cmpRow) x[i] ((isort (lessQ cmpRow) (x.take i))[j - 1]'(by omega)) = true by simpa using hbb)
 refine sw_skip ?_
 refine sw_block ?_
 refine sG [0, 2, 3, 4, 5] [] ?_
 refine zbf ?_
 refine nx (j - 1) (by exact ⟨by omega, fun t h1 h2 => by by_cases e : t = j - 1; (· subst e; exact hlt2); (· exact haj t (by omega) h2)⟩) (e := (by exact aI (by exact int_eq (by omega)) (tI)))
 have htj : ((isort (lessQ cmpRow) (x.take i)).take j).length = j := by rw [List.length_take]; omega
 have hdj : ((isort (lessQ cmpRow) (x.take i)).drop j).length = i - j := by rw [List.length_drop]; omega
 have hst : j = 0 ∨ ∀ h : j - 1 < (isort (lessQ cmpRow) (x.take i)).length, (lessQ cmpRow) x[i] (isort (lessQ cmpRow) (x.take i))[j - 1] = false := by first | exact .inl (by omega) | (by_cases h0 : j = 0; exact .inl h0; right; intro _; exact (show (lessQ cmpRow) x[i] (isort (lessQ cmpRow) (x.take i))[j - 1] = false by simpa using hbb))
 exact zkx
 refine dF 7 ga ?_
 refine dF 7 ga ?_
 refine dF 31 ga ?_
 refine dF 63 ga ?_
 refine dF 7 ga ?_
 refine dF 7 ga ?_
 refine dF 263 ga ?_
 refine dF 903 ga ?_
 refine dF 1927 ga ?_
 refine dF 4095 ga ?_
 refine dA 8191 ?_ (x := pkF ga)
 refine scF ?_
 have htj : ((isort (lessQ cmpRow) (x.take i)).take j).length = j := by rw [List.length_take]; omega
 have hdj : ((isort (lessQ cmpRow) (x.take i)).drop j).length = i - j := by rw [List.length_drop]; omega
 have hst : j = 0 ∨ ∀ h : j - 1 < (isort (lessQ cmpRow) (x.take i)).length, (lessQ cmpRow) x[i] (isort (lessQ cmpRow) (x.take i))[j - 1] = false := by first | exact .inl (by omega) | (by_cases h0 : j = 0; exact .inl h0; right; intro _; exact (show (lessQ cmpRow) x[i] (isort (lessQ cmpRow) (x.take i))[j - 1] = false by simpa using hb_))
 exact zkx
 have hend : i = x.length := by omega
 exact zcr
end Go.Proofs.YtmkhofdkdklpdaaGreat
