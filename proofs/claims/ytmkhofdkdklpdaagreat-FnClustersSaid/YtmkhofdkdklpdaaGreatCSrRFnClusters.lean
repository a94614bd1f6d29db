/- What functions of the program compute. No condition. -/
import Derived.Test.YtmkhofdkdklpdaaGreatCZMFnClusters
import Derived.Test.YtmkhofdkdklpdaaGreatCFcFnClusters
import Derived.Test.YtmkhofdkdklpdaaGreatCEqPFnClusters
import Derived.Test.YtmkhofdkdklpdaaGreatCDs
import Derived.KernelRfl
set_option linter.unusedVariables false
set_option linter.unusedSimpArgs false
namespace Go.Proofs.YtmkhofdkdklpdaaGreat
open Go Go.RowKit M PV
set_option maxRecDepth 10000
attribute [local irreducible] PV.Lcl PV.LclR RV.Lcl
set_option maxHeartbeats 8000000
theorem ins_Row {m cp : Nat} {jk : List Value} {zs : List NRow} {q : Row × Row → Int} {P S R : List NRow} {a : Int} {b_ : Int}  (hm : m = (zs).length) (hz : zs = P ++ (S ++ R)) (ha : a = (P.length : Int)) (hb : b_ = (P.length + S.length : Nat)) (ho : Ord (ltC q)) (hi : ∀ x, ltC q x x = false) (hn : zs.length ≤ 4398046511104) : ACall Tryz.prog 112 63 m cp (arr nRow zs jk) (arr nRow (P ++ (isort (ltC q) S ++ R)) jk) [(false, [val (vI a)]), (false, [val (vI b_)]), (false, [PV.clo Tryz.prog (as2 (fun x : Row => (true, [val (vI x.Id), sl .v (x.Values.map cInt)]))) (rsI q)])] (resRV []) := by
 refine acall_of (rs := []) Tryz.func112 rfl (nl rfl) (nl rfl) ?_
 intro g_ h0 w0 Fz0 hcp_
 have hzl : zs.length = P.length + (S.length + R.length) := by rw [hz, List.length_append, List.length_append]
 refine sR ?_
 refine za8 ?_
 refine sw_block ?_
 refine sO [(0, _), (1, _), (2, _), (3, _), (8, _), (5000, _), (5001, _)] [(0, (63, arr nRow _ _))] ?_
 refine sL [0, 1, 2, 3, 5000, 5001] [] (fun k : Nat => 1 ≤ k ∧ k ≤ S.length + 1) (fun k : Nat => [(8, RV.int ((P.length + k : Nat) : Int))]) (fun k : Nat => [(0, (63, arr nRow (P ++ (isort (ltC q) (S.take k) ++ (S.drop k ++ R))) jk))]) (fun k : Nat => S.length + 1 - k) 1 (by omega) (by exact aI (by exact int_eq (by omega)) (tI)) (by exact aI (by exact congrArg (fun z_ => some (63, arr nRow z_ jk)) (by rw [hz]; exact cN_first)) (tI)) ?_
 rintro k ⟨hk1, hk⟩
 refine zfo ?_
 refine sc (fun hba => ?_) (fun hba => ?_)
 have hlt : k < S.length := by omega
 have hpl : (isort (ltC q) (S.take k)).length = k := by rw [isort_len, List.length_take]; omega
 refine zau ?_
 refine sO [(0, _), (1, _), (2, _), (3, _), (8, _), (5000, _), (5001, _)] [(0, (63, arr nRow _ _))] ?_
 refine zah ?_
 refine zbb ?_
 refine sP [0, 1, 2, 3, 8, 9, 5000, 5001] [0] ?_
 refine sL [0, 1, 2, 3, 8, 5000, 5001] [] (fun j : Nat => j ≤ k ∧ ∀ i : Nat, j ≤ i → (h : i < (isort (ltC q) (S.take k)).length) → ltC q S[k] (isort (ltC q) (S.take k))[i] = true) (fun j : Nat => [(9, RV.int ((P.length + j : Nat) : Int))]) (fun j : Nat => [(0, (63, arr nRow (cN P (isort (ltC q) (S.take k)) S[k] (S.drop (k + 1) ++ R) j) jk))]) (fun j : Nat => j) k (by exact ⟨Nat.le_refl _, fun i h1 h2 => by omega⟩) (by exact aI (by exact rfl) (tI)) (by exact aI (by exact congrArg (fun z_ => some (63, arr nRow z_ jk)) (cN_start hlt)) (tI)) ?_
 rintro j ⟨hj, haj⟩
 have hcl : (cN P (isort (ltC q) (S.take k)) S[k] (S.drop (k + 1) ++ R) j).length = zs.length := by rw [cN_len (by omega), hz]; simp only [List.length_append, List.length_drop]; omega
 have hbj : P.length + j < (cN P (isort (ltC q) (S.take k)) S[k] (S.drop (k + 1) ++ R) j).length := by omega
 have hbk : P.length + j - 1 < (cN P (isort (ltC q) (S.take k)) S[k] (S.drop (k + 1) ++ R) j).length := by omega
 refine zae ?_
 refine zaf ?_
 refine dA 0 ?_ (x := sM)
 refine dA 3 ?_ (x := B_gtr)
 refine dA 7 ?_ (x := sM)
 refine dx 21 (fun ga sga => ?_) (fun ga sga => ?_)
 refine dB 15 ga ?_ (x := loc_copy (r' := RV.sv false [PV.clo _ _ _]) (.inl rfl) (by decide) (by exact Cp.sv (ToL.cons (PV.To.refl _) ToL.nil) (BorL.cons (bor_clo _ _) BorL.nil)))
 refine zii ?_
 refine dB 111 ga ?_ (x := loc_gidx (k := (P.length + j)) (G := 5001) (by decide) sl_36 (by exact ⟨⟩) (by omega) (by omega))
 refine dB 239 ga ?_ (x := loc_aget (f := nRow) (e := 2) (k := (P.length + j)) (fun _ => rfl) rfl hbj ty_63 (fun h => nomatch h) bor_nRow)
 refine zii ?_
 refine dB 1039 ga ?_ (x := B_sub)
 refine dB 3599 ga ?_ (x := loc_gidx (k := (P.length + j - 1)) (G := 5001) (by decide) sl_36 (by exact ⟨⟩) (by omega) (by omega))
 refine dB 7695 ga ?_ (x := loc_aget (f := nRow) (e := 2) (k := (P.length + j - 1)) (fun _ => rfl) rfl hbk ty_63 (fun h => nomatch h) bor_nRow)
 refine dB 16383 ga ?_ (x := loc_callp ((cN P (isort (ltC q) (S.take k)) S[k] (S.drop (k + 1) ++ R) j)[(P.length + j)].1, (cN P (isort (ltC q) (S.take k)) S[k] (S.drop (k + 1) ++ R) j)[(P.length + j - 1)].1) (qs := [(true, [nv _ (val _), nv _ (sl _ _)]), (true, [nv _ (val _), nv _ (sl _ _)])]) (r := RV.sv false [val _]) (by decide) (by exact (aI (by exact ⟨⟩) (aI (by exact ⟨⟩) tI))) (by exact (aI (aI rfl (ToL.cons (PV.nv_to (PV.To.refl _)) (ToL.cons (PV.nv_to (PV.to_map (fun _ => (ToL.cons (PV.To.refl _) ToL.nil)))) ToL.nil))) (aI (aI rfl (ToL.cons (PV.nv_to (PV.To.refl _)) (ToL.cons (PV.nv_to (PV.to_map (fun _ => (ToL.cons (PV.To.refl _) ToL.nil)))) ToL.nil))) tI))) (by exact rfl))
 refine dB 32767 ga ?_ (x := B_lss)
 refine dA 65535 ?_ (x := pkT ga)
 refine sc (fun hbb => ?_) (fun hbb => ?_)
 have hj1 : 1 ≤ j := by omega
 have hlt2 : ltC q S[k] ((isort (ltC q) (S.take k))[j - 1]'(by omega)) = true := ltC_yes (by have hh := hbb; rwa [cN_at (by omega), cN_pre hj1 (by omega)] at hh)
 refine za6 ?_
 refine sO [(0, _), (1, _), (2, _), (3, _), (8, _), (9, _), (5000, _), (5001, _)] [(0, (63, arr nRow _ _))] ?_
 refine sw_draw hm_ ?_
 refine zij ?_
 refine zij ?_
 refine dA 8 ?_ (x := B_sub)
 refine zij ?_
 refine zk1 ?_
 refine dA 480 ?_ (x := loc_aget (f := nRow) (e := 2) (k := (P.length + j - 1)) (fun _ => rfl) rfl hbk ty_63 (fun h => nomatch h) bor_nRow)
 refine zk2 ?_
 refine dA 7168 ?_ (x := loc_aget (f := nRow) (e := 2) (k := (P.length + j)) (fun _ => rfl) rfl hbj ty_63 (fun h => nomatch h) bor_nRow)
 refine zk3 ?_
 refine zk4 ?_
 refine sG [0, 1, 2, 3, 8, 9, 5000, 5001] [0] ?_
 refine zbf ?_
 refine nx (j - 1) (by exact ⟨by omega, fun i h1 h2 => by by_cases e : i = j - 1; (· subst e; exact hlt2); (· exact haj i (by omega) h2)⟩) (e := (by exact aI (by exact int_eq (by omega)) (tI))) (f := (by exact aI (by exact congrArg (fun z_ => some (63, arr nRow z_ jk)) (cN_swap hj1 (by omega))) (tI)))
 have hst : j = 0 ∨ ∀ h : j - 1 < (isort (ltC q) (S.take k)).length, ltC q S[k] (isort (ltC q) (S.take k))[j - 1] = false := by first | exact .inl (by omega) | (by_cases h0 : j = 0; exact .inl h0; right; intro _; have hh := hbb; rw [cN_at (by omega), cN_pre (by omega) (by omega)] at hh; exact ltC_no hh)
 exact zk5
 refine dF 15 ga ?_
 refine dF 15 ga ?_
 refine dF 15 ga ?_
 refine dF 111 ga ?_
 refine dF 239 ga ?_
 refine dF 15 ga ?_
 refine dF 15 ga ?_
 refine dF 1039 ga ?_
 refine dF 3599 ga ?_
 refine dF 7695 ga ?_
 refine dF 16383 ga ?_
 refine dF 32767 ga ?_
 refine dA 65535 ?_ (x := pkF ga)
 refine scF ?_
 have hst : j = 0 ∨ ∀ h : j - 1 < (isort (ltC q) (S.take k)).length, ltC q S[k] (isort (ltC q) (S.take k))[j - 1] = false := by first | exact .inl (by omega) | (by_cases h0 : j = 0; exact .inl h0; right; intro _; have hh := hb_; rw [cN_at (by omega), cN_pre (by omega) (by omega)] at hh; exact ltC_no hh)
 exact zk5
 have hend : S.length ≤ k := by omega
 refine sw_exit ?_
 exact ⟨(by exact congrArg (fun z_ => some (63, arr nRow z_ jk)) (by rw [List.take_of_length_le hend, List.drop_of_length_le hend, List.nil_append])), rfl, tI⟩
theorem swr_Row {m cp : Nat} {jk : List Value} {zs : List NRow} {q : Row × Row → Int} {P X M Y R : List NRow} {a : Int} {b_ : Int} {c : Int}  (hm : m = (zs).length) (hz : zs = P ++ (X ++ (M ++ (Y ++ R)))) (ha : a = (P.length : Int)) (hb : b_ = (P.length + X.length + M.length : Nat)) (hc : c = (X.length : Int)) (hl : X.length = Y.length) (hn : zs.length ≤ 4398046511104) : ACall Tryz.prog 122 63 m cp (arr nRow zs jk) (arr nRow (P ++ (Y ++ (M ++ (X ++ R)))) jk) [(false, [val (vI a)]), (false, [val (vI b_)]), (false, [val (vI c)]), (false, [PV.clo Tryz.prog (as2 (fun x : Row => (true, [val (vI x.Id), sl .v (x.Values.map cInt)]))) (rsI q)])] (resRV []) := by
 refine acall_of (rs := []) Tryz.func122 rfl (nl rfl) (nl rfl) ?_
 intro g_ h0 w0 Fz0 hcp_
 have hzl : zs.length = P.length + (X.length + (M.length + (Y.length + R.length))) := by rw [hz]; simp only [List.length_append]
 refine sR ?_
 refine zas ?_
 refine sO [(0, _), (1, _), (2, _), (3, _), (4, _), (10, _), (5000, _), (5001, _)] [(0, (63, arr nRow _ _))] ?_
 refine sL [0, 1, 2, 3, 4, 5000, 5001] [] (fun k : Nat => k ≤ X.length) (fun k : Nat => [(10, RV.int (k : Int))]) (fun k : Nat => [(0, (63, arr nRow (sw2 P X M Y R k) jk))]) (fun k : Nat => X.length - k) 0 (by omega) (by exact aI (by exact rfl) (tI)) (by exact aI (by exact congrArg (fun z_ => some (63, arr nRow z_ jk)) (by rw [hz]; exact sw2_zero.symm)) (tI)) ?_
 rintro k hk
 refine zfo ?_
 refine sc (fun hba => ?_) (fun hba => ?_)
 have hlt : k < X.length := by omega
 have hcl : (sw2 P X M Y R k).length = zs.length := by rw [sw2_len (by omega) hl, hz]; simp only [List.length_append]; omega
 have hbj : P.length + k < (sw2 P X M Y R k).length := by omega
 have hbk : P.length + X.length + M.length + k < (sw2 P X M Y R k).length := by omega
 refine za6 ?_
 refine sO [(0, _), (1, _), (2, _), (3, _), (4, _), (10, _), (5000, _), (5001, _)] [(0, (63, arr nRow _ _))] ?_
 refine sw_draw hm_ ?_
 refine zk6 ?_
 refine dA 6 ?_ (x := B_add)
 refine zk6 ?_
 refine dA 96 ?_ (x := B_add)
 refine zk6 ?_
 refine dA 1536 ?_ (x := B_add)
 refine dA 3840 ?_ (x := loc_gidx (k := (P.length + X.length + M.length + k)) (G := 5001) (by decide) sl_36 (by exact ⟨⟩) (by omega) (by omega))
 refine dA 7936 ?_ (x := loc_aget (f := nRow) (e := 2) (k := (P.length + X.length + M.length + k)) (fun _ => rfl) rfl hbk ty_63 (fun h => nomatch h) bor_nRow)
 refine zk6 ?_
 refine dA 98304 ?_ (x := B_add)
 refine dA 245760 ?_ (x := loc_gidx (k := (P.length + k)) (G := 5001) (by decide) sl_36 (by exact ⟨⟩) (by omega) (by omega))
 refine dA 507904 ?_ (x := loc_aget (f := nRow) (e := 2) (k := (P.length + k)) (fun _ => rfl) rfl hbj ty_63 (fun h => nomatch h) bor_nRow)
 refine dA 1048335 ?_ (x := loc_gidx (k := (P.length + k)) (G := 5001) (by decide) sl_36 (by exact ⟨⟩) (by omega) (by omega))
 refine dA 2096911 ?_ (x := loc_astore (f := nRow) (e := 2) (k := (P.length + k)) (ag := true) (vs := nRow _) _ (fun _ => rfl) rfl (by first | omega | (simp only [List.length_set]; omega)) ty_63 (by exact ⟨⟩) (by exact rfl))
 refine dA 4194303 ?_ (x := loc_gidx (k := (P.length + X.length + M.length + k)) (G := 5001) (by decide) sl_36 (by exact ⟨⟩) (by omega) (by omega))
 refine dA 8388607 ?_ (x := loc_astore (f := nRow) (e := 2) (k := (P.length + X.length + M.length + k)) (ag := true) (vs := nRow _) _ (fun _ => rfl) rfl (by first | omega | (simp only [List.length_set]; omega)) ty_63 (by exact ⟨⟩) (by exact rfl))
 refine sG [0, 1, 2, 3, 4, 10, 5000, 5001] [0] ?_
 refine za8 ?_
 refine nx (k + 1) (by omega) (f := (by exact aI (by exact congrArg (fun z_ => some (63, arr nRow z_ jk)) (sw2_step hlt hl)) (tI)))
 have hend : k = X.length := by omega
 refine sw_exit ?_
 exact ⟨(by exact congrArg (fun z_ => some (63, arr nRow z_ jk)) (by exact sw2_all hl hend)), rfl, tI⟩
theorem rot_Row {m cp : Nat} {jk : List Value} {zs : List NRow} {q : Row × Row → Int} {P X Y R : List NRow} {a : Int} {c : Int} {b_ : Int}  (hm : m = (zs).length) (hz : zs = P ++ (X ++ (Y ++ R))) (ha : a = (P.length : Int)) (hc : c = (P.length + X.length : Nat)) (hb : b_ = (P.length + X.length + Y.length : Nat)) (hX : 0 < X.length) (hY : 0 < Y.length) (hn : zs.length ≤ 4398046511104) : ACall Tryz.prog 120 63 m cp (arr nRow zs jk) (arr nRow (P ++ (Y ++ (X ++ R))) jk) [(false, [val (vI a)]), (false, [val (vI c)]), (false, [val (vI b_)]), (false, [PV.clo Tryz.prog (as2 (fun x : Row => (true, [val (vI x.Id), sl .v (x.Values.map cInt)]))) (rsI q)])] (resRV []) := by
 refine acall_of (rs := []) Tryz.func120 rfl (nl rfl) (nl rfl) ?_
 intro g_ h0 w0 Fz0 hcp_
 have hzl : zs.length = P.length + (X.length + (Y.length + R.length)) := by rw [hz]; simp only [List.length_append]
 refine sR ?_
 refine zil ?_
 refine za2 ?_
 refine sO [(0, _), (1, _), (2, _), (3, _), (4, _), (10, _), (5000, _), (5001, _)] [(0, (63, arr nRow _ _))] ?_
 refine sw_reg ?_
 refine zil ?_
 refine zk7 ?_
 refine sP [0, 1, 2, 3, 4, 10, 11, 5000, 5001] [0] ?_
 refine sL [0, 1, 2, 3, 4, 5000, 5001] [] (fun v : List NRow × List NRow × List NRow × List NRow => 0 < v.2.1.length ∧ 0 < v.2.2.1.length ∧ v.1.length + v.2.1.length = X.length ∧ v.1 ++ (v.2.2.1 ++ (v.2.1 ++ v.2.2.2)) = Y ++ X) (fun v : List NRow × List NRow × List NRow × List NRow => [(10, RV.int (v.2.1.length : Int)), (11, RV.int (v.2.2.1.length : Int))]) (fun v : List NRow × List NRow × List NRow × List NRow => [(0, (63, arr nRow (P ++ (v.1 ++ (v.2.1 ++ (v.2.2.1 ++ (v.2.2.2 ++ R))))) jk))]) (fun v : List NRow × List NRow × List NRow × List NRow => v.2.1.length + v.2.2.1.length) ([], X, Y, []) (by exact ⟨hX, hY, by simp, by simp⟩) (by exact aI (by exact int_eq (by dsimp only; omega)) (aI (by exact int_eq (by dsimp only; omega)) (tI))) (by exact aI (by exact congrArg (fun z_ => some (63, arr nRow z_ jk)) (by rw [hz]; try rfl)) (tI)) ?_
 rintro ⟨L, A, B, Q⟩ ⟨hA, hB, hLA, heq⟩
 dsimp only at hA hB hLA heq
 have hlen := congrArg List.length heq
 simp only [List.length_append] at hlen
 have hpa : (L, A, B, Q).2.1.length = A.length := rfl
 have hpb : (L, A, B, Q).2.2.1.length = B.length := rfl
 refine zk8 ?_
 refine zbp ?_
 refine rA ?_ (x := B_neq)
 refine sc (fun hba => ?_) (fun hba => ?_)
 have hne : ¬ A.length = B.length := by omega
 refine zk9 ?_
 refine zka ?_
 refine zkb ?_
 refine sc (fun hbb => ?_) (fun hbb => ?_)
 obtain ⟨v2, hv2⟩ : ∃ v2 : List NRow × List NRow × List NRow × List NRow, v2 = (L ++ B, A.drop B.length, A.take B.length, Q) := ⟨_, rfl⟩
 have hq1 : v2.2.1.length = A.length - B.length := by rw [hv2] <;> (try simp only [List.length_take, List.length_drop]) <;> omega
 have hq2 : v2.2.2.1.length = B.length := by rw [hv2] <;> (try simp only [List.length_take, List.length_drop]) <;> omega
 have hm2 : v2.2.1.length + v2.2.2.1.length < (L, A, B, Q).2.1.length + (L, A, B, Q).2.2.1.length := by omega
 have hI : 0 < v2.2.1.length ∧ 0 < v2.2.2.1.length ∧ v2.1.length + v2.2.1.length = X.length ∧ v2.1 ++ (v2.2.2.1 ++ (v2.2.1 ++ v2.2.2.2)) = Y ++ X := ⟨by omega, by omega, by rw [hq1, hv2, List.length_append]; omega, by rw [hv2, ← heq]; dsimp only; rw [← List.append_assoc (A.take B.length), List.take_append_drop, List.append_assoc]⟩
 refine sS [0, 1, 2, 3, 4, 10, 11, 5000, 5001] [0] ?_
 refine zkc ?_
 refine rA ?_ (x := B_sub)
 refine rM ?_
 refine zkd ?_
 refine rA ?_ (x := loc_acall0 (bx := 0) (G := 5001) (qs := [(false, [val _]), (false, [val _]), (false, [val _]), (false, [PV.clo _ _ _])]) (as_ := [(false, [val _]), (false, [val _]), (false, [val _]), (false, [PV.clo _ _ _])]) (by decide) c_122 rfl (by exact (aI (by exact ⟨⟩) (aI (by exact ⟨⟩) (aI (by exact ⟨⟩) (aI (by exact ⟨⟩) tI))))) (by exact (aI (aI rfl (ToL.cons (PV.To.refl _) ToL.nil)) (aI (aI rfl (ToL.cons (PV.To.refl _) ToL.nil)) (aI (aI rfl (ToL.cons (PV.To.refl _) ToL.nil)) (aI (aI rfl (ToL.cons (PV.To.refl _) ToL.nil)) tI))))) (bor_arr bor_nRow _ _) (by exact (borA_cons (BorL.cons (bor_val _) BorL.nil) (borA_cons (BorL.cons (bor_val _) BorL.nil) (borA_cons (BorL.cons (bor_val _) BorL.nil) (borA_cons (BorL.cons (bor_clo _ _) BorL.nil) borA_nil))))) (by exact (swr_Row (P := P ++ L) (X := A.take B.length) (M := A.drop B.length) (Y := B) (R := Q ++ R) (by (try simp only [List.length_append, List.length_take, List.length_drop, List.length_nil]) <;> omega) (by simp only [List.append_assoc, List.nil_append, td]) (by (try simp only [List.length_append, List.length_take, List.length_drop, List.length_nil]) <;> omega) (by (try simp only [List.length_append, List.length_take, List.length_drop, List.length_nil]) <;> omega) (by (try simp only [List.length_append, List.length_take, List.length_drop, List.length_nil]) <;> omega) (by (try simp only [List.length_append, List.length_take, List.length_drop, List.length_nil]) <;> omega) (by (try simp only [List.length_append, List.length_take, List.length_drop, List.length_nil]) <;> omega))))
 exact zke
 obtain ⟨v2, hv2⟩ : ∃ v2 : List NRow × List NRow × List NRow × List NRow, v2 = (L, B.drop (B.length - A.length), B.take (B.length - A.length), A ++ Q) := ⟨_, rfl⟩
 have hq1 : v2.2.1.length = A.length := by rw [hv2] <;> (try simp only [List.length_take, List.length_drop]) <;> omega
 have hq2 : v2.2.2.1.length = B.length - A.length := by rw [hv2] <;> (try simp only [List.length_take, List.length_drop]) <;> omega
 have hm2 : v2.2.1.length + v2.2.2.1.length < (L, A, B, Q).2.1.length + (L, A, B, Q).2.2.1.length := by omega
 have hI : 0 < v2.2.1.length ∧ 0 < v2.2.2.1.length ∧ v2.1.length + v2.2.1.length = X.length ∧ v2.1 ++ (v2.2.2.1 ++ (v2.2.1 ++ v2.2.2.2)) = Y ++ X := ⟨by omega, by omega, by rw [hq1, hv2]; omega, by rw [hv2, ← heq]; dsimp only; rw [← List.append_assoc (B.take _), List.take_append_drop]⟩
 refine sS [0, 1, 2, 3, 4, 10, 11, 5000, 5001] [0] ?_
 refine zkc ?_
 refine rA ?_ (x := B_sub)
 refine rM ?_
 refine zkf ?_
 refine rM ?_
 refine rA ?_ (x := B_sub)
 refine zkd ?_
 refine rA ?_ (x := loc_acall0 (bx := 0) (G := 5001) (qs := [(false, [val _]), (false, [val _]), (false, [val _]), (false, [PV.clo _ _ _])]) (as_ := [(false, [val _]), (false, [val _]), (false, [val _]), (false, [PV.clo _ _ _])]) (by decide) c_122 rfl (by exact (aI (by exact ⟨⟩) (aI (by exact ⟨⟩) (aI (by exact ⟨⟩) (aI (by exact ⟨⟩) tI))))) (by exact (aI (aI rfl (ToL.cons (PV.To.refl _) ToL.nil)) (aI (aI rfl (ToL.cons (PV.To.refl _) ToL.nil)) (aI (aI rfl (ToL.cons (PV.To.refl _) ToL.nil)) (aI (aI rfl (ToL.cons (PV.To.refl _) ToL.nil)) tI))))) (bor_arr bor_nRow _ _) (by exact (borA_cons (BorL.cons (bor_val _) BorL.nil) (borA_cons (BorL.cons (bor_val _) BorL.nil) (borA_cons (BorL.cons (bor_val _) BorL.nil) (borA_cons (BorL.cons (bor_clo _ _) BorL.nil) borA_nil))))) (by exact (swr_Row (P := P ++ L) (X := A) (M := B.take (B.length - A.length)) (Y := B.drop (B.length - A.length)) (R := Q ++ R) (by (try simp only [List.length_append, List.length_take, List.length_drop, List.length_nil]) <;> omega) (by simp only [List.append_assoc, List.nil_append, td]) (by (try simp only [List.length_append, List.length_take, List.length_drop, List.length_nil]) <;> omega) (by (try simp only [List.length_append, List.length_take, List.length_drop, List.length_nil]) <;> omega) (by (try simp only [List.length_append, List.length_take, List.length_drop, List.length_nil]) <;> omega) (by (try simp only [List.length_append, List.length_take, List.length_drop, List.length_nil]) <;> omega) (by (try simp only [List.length_append, List.length_take, List.length_drop, List.length_nil]) <;> omega))))
 exact zke
 have hee : A.length = B.length := by omega
 refine sw_exit ?_
 refine zka ?_
 refine zkc ?_
 refine rA ?_ (x := B_sub)
 refine rM ?_
 refine zkd ?_
 refine rA ?_ (x := loc_acall0 (bx := 0) (G := 5001) (qs := [(false, [val _]), (false, [val _]), (false, [val _]), (false, [PV.clo _ _ _])]) (as_ := [(false, [val _]), (false, [val _]), (false, [val _]), (false, [PV.clo _ _ _])]) (by decide) c_122 rfl (by exact (aI (by exact ⟨⟩) (aI (by exact ⟨⟩) (aI (by exact ⟨⟩) (aI (by exact ⟨⟩) tI))))) (by exact (aI (aI rfl (ToL.cons (PV.To.refl _) ToL.nil)) (aI (aI rfl (ToL.cons (PV.To.refl _) ToL.nil)) (aI (aI rfl (ToL.cons (PV.To.refl _) ToL.nil)) (aI (aI rfl (ToL.cons (PV.To.refl _) ToL.nil)) tI))))) (bor_arr bor_nRow _ _) (by exact (borA_cons (BorL.cons (bor_val _) BorL.nil) (borA_cons (BorL.cons (bor_val _) BorL.nil) (borA_cons (BorL.cons (bor_val _) BorL.nil) (borA_cons (BorL.cons (bor_clo _ _) BorL.nil) borA_nil))))) (by exact (swr_Row (P := P ++ L) (X := A) (M := []) (Y := B) (R := Q ++ R) (by (try simp only [List.length_append, List.length_take, List.length_drop, List.length_nil]) <;> omega) (by simp only [List.append_assoc, List.nil_append, td]) (by (try simp only [List.length_append, List.length_take, List.length_drop, List.length_nil]) <;> omega) (by (try simp only [List.length_append, List.length_take, List.length_drop, List.length_nil]) <;> omega) (by (try simp only [List.length_append, List.length_take, List.length_drop, List.length_nil]) <;> omega) (by (try simp only [List.length_append, List.length_take, List.length_drop, List.length_nil]) <;> omega) (by (try simp only [List.length_append, List.length_take, List.length_drop, List.length_nil]) <;> omega))))
 exact ⟨(by exact congrArg (fun z_ => some (63, arr nRow z_ jk)) (by simp only [List.append_assoc, List.nil_append]; rw [← List.append_assoc Y X R, ← heq]; simp only [List.append_assoc])), rfl, tI⟩
end Go.Proofs.YtmkhofdkdklpdaaGreat
