/- What functions of the program compute. No condition. -/
import Derived.Test.YtaomckpfgmhapaaCEqPFnTops
import Derived.Test.YtaomckpfgmhapaaCDs
import Derived.KernelRfl
set_option linter.unusedVariables false
set_option linter.unusedSimpArgs false
namespace Go.Proofs.Ytaomckpfgmhapaa
open Go Go.RowKit M
set_option maxRecDepth 10000
attribute [local irreducible] PV.Lcl PV.LclR RV.Lcl
set_option maxHeartbeats 8000000
theorem FSrA_c_86 : callI Try.prog 86 = true := by kernel_rfl
theorem FSrA_sl_24 : sliceI Try.prog 24 = some (35, 3, 56) := by kernel_rfl
theorem FSrA_ty_35 : tyI Try.prog 35 = some (true, 3) := by kernel_rfl
theorem ins_Annotated {m cp : Nat} {jk : List Value} {zs : List NAnnotated} {q : OkA × OkA → Int} {P S R : List NAnnotated} {a : Int} {b_ : Int}  (hm : m = (zs).length) (hz : zs = P ++ (S ++ R)) (ha : a = (P.length : Int)) (hb : b_ = (P.length + S.length : Nat)) (ho : Ord (ltC q)) (hi : ∀ x, ltC q x x = false) (hn : zs.length ≤ 4398046511104) : ACall Try.prog 72 35 m cp (arr nAnnotated zs jk) (arr nAnnotated (P ++ (isort (ltC q) S ++ R)) jk) [(false, [PV.val (vI a)]), (false, [PV.val (vI b_)]), (false, [PV.clo Try.prog (as2 (fun x : OkA => (true, [PV.val (vI x.1.Row.Id), PV.sl .v (x.1.Row.Values.map cInt), PV.sl .v (x.1.Set.map cInt)]))) (rsI q)])] (resRV []) := by
 refine acall_of (rs := []) Try.func72 rfl (Nat.le_of_ble_eq_true rfl) (Nat.le_of_ble_eq_true rfl) ?_
 intro g_ h0 w0 Fz0 hcp_
 have hzl : zs.length = P.length + (S.length + R.length) := by rw [hz, List.length_append, List.length_append]
 refine sw_seq ?_
 refine sw_reg ?_
 refine rA ?_ (x := sM)
 refine rA ?_ (x := B_add)
 refine rA ?_ (x := sA)
 refine sw_block ?_
 refine sO [(0, _), (1, _), (2, _), (3, _), (8, _), (5000, _), (5001, _)] [(0, (35, arr nAnnotated _ _))] ?_
 refine sw_loop (l0 := [(0, RV.sv false [PV.val _]), (1, RV.sv false [PV.val _]), (2, RV.sv false [PV.val _]), (3, RV.sv false [PV.clo _ _ _]), (5000, RV.phi 0 _), (5001, RV.gat _ 0 _ _)]) (b0 := []) (fun k : Nat => 1 ≤ k ∧ k ≤ S.length + 1) (fun k : Nat => [(8, RV.int ((P.length + k : Nat) : Int))]) (fun k : Nat => [(0, (35, arr nAnnotated (P ++ (isort (ltC q) (S.take k) ++ (S.drop k ++ R))) jk))]) (fun k : Nat => S.length + 1 - k) 1 (by omega) (by exact ⟨rfl, rfl, rfl, rfl, rfl, rfl, ⟨⟩⟩) (by exact ⟨⟩) (by exact And.intro (by exact int_eq (by omega)) (True.intro)) (by exact And.intro (by exact congrArg (fun z_ => some (35, arr nAnnotated z_ jk)) (by rw [hz]; exact cN_first)) (True.intro)) ?_
 rintro k ⟨hk1, hk⟩
 refine sw_seq ?_
 refine sw_seq ?_
 refine sw_reg ?_
 refine rA ?_ (x := sM)
 refine rA ?_ (x := sM)
 refine rA ?_ (x := B_lss)
 refine sw_cond (t := 14) rfl (fun hb1 => ?_) (fun hb1 => ?_)
 ·try simp only [q1, q2, q3, q4, q5, q6, q7, q8, q9] at hb1
  have hlt : k < S.length := by omega
  have hpl : (isort (ltC q) (S.take k)).length = k := by rw [isort_len, List.length_take]; omega
  refine sw_skip ?_
  refine sw_seq ?_
  refine sw_block ?_
  refine sw_seq ?_
  refine sO [(0, _), (1, _), (2, _), (3, _), (8, _), (5000, _), (5001, _)] [(0, (35, arr nAnnotated _ _))] ?_
  refine sw_reg ?_
  refine rA ?_ (x := sM)
  refine rA ?_ (x := sA)
  refine sw_block ?_
  refine sO [(0, _), (1, _), (2, _), (3, _), (8, _), (9, _), (5000, _), (5001, _)] [(0, _)] ?_
  refine sw_loop (l0 := [(0, RV.sv false [PV.val _]), (1, RV.sv false [PV.val _]), (2, RV.sv false [PV.val _]), (3, RV.sv false [PV.clo _ _ _]), (8, RV.sv false [PV.val _]), (5000, RV.phi 0 _), (5001, RV.gat _ 0 _ _)]) (b0 := []) (fun j : Nat => j ≤ k ∧ ∀ i : Nat, j ≤ i → (h : i < (isort (ltC q) (S.take k)).length) → ltC q S[k] (isort (ltC q) (S.take k))[i] = true) (fun j : Nat => [(9, RV.int ((P.length + j : Nat) : Int))]) (fun j : Nat => [(0, (35, arr nAnnotated (cN P (isort (ltC q) (S.take k)) S[k] (S.drop (k + 1) ++ R) j) jk))]) (fun j : Nat => j) k (by exact ⟨Nat.le_refl _, fun i h1 h2 => by omega⟩) (by exact ⟨rfl, rfl, rfl, rfl, rfl, rfl, rfl, ⟨⟩⟩) (by exact ⟨⟩) (by exact And.intro (by exact rfl) (True.intro)) (by exact And.intro (by exact congrArg (fun z_ => some (35, arr nAnnotated z_ jk)) (cN_start hlt)) (True.intro)) ?_
  rintro j ⟨hj, haj⟩
  have hcl : (cN P (isort (ltC q) (S.take k)) S[k] (S.drop (k + 1) ++ R) j).length = zs.length := by rw [cN_len (by omega), hz]; simp only [List.length_append, List.length_drop]; omega
  have hbj : P.length + j < (cN P (isort (ltC q) (S.take k)) S[k] (S.drop (k + 1) ++ R) j).length := by omega
  have hbk : P.length + j - 1 < (cN P (isort (ltC q) (S.take k)) S[k] (S.drop (k + 1) ++ R) j).length := by omega
  refine sw_seq ?_
  refine sw_seq ?_
  refine sw_draw hm_ ?_
  refine dA 0 ?_ (x := sM)
  refine dA 0 ?_ (x := sM)
  refine dA 3 ?_ (x := B_gtr)
  refine dA 7 ?_ (x := sM)
  refine Run.cases (s := 21) rfl (fun g2 => ?_) (fun g2 => ?_)
  ·have sg2 := g2
   try simp only [q1, q2, q3, q4, q5, q6, q7, q8, q9] at sg2
   refine dB 15 g2 ?_ (x := loc_copy (r' := RV.sv false [PV.clo _ _ _]) (.inl rfl) (by decide) (by exact Cp.sv (ToL.cons (PV.To.refl _) ToL.nil) (BorL.cons (PV.bor_clo _ _) BorL.nil)))
   refine dB 15 g2 ?_ (x := vM false [PV.val _])
   refine dB 15 g2 ?_ (x := sM)
   refine dB 111 g2 ?_ (x := loc_gidx (k := (P.length + j)) (G := 5001) (by decide) FSrA_sl_24 (by exact ⟨⟩) (by omega) (by omega))
   refine dB 239 g2 ?_ (x := loc_aget (f := nAnnotated) (e := 3) (k := (P.length + j)) (fun _ => rfl) rfl hbj FSrA_ty_35 (fun h => nomatch h) bor_nAnnotated)
   refine dB 15 g2 ?_ (x := vM false [PV.val _])
   refine dB 15 g2 ?_ (x := sM)
   refine dB 1039 g2 ?_ (x := B_sub)
   refine dB 3599 g2 ?_ (x := loc_gidx (k := (P.length + j - 1)) (G := 5001) (by decide) FSrA_sl_24 (by exact ⟨⟩) (by omega) (by omega))
   refine dB 7695 g2 ?_ (x := loc_aget (f := nAnnotated) (e := 3) (k := (P.length + j - 1)) (fun _ => rfl) rfl hbk FSrA_ty_35 (fun h => nomatch h) bor_nAnnotated)
   refine dB 16383 g2 ?_ (x := loc_callp ((cN P (isort (ltC q) (S.take k)) S[k] (S.drop (k + 1) ++ R) j)[(P.length + j)].1, (cN P (isort (ltC q) (S.take k)) S[k] (S.drop (k + 1) ++ R) j)[(P.length + j - 1)].1) (qs := [(true, [PV.nv _ (PV.val _), PV.nv _ (PV.sl _ _), PV.nv _ (PV.sl _ _)]), (true, [PV.nv _ (PV.val _), PV.nv _ (PV.sl _ _), PV.nv _ (PV.sl _ _)])]) (r := RV.sv false [PV.val _]) (by decide) (by exact (And.intro (by exact ⟨⟩) (And.intro (by exact ⟨⟩) True.intro))) (by exact (And.intro (And.intro rfl (ToL.cons (PV.nv_to (PV.To.refl _)) (ToL.cons (PV.nv_to (PV.to_map (fun _ => (ToL.cons (PV.To.refl _) ToL.nil)))) (ToL.cons (PV.nv_to (PV.to_map (fun _ => (ToL.cons (PV.To.refl _) ToL.nil)))) ToL.nil)))) (And.intro (And.intro rfl (ToL.cons (PV.nv_to (PV.To.refl _)) (ToL.cons (PV.nv_to (PV.to_map (fun _ => (ToL.cons (PV.To.refl _) ToL.nil)))) (ToL.cons (PV.nv_to (PV.to_map (fun _ => (ToL.cons (PV.To.refl _) ToL.nil)))) ToL.nil)))) True.intro))) (by exact rfl))
   refine dB 32767 g2 ?_ (x := B_lss)
   refine dA 65535 ?_ (x := pkT g2)
   refine sw_cond (t := 34) rfl (fun hb3 => ?_) (fun hb3 => ?_)
   ·try simp only [q1, q2, q3, q4, q5, q6, q7, q8, q9] at hb3
    have hj1 : 1 ≤ j := by omega
    have hlt2 : ltC q S[k] ((isort (ltC q) (S.take k))[j - 1]'(by omega)) = true := ltC_yes (by have hh := hb3; rwa [cN_at (by omega), cN_pre hj1 (by omega)] at hh)
    refine sw_skip ?_
    refine sw_seq ?_
    refine sw_block ?_
    refine sO [(0, _), (1, _), (2, _), (3, _), (8, _), (9, _), (5000, _), (5001, _)] [(0, (35, arr nAnnotated _ _))] ?_
    refine sw_draw hm_ ?_
    refine dA 0 ?_ (x := vM false [PV.val _])
    refine dA 0 ?_ (x := sM)
    refine dA 0 ?_ (x := vM false [PV.val _])
    refine dA 0 ?_ (x := sM)
    refine dA 8 ?_ (x := B_sub)
    refine dA 0 ?_ (x := vM false [PV.val _])
    refine dA 0 ?_ (x := sM)
    refine dA 64 ?_ (x := B_sub)
    refine dA 224 ?_ (x := loc_gidx (k := (P.length + j - 1)) (G := 5001) (by decide) FSrA_sl_24 (by exact ⟨⟩) (by omega) (by omega))
    refine dA 480 ?_ (x := loc_aget (f := nAnnotated) (e := 3) (k := (P.length + j - 1)) (fun _ => rfl) rfl hbk FSrA_ty_35 (fun h => nomatch h) bor_nAnnotated)
    refine dA 0 ?_ (x := vM false [PV.val _])
    refine dA 0 ?_ (x := sM)
    refine dA 3072 ?_ (x := loc_gidx (k := (P.length + j)) (G := 5001) (by decide) FSrA_sl_24 (by exact ⟨⟩) (by omega) (by omega))
    refine dA 7168 ?_ (x := loc_aget (f := nAnnotated) (e := 3) (k := (P.length + j)) (fun _ => rfl) rfl hbj FSrA_ty_35 (fun h => nomatch h) bor_nAnnotated)
    refine dA 16355 ?_ (x := loc_gidx (k := (P.length + j)) (G := 5001) (by decide) FSrA_sl_24 (by exact ⟨⟩) (by omega) (by omega))
    refine dA 32739 ?_ (x := loc_astore (f := nAnnotated) (e := 3) (k := (P.length + j)) (ag := true) (vs := nAnnotated _) _ (fun _ => rfl) rfl (by first | omega | (simp only [List.length_set]; omega)) FSrA_ty_35 (by exact ⟨⟩) (by exact rfl))
    refine dA 65535 ?_ (x := loc_gidx (k := (P.length + j - 1)) (G := 5001) (by decide) FSrA_sl_24 (by exact ⟨⟩) (by omega) (by omega))
    refine dA 131071 ?_ (x := loc_astore (f := nAnnotated) (e := 3) (k := (P.length + j - 1)) (ag := true) (vs := nAnnotated _) _ (fun _ => rfl) rfl (by first | omega | (simp only [List.length_set]; omega)) FSrA_ty_35 (by exact ⟨⟩) (by exact rfl))
    refine sO [(0, _), (1, _), (2, _), (3, _), (8, _), (9, _), (5000, _), (5001, _)] [(0, _)] ?_
    refine sw_reg ?_
    refine rA ?_ (x := sM)
    refine rA ?_ (x := B_sub)
    refine rA ?_ (x := sA)
    refine Exists.intro (j - 1) (And.intro (by exact ⟨by omega, fun i h1 h2 => by by_cases e : i = j - 1; (· subst e; exact hlt2); (· exact haj i (by omega) h2)⟩) (And.intro (by omega) (And.intro (And.intro (by exact ⟨rfl, rfl, rfl, rfl, rfl, rfl, rfl, ⟨⟩⟩) (by exact ⟨⟩)) (And.intro (by exact And.intro (by exact int_eq (by omega)) (True.intro)) (by exact And.intro (by exact congrArg (fun z_ => some (35, arr nAnnotated z_ jk)) (cN_swap hj1 (by omega))) (True.intro))))))
   ·try simp only [q1, q2, q3, q4, q5, q6, q7, q8, q9] at hb3
    have hst : j = 0 ∨ ∀ h : j - 1 < (isort (ltC q) (S.take k)).length, ltC q S[k] (isort (ltC q) (S.take k))[j - 1] = false := by first | exact .inl (by omega) | (by_cases h0 : j = 0; exact .inl h0; right; intro _; have hh := hb3; rw [cN_at (by omega), cN_pre (by omega) (by omega)] at hh; exact ltC_no hh)
    refine sw_exit ?_
    refine sO [(0, _), (1, _), (2, _), (3, _), (8, _), (9, _), (5000, _), (5001, _)] [(0, (35, arr nAnnotated _ _))] ?_
    refine sw_reg ?_
    refine rA ?_ (x := sM)
    refine rA ?_ (x := B_add)
    refine rA ?_ (x := sA)
    refine Exists.intro (k + 1) (And.intro (by omega) (And.intro (by omega) (And.intro (And.intro (by exact ⟨rfl, rfl, rfl, rfl, rfl, rfl, ⟨⟩⟩) (by exact ⟨⟩)) (And.intro (by exact And.intro (by exact int_eq (by omega)) (True.intro)) (by exact And.intro (by exact congrArg (fun z_ => some (35, arr nAnnotated z_ jk)) (cN_end ho hi hlt hj haj hst)) (True.intro))))))
  ·have sg2 := g2
   try simp only [q1, q2, q3, q4, q5, q6, q7, q8, q9] at sg2
   refine dF 15 g2 ?_
   refine dF 15 g2 ?_
   refine dF 15 g2 ?_
   refine dF 111 g2 ?_
   refine dF 239 g2 ?_
   refine dF 15 g2 ?_
   refine dF 15 g2 ?_
   refine dF 1039 g2 ?_
   refine dF 3599 g2 ?_
   refine dF 7695 g2 ?_
   refine dF 16383 g2 ?_
   refine dF 32767 g2 ?_
   refine dA 65535 ?_ (x := pkF g2)
   refine sw_cond (t := 34) rfl (fun hb_ => nomatch hb_) (fun hb_ => ?_)
   have hst : j = 0 ∨ ∀ h : j - 1 < (isort (ltC q) (S.take k)).length, ltC q S[k] (isort (ltC q) (S.take k))[j - 1] = false := by first | exact .inl (by omega) | (by_cases h0 : j = 0; exact .inl h0; right; intro _; have hh := hb_; rw [cN_at (by omega), cN_pre (by omega) (by omega)] at hh; exact ltC_no hh)
   refine sw_exit ?_
   refine sO [(0, _), (1, _), (2, _), (3, _), (8, _), (9, _), (5000, _), (5001, _)] [(0, (35, arr nAnnotated _ _))] ?_
   refine sw_reg ?_
   refine rA ?_ (x := sM)
   refine rA ?_ (x := B_add)
   refine rA ?_ (x := sA)
   refine Exists.intro (k + 1) (And.intro (by omega) (And.intro (by omega) (And.intro (And.intro (by exact ⟨rfl, rfl, rfl, rfl, rfl, rfl, ⟨⟩⟩) (by exact ⟨⟩)) (And.intro (by exact And.intro (by exact int_eq (by omega)) (True.intro)) (by exact And.intro (by exact congrArg (fun z_ => some (35, arr nAnnotated z_ jk)) (cN_end ho hi hlt hj haj hst)) (True.intro))))))
 ·try simp only [q1, q2, q3, q4, q5, q6, q7, q8, q9] at hb1
  have hend : S.length ≤ k := by omega
  refine sw_exit ?_
  exact ⟨(by exact congrArg (fun z_ => some (35, arr nAnnotated z_ jk)) (by rw [List.take_of_length_le hend, List.drop_of_length_le hend, List.nil_append])), rfl, True.intro⟩
theorem swr_Annotated {m cp : Nat} {jk : List Value} {zs : List NAnnotated} {q : OkA × OkA → Int} {P X M Y R : List NAnnotated} {a : Int} {b_ : Int} {c : Int}  (hm : m = (zs).length) (hz : zs = P ++ (X ++ (M ++ (Y ++ R)))) (ha : a = (P.length : Int)) (hb : b_ = (P.length + X.length + M.length : Nat)) (hc : c = (X.length : Int)) (hl : X.length = Y.length) (hn : zs.length ≤ 4398046511104) : ACall Try.prog 86 35 m cp (arr nAnnotated zs jk) (arr nAnnotated (P ++ (Y ++ (M ++ (X ++ R)))) jk) [(false, [PV.val (vI a)]), (false, [PV.val (vI b_)]), (false, [PV.val (vI c)]), (false, [PV.clo Try.prog (as2 (fun x : OkA => (true, [PV.val (vI x.1.Row.Id), PV.sl .v (x.1.Row.Values.map cInt), PV.sl .v (x.1.Set.map cInt)]))) (rsI q)])] (resRV []) := by
 refine acall_of (rs := []) Try.func86 rfl (Nat.le_of_ble_eq_true rfl) (Nat.le_of_ble_eq_true rfl) ?_
 intro g_ h0 w0 Fz0 hcp_
 have hzl : zs.length = P.length + (X.length + (M.length + (Y.length + R.length))) := by rw [hz]; simp only [List.length_append]
 refine sw_seq ?_
 refine sw_reg ?_
 refine rA ?_ (x := kA)
 refine sw_block ?_
 refine sO [(0, _), (1, _), (2, _), (3, _), (4, _), (10, _), (5000, _), (5001, _)] [(0, (35, arr nAnnotated _ _))] ?_
 refine sw_loop (l0 := [(0, RV.sv false [PV.val _]), (1, RV.sv false [PV.val _]), (2, RV.sv false [PV.val _]), (3, RV.sv false [PV.val _]), (4, RV.sv false [PV.clo _ _ _]), (5000, RV.phi 0 _), (5001, RV.gat _ 0 _ _)]) (b0 := []) (fun k : Nat => k ≤ X.length) (fun k : Nat => [(10, RV.int (k : Int))]) (fun k : Nat => [(0, (35, arr nAnnotated (sw2 P X M Y R k) jk))]) (fun k : Nat => X.length - k) 0 (by omega) (by exact ⟨rfl, rfl, rfl, rfl, rfl, rfl, rfl, ⟨⟩⟩) (by exact ⟨⟩) (by exact And.intro (by exact rfl) (True.intro)) (by exact And.intro (by exact congrArg (fun z_ => some (35, arr nAnnotated z_ jk)) (by rw [hz]; exact sw2_zero.symm)) (True.intro)) ?_
 rintro k hk
 refine sw_seq ?_
 refine sw_seq ?_
 refine sw_reg ?_
 refine rA ?_ (x := sM)
 refine rA ?_ (x := sM)
 refine rA ?_ (x := B_lss)
 refine sw_cond (t := 13) rfl (fun hb1 => ?_) (fun hb1 => ?_)
 ·try simp only [q1, q2, q3, q4, q5, q6, q7, q8, q9] at hb1
  have hlt : k < X.length := by omega
  have hcl : (sw2 P X M Y R k).length = zs.length := by rw [sw2_len (by omega) hl, hz]; simp only [List.length_append]; omega
  have hbj : P.length + k < (sw2 P X M Y R k).length := by omega
  have hbk : P.length + X.length + M.length + k < (sw2 P X M Y R k).length := by omega
  refine sw_skip ?_
  refine sw_seq ?_
  refine sw_block ?_
  refine sO [(0, _), (1, _), (2, _), (3, _), (4, _), (10, _), (5000, _), (5001, _)] [(0, (35, arr nAnnotated _ _))] ?_
  refine sw_draw hm_ ?_
  refine dA 0 ?_ (x := vM false [PV.val _])
  refine dA 0 ?_ (x := sM)
  refine dA 0 ?_ (x := sM)
  refine dA 6 ?_ (x := B_add)
  refine dA 0 ?_ (x := vM false [PV.val _])
  refine dA 0 ?_ (x := sM)
  refine dA 0 ?_ (x := sM)
  refine dA 96 ?_ (x := B_add)
  refine dA 0 ?_ (x := vM false [PV.val _])
  refine dA 0 ?_ (x := sM)
  refine dA 0 ?_ (x := sM)
  refine dA 1536 ?_ (x := B_add)
  refine dA 3840 ?_ (x := loc_gidx (k := (P.length + X.length + M.length + k)) (G := 5001) (by decide) FSrA_sl_24 (by exact ⟨⟩) (by omega) (by omega))
  refine dA 7936 ?_ (x := loc_aget (f := nAnnotated) (e := 3) (k := (P.length + X.length + M.length + k)) (fun _ => rfl) rfl hbk FSrA_ty_35 (fun h => nomatch h) bor_nAnnotated)
  refine dA 0 ?_ (x := vM false [PV.val _])
  refine dA 0 ?_ (x := sM)
  refine dA 0 ?_ (x := sM)
  refine dA 98304 ?_ (x := B_add)
  refine dA 245760 ?_ (x := loc_gidx (k := (P.length + k)) (G := 5001) (by decide) FSrA_sl_24 (by exact ⟨⟩) (by omega) (by omega))
  refine dA 507904 ?_ (x := loc_aget (f := nAnnotated) (e := 3) (k := (P.length + k)) (fun _ => rfl) rfl hbj FSrA_ty_35 (fun h => nomatch h) bor_nAnnotated)
  refine dA 1048335 ?_ (x := loc_gidx (k := (P.length + k)) (G := 5001) (by decide) FSrA_sl_24 (by exact ⟨⟩) (by omega) (by omega))
  refine dA 2096911 ?_ (x := loc_astore (f := nAnnotated) (e := 3) (k := (P.length + k)) (ag := true) (vs := nAnnotated _) _ (fun _ => rfl) rfl (by first | omega | (simp only [List.length_set]; omega)) FSrA_ty_35 (by exact ⟨⟩) (by exact rfl))
  refine dA 4194303 ?_ (x := loc_gidx (k := (P.length + X.length + M.length + k)) (G := 5001) (by decide) FSrA_sl_24 (by exact ⟨⟩) (by omega) (by omega))
  refine dA 8388607 ?_ (x := loc_astore (f := nAnnotated) (e := 3) (k := (P.length + X.length + M.length + k)) (ag := true) (vs := nAnnotated _) _ (fun _ => rfl) rfl (by first | omega | (simp only [List.length_set]; omega)) FSrA_ty_35 (by exact ⟨⟩) (by exact rfl))
  refine sO [(0, _), (1, _), (2, _), (3, _), (4, _), (10, _), (5000, _), (5001, _)] [(0, _)] ?_
  refine sw_reg ?_
  refine rA ?_ (x := sM)
  refine rA ?_ (x := B_add)
  refine rA ?_ (x := sA)
  refine Exists.intro (k + 1) (And.intro (by omega) (And.intro (by omega) (And.intro (And.intro (by exact ⟨rfl, rfl, rfl, rfl, rfl, rfl, rfl, ⟨⟩⟩) (by exact ⟨⟩)) (And.intro (by exact And.intro (by exact rfl) (True.intro)) (by exact And.intro (by exact congrArg (fun z_ => some (35, arr nAnnotated z_ jk)) (sw2_step hlt hl)) (True.intro))))))
 ·try simp only [q1, q2, q3, q4, q5, q6, q7, q8, q9] at hb1
  have hend : k = X.length := by omega
  refine sw_exit ?_
  exact ⟨(by exact congrArg (fun z_ => some (35, arr nAnnotated z_ jk)) (by exact sw2_all hl hend)), rfl, True.intro⟩
theorem rot_Annotated {m cp : Nat} {jk : List Value} {zs : List NAnnotated} {q : OkA × OkA → Int} {P X Y R : List NAnnotated} {a : Int} {c : Int} {b_ : Int}  (hm : m = (zs).length) (hz : zs = P ++ (X ++ (Y ++ R))) (ha : a = (P.length : Int)) (hc : c = (P.length + X.length : Nat)) (hb : b_ = (P.length + X.length + Y.length : Nat)) (hX : 0 < X.length) (hY : 0 < Y.length) (hn : zs.length ≤ 4398046511104) : ACall Try.prog 79 35 m cp (arr nAnnotated zs jk) (arr nAnnotated (P ++ (Y ++ (X ++ R))) jk) [(false, [PV.val (vI a)]), (false, [PV.val (vI c)]), (false, [PV.val (vI b_)]), (false, [PV.clo Try.prog (as2 (fun x : OkA => (true, [PV.val (vI x.1.Row.Id), PV.sl .v (x.1.Row.Values.map cInt), PV.sl .v (x.1.Set.map cInt)]))) (rsI q)])] (resRV []) := by
 refine acall_of (rs := []) Try.func79 rfl (Nat.le_of_ble_eq_true rfl) (Nat.le_of_ble_eq_true rfl) ?_
 intro g_ h0 w0 Fz0 hcp_
 have hzl : zs.length = P.length + (X.length + (Y.length + R.length)) := by rw [hz]; simp only [List.length_append]
 refine sw_seq ?_
 refine sw_reg ?_
 refine rA ?_ (x := sM)
 refine rA ?_ (x := sM)
 refine rA ?_ (x := B_sub)
 refine rA ?_ (x := sA)
 refine sw_seq ?_
 refine sO [(0, _), (1, _), (2, _), (3, _), (4, _), (10, _), (5000, _), (5001, _)] [(0, (35, arr nAnnotated _ _))] ?_
 refine sw_reg ?_
 refine rA ?_ (x := sM)
 refine rA ?_ (x := sM)
 refine rA ?_ (x := B_sub)
 refine rA ?_ (x := sA)
 refine sw_seq ?_
 refine sw_block ?_
 refine sO [(0, _), (1, _), (2, _), (3, _), (4, _), (10, _), (11, _), (5000, _), (5001, _)] [(0, _)] ?_
 refine sw_loop (l0 := [(0, RV.sv false [PV.val _]), (1, RV.sv false [PV.val _]), (2, RV.sv false [PV.val _]), (3, RV.sv false [PV.val _]), (4, RV.sv false [PV.clo _ _ _]), (5000, RV.phi 0 _), (5001, RV.gat _ 0 _ _)]) (b0 := []) (fun v : List NAnnotated × List NAnnotated × List NAnnotated × List NAnnotated => 0 < v.2.1.length ∧ 0 < v.2.2.1.length ∧ v.1.length + v.2.1.length = X.length ∧ v.1 ++ (v.2.2.1 ++ (v.2.1 ++ v.2.2.2)) = Y ++ X) (fun v : List NAnnotated × List NAnnotated × List NAnnotated × List NAnnotated => [(10, RV.int (v.2.1.length : Int)), (11, RV.int (v.2.2.1.length : Int))]) (fun v : List NAnnotated × List NAnnotated × List NAnnotated × List NAnnotated => [(0, (35, arr nAnnotated (P ++ (v.1 ++ (v.2.1 ++ (v.2.2.1 ++ (v.2.2.2 ++ R))))) jk))]) (fun v : List NAnnotated × List NAnnotated × List NAnnotated × List NAnnotated => v.2.1.length + v.2.2.1.length) ([], X, Y, []) (by exact ⟨hX, hY, by simp, by simp⟩) (by exact ⟨rfl, rfl, rfl, rfl, rfl, rfl, rfl, ⟨⟩⟩) (by exact ⟨⟩) (by exact And.intro (by exact int_eq (by dsimp only; omega)) (And.intro (by exact int_eq (by dsimp only; omega)) (True.intro))) (by exact And.intro (by exact congrArg (fun z_ => some (35, arr nAnnotated z_ jk)) (by rw [hz]; try rfl)) (True.intro)) ?_
 rintro ⟨L, A, B, Q⟩ ⟨hA, hB, hLA, heq⟩
 dsimp only at hA hB hLA heq
 have hlen := congrArg List.length heq
 simp only [List.length_append] at hlen
 have hpa : (L, A, B, Q).2.1.length = A.length := rfl
 have hpb : (L, A, B, Q).2.2.1.length = B.length := rfl
 refine sw_seq ?_
 refine sw_seq ?_
 refine sw_reg ?_
 refine rA ?_ (x := sM)
 refine rA ?_ (x := sM)
 refine rA ?_ (x := B_neq)
 refine sw_cond (t := 20) rfl (fun hb1 => ?_) (fun hb1 => ?_)
 ·try simp only [q1, q2, q3, q4, q5, q6, q7, q8, q9] at hb1
  have hne : ¬ A.length = B.length := by omega
  refine sw_skip ?_
  refine sw_block ?_
  refine sw_seq ?_
  refine sO [(0, _), (1, _), (2, _), (3, _), (4, _), (10, _), (11, _), (5000, _), (5001, _)] [(0, (35, arr nAnnotated _ _))] ?_
  refine sw_reg ?_
  refine rA ?_ (x := sM)
  refine rA ?_ (x := sM)
  refine rA ?_ (x := B_gtr)
  refine sw_cond (t := 23) rfl (fun hb2 => ?_) (fun hb2 => ?_)
  ·try simp only [q1, q2, q3, q4, q5, q6, q7, q8, q9] at hb2
   obtain ⟨v2, hv2⟩ : ∃ v2 : List NAnnotated × List NAnnotated × List NAnnotated × List NAnnotated, v2 = (L ++ B, A.drop B.length, A.take B.length, Q) := ⟨_, rfl⟩
   have hq1 : v2.2.1.length = A.length - B.length := by rw [hv2] <;> (try simp only [List.length_take, List.length_drop]) <;> omega
   have hq2 : v2.2.2.1.length = B.length := by rw [hv2] <;> (try simp only [List.length_take, List.length_drop]) <;> omega
   have hm2 : v2.2.1.length + v2.2.2.1.length < (L, A, B, Q).2.1.length + (L, A, B, Q).2.2.1.length := by omega
   have hI : 0 < v2.2.1.length ∧ 0 < v2.2.2.1.length ∧ v2.1.length + v2.2.1.length = X.length ∧ v2.1 ++ (v2.2.2.1 ++ (v2.2.1 ++ v2.2.2.2)) = Y ++ X := ⟨by omega, by omega, by rw [hq1, hv2, List.length_append]; omega, by rw [hv2, ← heq]; dsimp only; rw [← List.append_assoc (A.take B.length), List.take_append_drop, List.append_assoc]⟩
   refine sw_seq ?_
   refine sO [(0, _), (1, _), (2, _), (3, _), (4, _), (10, _), (11, _), (5000, _), (5001, _)] [(0, _)] ?_
   refine sw_reg ?_
   refine rA ?_ (x := vM false [PV.val _])
   refine rA ?_ (x := sM)
   refine rA ?_ (x := sM)
   refine rA ?_ (x := B_sub)
   refine rA ?_ (x := sM)
   refine rA ?_ (x := sM)
   refine rA ?_ (x := loc_copy (r' := RV.sv false [PV.clo _ _ _]) (.inl rfl) (by decide) (by exact Cp.sv (ToL.cons (PV.To.refl _) ToL.nil) (BorL.cons (PV.bor_clo _ _) BorL.nil)))
   refine rA ?_ (x := loc_acall0 (bx := 0) (G := 5001) (qs := [(false, [PV.val _]), (false, [PV.val _]), (false, [PV.val _]), (false, [PV.clo _ _ _])]) (as_ := [(false, [PV.val _]), (false, [PV.val _]), (false, [PV.val _]), (false, [PV.clo _ _ _])]) (by decide) FSrA_c_86 rfl (by exact (And.intro (by exact ⟨⟩) (And.intro (by exact ⟨⟩) (And.intro (by exact ⟨⟩) (And.intro (by exact ⟨⟩) True.intro))))) (by exact (And.intro (And.intro rfl (ToL.cons (PV.To.refl _) ToL.nil)) (And.intro (And.intro rfl (ToL.cons (PV.To.refl _) ToL.nil)) (And.intro (And.intro rfl (ToL.cons (PV.To.refl _) ToL.nil)) (And.intro (And.intro rfl (ToL.cons (PV.To.refl _) ToL.nil)) True.intro))))) (bor_arr bor_nAnnotated _ _) (by exact (borA_cons (BorL.cons (PV.bor_val _) BorL.nil) (borA_cons (BorL.cons (PV.bor_val _) BorL.nil) (borA_cons (BorL.cons (PV.bor_val _) BorL.nil) (borA_cons (BorL.cons (PV.bor_clo _ _) BorL.nil) borA_nil))))) (by exact (swr_Annotated (P := P ++ L) (X := A.take B.length) (M := A.drop B.length) (Y := B) (R := Q ++ R) (by (try simp only [List.length_append, List.length_take, List.length_drop, List.length_nil]) <;> omega) (by simp only [List.append_assoc, List.nil_append, td]) (by (try simp only [List.length_append, List.length_take, List.length_drop, List.length_nil]) <;> omega) (by (try simp only [List.length_append, List.length_take, List.length_drop, List.length_nil]) <;> omega) (by (try simp only [List.length_append, List.length_take, List.length_drop, List.length_nil]) <;> omega) (by (try simp only [List.length_append, List.length_take, List.length_drop, List.length_nil]) <;> omega) (by (try simp only [List.length_append, List.length_take, List.length_drop, List.length_nil]) <;> omega))))
   refine sO [(0, _), (1, _), (2, _), (3, _), (4, _), (10, _), (11, _), (5000, _), (5001, _)] [(0, _)] ?_
   refine sw_reg ?_
   refine rA ?_ (x := sM)
   refine rA ?_ (x := sM)
   refine rA ?_ (x := B_sub)
   refine rA ?_ (x := sA)
   refine Exists.intro v2 (And.intro (by exact hI) (And.intro (by exact hm2) (And.intro (And.intro (by exact ⟨rfl, rfl, rfl, rfl, rfl, rfl, rfl, ⟨⟩⟩) (by exact ⟨⟩)) (And.intro (by exact And.intro (by exact int_eq (by omega)) (And.intro (by exact int_eq (by omega)) (True.intro))) (by exact And.intro (by exact congrArg (fun z_ => some (35, arr nAnnotated z_ jk)) (by rw [hv2]; simp only [List.append_assoc])) (True.intro))))))
  ·try simp only [q1, q2, q3, q4, q5, q6, q7, q8, q9] at hb2
   obtain ⟨v2, hv2⟩ : ∃ v2 : List NAnnotated × List NAnnotated × List NAnnotated × List NAnnotated, v2 = (L, B.drop (B.length - A.length), B.take (B.length - A.length), A ++ Q) := ⟨_, rfl⟩
   have hq1 : v2.2.1.length = A.length := by rw [hv2] <;> (try simp only [List.length_take, List.length_drop]) <;> omega
   have hq2 : v2.2.2.1.length = B.length - A.length := by rw [hv2] <;> (try simp only [List.length_take, List.length_drop]) <;> omega
   have hm2 : v2.2.1.length + v2.2.2.1.length < (L, A, B, Q).2.1.length + (L, A, B, Q).2.2.1.length := by omega
   have hI : 0 < v2.2.1.length ∧ 0 < v2.2.2.1.length ∧ v2.1.length + v2.2.1.length = X.length ∧ v2.1 ++ (v2.2.2.1 ++ (v2.2.1 ++ v2.2.2.2)) = Y ++ X := ⟨by omega, by omega, by rw [hq1, hv2]; omega, by rw [hv2, ← heq]; dsimp only; rw [← List.append_assoc (B.take _), List.take_append_drop]⟩
   refine sw_seq ?_
   refine sO [(0, _), (1, _), (2, _), (3, _), (4, _), (10, _), (11, _), (5000, _), (5001, _)] [(0, _)] ?_
   refine sw_reg ?_
   refine rA ?_ (x := vM false [PV.val _])
   refine rA ?_ (x := sM)
   refine rA ?_ (x := sM)
   refine rA ?_ (x := B_sub)
   refine rA ?_ (x := sM)
   refine rA ?_ (x := sM)
   refine rA ?_ (x := B_add)
   refine rA ?_ (x := sM)
   refine rA ?_ (x := B_sub)
   refine rA ?_ (x := sM)
   refine rA ?_ (x := loc_copy (r' := RV.sv false [PV.clo _ _ _]) (.inl rfl) (by decide) (by exact Cp.sv (ToL.cons (PV.To.refl _) ToL.nil) (BorL.cons (PV.bor_clo _ _) BorL.nil)))
   refine rA ?_ (x := loc_acall0 (bx := 0) (G := 5001) (qs := [(false, [PV.val _]), (false, [PV.val _]), (false, [PV.val _]), (false, [PV.clo _ _ _])]) (as_ := [(false, [PV.val _]), (false, [PV.val _]), (false, [PV.val _]), (false, [PV.clo _ _ _])]) (by decide) FSrA_c_86 rfl (by exact (And.intro (by exact ⟨⟩) (And.intro (by exact ⟨⟩) (And.intro (by exact ⟨⟩) (And.intro (by exact ⟨⟩) True.intro))))) (by exact (And.intro (And.intro rfl (ToL.cons (PV.To.refl _) ToL.nil)) (And.intro (And.intro rfl (ToL.cons (PV.To.refl _) ToL.nil)) (And.intro (And.intro rfl (ToL.cons (PV.To.refl _) ToL.nil)) (And.intro (And.intro rfl (ToL.cons (PV.To.refl _) ToL.nil)) True.intro))))) (bor_arr bor_nAnnotated _ _) (by exact (borA_cons (BorL.cons (PV.bor_val _) BorL.nil) (borA_cons (BorL.cons (PV.bor_val _) BorL.nil) (borA_cons (BorL.cons (PV.bor_val _) BorL.nil) (borA_cons (BorL.cons (PV.bor_clo _ _) BorL.nil) borA_nil))))) (by exact (swr_Annotated (P := P ++ L) (X := A) (M := B.take (B.length - A.length)) (Y := B.drop (B.length - A.length)) (R := Q ++ R) (by (try simp only [List.length_append, List.length_take, List.length_drop, List.length_nil]) <;> omega) (by simp only [List.append_assoc, List.nil_append, td]) (by (try simp only [List.length_append, List.length_take, List.length_drop, List.length_nil]) <;> omega) (by (try simp only [List.length_append, List.length_take, List.length_drop, List.length_nil]) <;> omega) (by (try simp only [List.length_append, List.length_take, List.length_drop, List.length_nil]) <;> omega) (by (try simp only [List.length_append, List.length_take, List.length_drop, List.length_nil]) <;> omega) (by (try simp only [List.length_append, List.length_take, List.length_drop, List.length_nil]) <;> omega))))
   refine sO [(0, _), (1, _), (2, _), (3, _), (4, _), (10, _), (11, _), (5000, _), (5001, _)] [(0, _)] ?_
   refine sw_reg ?_
   refine rA ?_ (x := sM)
   refine rA ?_ (x := sM)
   refine rA ?_ (x := B_sub)
   refine rA ?_ (x := sA)
   refine Exists.intro v2 (And.intro (by exact hI) (And.intro (by exact hm2) (And.intro (And.intro (by exact ⟨rfl, rfl, rfl, rfl, rfl, rfl, rfl, ⟨⟩⟩) (by exact ⟨⟩)) (And.intro (by exact And.intro (by exact int_eq (by omega)) (And.intro (by exact int_eq (by omega)) (True.intro))) (by exact And.intro (by exact congrArg (fun z_ => some (35, arr nAnnotated z_ jk)) (by rw [hv2]; simp only [List.append_assoc])) (True.intro))))))
 ·try simp only [q1, q2, q3, q4, q5, q6, q7, q8, q9] at hb1
  have hee : A.length = B.length := by omega
  refine sw_exit ?_
  refine sO [(0, _), (1, _), (2, _), (3, _), (4, _), (10, _), (11, _), (5000, _), (5001, _)] [(0, (35, arr nAnnotated _ _))] ?_
  refine sw_reg ?_
  refine rA ?_ (x := vM false [PV.val _])
  refine rA ?_ (x := sM)
  refine rA ?_ (x := sM)
  refine rA ?_ (x := B_sub)
  refine rA ?_ (x := sM)
  refine rA ?_ (x := sM)
  refine rA ?_ (x := loc_copy (r' := RV.sv false [PV.clo _ _ _]) (.inl rfl) (by decide) (by exact Cp.sv (ToL.cons (PV.To.refl _) ToL.nil) (BorL.cons (PV.bor_clo _ _) BorL.nil)))
  refine rA ?_ (x := loc_acall0 (bx := 0) (G := 5001) (qs := [(false, [PV.val _]), (false, [PV.val _]), (false, [PV.val _]), (false, [PV.clo _ _ _])]) (as_ := [(false, [PV.val _]), (false, [PV.val _]), (false, [PV.val _]), (false, [PV.clo _ _ _])]) (by decide) FSrA_c_86 rfl (by exact (And.intro (by exact ⟨⟩) (And.intro (by exact ⟨⟩) (And.intro (by exact ⟨⟩) (And.intro (by exact ⟨⟩) True.intro))))) (by exact (And.intro (And.intro rfl (ToL.cons (PV.To.refl _) ToL.nil)) (And.intro (And.intro rfl (ToL.cons (PV.To.refl _) ToL.nil)) (And.intro (And.intro rfl (ToL.cons (PV.To.refl _) ToL.nil)) (And.intro (And.intro rfl (ToL.cons (PV.To.refl _) ToL.nil)) True.intro))))) (bor_arr bor_nAnnotated _ _) (by exact (borA_cons (BorL.cons (PV.bor_val _) BorL.nil) (borA_cons (BorL.cons (PV.bor_val _) BorL.nil) (borA_cons (BorL.cons (PV.bor_val _) BorL.nil) (borA_cons (BorL.cons (PV.bor_clo _ _) BorL.nil) borA_nil))))) (by exact (swr_Annotated (P := P ++ L) (X := A) (M := []) (Y := B) (R := Q ++ R) (by (try simp only [List.length_append, List.length_take, List.length_drop, List.length_nil]) <;> omega) (by simp only [List.append_assoc, List.nil_append, td]) (by (try simp only [List.length_append, List.length_take, List.length_drop, List.length_nil]) <;> omega) (by (try simp only [List.length_append, List.length_take, List.length_drop, List.length_nil]) <;> omega) (by (try simp only [List.length_append, List.length_take, List.length_drop, List.length_nil]) <;> omega) (by (try simp only [List.length_append, List.length_take, List.length_drop, List.length_nil]) <;> omega) (by (try simp only [List.length_append, List.length_take, List.length_drop, List.length_nil]) <;> omega))))
  exact ⟨(by exact congrArg (fun z_ => some (35, arr nAnnotated z_ jk)) (by simp only [List.append_assoc, List.nil_append]; rw [← List.append_assoc Y X R, ← heq]; simp only [List.append_assoc])), rfl, True.intro⟩
end Go.Proofs.Ytaomckpfgmhapaa
