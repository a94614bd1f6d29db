/- What functions of the program compute. No condition. -/
import Derived.Test.YtaomckpfgmhapaaCSrAFnTops
import Derived.KernelRfl
set_option linter.unusedVariables false
set_option linter.unusedSimpArgs false
namespace Go.Proofs.Ytaomckpfgmhapaa
open Go Go.RowKit M
set_option maxRecDepth 10000
attribute [local irreducible] PV.Lcl PV.LclR RV.Lcl
set_option maxHeartbeats 8000000
theorem FSyA_c_73 : callI Try.prog 73 = true := by kernel_rfl
theorem FSyA_c_79 : callI Try.prog 79 = true := by kernel_rfl
theorem FSyA_sl_24 : sliceI Try.prog 24 = some (35, 3, 56) := by kernel_rfl
theorem FSyA_ty_35 : tyI Try.prog 35 = some (true, 3) := by kernel_rfl
theorem FSyA_ui_105 : Try.prog.underlying 105 = some (.int .u64) := by kernel_rfl
theorem FSyA_ui_3 : Try.prog.underlying 3 = some (.int .i64) := by kernel_rfl
theorem symS_Annotated {m cp : Nat} {jk : List Value} {zs : List NAnnotated} {q : OkA × OkA → Int} {P A B R : List NAnnotated} {a : Int} {c : Int} {b_ : Int}  (hm : m = (zs).length) (hz : zs = P ++ (A ++ (B ++ R))) (ha : a = (P.length : Int)) (hc : c = (P.length + A.length : Nat)) (hb : b_ = (P.length + A.length + B.length : Nat)) (hA : 0 < A.length) (hB : 0 < B.length) (hSA : sortedL (ltC q) A) (hSB : sortedL (ltC q) B) (ho : Ord (ltC q)) (hn : zs.length ≤ 4398046511104) (ih : ∀ {zs' P' A' B' R' : List NAnnotated} {a' c' b' : Int}, m = zs'.length → zs' = P' ++ (A' ++ (B' ++ R')) → a' = (P'.length : Int) → c' = (P'.length + A'.length : Nat) → b' = (P'.length + A'.length + B'.length : Nat) → 0 < A'.length → 0 < B'.length → sortedL (ltC q) A' → sortedL (ltC q) B' → A'.length + B'.length < A.length + B.length → zs'.length ≤ 4398046511104 → ACall Try.prog 73 35 m cp (arr nAnnotated zs' jk) (arr nAnnotated (P' ++ (mergeL (ltC q) A' B' ++ R')) jk) [(false, [PV.val (vI a')]), (false, [PV.val (vI c')]), (false, [PV.val (vI b')]), (false, [PV.clo Try.prog (as2 (fun x : OkA => (true, [PV.val (vI x.1.Row.Id), PV.sl .v (x.1.Row.Values.map cInt), PV.sl .v (x.1.Set.map cInt)]))) (rsI q)])] (resRV [])) : ACall Try.prog 73 35 m cp (arr nAnnotated zs jk) (arr nAnnotated (P ++ (mergeL (ltC q) A B ++ R)) jk) [(false, [PV.val (vI a)]), (false, [PV.val (vI c)]), (false, [PV.val (vI b_)]), (false, [PV.clo Try.prog (as2 (fun x : OkA => (true, [PV.val (vI x.1.Row.Id), PV.sl .v (x.1.Row.Values.map cInt), PV.sl .v (x.1.Set.map cInt)]))) (rsI q)])] (resRV []) := by
 refine acall_of (rs := []) Try.func73 rfl (Nat.le_of_ble_eq_true rfl) (Nat.le_of_ble_eq_true rfl) ?_
 intro g_ h0 w0 Fz0 hcp_
 have hzl : zs.length = P.length + (A.length + (B.length + R.length)) := by rw [hz]; simp only [List.length_append]
 refine sw_seq ?_
 refine sw_seq ?_
 refine sw_reg ?_
 refine rA ?_ (x := sM)
 refine rA ?_ (x := sM)
 refine rA ?_ (x := B_sub)
 refine rA ?_ (x := B_eql)
 refine sw_cond (t := 28) rfl (fun hb1 => ?_) (fun hb1 => ?_)
 ·try simp only [q1, q2, q3, q4, q5, q6, q7, q8, q9] at hb1
  have hA1 : A.length = 1 := by omega
  have hA0 : A = [A[0]] := one_eq hA1 hA
  refine sw_seq ?_
  refine sO [(0, _), (1, _), (2, _), (3, _), (4, _), (5000, _), (5001, _)] [(0, (35, arr nAnnotated _ _))] ?_
  refine sw_reg ?_
  refine rA ?_ (x := sM)
  refine rA ?_ (x := sA)
  refine sw_seq ?_
  refine sO [(0, _), (1, _), (2, _), (3, _), (4, _), (10, _), (5000, _), (5001, _)] [(0, _)] ?_
  refine sw_reg ?_
  refine rA ?_ (x := sM)
  refine rA ?_ (x := sA)
  refine sw_seq ?_
  refine sw_block ?_
  refine sO [(0, _), (1, _), (2, _), (3, _), (4, _), (10, _), (11, _), (5000, _), (5001, _)] [(0, _)] ?_
  refine sw_loop (l0 := [(0, RV.sv false [PV.val _]), (1, RV.sv false [PV.val _]), (2, RV.sv false [PV.val _]), (3, RV.sv false [PV.val _]), (4, RV.sv false [PV.clo _ _ _]), (5000, RV.phi 0 _), (5001, RV.gat _ 0 _ _)]) (b0 := [(0, (35, arr nAnnotated _ _))]) (fun v : Nat × Nat => v.1 ≤ v.2 ∧ v.2 ≤ B.length ∧ (∀ (t_ : Nat) (z_ : NAnnotated), t_ < v.1 → B[t_]? = some z_ → ltC q z_ A[0] = true) ∧ (∀ (t_ : Nat) (z_ : NAnnotated), v.2 ≤ t_ → B[t_]? = some z_ → ltC q z_ A[0] = false)) (fun v : Nat × Nat => [(10, RV.int ((P.length + A.length + v.1 : Nat) : Int)), (11, RV.int ((P.length + A.length + v.2 : Nat) : Int))]) (fun v : Nat × Nat => []) (fun v : Nat × Nat => v.2 - v.1) (0, B.length) (by exact ⟨Nat.zero_le _, Nat.le_refl _, fun t z h => absurd h (Nat.not_lt_zero _), fun t z h h2 => absurd (List.getElem?_eq_some_iff.1 h2).1 (Nat.not_lt.2 h)⟩) (by exact ⟨rfl, rfl, rfl, rfl, rfl, rfl, rfl, ⟨⟩⟩) (by exact ⟨rfl, ⟨⟩⟩) (by exact And.intro (by exact int_eq (by dsimp only; omega)) (And.intro (by exact int_eq (by dsimp only; omega)) (True.intro))) (by exact ⟨⟩) ?_
  rintro ⟨x, y⟩ ⟨hxy, hyB, hx1, hx2⟩
  dsimp only at hxy hyB hx1 hx2
  have e1 : (x, y).1 = x := rfl
  have e2 : (x, y).2 = y := rfl
  obtain ⟨H, hH⟩ : ∃ H, H = (x + y) / 2 := ⟨_, rfl⟩
  refine sw_seq ?_
  refine sw_seq ?_
  refine sw_reg ?_
  refine rA ?_ (x := sM)
  refine rA ?_ (x := sM)
  refine rA ?_ (x := B_lss)
  refine sw_cond (t := 33) rfl (fun hb2 => ?_) (fun hb2 => ?_)
  ·try simp only [q1, q2, q3, q4, q5, q6, q7, q8, q9] at hb2
   have hHB : H < B.length := by omega
   have hbd1_ : P.length + A.length + H < zs.length := by omega
   have hbd2_ : P.length + 0 < zs.length := by omega
   refine sw_skip ?_
   refine sw_block ?_
   refine sw_seq ?_
   refine sO [(0, _), (1, _), (2, _), (3, _), (4, _), (10, _), (11, _), (5000, _), (5001, _)] [(0, (35, arr nAnnotated _ _))] ?_
   refine sw_reg ?_
   refine rA ?_ (x := sM)
   refine rA ?_ (x := sM)
   refine rA ?_ (x := B_add)
   refine rA ?_ (x := loc_conv FSyA_ui_3 FSyA_ui_105 (by first | exact (congrArg (IntKind.wrap .u64) fdiv2).trans (IntWalk.u64_in _ (by omega)) | exact IntWalk.u64_in _ (by omega)))
   refine rA ?_ (x := loc_shr (m := 1) rfl (by decide))
   refine rA ?_ (x := loc_conv FSyA_ui_105 FSyA_ui_3 (by first | exact (congrArg (IntKind.wrap .i64) fdiv2).trans (IntWalk.i64_in _ (by omega)) | exact IntWalk.i64_in _ (by omega)))
   refine rA ?_ (x := sA)
   refine sw_seq ?_
   refine sO [(0, _), (1, _), (2, _), (3, _), (4, _), (10, _), (11, _), (12, _), (5000, _), (5001, _)] [(0, _)] ?_
   refine sw_draw hm_ ?_
   refine dA 0 ?_ (x := loc_copy (r' := RV.sv false [PV.clo _ _ _]) (.inl rfl) (by decide) (by exact Cp.sv (ToL.cons (PV.To.refl _) ToL.nil) (BorL.cons (PV.bor_clo _ _) BorL.nil)))
   refine dA 0 ?_ (x := vM false [PV.val _])
   refine dA 0 ?_ (x := sM)
   refine dA 6 ?_ (x := loc_gidx (k := (P.length + A.length + H)) (G := 5001) (by decide) FSyA_sl_24 (by exact ⟨⟩) (by omega) (by omega))
   refine dA 14 ?_ (x := loc_aget (f := nAnnotated) (e := 3) (k := (P.length + A.length + H)) (fun _ => rfl) rfl hbd1_ FSyA_ty_35 (fun h => nomatch h) bor_nAnnotated)
   refine dA 0 ?_ (x := vM false [PV.val _])
   refine dA 0 ?_ (x := sM)
   refine dA 96 ?_ (x := loc_gidx (k := (P.length + 0)) (G := 5001) (by decide) FSyA_sl_24 (by exact ⟨⟩) (by omega) (by omega))
   refine dA 224 ?_ (x := loc_aget (f := nAnnotated) (e := 3) (k := (P.length + 0)) (fun _ => rfl) rfl hbd2_ FSyA_ty_35 (fun h => nomatch h) bor_nAnnotated)
   refine dA 511 ?_ (x := loc_callp (zs[(P.length + A.length + H)].1, zs[(P.length + 0)].1) (qs := [(true, [PV.nv _ (PV.val _), PV.nv _ (PV.sl _ _), PV.nv _ (PV.sl _ _)]), (true, [PV.nv _ (PV.val _), PV.nv _ (PV.sl _ _), PV.nv _ (PV.sl _ _)])]) (r := RV.sv false [PV.val _]) (by decide) (by exact (And.intro (by exact ⟨⟩) (And.intro (by exact ⟨⟩) True.intro))) (by exact (And.intro (And.intro rfl (ToL.cons (PV.nv_to (PV.To.refl _)) (ToL.cons (PV.nv_to (PV.to_map (fun _ => (ToL.cons (PV.To.refl _) ToL.nil)))) (ToL.cons (PV.nv_to (PV.to_map (fun _ => (ToL.cons (PV.To.refl _) ToL.nil)))) ToL.nil)))) (And.intro (And.intro rfl (ToL.cons (PV.nv_to (PV.To.refl _)) (ToL.cons (PV.nv_to (PV.to_map (fun _ => (ToL.cons (PV.To.refl _) ToL.nil)))) (ToL.cons (PV.nv_to (PV.to_map (fun _ => (ToL.cons (PV.To.refl _) ToL.nil)))) ToL.nil)))) True.intro))) (by exact rfl))
   refine dA 1023 ?_ (x := B_lss)
   refine sw_cond (t := 50) rfl (fun hb3 => ?_) (fun hb3 => ?_)
   ·try simp only [q1, q2, q3, q4, q5, q6, q7, q8, q9] at hb3
    obtain ⟨v2, hv2⟩ : ∃ v2 : Nat × Nat, v2 = (H + 1, y) := ⟨_, rfl⟩
    have hq1 : v2.1 = H + 1 := by rw [hv2]
    have hq2 : v2.2 = y := by rw [hv2]
    have hm2 : v2.2 - v2.1 < (x, y).2 - (x, y).1 := by rw [hq1, hq2]; dsimp only; omega
    have hlt : ltC q B[H] A[0] = true := ltC_yes (by have hh := hb3; rw [at_B hHB hz, at_A hA hz] at hh; omega)
    have hI : v2.1 ≤ v2.2 ∧ v2.2 ≤ B.length ∧ (∀ (t_ : Nat) (z_ : NAnnotated), t_ < v2.1 → B[t_]? = some z_ → ltC q z_ A[0] = true) ∧ (∀ (t_ : Nat) (z_ : NAnnotated), v2.2 ≤ t_ → B[t_]? = some z_ → ltC q z_ A[0] = false) := by rw [hq1, hq2]; exact ⟨by omega, hyB, fun t_ z_ ht hzz => below_all ho hSB (List.getElem?_eq_getElem hHB) hlt t_ z_ (by omega) hzz, hx2⟩
    refine sO [(0, _), (1, _), (2, _), (3, _), (4, _), (10, _), (11, _), (12, _), (5000, _), (5001, _)] [(0, _)] ?_
    refine sw_reg ?_
    refine rA ?_ (x := sM)
    refine rA ?_ (x := B_add)
    refine rA ?_ (x := sA)
    refine Exists.intro v2 (And.intro (by exact hI) (And.intro (by exact hm2) (And.intro (And.intro (by exact ⟨rfl, rfl, rfl, rfl, rfl, rfl, rfl, ⟨⟩⟩) (by exact ⟨rfl, ⟨⟩⟩)) (And.intro (by exact And.intro (by exact int_eq (by omega)) (And.intro (by exact int_eq (by omega)) (True.intro))) (by exact ⟨⟩)))))
   ·try simp only [q1, q2, q3, q4, q5, q6, q7, q8, q9] at hb3
    obtain ⟨v2, hv2⟩ : ∃ v2 : Nat × Nat, v2 = (x, H) := ⟨_, rfl⟩
    have hq1 : v2.1 = x := by rw [hv2]
    have hq2 : v2.2 = H := by rw [hv2]
    have hm2 : v2.2 - v2.1 < (x, y).2 - (x, y).1 := by rw [hq1, hq2]; dsimp only; omega
    have hlt : ltC q B[H] A[0] = false := ltC_no (by have hh := hb3; rw [at_B hHB hz, at_A hA hz] at hh; omega)
    have hI : v2.1 ≤ v2.2 ∧ v2.2 ≤ B.length ∧ (∀ (t_ : Nat) (z_ : NAnnotated), t_ < v2.1 → B[t_]? = some z_ → ltC q z_ A[0] = true) ∧ (∀ (t_ : Nat) (z_ : NAnnotated), v2.2 ≤ t_ → B[t_]? = some z_ → ltC q z_ A[0] = false) := by rw [hq1, hq2]; exact ⟨by omega, by omega, hx1, fun t_ z_ ht hzz => above_none ho hSB (List.getElem?_eq_getElem hHB) hlt t_ z_ ht hzz⟩
    refine sO [(0, _), (1, _), (2, _), (3, _), (4, _), (10, _), (11, _), (12, _), (5000, _), (5001, _)] [(0, _)] ?_
    refine sw_reg ?_
    refine rA ?_ (x := sM)
    refine rA ?_ (x := sA)
    refine Exists.intro v2 (And.intro (by exact hI) (And.intro (by exact hm2) (And.intro (And.intro (by exact ⟨rfl, rfl, rfl, rfl, rfl, rfl, rfl, ⟨⟩⟩) (by exact ⟨rfl, ⟨⟩⟩)) (And.intro (by exact And.intro (by exact int_eq (by omega)) (And.intro (by exact int_eq (by omega)) (True.intro))) (by exact ⟨⟩)))))
  ·try simp only [q1, q2, q3, q4, q5, q6, q7, q8, q9] at hb2
   have hxe : x = y := by omega
   have hx2 : ∀ (t_ : Nat) (z_ : NAnnotated), x ≤ t_ → B[t_]? = some z_ → ltC q z_ A[0] = false := fun t_ z_ h => hx2 t_ z_ (by omega)
   refine sw_exit ?_
   refine sw_seq ?_
   refine sw_seq ?_
   refine sO [(0, _), (1, _), (2, _), (3, _), (4, _), (10, _), (11, _), (5000, _), (5001, _)] [(0, (35, arr nAnnotated _ _))] ?_
   refine sw_reg ?_
   refine rA ?_ (x := sM)
   refine rA ?_ (x := sA)
   refine sw_block ?_
   refine sO [(0, _), (1, _), (2, _), (3, _), (4, _), (10, _), (11, _), (13, _), (5000, _), (5001, _)] [(0, _)] ?_
   refine sw_loop (l0 := [(0, RV.sv false [PV.val _]), (1, RV.sv false [PV.val _]), (2, RV.sv false [PV.val _]), (3, RV.sv false [PV.val _]), (4, RV.sv false [PV.clo _ _ _]), (10, RV.sv false [PV.val _]), (11, RV.sv false [PV.val _]), (5000, RV.phi 0 _), (5001, RV.gat _ 0 _ _)]) (b0 := []) (fun j : Nat => j ≤ x) (fun j : Nat => [(13, RV.int ((P.length + j : Nat) : Int))]) (fun j : Nat => [(0, (35, arr nAnnotated (cN P B A[0] R j) jk))]) (fun j : Nat => x - j) 0 (by omega) (by exact ⟨rfl, rfl, rfl, rfl, rfl, rfl, rfl, rfl, rfl, ⟨⟩⟩) (by exact ⟨⟩) (by exact And.intro (by exact int_eq (by omega)) (True.intro)) (by exact And.intro (by exact congrArg (fun z_ => some (35, arr nAnnotated z_ jk)) (hz.trans (cN_one hA0))) (True.intro)) ?_
   rintro j hj
   refine sw_seq ?_
   refine sw_seq ?_
   refine sw_reg ?_
   refine rA ?_ (x := sM)
   refine rA ?_ (x := sM)
   refine rA ?_ (x := B_sub)
   refine rA ?_ (x := B_lss)
   refine sw_cond (t := 58) rfl (fun hb4 => ?_) (fun hb4 => ?_)
   ·try simp only [q1, q2, q3, q4, q5, q6, q7, q8, q9] at hb4
    have hjx : j < x := by omega
    have hjB : j < B.length := by omega
    have hcl : (cN P B A[0] R j).length = zs.length := by rw [cN_len (by omega), hz]; simp only [List.length_append]; omega
    have hbd3_ : P.length + j < (cN P B A[0] R j).length := by omega
    have hbd4_ : P.length + j + 1 < (cN P B A[0] R j).length := by omega
    refine sw_skip ?_
    refine sw_seq ?_
    refine sw_block ?_
    refine sO [(0, _), (1, _), (2, _), (3, _), (4, _), (10, _), (11, _), (13, _), (5000, _), (5001, _)] [(0, (35, arr nAnnotated _ _))] ?_
    refine sw_draw hm_ ?_
    refine dA 0 ?_ (x := vM false [PV.val _])
    refine dA 0 ?_ (x := sM)
    refine dA 0 ?_ (x := vM false [PV.val _])
    refine dA 0 ?_ (x := sM)
    refine dA 8 ?_ (x := B_add)
    refine dA 0 ?_ (x := vM false [PV.val _])
    refine dA 0 ?_ (x := sM)
    refine dA 64 ?_ (x := B_add)
    refine dA 224 ?_ (x := loc_gidx (k := (P.length + j + 1)) (G := 5001) (by decide) FSyA_sl_24 (by exact ⟨⟩) (by omega) (by omega))
    refine dA 480 ?_ (x := loc_aget (f := nAnnotated) (e := 3) (k := (P.length + j + 1)) (fun _ => rfl) rfl hbd4_ FSyA_ty_35 (fun h => nomatch h) bor_nAnnotated)
    refine dA 0 ?_ (x := vM false [PV.val _])
    refine dA 0 ?_ (x := sM)
    refine dA 3072 ?_ (x := loc_gidx (k := (P.length + j)) (G := 5001) (by decide) FSyA_sl_24 (by exact ⟨⟩) (by omega) (by omega))
    refine dA 7168 ?_ (x := loc_aget (f := nAnnotated) (e := 3) (k := (P.length + j)) (fun _ => rfl) rfl hbd3_ FSyA_ty_35 (fun h => nomatch h) bor_nAnnotated)
    refine dA 16355 ?_ (x := loc_gidx (k := (P.length + j)) (G := 5001) (by decide) FSyA_sl_24 (by exact ⟨⟩) (by omega) (by omega))
    refine dA 32739 ?_ (x := loc_astore (f := nAnnotated) (e := 3) (k := (P.length + j)) (ag := true) (vs := nAnnotated _) _ (fun _ => rfl) rfl (by first | omega | (simp only [List.length_set]; omega)) FSyA_ty_35 (by exact ⟨⟩) (by exact rfl))
    refine dA 65535 ?_ (x := loc_gidx (k := (P.length + j + 1)) (G := 5001) (by decide) FSyA_sl_24 (by exact ⟨⟩) (by omega) (by omega))
    refine dA 131071 ?_ (x := loc_astore (f := nAnnotated) (e := 3) (k := (P.length + j + 1)) (ag := true) (vs := nAnnotated _) _ (fun _ => rfl) rfl (by first | omega | (simp only [List.length_set]; omega)) FSyA_ty_35 (by exact ⟨⟩) (by exact rfl))
    refine sO [(0, _), (1, _), (2, _), (3, _), (4, _), (10, _), (11, _), (13, _), (5000, _), (5001, _)] [(0, _)] ?_
    refine sw_reg ?_
    refine rA ?_ (x := sM)
    refine rA ?_ (x := B_add)
    refine rA ?_ (x := sA)
    refine Exists.intro (j + 1) (And.intro (by omega) (And.intro (by omega) (And.intro (And.intro (by exact ⟨rfl, rfl, rfl, rfl, rfl, rfl, rfl, rfl, rfl, ⟨⟩⟩) (by exact ⟨⟩)) (And.intro (by exact And.intro (by exact int_eq (by omega)) (True.intro)) (by exact And.intro (by exact congrArg (fun z_ => some (35, arr nAnnotated z_ jk)) (cN_up hjB)) (True.intro))))))
   ·try simp only [q1, q2, q3, q4, q5, q6, q7, q8, q9] at hb4
    have hje : j = x := by omega
    refine sw_exit ?_
    refine sw_ret ?_
    exact ⟨(by exact congrArg (fun z_ => some (35, arr nAnnotated z_ jk)) (by rw [hje]; exact cN_merge1 ho hA0 hx1 hx2)), rfl, True.intro⟩
 ·try simp only [q1, q2, q3, q4, q5, q6, q7, q8, q9] at hb1
  have hA1 : 1 < A.length := by omega
  refine sw_skip ?_
  refine sw_seq ?_
  refine sw_seq ?_
  refine sO [(0, _), (1, _), (2, _), (3, _), (4, _), (5000, _), (5001, _)] [(0, (35, arr nAnnotated _ _))] ?_
  refine sw_reg ?_
  refine rA ?_ (x := sM)
  refine rA ?_ (x := sM)
  refine rA ?_ (x := B_sub)
  refine rA ?_ (x := B_eql)
  refine sw_cond (t := 80) rfl (fun hb5 => ?_) (fun hb5 => ?_)
  ·try simp only [q1, q2, q3, q4, q5, q6, q7, q8, q9] at hb5
   have hB1 : B.length = 1 := by omega
   have hB0 : B = [B[0]] := one_eq hB1 hB
   refine sw_seq ?_
   refine sO [(0, _), (1, _), (2, _), (3, _), (4, _), (5000, _), (5001, _)] [(0, _)] ?_
   refine sw_reg ?_
   refine rA ?_ (x := sM)
   refine rA ?_ (x := sA)
   refine sw_seq ?_
   refine sO [(0, _), (1, _), (2, _), (3, _), (4, _), (14, _), (5000, _), (5001, _)] [(0, _)] ?_
   refine sw_reg ?_
   refine rA ?_ (x := sM)
   refine rA ?_ (x := sA)
   refine sw_seq ?_
   refine sw_block ?_
   refine sO [(0, _), (1, _), (2, _), (3, _), (4, _), (14, _), (15, _), (5000, _), (5001, _)] [(0, _)] ?_
   refine sw_loop (l0 := [(0, RV.sv false [PV.val _]), (1, RV.sv false [PV.val _]), (2, RV.sv false [PV.val _]), (3, RV.sv false [PV.val _]), (4, RV.sv false [PV.clo _ _ _]), (5000, RV.phi 0 _), (5001, RV.gat _ 0 _ _)]) (b0 := [(0, (35, arr nAnnotated _ _))]) (fun v : Nat × Nat => v.1 ≤ v.2 ∧ v.2 ≤ A.length ∧ (∀ (t_ : Nat) (z_ : NAnnotated), t_ < v.1 → A[t_]? = some z_ → ltC q B[0] z_ = false) ∧ (∀ (t_ : Nat) (z_ : NAnnotated), v.2 ≤ t_ → A[t_]? = some z_ → ltC q B[0] z_ = true)) (fun v : Nat × Nat => [(14, RV.int ((P.length + v.1 : Nat) : Int)), (15, RV.int ((P.length + v.2 : Nat) : Int))]) (fun v : Nat × Nat => []) (fun v : Nat × Nat => v.2 - v.1) (0, A.length) (by exact ⟨Nat.zero_le _, Nat.le_refl _, fun t z h => absurd h (Nat.not_lt_zero _), fun t z h h2 => absurd (List.getElem?_eq_some_iff.1 h2).1 (Nat.not_lt.2 h)⟩) (by exact ⟨rfl, rfl, rfl, rfl, rfl, rfl, rfl, ⟨⟩⟩) (by exact ⟨rfl, ⟨⟩⟩) (by exact And.intro (by exact int_eq (by dsimp only; omega)) (And.intro (by exact int_eq (by dsimp only; omega)) (True.intro))) (by exact ⟨⟩) ?_
   rintro ⟨x, y⟩ ⟨hxy, hyB, hx1, hx2⟩
   dsimp only at hxy hyB hx1 hx2
   have e1 : (x, y).1 = x := rfl
   have e2 : (x, y).2 = y := rfl
   obtain ⟨H, hH⟩ : ∃ H, H = (x + y) / 2 := ⟨_, rfl⟩
   refine sw_seq ?_
   refine sw_seq ?_
   refine sw_reg ?_
   refine rA ?_ (x := sM)
   refine rA ?_ (x := sM)
   refine rA ?_ (x := B_lss)
   refine sw_cond (t := 85) rfl (fun hb6 => ?_) (fun hb6 => ?_)
   ·try simp only [q1, q2, q3, q4, q5, q6, q7, q8, q9] at hb6
    have hHA : H < A.length := by omega
    have hbd5_ : P.length + A.length + 0 < zs.length := by omega
    have hbd6_ : P.length + H < zs.length := by omega
    refine sw_skip ?_
    refine sw_block ?_
    refine sw_seq ?_
    refine sO [(0, _), (1, _), (2, _), (3, _), (4, _), (14, _), (15, _), (5000, _), (5001, _)] [(0, (35, arr nAnnotated _ _))] ?_
    refine sw_reg ?_
    refine rA ?_ (x := sM)
    refine rA ?_ (x := sM)
    refine rA ?_ (x := B_add)
    refine rA ?_ (x := loc_conv FSyA_ui_3 FSyA_ui_105 (by first | exact (congrArg (IntKind.wrap .u64) fdiv2).trans (IntWalk.u64_in _ (by omega)) | exact IntWalk.u64_in _ (by omega)))
    refine rA ?_ (x := loc_shr (m := 1) rfl (by decide))
    refine rA ?_ (x := loc_conv FSyA_ui_105 FSyA_ui_3 (by first | exact (congrArg (IntKind.wrap .i64) fdiv2).trans (IntWalk.i64_in _ (by omega)) | exact IntWalk.i64_in _ (by omega)))
    refine rA ?_ (x := sA)
    refine sw_seq ?_
    refine sO [(0, _), (1, _), (2, _), (3, _), (4, _), (14, _), (15, _), (16, _), (5000, _), (5001, _)] [(0, _)] ?_
    refine sw_draw hm_ ?_
    refine dA 0 ?_ (x := loc_copy (r' := RV.sv false [PV.clo _ _ _]) (.inl rfl) (by decide) (by exact Cp.sv (ToL.cons (PV.To.refl _) ToL.nil) (BorL.cons (PV.bor_clo _ _) BorL.nil)))
    refine dA 0 ?_ (x := vM false [PV.val _])
    refine dA 0 ?_ (x := sM)
    refine dA 6 ?_ (x := loc_gidx (k := (P.length + A.length + 0)) (G := 5001) (by decide) FSyA_sl_24 (by exact ⟨⟩) (by omega) (by omega))
    refine dA 14 ?_ (x := loc_aget (f := nAnnotated) (e := 3) (k := (P.length + A.length + 0)) (fun _ => rfl) rfl hbd5_ FSyA_ty_35 (fun h => nomatch h) bor_nAnnotated)
    refine dA 0 ?_ (x := vM false [PV.val _])
    refine dA 0 ?_ (x := sM)
    refine dA 96 ?_ (x := loc_gidx (k := (P.length + H)) (G := 5001) (by decide) FSyA_sl_24 (by exact ⟨⟩) (by omega) (by omega))
    refine dA 224 ?_ (x := loc_aget (f := nAnnotated) (e := 3) (k := (P.length + H)) (fun _ => rfl) rfl hbd6_ FSyA_ty_35 (fun h => nomatch h) bor_nAnnotated)
    refine dA 511 ?_ (x := loc_callp (zs[(P.length + A.length + 0)].1, zs[(P.length + H)].1) (qs := [(true, [PV.nv _ (PV.val _), PV.nv _ (PV.sl _ _), PV.nv _ (PV.sl _ _)]), (true, [PV.nv _ (PV.val _), PV.nv _ (PV.sl _ _), PV.nv _ (PV.sl _ _)])]) (r := RV.sv false [PV.val _]) (by decide) (by exact (And.intro (by exact ⟨⟩) (And.intro (by exact ⟨⟩) True.intro))) (by exact (And.intro (And.intro rfl (ToL.cons (PV.nv_to (PV.To.refl _)) (ToL.cons (PV.nv_to (PV.to_map (fun _ => (ToL.cons (PV.To.refl _) ToL.nil)))) (ToL.cons (PV.nv_to (PV.to_map (fun _ => (ToL.cons (PV.To.refl _) ToL.nil)))) ToL.nil)))) (And.intro (And.intro rfl (ToL.cons (PV.nv_to (PV.To.refl _)) (ToL.cons (PV.nv_to (PV.to_map (fun _ => (ToL.cons (PV.To.refl _) ToL.nil)))) (ToL.cons (PV.nv_to (PV.to_map (fun _ => (ToL.cons (PV.To.refl _) ToL.nil)))) ToL.nil)))) True.intro))) (by exact rfl))
    refine dA 1023 ?_ (x := B_lss)
    refine dA 2047 ?_ (x := nT)
    refine sw_cond (t := 103) rfl (fun hb7 => ?_) (fun hb7 => ?_)
    ·try simp only [q1, q2, q3, q4, q5, q6, q7, q8, q9] at hb7
     obtain ⟨v2, hv2⟩ : ∃ v2 : Nat × Nat, v2 = (H + 1, y) := ⟨_, rfl⟩
     have hq1 : v2.1 = H + 1 := by rw [hv2]
     have hq2 : v2.2 = y := by rw [hv2]
     have hm2 : v2.2 - v2.1 < (x, y).2 - (x, y).1 := by rw [hq1, hq2]; dsimp only; omega
     have hlt : ltC q B[0] A[H] = false := ltC_no (by have hh := hb7; rw [at_B hB hz, at_A hHA hz] at hh; omega)
     have hI : v2.1 ≤ v2.2 ∧ v2.2 ≤ A.length ∧ (∀ (t_ : Nat) (z_ : NAnnotated), t_ < v2.1 → A[t_]? = some z_ → ltC q B[0] z_ = false) ∧ (∀ (t_ : Nat) (z_ : NAnnotated), v2.2 ≤ t_ → A[t_]? = some z_ → ltC q B[0] z_ = true) := by rw [hq1, hq2]; exact ⟨by omega, hyB, fun t_ z_ ht hzz => left_none ho hSA (List.getElem?_eq_getElem hHA) hlt t_ z_ (by omega) hzz, hx2⟩
     refine sO [(0, _), (1, _), (2, _), (3, _), (4, _), (14, _), (15, _), (16, _), (5000, _), (5001, _)] [(0, _)] ?_
     refine sw_reg ?_
     refine rA ?_ (x := sM)
     refine rA ?_ (x := B_add)
     refine rA ?_ (x := sA)
     refine Exists.intro v2 (And.intro (by exact hI) (And.intro (by exact hm2) (And.intro (And.intro (by exact ⟨rfl, rfl, rfl, rfl, rfl, rfl, rfl, ⟨⟩⟩) (by exact ⟨rfl, ⟨⟩⟩)) (And.intro (by exact And.intro (by exact int_eq (by omega)) (And.intro (by exact int_eq (by omega)) (True.intro))) (by exact ⟨⟩)))))
    ·try simp only [q1, q2, q3, q4, q5, q6, q7, q8, q9] at hb7
     obtain ⟨v2, hv2⟩ : ∃ v2 : Nat × Nat, v2 = (x, H) := ⟨_, rfl⟩
     have hq1 : v2.1 = x := by rw [hv2]
     have hq2 : v2.2 = H := by rw [hv2]
     have hm2 : v2.2 - v2.1 < (x, y).2 - (x, y).1 := by rw [hq1, hq2]; dsimp only; omega
     have hlt : ltC q B[0] A[H] = true := ltC_yes (by have hh := hb7; rw [at_B hB hz, at_A hHA hz] at hh; omega)
     have hI : v2.1 ≤ v2.2 ∧ v2.2 ≤ A.length ∧ (∀ (t_ : Nat) (z_ : NAnnotated), t_ < v2.1 → A[t_]? = some z_ → ltC q B[0] z_ = false) ∧ (∀ (t_ : Nat) (z_ : NAnnotated), v2.2 ≤ t_ → A[t_]? = some z_ → ltC q B[0] z_ = true) := by rw [hq1, hq2]; exact ⟨by omega, by omega, hx1, fun t_ z_ ht hzz => right_all ho hSA (List.getElem?_eq_getElem hHA) hlt t_ z_ ht hzz⟩
     refine sO [(0, _), (1, _), (2, _), (3, _), (4, _), (14, _), (15, _), (16, _), (5000, _), (5001, _)] [(0, _)] ?_
     refine sw_reg ?_
     refine rA ?_ (x := sM)
     refine rA ?_ (x := sA)
     refine Exists.intro v2 (And.intro (by exact hI) (And.intro (by exact hm2) (And.intro (And.intro (by exact ⟨rfl, rfl, rfl, rfl, rfl, rfl, rfl, ⟨⟩⟩) (by exact ⟨rfl, ⟨⟩⟩)) (And.intro (by exact And.intro (by exact int_eq (by omega)) (And.intro (by exact int_eq (by omega)) (True.intro))) (by exact ⟨⟩)))))
   ·try simp only [q1, q2, q3, q4, q5, q6, q7, q8, q9] at hb6
    have hxe : x = y := by omega
    have hx2 : ∀ (t_ : Nat) (z_ : NAnnotated), x ≤ t_ → A[t_]? = some z_ → ltC q B[0] z_ = true := fun t_ z_ h => hx2 t_ z_ (by omega)
    refine sw_exit ?_
    refine sw_seq ?_
    refine sw_seq ?_
    refine sO [(0, _), (1, _), (2, _), (3, _), (4, _), (14, _), (15, _), (5000, _), (5001, _)] [(0, (35, arr nAnnotated _ _))] ?_
    refine sw_reg ?_
    refine rA ?_ (x := sM)
    refine rA ?_ (x := sA)
    refine sw_block ?_
    refine sO [(0, _), (1, _), (2, _), (3, _), (4, _), (14, _), (15, _), (17, _), (5000, _), (5001, _)] [(0, _)] ?_
    refine sw_loop (l0 := [(0, RV.sv false [PV.val _]), (1, RV.sv false [PV.val _]), (2, RV.sv false [PV.val _]), (3, RV.sv false [PV.val _]), (4, RV.sv false [PV.clo _ _ _]), (14, RV.sv false [PV.val _]), (15, RV.sv false [PV.val _]), (5000, RV.phi 0 _), (5001, RV.gat _ 0 _ _)]) (b0 := []) (fun j : Nat => x ≤ j ∧ j ≤ A.length) (fun j : Nat => [(17, RV.int ((P.length + j : Nat) : Int))]) (fun j : Nat => [(0, (35, arr nAnnotated (cN P A B[0] R j) jk))]) (fun j : Nat => j) A.length (by omega) (by exact ⟨rfl, rfl, rfl, rfl, rfl, rfl, rfl, rfl, rfl, ⟨⟩⟩) (by exact ⟨⟩) (by exact And.intro (by exact int_eq (by omega)) (True.intro)) (by exact And.intro (by exact congrArg (fun z_ => some (35, arr nAnnotated z_ jk)) (hz.trans (cN_last hB0))) (True.intro)) ?_
    rintro j ⟨hj, hjA⟩
    refine sw_seq ?_
    refine sw_seq ?_
    refine sw_reg ?_
    refine rA ?_ (x := sM)
    refine rA ?_ (x := sM)
    refine rA ?_ (x := B_gtr)
    refine sw_cond (t := 110) rfl (fun hb8 => ?_) (fun hb8 => ?_)
    ·try simp only [q1, q2, q3, q4, q5, q6, q7, q8, q9] at hb8
     have hjx : x < j := by omega
     have hj1 : 1 ≤ j := by omega
     have hcl : (cN P A B[0] R j).length = zs.length := by rw [cN_len (by omega), hz]; simp only [List.length_append]; omega
     have hbd3_ : P.length + j < (cN P A B[0] R j).length := by omega
     have hbd4_ : P.length + j - 1 < (cN P A B[0] R j).length := by omega
     refine sw_skip ?_
     refine sw_seq ?_
     refine sw_block ?_
     refine sO [(0, _), (1, _), (2, _), (3, _), (4, _), (14, _), (15, _), (17, _), (5000, _), (5001, _)] [(0, (35, arr nAnnotated _ _))] ?_
     refine sw_draw hm_ ?_
     refine dA 0 ?_ (x := vM false [PV.val _])
     refine dA 0 ?_ (x := sM)
     refine dA 0 ?_ (x := vM false [PV.val _])
     refine dA 0 ?_ (x := sM)
     refine dA 8 ?_ (x := B_sub)
     refine dA 0 ?_ (x := vM false [PV.val _])
     refine dA 0 ?_ (x := sM)
     refine dA 64 ?_ (x := B_sub)
     refine dA 224 ?_ (x := loc_gidx (k := (P.length + j - 1)) (G := 5001) (by decide) FSyA_sl_24 (by exact ⟨⟩) (by omega) (by omega))
     refine dA 480 ?_ (x := loc_aget (f := nAnnotated) (e := 3) (k := (P.length + j - 1)) (fun _ => rfl) rfl hbd4_ FSyA_ty_35 (fun h => nomatch h) bor_nAnnotated)
     refine dA 0 ?_ (x := vM false [PV.val _])
     refine dA 0 ?_ (x := sM)
     refine dA 3072 ?_ (x := loc_gidx (k := (P.length + j)) (G := 5001) (by decide) FSyA_sl_24 (by exact ⟨⟩) (by omega) (by omega))
     refine dA 7168 ?_ (x := loc_aget (f := nAnnotated) (e := 3) (k := (P.length + j)) (fun _ => rfl) rfl hbd3_ FSyA_ty_35 (fun h => nomatch h) bor_nAnnotated)
     refine dA 16355 ?_ (x := loc_gidx (k := (P.length + j)) (G := 5001) (by decide) FSyA_sl_24 (by exact ⟨⟩) (by omega) (by omega))
     refine dA 32739 ?_ (x := loc_astore (f := nAnnotated) (e := 3) (k := (P.length + j)) (ag := true) (vs := nAnnotated _) _ (fun _ => rfl) rfl (by first | omega | (simp only [List.length_set]; omega)) FSyA_ty_35 (by exact ⟨⟩) (by exact rfl))
     refine dA 65535 ?_ (x := loc_gidx (k := (P.length + j - 1)) (G := 5001) (by decide) FSyA_sl_24 (by exact ⟨⟩) (by omega) (by omega))
     refine dA 131071 ?_ (x := loc_astore (f := nAnnotated) (e := 3) (k := (P.length + j - 1)) (ag := true) (vs := nAnnotated _) _ (fun _ => rfl) rfl (by first | omega | (simp only [List.length_set]; omega)) FSyA_ty_35 (by exact ⟨⟩) (by exact rfl))
     refine sO [(0, _), (1, _), (2, _), (3, _), (4, _), (14, _), (15, _), (17, _), (5000, _), (5001, _)] [(0, _)] ?_
     refine sw_reg ?_
     refine rA ?_ (x := sM)
     refine rA ?_ (x := B_sub)
     refine rA ?_ (x := sA)
     refine Exists.intro (j - 1) (And.intro (by omega) (And.intro (by omega) (And.intro (And.intro (by exact ⟨rfl, rfl, rfl, rfl, rfl, rfl, rfl, rfl, rfl, ⟨⟩⟩) (by exact ⟨⟩)) (And.intro (by exact And.intro (by exact int_eq (by omega)) (True.intro)) (by exact And.intro (by exact congrArg (fun z_ => some (35, arr nAnnotated z_ jk)) (cN_swap hj1 hjA)) (True.intro))))))
    ·try simp only [q1, q2, q3, q4, q5, q6, q7, q8, q9] at hb8
     have hje : j = x := by omega
     refine sw_exit ?_
     refine sw_ret ?_
     exact ⟨(by exact congrArg (fun z_ => some (35, arr nAnnotated z_ jk)) (by rw [hje]; exact cN_merge2 ho hB0 hx1 hx2)), rfl, True.intro⟩
  ·try simp only [q1, q2, q3, q4, q5, q6, q7, q8, q9] at hb5
   have hB1 : 1 < B.length := by omega
   obtain ⟨M, hM⟩ : ∃ M, M = (A.length + B.length) / 2 := ⟨_, rfl⟩
   refine sw_skip ?_
   refine sw_seq ?_
   refine sO [(0, _), (1, _), (2, _), (3, _), (4, _), (5000, _), (5001, _)] [(0, _)] ?_
   refine sw_reg ?_
   refine rA ?_ (x := sM)
   refine rA ?_ (x := sM)
   refine rA ?_ (x := B_add)
   refine rA ?_ (x := loc_conv FSyA_ui_3 FSyA_ui_105 (by first | exact (congrArg (IntKind.wrap .u64) fdiv2).trans (IntWalk.u64_in _ (by omega)) | exact IntWalk.u64_in _ (by omega)))
   refine rA ?_ (x := loc_shr (m := 1) rfl (by decide))
   refine rA ?_ (x := loc_conv FSyA_ui_105 FSyA_ui_3 (by first | exact (congrArg (IntKind.wrap .i64) fdiv2).trans (IntWalk.i64_in _ (by omega)) | exact IntWalk.i64_in _ (by omega)))
   refine rA ?_ (x := sA)
   refine sw_seq ?_
   refine sO [(0, _), (1, _), (2, _), (3, _), (4, _), (18, _), (5000, _), (5001, _)] [(0, _)] ?_
   refine sw_reg ?_
   refine rA ?_ (x := sM)
   refine rA ?_ (x := sM)
   refine rA ?_ (x := B_add)
   refine rA ?_ (x := sA)
   refine sw_seq ?_
   refine sO [(0, _), (1, _), (2, _), (3, _), (4, _), (18, _), (19, _), (5000, _), (5001, _)] [(0, _)] ?_
   refine sw_reg ?_
   refine rA ?_ (x := kA)
   refine rA ?_ (x := kA)
   refine sw_seq ?_
   refine sw_seq ?_
   refine sO [(0, _), (1, _), (2, _), (3, _), (4, _), (18, _), (19, _), (20, _), (21, _), (5000, _), (5001, _)] [(0, _)] ?_
   refine sw_reg ?_
   refine rA ?_ (x := sM)
   refine rA ?_ (x := sM)
   refine rA ?_ (x := B_gtr)
   refine sw_cond (t := 140) rfl (fun hb9 => ?_) (fun hb9 => ?_)
   ·try simp only [q1, q2, q3, q4, q5, q6, q7, q8, q9] at hb9
    obtain ⟨lo, hi2, hlo, hhi, hc4⟩ : ∃ lo hi2 : Nat, lo = M - B.length ∧ hi2 = M ∧ ((M < A.length ∧ lo = M - B.length ∧ hi2 = M ∧ B.length ≤ M) ∨ (A.length ≤ M ∧ lo = 0 ∧ hi2 = A.length)) := ⟨_, _, rfl, rfl, .inl ⟨by omega, rfl, rfl, by omega⟩⟩
    refine sw_seq ?_
    refine sO [(0, _), (1, _), (2, _), (3, _), (4, _), (18, _), (19, _), (20, _), (21, _), (5000, _), (5001, _)] [(0, _)] ?_
    refine sw_reg ?_
    refine rA ?_ (x := sM)
    refine rA ?_ (x := sM)
    refine rA ?_ (x := B_sub)
    refine rA ?_ (x := sA)
    refine sO [(0, _), (1, _), (2, _), (3, _), (4, _), (18, _), (19, _), (20, _), (21, _), (5000, _), (5001, _)] [(0, _)] ?_
    refine sw_reg ?_
    refine rA ?_ (x := sM)
    refine rA ?_ (x := sA)
    refine sw_seq ?_
    refine sO [(0, _), (1, _), (2, _), (3, _), (4, _), (18, _), (19, _), (20, _), (21, _), (5000, _), (5001, _)] [(0, _)] ?_
    refine sw_reg ?_
    refine rA ?_ (x := sM)
    refine rA ?_ (x := B_sub)
    refine rA ?_ (x := sA)
    refine sw_seq ?_
    refine sw_block ?_
    refine sO [(0, _), (1, _), (2, _), (3, _), (4, _), (18, _), (19, _), (20, _), (21, _), (22, _), (5000, _), (5001, _)] [(0, _)] ?_
    refine sw_loop (l0 := [(0, RV.sv false [PV.val _]), (1, RV.sv false [PV.val _]), (2, RV.sv false [PV.val _]), (3, RV.sv false [PV.val _]), (4, RV.sv false [PV.clo _ _ _]), (18, RV.sv false [PV.val _]), (19, RV.sv false [PV.val _]), (22, RV.sv false [PV.val _]), (5000, RV.phi 0 _), (5001, RV.gat _ 0 _ _)]) (b0 := [(0, (35, arr nAnnotated _ _))]) (fun v : Nat × Nat => lo ≤ v.1 ∧ v.1 ≤ v.2 ∧ v.2 ≤ hi2 ∧ (∀ (c_ : Nat) (x_ y_ : NAnnotated), lo ≤ c_ → c_ < v.1 → A[c_]? = some x_ → B[M - 1 - c_]? = some y_ → ltC q y_ x_ = false) ∧ (∀ (c_ : Nat) (x_ y_ : NAnnotated), v.2 ≤ c_ → c_ < hi2 → A[c_]? = some x_ → B[M - 1 - c_]? = some y_ → ltC q y_ x_ = true)) (fun v : Nat × Nat => [(20, RV.int ((P.length + v.1 : Nat) : Int)), (21, RV.int ((P.length + v.2 : Nat) : Int))]) (fun v : Nat × Nat => []) (fun v : Nat × Nat => v.2 - v.1) (lo, hi2) (by exact ⟨Nat.le_refl _, (by dsimp only; omega), Nat.le_refl _, fun c_ x_ y_ h1 h2 => absurd h2 (Nat.not_lt.2 h1), fun c_ x_ y_ h1 h2 => absurd h2 (Nat.not_lt.2 h1)⟩) (by exact ⟨rfl, rfl, rfl, rfl, rfl, rfl, rfl, rfl, rfl, rfl, ⟨⟩⟩) (by exact ⟨rfl, ⟨⟩⟩) (by exact And.intro (by exact int_eq (by dsimp only; omega)) (And.intro (by exact int_eq (by dsimp only; omega)) (True.intro))) (by exact ⟨⟩) ?_
    rintro ⟨x, y⟩ ⟨hlx, hxy, hyh, hx1, hx2⟩
    dsimp only at hlx hxy hyh hx1 hx2
    have e1 : (x, y).1 = x := rfl
    have e2 : (x, y).2 = y := rfl
    obtain ⟨H, hH⟩ : ∃ H, H = (x + y) / 2 := ⟨_, rfl⟩
    refine sw_seq ?_
    refine sw_seq ?_
    refine sw_reg ?_
    refine rA ?_ (x := sM)
    refine rA ?_ (x := sM)
    refine rA ?_ (x := B_lss)
    refine sw_cond (t := 151) rfl (fun hb10 => ?_) (fun hb10 => ?_)
    ·try simp only [q1, q2, q3, q4, q5, q6, q7, q8, q9] at hb10
     have hHA : H < A.length := by omega
     have hHM : H < M := by omega
     have hHB : M - 1 - H < B.length := by omega
     have hbd6_ : P.length + H < zs.length := by omega
     have hbd7_ : P.length + A.length + (M - 1 - H) < zs.length := by omega
     refine sw_skip ?_
     refine sw_block ?_
     refine sw_seq ?_
     refine sO [(0, _), (1, _), (2, _), (3, _), (4, _), (18, _), (19, _), (20, _), (21, _), (22, _), (5000, _), (5001, _)] [(0, (35, arr nAnnotated _ _))] ?_
     refine sw_reg ?_
     refine rA ?_ (x := sM)
     refine rA ?_ (x := sM)
     refine rA ?_ (x := B_add)
     refine rA ?_ (x := loc_conv FSyA_ui_3 FSyA_ui_105 (by first | exact (congrArg (IntKind.wrap .u64) fdiv2).trans (IntWalk.u64_in _ (by omega)) | exact IntWalk.u64_in _ (by omega)))
     refine rA ?_ (x := loc_shr (m := 1) rfl (by decide))
     refine rA ?_ (x := loc_conv FSyA_ui_105 FSyA_ui_3 (by first | exact (congrArg (IntKind.wrap .i64) fdiv2).trans (IntWalk.i64_in _ (by omega)) | exact IntWalk.i64_in _ (by omega)))
     refine rA ?_ (x := sA)
     refine sw_seq ?_
     refine sO [(0, _), (1, _), (2, _), (3, _), (4, _), (18, _), (19, _), (20, _), (21, _), (22, _), (23, _), (5000, _), (5001, _)] [(0, _)] ?_
     refine sw_draw hm_ ?_
     refine dA 0 ?_ (x := loc_copy (r' := RV.sv false [PV.clo _ _ _]) (.inl rfl) (by decide) (by exact Cp.sv (ToL.cons (PV.To.refl _) ToL.nil) (BorL.cons (PV.bor_clo _ _) BorL.nil)))
     refine dA 0 ?_ (x := vM false [PV.val _])
     refine dA 0 ?_ (x := sM)
     refine dA 0 ?_ (x := sM)
     refine dA 12 ?_ (x := B_sub)
     refine dA 30 ?_ (x := loc_gidx (k := (P.length + A.length + (M - 1 - H))) (G := 5001) (by decide) FSyA_sl_24 (by exact ⟨⟩) (by omega) (by omega))
     refine dA 62 ?_ (x := loc_aget (f := nAnnotated) (e := 3) (k := (P.length + A.length + (M - 1 - H))) (fun _ => rfl) rfl hbd7_ FSyA_ty_35 (fun h => nomatch h) bor_nAnnotated)
     refine dA 0 ?_ (x := vM false [PV.val _])
     refine dA 0 ?_ (x := sM)
     refine dA 384 ?_ (x := loc_gidx (k := (P.length + H)) (G := 5001) (by decide) FSyA_sl_24 (by exact ⟨⟩) (by omega) (by omega))
     refine dA 896 ?_ (x := loc_aget (f := nAnnotated) (e := 3) (k := (P.length + H)) (fun _ => rfl) rfl hbd6_ FSyA_ty_35 (fun h => nomatch h) bor_nAnnotated)
     refine dA 2047 ?_ (x := loc_callp (zs[(P.length + A.length + (M - 1 - H))].1, zs[(P.length + H)].1) (qs := [(true, [PV.nv _ (PV.val _), PV.nv _ (PV.sl _ _), PV.nv _ (PV.sl _ _)]), (true, [PV.nv _ (PV.val _), PV.nv _ (PV.sl _ _), PV.nv _ (PV.sl _ _)])]) (r := RV.sv false [PV.val _]) (by decide) (by exact (And.intro (by exact ⟨⟩) (And.intro (by exact ⟨⟩) True.intro))) (by exact (And.intro (And.intro rfl (ToL.cons (PV.nv_to (PV.To.refl _)) (ToL.cons (PV.nv_to (PV.to_map (fun _ => (ToL.cons (PV.To.refl _) ToL.nil)))) (ToL.cons (PV.nv_to (PV.to_map (fun _ => (ToL.cons (PV.To.refl _) ToL.nil)))) ToL.nil)))) (And.intro (And.intro rfl (ToL.cons (PV.nv_to (PV.To.refl _)) (ToL.cons (PV.nv_to (PV.to_map (fun _ => (ToL.cons (PV.To.refl _) ToL.nil)))) (ToL.cons (PV.nv_to (PV.to_map (fun _ => (ToL.cons (PV.To.refl _) ToL.nil)))) ToL.nil)))) True.intro))) (by exact rfl))
     refine dA 4095 ?_ (x := B_lss)
     refine dA 8191 ?_ (x := nT)
     refine sw_cond (t := 171) rfl (fun hb11 => ?_) (fun hb11 => ?_)
     ·try simp only [q1, q2, q3, q4, q5, q6, q7, q8, q9] at hb11
      obtain ⟨v2, hv2⟩ : ∃ v2 : Nat × Nat, v2 = (H + 1, y) := ⟨_, rfl⟩
      have hq1 : v2.1 = H + 1 := by rw [hv2]
      have hq2 : v2.2 = y := by rw [hv2]
      have hm2 : v2.2 - v2.1 < (x, y).2 - (x, y).1 := by rw [hq1, hq2]; dsimp only; omega
      have hlt : ltC q B[M - 1 - H] A[H] = false := ltC_no (by have hh := hb11; rw [at_B hHB hz, at_A hHA hz] at hh; omega)
      have hI : lo ≤ v2.1 ∧ v2.1 ≤ v2.2 ∧ v2.2 ≤ hi2 ∧ (∀ (c_ : Nat) (x_ y_ : NAnnotated), lo ≤ c_ → c_ < v2.1 → A[c_]? = some x_ → B[M - 1 - c_]? = some y_ → ltC q y_ x_ = false) ∧ (∀ (c_ : Nat) (x_ y_ : NAnnotated), v2.2 ≤ c_ → c_ < hi2 → A[c_]? = some x_ → B[M - 1 - c_]? = some y_ → ltC q y_ x_ = true) := by rw [hq1, hq2]; exact ⟨by omega, by omega, by omega, fun c_ x_ y_ h1 h2 hx_ hy_ => sym_lo ho hSA hSB (List.getElem?_eq_getElem hHA) (List.getElem?_eq_getElem hHB) hlt c_ x_ y_ (by omega) hHM hx_ hy_, hx2⟩
      refine sO [(0, _), (1, _), (2, _), (3, _), (4, _), (18, _), (19, _), (20, _), (21, _), (22, _), (23, _), (5000, _), (5001, _)] [(0, _)] ?_
      refine sw_reg ?_
      refine rA ?_ (x := sM)
      refine rA ?_ (x := B_add)
      refine rA ?_ (x := sA)
      refine Exists.intro v2 (And.intro (by exact hI) (And.intro (by exact hm2) (And.intro (And.intro (by exact ⟨rfl, rfl, rfl, rfl, rfl, rfl, rfl, rfl, rfl, rfl, ⟨⟩⟩) (by exact ⟨rfl, ⟨⟩⟩)) (And.intro (by exact And.intro (by exact int_eq (by omega)) (And.intro (by exact int_eq (by omega)) (True.intro))) (by exact ⟨⟩)))))
     ·try simp only [q1, q2, q3, q4, q5, q6, q7, q8, q9] at hb11
      obtain ⟨v2, hv2⟩ : ∃ v2 : Nat × Nat, v2 = (x, H) := ⟨_, rfl⟩
      have hq1 : v2.1 = x := by rw [hv2]
      have hq2 : v2.2 = H := by rw [hv2]
      have hm2 : v2.2 - v2.1 < (x, y).2 - (x, y).1 := by rw [hq1, hq2]; dsimp only; omega
      have hlt : ltC q B[M - 1 - H] A[H] = true := ltC_yes (by have hh := hb11; rw [at_B hHB hz, at_A hHA hz] at hh; omega)
      have hI : lo ≤ v2.1 ∧ v2.1 ≤ v2.2 ∧ v2.2 ≤ hi2 ∧ (∀ (c_ : Nat) (x_ y_ : NAnnotated), lo ≤ c_ → c_ < v2.1 → A[c_]? = some x_ → B[M - 1 - c_]? = some y_ → ltC q y_ x_ = false) ∧ (∀ (c_ : Nat) (x_ y_ : NAnnotated), v2.2 ≤ c_ → c_ < hi2 → A[c_]? = some x_ → B[M - 1 - c_]? = some y_ → ltC q y_ x_ = true) := by rw [hq1, hq2]; exact ⟨by omega, by omega, by omega, hx1, fun c_ x_ y_ h1 h2 hx_ hy_ => sym_hi ho hSA hSB (List.getElem?_eq_getElem hHA) (List.getElem?_eq_getElem hHB) hlt c_ x_ y_ h1 (by omega) hx_ hy_⟩
      refine sO [(0, _), (1, _), (2, _), (3, _), (4, _), (18, _), (19, _), (20, _), (21, _), (22, _), (23, _), (5000, _), (5001, _)] [(0, _)] ?_
      refine sw_reg ?_
      refine rA ?_ (x := sM)
      refine rA ?_ (x := sA)
      refine Exists.intro v2 (And.intro (by exact hI) (And.intro (by exact hm2) (And.intro (And.intro (by exact ⟨rfl, rfl, rfl, rfl, rfl, rfl, rfl, rfl, rfl, rfl, ⟨⟩⟩) (by exact ⟨rfl, ⟨⟩⟩)) (And.intro (by exact And.intro (by exact int_eq (by omega)) (And.intro (by exact int_eq (by omega)) (True.intro))) (by exact ⟨⟩)))))
    ·try simp only [q1, q2, q3, q4, q5, q6, q7, q8, q9] at hb10
     obtain ⟨s, hs⟩ : ∃ s, s = x := ⟨_, rfl⟩
     obtain ⟨t, ht⟩ : ∃ t, t = M - s := ⟨_, rfl⟩
     have hpart := sym_part ho hSA hSB (s := s) (M := M) (lo := lo) (hi := hi2) (by omega) hc4 (by omega) (by omega) (fun c_ x_ y_ h1 h2 => hx1 c_ x_ y_ h1 (by omega)) (fun c_ x_ y_ h1 h2 => hx2 c_ x_ y_ (by omega) h2)
     rw [← ht] at hpart
     have hsA : s ≤ A.length := by omega
     have htB : t ≤ B.length := by omega
     have hl1 : (sy1 P A B R s t).length = zs.length := by rw [sy1_len]; omega
     have hl2 : (sy2 (ltC q) P A B R s t).length = zs.length := by rw [sy2_len]; omega
     have hst : s + t = M := by omega
     have he1 : (A.take s).length = s := by rw [List.length_take]; omega
     have he2 : (A.drop s).length = A.length - s := List.length_drop
     have he3 : (B.take t).length = t := by rw [List.length_take]; omega
     have he4 : (B.drop t).length = B.length - t := List.length_drop
     refine sw_exit ?_
     refine sw_seq ?_
     refine sO [(0, _), (1, _), (2, _), (3, _), (4, _), (18, _), (19, _), (20, _), (21, _), (22, _), (5000, _), (5001, _)] [(0, (35, arr nAnnotated _ _))] ?_
     refine sw_reg ?_
     refine rA ?_ (x := sM)
     refine rA ?_ (x := sM)
     refine rA ?_ (x := B_sub)
     refine rA ?_ (x := sA)
     refine sw_seq ?_
     refine sw_seq ?_
     refine sO [(0, _), (1, _), (2, _), (3, _), (4, _), (18, _), (19, _), (20, _), (21, _), (22, _), (24, _), (5000, _), (5001, _)] [(0, _)] ?_
     refine sw_reg ?_
     refine rA ?_ (x := sM)
     refine rA ?_ (x := sM)
     refine rA ?_ (x := B_lss)
     refine rA ?_ (x := sM)
     refine RunS.cases (s := 181) rfl (fun g12 => ?_) (fun g12 => ?_)
     ·have sg12 := g12
      try simp only [q1, q2, q3, q4, q5, q6, q7, q8, q9] at sg12
      refine rB g12 ?_ (x := sM)
      refine rB g12 ?_ (x := sM)
      refine rB g12 ?_ (x := B_lss)
      refine rA ?_ (x := pkT g12)
      refine sw_cond (t := 185) rfl (fun hb13 => ?_) (fun hb13 => ?_)
      ·try simp only [q1, q2, q3, q4, q5, q6, q7, q8, q9] at hb13
       refine sO [(0, _), (1, _), (2, _), (3, _), (4, _), (18, _), (19, _), (20, _), (21, _), (22, _), (24, _), (5000, _), (5001, _)] [(0, _)] ?_
       refine sw_reg ?_
       refine rA ?_ (x := vM false [PV.val _])
       refine rA ?_ (x := sM)
       refine rA ?_ (x := sM)
       refine rA ?_ (x := sM)
       refine rA ?_ (x := loc_copy (r' := RV.sv false [PV.clo _ _ _]) (.inl rfl) (by decide) (by exact Cp.sv (ToL.cons (PV.To.refl _) ToL.nil) (BorL.cons (PV.bor_clo _ _) BorL.nil)))
       refine rA ?_ (x := loc_acall0 (bx := 0) (G := 5001) (qs := [(false, [PV.val _]), (false, [PV.val _]), (false, [PV.val _]), (false, [PV.clo _ _ _])]) (as_ := [(false, [PV.val _]), (false, [PV.val _]), (false, [PV.val _]), (false, [PV.clo _ _ _])]) (by decide) FSyA_c_79 rfl (by exact (And.intro (by exact ⟨⟩) (And.intro (by exact ⟨⟩) (And.intro (by exact ⟨⟩) (And.intro (by exact ⟨⟩) True.intro))))) (by exact (And.intro (And.intro rfl (ToL.cons (PV.To.refl _) ToL.nil)) (And.intro (And.intro rfl (ToL.cons (PV.To.refl _) ToL.nil)) (And.intro (And.intro rfl (ToL.cons (PV.To.refl _) ToL.nil)) (And.intro (And.intro rfl (ToL.cons (PV.To.refl _) ToL.nil)) True.intro))))) (bor_arr bor_nAnnotated _ _) (by exact (borA_cons (BorL.cons (PV.bor_val _) BorL.nil) (borA_cons (BorL.cons (PV.bor_val _) BorL.nil) (borA_cons (BorL.cons (PV.bor_val _) BorL.nil) (borA_cons (BorL.cons (PV.bor_clo _ _) BorL.nil) borA_nil))))) (by exact (rot_Annotated (P := P ++ A.take s) (X := A.drop s) (Y := B.take t) (R := B.drop t ++ R) (by (try simp only [List.length_append, List.length_take, List.length_drop, List.length_nil, mergeL_len]) <;> omega) (hz.trans (sy0_eq.trans sy_rot)) (by (try simp only [List.length_append, List.length_take, List.length_drop, List.length_nil, mergeL_len]) <;> omega) (by (try simp only [List.length_append, List.length_take, List.length_drop, List.length_nil, mergeL_len]) <;> omega) (by (try simp only [List.length_append, List.length_take, List.length_drop, List.length_nil, mergeL_len]) <;> omega) (by (try simp only [List.length_append, List.length_take, List.length_drop, List.length_nil, mergeL_len]) <;> omega) (by (try simp only [List.length_append, List.length_take, List.length_drop, List.length_nil, mergeL_len]) <;> omega) (by (try simp only [List.length_append, List.length_take, List.length_drop, List.length_nil, mergeL_len]) <;> omega))))
       refine sw_seq ?_
       refine sw_seq ?_
       refine sO [(0, _), (1, _), (2, _), (3, _), (4, _), (18, _), (19, _), (20, _), (21, _), (22, _), (24, _), (5000, _), (5001, _)] [(0, _)] ?_
       refine sw_reg ?_
       refine rA ?_ (x := sM)
       refine rA ?_ (x := sM)
       refine rA ?_ (x := B_lss)
       refine rA ?_ (x := sM)
       refine RunS.cases (s := 195) rfl (fun g14 => ?_) (fun g14 => ?_)
       ·have sg14 := g14
        try simp only [q1, q2, q3, q4, q5, q6, q7, q8, q9] at sg14
        refine rB g14 ?_ (x := sM)
        refine rB g14 ?_ (x := sM)
        refine rB g14 ?_ (x := B_lss)
        refine rA ?_ (x := pkT g14)
        refine sw_cond (t := 199) rfl (fun hb15 => ?_) (fun hb15 => ?_)
        ·try simp only [q1, q2, q3, q4, q5, q6, q7, q8, q9] at hb15
         refine sw_boxEq (d := 0) (by exact rfl) (show _ = arr nAnnotated (sy1 P A B R s t) jk from congrArg (fun z_ => arr nAnnotated z_ jk) (by first | exact rfl | exact sy_rot' | exact (hz.trans sy0_eq).trans (sy1_eq hr0))) ?_
         refine sO [(0, _), (1, _), (2, _), (3, _), (4, _), (18, _), (19, _), (20, _), (21, _), (22, _), (24, _), (5000, _), (5001, _)] [(0, _)] ?_
         refine sw_reg ?_
         refine rA ?_ (x := vM false [PV.val _])
         refine rA ?_ (x := sM)
         refine rA ?_ (x := sM)
         refine rA ?_ (x := sM)
         refine rA ?_ (x := loc_copy (r' := RV.sv false [PV.clo _ _ _]) (.inl rfl) (by decide) (by exact Cp.sv (ToL.cons (PV.To.refl _) ToL.nil) (BorL.cons (PV.bor_clo _ _) BorL.nil)))
         refine rA ?_ (x := loc_acall0 (bx := 0) (G := 5001) (qs := [(false, [PV.val _]), (false, [PV.val _]), (false, [PV.val _]), (false, [PV.clo _ _ _])]) (as_ := [(false, [PV.val _]), (false, [PV.val _]), (false, [PV.val _]), (false, [PV.clo _ _ _])]) (by decide) FSyA_c_73 rfl (by exact (And.intro (by exact ⟨⟩) (And.intro (by exact ⟨⟩) (And.intro (by exact ⟨⟩) (And.intro (by exact ⟨⟩) True.intro))))) (by exact (And.intro (And.intro rfl (ToL.cons (PV.To.refl _) ToL.nil)) (And.intro (And.intro rfl (ToL.cons (PV.To.refl _) ToL.nil)) (And.intro (And.intro rfl (ToL.cons (PV.To.refl _) ToL.nil)) (And.intro (And.intro rfl (ToL.cons (PV.To.refl _) ToL.nil)) True.intro))))) (bor_arr bor_nAnnotated _ _) (by exact (borA_cons (BorL.cons (PV.bor_val _) BorL.nil) (borA_cons (BorL.cons (PV.bor_val _) BorL.nil) (borA_cons (BorL.cons (PV.bor_val _) BorL.nil) (borA_cons (BorL.cons (PV.bor_clo _ _) BorL.nil) borA_nil))))) (by exact (ih (P' := P) (A' := A.take s) (B' := B.take t) (R' := A.drop s ++ (B.drop t ++ R)) (hm.trans hl1.symm) rfl (by (try simp only [List.length_append, List.length_take, List.length_drop, List.length_nil, mergeL_len]) <;> omega) (by (try simp only [List.length_append, List.length_take, List.length_drop, List.length_nil, mergeL_len]) <;> omega) (by (try simp only [List.length_append, List.length_take, List.length_drop, List.length_nil, mergeL_len]) <;> omega) (by (try simp only [List.length_append, List.length_take, List.length_drop, List.length_nil, mergeL_len]) <;> omega) (by (try simp only [List.length_append, List.length_take, List.length_drop, List.length_nil, mergeL_len]) <;> omega) (sorted_take hSA _) (sorted_take hSB _) (by (try simp only [List.length_append, List.length_take, List.length_drop, List.length_nil, mergeL_len]) <;> omega) (by omega))))
         refine sw_seq ?_
         refine sO [(0, _), (1, _), (2, _), (3, _), (4, _), (18, _), (19, _), (20, _), (21, _), (22, _), (24, _), (5000, _), (5001, _)] [(0, _)] ?_
         refine sw_reg ?_
         refine rA ?_ (x := sM)
         refine rA ?_ (x := sM)
         refine rA ?_ (x := B_lss)
         refine rA ?_ (x := sM)
         refine RunS.cases (s := 209) rfl (fun g16 => ?_) (fun g16 => ?_)
         ·have sg16 := g16
          try simp only [q1, q2, q3, q4, q5, q6, q7, q8, q9] at sg16
          refine rB g16 ?_ (x := sM)
          refine rB g16 ?_ (x := sM)
          refine rB g16 ?_ (x := B_lss)
          refine rA ?_ (x := pkT g16)
          refine sw_cond (t := 213) rfl (fun hb17 => ?_) (fun hb17 => ?_)
          ·try simp only [q1, q2, q3, q4, q5, q6, q7, q8, q9] at hb17
           refine sw_boxEq (d := 0) (by exact rfl) (show _ = arr nAnnotated (sy2 (ltC q) P A B R s t) jk from congrArg (fun z_ => arr nAnnotated z_ jk) (by first | exact rfl | exact sy2_eq hr1)) ?_
           refine sO [(0, _), (1, _), (2, _), (3, _), (4, _), (18, _), (19, _), (20, _), (21, _), (22, _), (24, _), (5000, _), (5001, _)] [(0, _)] ?_
           refine sw_reg ?_
           refine rA ?_ (x := vM false [PV.val _])
           refine rA ?_ (x := sM)
           refine rA ?_ (x := sM)
           refine rA ?_ (x := sM)
           refine rA ?_ (x := loc_copy (r' := RV.sv false [PV.clo _ _ _]) (.inl rfl) (by decide) (by exact Cp.sv (ToL.cons (PV.To.refl _) ToL.nil) (BorL.cons (PV.bor_clo _ _) BorL.nil)))
           refine rA ?_ (x := loc_acall0 (bx := 0) (G := 5001) (qs := [(false, [PV.val _]), (false, [PV.val _]), (false, [PV.val _]), (false, [PV.clo _ _ _])]) (as_ := [(false, [PV.val _]), (false, [PV.val _]), (false, [PV.val _]), (false, [PV.clo _ _ _])]) (by decide) FSyA_c_73 rfl (by exact (And.intro (by exact ⟨⟩) (And.intro (by exact ⟨⟩) (And.intro (by exact ⟨⟩) (And.intro (by exact ⟨⟩) True.intro))))) (by exact (And.intro (And.intro rfl (ToL.cons (PV.To.refl _) ToL.nil)) (And.intro (And.intro rfl (ToL.cons (PV.To.refl _) ToL.nil)) (And.intro (And.intro rfl (ToL.cons (PV.To.refl _) ToL.nil)) (And.intro (And.intro rfl (ToL.cons (PV.To.refl _) ToL.nil)) True.intro))))) (bor_arr bor_nAnnotated _ _) (by exact (borA_cons (BorL.cons (PV.bor_val _) BorL.nil) (borA_cons (BorL.cons (PV.bor_val _) BorL.nil) (borA_cons (BorL.cons (PV.bor_val _) BorL.nil) (borA_cons (BorL.cons (PV.bor_clo _ _) BorL.nil) borA_nil))))) (by exact (ih (P' := P ++ mergeL (ltC q) (A.take s) (B.take t)) (A' := A.drop s) (B' := B.drop t) (R' := R) (hm.trans hl2.symm) sy_r2 (by (try simp only [List.length_append, List.length_take, List.length_drop, List.length_nil, mergeL_len]) <;> omega) (by (try simp only [List.length_append, List.length_take, List.length_drop, List.length_nil, mergeL_len]) <;> omega) (by (try simp only [List.length_append, List.length_take, List.length_drop, List.length_nil, mergeL_len]) <;> omega) (by (try simp only [List.length_append, List.length_take, List.length_drop, List.length_nil, mergeL_len]) <;> omega) (by (try simp only [List.length_append, List.length_take, List.length_drop, List.length_nil, mergeL_len]) <;> omega) (sorted_drop hSA _) (sorted_drop hSB _) (by (try simp only [List.length_append, List.length_take, List.length_drop, List.length_nil, mergeL_len]) <;> omega) (by omega))))
           exact ⟨(by exact congrArg (fun z_ => some (35, arr nAnnotated z_ jk)) (by first | exact sy_r2'.trans (sy_end hpart) | exact (sy3_eq hr2).trans (sy_end hpart))), rfl, True.intro⟩
          ·try simp only [q1, q2, q3, q4, q5, q6, q7, q8, q9] at hb17
           refine sw_boxEq (d := 0) (by exact rfl) (show _ = arr nAnnotated (sy2 (ltC q) P A B R s t) jk from congrArg (fun z_ => arr nAnnotated z_ jk) (by first | exact rfl | exact sy2_eq hr1)) ?_
           have hr2 : (A.drop s).length = 0 ∨ (B.drop t).length = 0 := by omega
           refine sw_skip ?_
           exact ⟨(by exact congrArg (fun z_ => some (35, arr nAnnotated z_ jk)) (by first | exact sy_r2'.trans (sy_end hpart) | exact (sy3_eq hr2).trans (sy_end hpart))), rfl, True.intro⟩
         ·have sg16 := g16
          try simp only [q1, q2, q3, q4, q5, q6, q7, q8, q9] at sg16
          refine RunS.s0f g16 ?_
          refine RunS.s0f g16 ?_
          refine RunS.s0f g16 ?_
          refine rA ?_ (x := pkF g16)
          refine sw_cond (t := 213) rfl (fun hb_ => nomatch hb_) (fun hb_ => ?_)
          refine sw_boxEq (d := 0) (by exact rfl) (show _ = arr nAnnotated (sy2 (ltC q) P A B R s t) jk from congrArg (fun z_ => arr nAnnotated z_ jk) (by first | exact rfl | exact sy2_eq hr1)) ?_
          have hr2 : (A.drop s).length = 0 ∨ (B.drop t).length = 0 := by omega
          refine sw_skip ?_
          exact ⟨(by exact congrArg (fun z_ => some (35, arr nAnnotated z_ jk)) (by first | exact sy_r2'.trans (sy_end hpart) | exact (sy3_eq hr2).trans (sy_end hpart))), rfl, True.intro⟩
        ·try simp only [q1, q2, q3, q4, q5, q6, q7, q8, q9] at hb15
         refine sw_boxEq (d := 0) (by exact rfl) (show _ = arr nAnnotated (sy1 P A B R s t) jk from congrArg (fun z_ => arr nAnnotated z_ jk) (by first | exact rfl | exact sy_rot' | exact (hz.trans sy0_eq).trans (sy1_eq hr0))) ?_
         have hr1 : (A.take s).length = 0 ∨ (B.take t).length = 0 := by omega
         refine sw_skip ?_
         refine sw_seq ?_
         refine sO [(0, _), (1, _), (2, _), (3, _), (4, _), (18, _), (19, _), (20, _), (21, _), (22, _), (24, _), (5000, _), (5001, _)] [(0, _)] ?_
         refine sw_reg ?_
         refine rA ?_ (x := sM)
         refine rA ?_ (x := sM)
         refine rA ?_ (x := B_lss)
         refine rA ?_ (x := sM)
         refine RunS.cases (s := 209) rfl (fun g19 => ?_) (fun g19 => ?_)
         ·have sg19 := g19
          try simp only [q1, q2, q3, q4, q5, q6, q7, q8, q9] at sg19
          refine rB g19 ?_ (x := sM)
          refine rB g19 ?_ (x := sM)
          refine rB g19 ?_ (x := B_lss)
          refine rA ?_ (x := pkT g19)
          refine sw_cond (t := 213) rfl (fun hb20 => ?_) (fun hb20 => ?_)
          ·try simp only [q1, q2, q3, q4, q5, q6, q7, q8, q9] at hb20
           refine sw_boxEq (d := 0) (by exact rfl) (show _ = arr nAnnotated (sy2 (ltC q) P A B R s t) jk from congrArg (fun z_ => arr nAnnotated z_ jk) (by first | exact rfl | exact sy2_eq hr1)) ?_
           refine sO [(0, _), (1, _), (2, _), (3, _), (4, _), (18, _), (19, _), (20, _), (21, _), (22, _), (24, _), (5000, _), (5001, _)] [(0, _)] ?_
           refine sw_reg ?_
           refine rA ?_ (x := vM false [PV.val _])
           refine rA ?_ (x := sM)
           refine rA ?_ (x := sM)
           refine rA ?_ (x := sM)
           refine rA ?_ (x := loc_copy (r' := RV.sv false [PV.clo _ _ _]) (.inl rfl) (by decide) (by exact Cp.sv (ToL.cons (PV.To.refl _) ToL.nil) (BorL.cons (PV.bor_clo _ _) BorL.nil)))
           refine rA ?_ (x := loc_acall0 (bx := 0) (G := 5001) (qs := [(false, [PV.val _]), (false, [PV.val _]), (false, [PV.val _]), (false, [PV.clo _ _ _])]) (as_ := [(false, [PV.val _]), (false, [PV.val _]), (false, [PV.val _]), (false, [PV.clo _ _ _])]) (by decide) FSyA_c_73 rfl (by exact (And.intro (by exact ⟨⟩) (And.intro (by exact ⟨⟩) (And.intro (by exact ⟨⟩) (And.intro (by exact ⟨⟩) True.intro))))) (by exact (And.intro (And.intro rfl (ToL.cons (PV.To.refl _) ToL.nil)) (And.intro (And.intro rfl (ToL.cons (PV.To.refl _) ToL.nil)) (And.intro (And.intro rfl (ToL.cons (PV.To.refl _) ToL.nil)) (And.intro (And.intro rfl (ToL.cons (PV.To.refl _) ToL.nil)) True.intro))))) (bor_arr bor_nAnnotated _ _) (by exact (borA_cons (BorL.cons (PV.bor_val _) BorL.nil) (borA_cons (BorL.cons (PV.bor_val _) BorL.nil) (borA_cons (BorL.cons (PV.bor_val _) BorL.nil) (borA_cons (BorL.cons (PV.bor_clo _ _) BorL.nil) borA_nil))))) (by exact (ih (P' := P ++ mergeL (ltC q) (A.take s) (B.take t)) (A' := A.drop s) (B' := B.drop t) (R' := R) (hm.trans hl2.symm) sy_r2 (by (try simp only [List.length_append, List.length_take, List.length_drop, List.length_nil, mergeL_len]) <;> omega) (by (try simp only [List.length_append, List.length_take, List.length_drop, List.length_nil, mergeL_len]) <;> omega) (by (try simp only [List.length_append, List.length_take, List.length_drop, List.length_nil, mergeL_len]) <;> omega) (by (try simp only [List.length_append, List.length_take, List.length_drop, List.length_nil, mergeL_len]) <;> omega) (by (try simp only [List.length_append, List.length_take, List.length_drop, List.length_nil, mergeL_len]) <;> omega) (sorted_drop hSA _) (sorted_drop hSB _) (by (try simp only [List.length_append, List.length_take, List.length_drop, List.length_nil, mergeL_len]) <;> omega) (by omega))))
           exact ⟨(by exact congrArg (fun z_ => some (35, arr nAnnotated z_ jk)) (by first | exact sy_r2'.trans (sy_end hpart) | exact (sy3_eq hr2).trans (sy_end hpart))), rfl, True.intro⟩
          ·try simp only [q1, q2, q3, q4, q5, q6, q7, q8, q9] at hb20
           refine sw_boxEq (d := 0) (by exact rfl) (show _ = arr nAnnotated (sy2 (ltC q) P A B R s t) jk from congrArg (fun z_ => arr nAnnotated z_ jk) (by first | exact rfl | exact sy2_eq hr1)) ?_
           have hr2 : (A.drop s).length = 0 ∨ (B.drop t).length = 0 := by omega
           refine sw_skip ?_
           exact ⟨(by exact congrArg (fun z_ => some (35, arr nAnnotated z_ jk)) (by first | exact sy_r2'.trans (sy_end hpart) | exact (sy3_eq hr2).trans (sy_end hpart))), rfl, True.intro⟩
         ·have sg19 := g19
          try simp only [q1, q2, q3, q4, q5, q6, q7, q8, q9] at sg19
          refine RunS.s0f g19 ?_
          refine RunS.s0f g19 ?_
          refine RunS.s0f g19 ?_
          refine rA ?_ (x := pkF g19)
          refine sw_cond (t := 213) rfl (fun hb_ => nomatch hb_) (fun hb_ => ?_)
          refine sw_boxEq (d := 0) (by exact rfl) (show _ = arr nAnnotated (sy2 (ltC q) P A B R s t) jk from congrArg (fun z_ => arr nAnnotated z_ jk) (by first | exact rfl | exact sy2_eq hr1)) ?_
          have hr2 : (A.drop s).length = 0 ∨ (B.drop t).length = 0 := by omega
          refine sw_skip ?_
          exact ⟨(by exact congrArg (fun z_ => some (35, arr nAnnotated z_ jk)) (by first | exact sy_r2'.trans (sy_end hpart) | exact (sy3_eq hr2).trans (sy_end hpart))), rfl, True.intro⟩
       ·have sg14 := g14
        try simp only [q1, q2, q3, q4, q5, q6, q7, q8, q9] at sg14
        refine RunS.s0f g14 ?_
        refine RunS.s0f g14 ?_
        refine RunS.s0f g14 ?_
        refine rA ?_ (x := pkF g14)
        refine sw_cond (t := 199) rfl (fun hb_ => nomatch hb_) (fun hb_ => ?_)
        refine sw_boxEq (d := 0) (by exact rfl) (show _ = arr nAnnotated (sy1 P A B R s t) jk from congrArg (fun z_ => arr nAnnotated z_ jk) (by first | exact rfl | exact sy_rot' | exact (hz.trans sy0_eq).trans (sy1_eq hr0))) ?_
        have hr1 : (A.take s).length = 0 ∨ (B.take t).length = 0 := by omega
        refine sw_skip ?_
        refine sw_seq ?_
        refine sO [(0, _), (1, _), (2, _), (3, _), (4, _), (18, _), (19, _), (20, _), (21, _), (22, _), (24, _), (5000, _), (5001, _)] [(0, _)] ?_
        refine sw_reg ?_
        refine rA ?_ (x := sM)
        refine rA ?_ (x := sM)
        refine rA ?_ (x := B_lss)
        refine rA ?_ (x := sM)
        refine RunS.cases (s := 209) rfl (fun g23 => ?_) (fun g23 => ?_)
        ·have sg23 := g23
         try simp only [q1, q2, q3, q4, q5, q6, q7, q8, q9] at sg23
         refine rB g23 ?_ (x := sM)
         refine rB g23 ?_ (x := sM)
         refine rB g23 ?_ (x := B_lss)
         refine rA ?_ (x := pkT g23)
         refine sw_cond (t := 213) rfl (fun hb24 => ?_) (fun hb24 => ?_)
         ·try simp only [q1, q2, q3, q4, q5, q6, q7, q8, q9] at hb24
          refine sw_boxEq (d := 0) (by exact rfl) (show _ = arr nAnnotated (sy2 (ltC q) P A B R s t) jk from congrArg (fun z_ => arr nAnnotated z_ jk) (by first | exact rfl | exact sy2_eq hr1)) ?_
          refine sO [(0, _), (1, _), (2, _), (3, _), (4, _), (18, _), (19, _), (20, _), (21, _), (22, _), (24, _), (5000, _), (5001, _)] [(0, _)] ?_
          refine sw_reg ?_
          refine rA ?_ (x := vM false [PV.val _])
          refine rA ?_ (x := sM)
          refine rA ?_ (x := sM)
          refine rA ?_ (x := sM)
          refine rA ?_ (x := loc_copy (r' := RV.sv false [PV.clo _ _ _]) (.inl rfl) (by decide) (by exact Cp.sv (ToL.cons (PV.To.refl _) ToL.nil) (BorL.cons (PV.bor_clo _ _) BorL.nil)))
          refine rA ?_ (x := loc_acall0 (bx := 0) (G := 5001) (qs := [(false, [PV.val _]), (false, [PV.val _]), (false, [PV.val _]), (false, [PV.clo _ _ _])]) (as_ := [(false, [PV.val _]), (false, [PV.val _]), (false, [PV.val _]), (false, [PV.clo _ _ _])]) (by decide) FSyA_c_73 rfl (by exact (And.intro (by exact ⟨⟩) (And.intro (by exact ⟨⟩) (And.intro (by exact ⟨⟩) (And.intro (by exact ⟨⟩) True.intro))))) (by exact (And.intro (And.intro rfl (ToL.cons (PV.To.refl _) ToL.nil)) (And.intro (And.intro rfl (ToL.cons (PV.To.refl _) ToL.nil)) (And.intro (And.intro rfl (ToL.cons (PV.To.refl _) ToL.nil)) (And.intro (And.intro rfl (ToL.cons (PV.To.refl _) ToL.nil)) True.intro))))) (bor_arr bor_nAnnotated _ _) (by exact (borA_cons (BorL.cons (PV.bor_val _) BorL.nil) (borA_cons (BorL.cons (PV.bor_val _) BorL.nil) (borA_cons (BorL.cons (PV.bor_val _) BorL.nil) (borA_cons (BorL.cons (PV.bor_clo _ _) BorL.nil) borA_nil))))) (by exact (ih (P' := P ++ mergeL (ltC q) (A.take s) (B.take t)) (A' := A.drop s) (B' := B.drop t) (R' := R) (hm.trans hl2.symm) sy_r2 (by (try simp only [List.length_append, List.length_take, List.length_drop, List.length_nil, mergeL_len]) <;> omega) (by (try simp only [List.length_append, List.length_take, List.length_drop, List.length_nil, mergeL_len]) <;> omega) (by (try simp only [List.length_append, List.length_take, List.length_drop, List.length_nil, mergeL_len]) <;> omega) (by (try simp only [List.length_append, List.length_take, List.length_drop, List.length_nil, mergeL_len]) <;> omega) (by (try simp only [List.length_append, List.length_take, List.length_drop, List.length_nil, mergeL_len]) <;> omega) (sorted_drop hSA _) (sorted_drop hSB _) (by (try simp only [List.length_append, List.length_take, List.length_drop, List.length_nil, mergeL_len]) <;> omega) (by omega))))
          exact ⟨(by exact congrArg (fun z_ => some (35, arr nAnnotated z_ jk)) (by first | exact sy_r2'.trans (sy_end hpart) | exact (sy3_eq hr2).trans (sy_end hpart))), rfl, True.intro⟩
         ·try simp only [q1, q2, q3, q4, q5, q6, q7, q8, q9] at hb24
          refine sw_boxEq (d := 0) (by exact rfl) (show _ = arr nAnnotated (sy2 (ltC q) P A B R s t) jk from congrArg (fun z_ => arr nAnnotated z_ jk) (by first | exact rfl | exact sy2_eq hr1)) ?_
          have hr2 : (A.drop s).length = 0 ∨ (B.drop t).length = 0 := by omega
          refine sw_skip ?_
          exact ⟨(by exact congrArg (fun z_ => some (35, arr nAnnotated z_ jk)) (by first | exact sy_r2'.trans (sy_end hpart) | exact (sy3_eq hr2).trans (sy_end hpart))), rfl, True.intro⟩
        ·have sg23 := g23
         try simp only [q1, q2, q3, q4, q5, q6, q7, q8, q9] at sg23
         refine RunS.s0f g23 ?_
         refine RunS.s0f g23 ?_
         refine RunS.s0f g23 ?_
         refine rA ?_ (x := pkF g23)
         refine sw_cond (t := 213) rfl (fun hb_ => nomatch hb_) (fun hb_ => ?_)
         refine sw_boxEq (d := 0) (by exact rfl) (show _ = arr nAnnotated (sy2 (ltC q) P A B R s t) jk from congrArg (fun z_ => arr nAnnotated z_ jk) (by first | exact rfl | exact sy2_eq hr1)) ?_
         have hr2 : (A.drop s).length = 0 ∨ (B.drop t).length = 0 := by omega
         refine sw_skip ?_
         exact ⟨(by exact congrArg (fun z_ => some (35, arr nAnnotated z_ jk)) (by first | exact sy_r2'.trans (sy_end hpart) | exact (sy3_eq hr2).trans (sy_end hpart))), rfl, True.intro⟩
      ·try simp only [q1, q2, q3, q4, q5, q6, q7, q8, q9] at hb13
       have hr0 : (A.drop s).length = 0 ∨ (B.take t).length = 0 := by omega
       refine sw_skip ?_
       refine sw_seq ?_
       refine sw_seq ?_
       refine sO [(0, _), (1, _), (2, _), (3, _), (4, _), (18, _), (19, _), (20, _), (21, _), (22, _), (24, _), (5000, _), (5001, _)] [(0, _)] ?_
       refine sw_reg ?_
       refine rA ?_ (x := sM)
       refine rA ?_ (x := sM)
       refine rA ?_ (x := B_lss)
       refine rA ?_ (x := sM)
       refine RunS.cases (s := 195) rfl (fun g26 => ?_) (fun g26 => ?_)
       ·have sg26 := g26
        try simp only [q1, q2, q3, q4, q5, q6, q7, q8, q9] at sg26
        refine rB g26 ?_ (x := sM)
        refine rB g26 ?_ (x := sM)
        refine rB g26 ?_ (x := B_lss)
        refine rA ?_ (x := pkT g26)
        refine sw_cond (t := 199) rfl (fun hb27 => ?_) (fun hb27 => ?_)
        ·try simp only [q1, q2, q3, q4, q5, q6, q7, q8, q9] at hb27
         refine sw_boxEq (d := 0) (by exact rfl) (show _ = arr nAnnotated (sy1 P A B R s t) jk from congrArg (fun z_ => arr nAnnotated z_ jk) (by first | exact rfl | exact sy_rot' | exact (hz.trans sy0_eq).trans (sy1_eq hr0))) ?_
         refine sO [(0, _), (1, _), (2, _), (3, _), (4, _), (18, _), (19, _), (20, _), (21, _), (22, _), (24, _), (5000, _), (5001, _)] [(0, _)] ?_
         refine sw_reg ?_
         refine rA ?_ (x := vM false [PV.val _])
         refine rA ?_ (x := sM)
         refine rA ?_ (x := sM)
         refine rA ?_ (x := sM)
         refine rA ?_ (x := loc_copy (r' := RV.sv false [PV.clo _ _ _]) (.inl rfl) (by decide) (by exact Cp.sv (ToL.cons (PV.To.refl _) ToL.nil) (BorL.cons (PV.bor_clo _ _) BorL.nil)))
         refine rA ?_ (x := loc_acall0 (bx := 0) (G := 5001) (qs := [(false, [PV.val _]), (false, [PV.val _]), (false, [PV.val _]), (false, [PV.clo _ _ _])]) (as_ := [(false, [PV.val _]), (false, [PV.val _]), (false, [PV.val _]), (false, [PV.clo _ _ _])]) (by decide) FSyA_c_73 rfl (by exact (And.intro (by exact ⟨⟩) (And.intro (by exact ⟨⟩) (And.intro (by exact ⟨⟩) (And.intro (by exact ⟨⟩) True.intro))))) (by exact (And.intro (And.intro rfl (ToL.cons (PV.To.refl _) ToL.nil)) (And.intro (And.intro rfl (ToL.cons (PV.To.refl _) ToL.nil)) (And.intro (And.intro rfl (ToL.cons (PV.To.refl _) ToL.nil)) (And.intro (And.intro rfl (ToL.cons (PV.To.refl _) ToL.nil)) True.intro))))) (bor_arr bor_nAnnotated _ _) (by exact (borA_cons (BorL.cons (PV.bor_val _) BorL.nil) (borA_cons (BorL.cons (PV.bor_val _) BorL.nil) (borA_cons (BorL.cons (PV.bor_val _) BorL.nil) (borA_cons (BorL.cons (PV.bor_clo _ _) BorL.nil) borA_nil))))) (by exact (ih (P' := P) (A' := A.take s) (B' := B.take t) (R' := A.drop s ++ (B.drop t ++ R)) (hm.trans hl1.symm) rfl (by (try simp only [List.length_append, List.length_take, List.length_drop, List.length_nil, mergeL_len]) <;> omega) (by (try simp only [List.length_append, List.length_take, List.length_drop, List.length_nil, mergeL_len]) <;> omega) (by (try simp only [List.length_append, List.length_take, List.length_drop, List.length_nil, mergeL_len]) <;> omega) (by (try simp only [List.length_append, List.length_take, List.length_drop, List.length_nil, mergeL_len]) <;> omega) (by (try simp only [List.length_append, List.length_take, List.length_drop, List.length_nil, mergeL_len]) <;> omega) (sorted_take hSA _) (sorted_take hSB _) (by (try simp only [List.length_append, List.length_take, List.length_drop, List.length_nil, mergeL_len]) <;> omega) (by omega))))
         refine sw_seq ?_
         refine sO [(0, _), (1, _), (2, _), (3, _), (4, _), (18, _), (19, _), (20, _), (21, _), (22, _), (24, _), (5000, _), (5001, _)] [(0, _)] ?_
         refine sw_reg ?_
         refine rA ?_ (x := sM)
         refine rA ?_ (x := sM)
         refine rA ?_ (x := B_lss)
         refine rA ?_ (x := sM)
         refine RunS.cases (s := 209) rfl (fun g28 => ?_) (fun g28 => ?_)
         ·have sg28 := g28
          try simp only [q1, q2, q3, q4, q5, q6, q7, q8, q9] at sg28
          refine rB g28 ?_ (x := sM)
          refine rB g28 ?_ (x := sM)
          refine rB g28 ?_ (x := B_lss)
          refine rA ?_ (x := pkT g28)
          refine sw_cond (t := 213) rfl (fun hb29 => ?_) (fun hb29 => ?_)
          ·try simp only [q1, q2, q3, q4, q5, q6, q7, q8, q9] at hb29
           refine sw_boxEq (d := 0) (by exact rfl) (show _ = arr nAnnotated (sy2 (ltC q) P A B R s t) jk from congrArg (fun z_ => arr nAnnotated z_ jk) (by first | exact rfl | exact sy2_eq hr1)) ?_
           refine sO [(0, _), (1, _), (2, _), (3, _), (4, _), (18, _), (19, _), (20, _), (21, _), (22, _), (24, _), (5000, _), (5001, _)] [(0, _)] ?_
           refine sw_reg ?_
           refine rA ?_ (x := vM false [PV.val _])
           refine rA ?_ (x := sM)
           refine rA ?_ (x := sM)
           refine rA ?_ (x := sM)
           refine rA ?_ (x := loc_copy (r' := RV.sv false [PV.clo _ _ _]) (.inl rfl) (by decide) (by exact Cp.sv (ToL.cons (PV.To.refl _) ToL.nil) (BorL.cons (PV.bor_clo _ _) BorL.nil)))
           refine rA ?_ (x := loc_acall0 (bx := 0) (G := 5001) (qs := [(false, [PV.val _]), (false, [PV.val _]), (false, [PV.val _]), (false, [PV.clo _ _ _])]) (as_ := [(false, [PV.val _]), (false, [PV.val _]), (false, [PV.val _]), (false, [PV.clo _ _ _])]) (by decide) FSyA_c_73 rfl (by exact (And.intro (by exact ⟨⟩) (And.intro (by exact ⟨⟩) (And.intro (by exact ⟨⟩) (And.intro (by exact ⟨⟩) True.intro))))) (by exact (And.intro (And.intro rfl (ToL.cons (PV.To.refl _) ToL.nil)) (And.intro (And.intro rfl (ToL.cons (PV.To.refl _) ToL.nil)) (And.intro (And.intro rfl (ToL.cons (PV.To.refl _) ToL.nil)) (And.intro (And.intro rfl (ToL.cons (PV.To.refl _) ToL.nil)) True.intro))))) (bor_arr bor_nAnnotated _ _) (by exact (borA_cons (BorL.cons (PV.bor_val _) BorL.nil) (borA_cons (BorL.cons (PV.bor_val _) BorL.nil) (borA_cons (BorL.cons (PV.bor_val _) BorL.nil) (borA_cons (BorL.cons (PV.bor_clo _ _) BorL.nil) borA_nil))))) (by exact (ih (P' := P ++ mergeL (ltC q) (A.take s) (B.take t)) (A' := A.drop s) (B' := B.drop t) (R' := R) (hm.trans hl2.symm) sy_r2 (by (try simp only [List.length_append, List.length_take, List.length_drop, List.length_nil, mergeL_len]) <;> omega) (by (try simp only [List.length_append, List.length_take, List.length_drop, List.length_nil, mergeL_len]) <;> omega) (by (try simp only [List.length_append, List.length_take, List.length_drop, List.length_nil, mergeL_len]) <;> omega) (by (try simp only [List.length_append, List.length_take, List.length_drop, List.length_nil, mergeL_len]) <;> omega) (by (try simp only [List.length_append, List.length_take, List.length_drop, List.length_nil, mergeL_len]) <;> omega) (sorted_drop hSA _) (sorted_drop hSB _) (by (try simp only [List.length_append, List.length_take, List.length_drop, List.length_nil, mergeL_len]) <;> omega) (by omega))))
           exact ⟨(by exact congrArg (fun z_ => some (35, arr nAnnotated z_ jk)) (by first | exact sy_r2'.trans (sy_end hpart) | exact (sy3_eq hr2).trans (sy_end hpart))), rfl, True.intro⟩
          ·try simp only [q1, q2, q3, q4, q5, q6, q7, q8, q9] at hb29
           refine sw_boxEq (d := 0) (by exact rfl) (show _ = arr nAnnotated (sy2 (ltC q) P A B R s t) jk from congrArg (fun z_ => arr nAnnotated z_ jk) (by first | exact rfl | exact sy2_eq hr1)) ?_
           have hr2 : (A.drop s).length = 0 ∨ (B.drop t).length = 0 := by omega
           refine sw_skip ?_
           exact ⟨(by exact congrArg (fun z_ => some (35, arr nAnnotated z_ jk)) (by first | exact sy_r2'.trans (sy_end hpart) | exact (sy3_eq hr2).trans (sy_end hpart))), rfl, True.intro⟩
         ·have sg28 := g28
          try simp only [q1, q2, q3, q4, q5, q6, q7, q8, q9] at sg28
          refine RunS.s0f g28 ?_
          refine RunS.s0f g28 ?_
          refine RunS.s0f g28 ?_
          refine rA ?_ (x := pkF g28)
          refine sw_cond (t := 213) rfl (fun hb_ => nomatch hb_) (fun hb_ => ?_)
          refine sw_boxEq (d := 0) (by exact rfl) (show _ = arr nAnnotated (sy2 (ltC q) P A B R s t) jk from congrArg (fun z_ => arr nAnnotated z_ jk) (by first | exact rfl | exact sy2_eq hr1)) ?_
          have hr2 : (A.drop s).length = 0 ∨ (B.drop t).length = 0 := by omega
          refine sw_skip ?_
          exact ⟨(by exact congrArg (fun z_ => some (35, arr nAnnotated z_ jk)) (by first | exact sy_r2'.trans (sy_end hpart) | exact (sy3_eq hr2).trans (sy_end hpart))), rfl, True.intro⟩
        ·try simp only [q1, q2, q3, q4, q5, q6, q7, q8, q9] at hb27
         refine sw_boxEq (d := 0) (by exact rfl) (show _ = arr nAnnotated (sy1 P A B R s t) jk from congrArg (fun z_ => arr nAnnotated z_ jk) (by first | exact rfl | exact sy_rot' | exact (hz.trans sy0_eq).trans (sy1_eq hr0))) ?_
         have hr1 : (A.take s).length = 0 ∨ (B.take t).length = 0 := by omega
         refine sw_skip ?_
         refine sw_seq ?_
         refine sO [(0, _), (1, _), (2, _), (3, _), (4, _), (18, _), (19, _), (20, _), (21, _), (22, _), (24, _), (5000, _), (5001, _)] [(0, _)] ?_
         refine sw_reg ?_
         refine rA ?_ (x := sM)
         refine rA ?_ (x := sM)
         refine rA ?_ (x := B_lss)
         refine rA ?_ (x := sM)
         refine RunS.cases (s := 209) rfl (fun g31 => ?_) (fun g31 => ?_)
         ·have sg31 := g31
          try simp only [q1, q2, q3, q4, q5, q6, q7, q8, q9] at sg31
          refine rB g31 ?_ (x := sM)
          refine rB g31 ?_ (x := sM)
          refine rB g31 ?_ (x := B_lss)
          refine rA ?_ (x := pkT g31)
          refine sw_cond (t := 213) rfl (fun hb32 => ?_) (fun hb32 => ?_)
          ·try simp only [q1, q2, q3, q4, q5, q6, q7, q8, q9] at hb32
           refine sw_boxEq (d := 0) (by exact rfl) (show _ = arr nAnnotated (sy2 (ltC q) P A B R s t) jk from congrArg (fun z_ => arr nAnnotated z_ jk) (by first | exact rfl | exact sy2_eq hr1)) ?_
           refine sO [(0, _), (1, _), (2, _), (3, _), (4, _), (18, _), (19, _), (20, _), (21, _), (22, _), (24, _), (5000, _), (5001, _)] [(0, _)] ?_
           refine sw_reg ?_
           refine rA ?_ (x := vM false [PV.val _])
           refine rA ?_ (x := sM)
           refine rA ?_ (x := sM)
           refine rA ?_ (x := sM)
           refine rA ?_ (x := loc_copy (r' := RV.sv false [PV.clo _ _ _]) (.inl rfl) (by decide) (by exact Cp.sv (ToL.cons (PV.To.refl _) ToL.nil) (BorL.cons (PV.bor_clo _ _) BorL.nil)))
           refine rA ?_ (x := loc_acall0 (bx := 0) (G := 5001) (qs := [(false, [PV.val _]), (false, [PV.val _]), (false, [PV.val _]), (false, [PV.clo _ _ _])]) (as_ := [(false, [PV.val _]), (false, [PV.val _]), (false, [PV.val _]), (false, [PV.clo _ _ _])]) (by decide) FSyA_c_73 rfl (by exact (And.intro (by exact ⟨⟩) (And.intro (by exact ⟨⟩) (And.intro (by exact ⟨⟩) (And.intro (by exact ⟨⟩) True.intro))))) (by exact (And.intro (And.intro rfl (ToL.cons (PV.To.refl _) ToL.nil)) (And.intro (And.intro rfl (ToL.cons (PV.To.refl _) ToL.nil)) (And.intro (And.intro rfl (ToL.cons (PV.To.refl _) ToL.nil)) (And.intro (And.intro rfl (ToL.cons (PV.To.refl _) ToL.nil)) True.intro))))) (bor_arr bor_nAnnotated _ _) (by exact (borA_cons (BorL.cons (PV.bor_val _) BorL.nil) (borA_cons (BorL.cons (PV.bor_val _) BorL.nil) (borA_cons (BorL.cons (PV.bor_val _) BorL.nil) (borA_cons (BorL.cons (PV.bor_clo _ _) BorL.nil) borA_nil))))) (by exact (ih (P' := P ++ mergeL (ltC q) (A.take s) (B.take t)) (A' := A.drop s) (B' := B.drop t) (R' := R) (hm.trans hl2.symm) sy_r2 (by (try simp only [List.length_append, List.length_take, List.length_drop, List.length_nil, mergeL_len]) <;> omega) (by (try simp only [List.length_append, List.length_take, List.length_drop, List.length_nil, mergeL_len]) <;> omega) (by (try simp only [List.length_append, List.length_take, List.length_drop, List.length_nil, mergeL_len]) <;> omega) (by (try simp only [List.length_append, List.length_take, List.length_drop, List.length_nil, mergeL_len]) <;> omega) (by (try simp only [List.length_append, List.length_take, List.length_drop, List.length_nil, mergeL_len]) <;> omega) (sorted_drop hSA _) (sorted_drop hSB _) (by (try simp only [List.length_append, List.length_take, List.length_drop, List.length_nil, mergeL_len]) <;> omega) (by omega))))
           exact ⟨(by exact congrArg (fun z_ => some (35, arr nAnnotated z_ jk)) (by first | exact sy_r2'.trans (sy_end hpart) | exact (sy3_eq hr2).trans (sy_end hpart))), rfl, True.intro⟩
          ·try simp only [q1, q2, q3, q4, q5, q6, q7, q8, q9] at hb32
           refine sw_boxEq (d := 0) (by exact rfl) (show _ = arr nAnnotated (sy2 (ltC q) P A B R s t) jk from congrArg (fun z_ => arr nAnnotated z_ jk) (by first | exact rfl | exact sy2_eq hr1)) ?_
           have hr2 : (A.drop s).length = 0 ∨ (B.drop t).length = 0 := by omega
           refine sw_skip ?_
           exact ⟨(by exact congrArg (fun z_ => some (35, arr nAnnotated z_ jk)) (by first | exact sy_r2'.trans (sy_end hpart) | exact (sy3_eq hr2).trans (sy_end hpart))), rfl, True.intro⟩
         ·have sg31 := g31
          try simp only [q1, q2, q3, q4, q5, q6, q7, q8, q9] at sg31
          refine RunS.s0f g31 ?_
          refine RunS.s0f g31 ?_
          refine RunS.s0f g31 ?_
          refine rA ?_ (x := pkF g31)
          refine sw_cond (t := 213) rfl (fun hb_ => nomatch hb_) (fun hb_ => ?_)
          refine sw_boxEq (d := 0) (by exact rfl) (show _ = arr nAnnotated (sy2 (ltC q) P A B R s t) jk from congrArg (fun z_ => arr nAnnotated z_ jk) (by first | exact rfl | exact sy2_eq hr1)) ?_
          have hr2 : (A.drop s).length = 0 ∨ (B.drop t).length = 0 := by omega
          refine sw_skip ?_
          exact ⟨(by exact congrArg (fun z_ => some (35, arr nAnnotated z_ jk)) (by first | exact sy_r2'.trans (sy_end hpart) | exact (sy3_eq hr2).trans (sy_end hpart))), rfl, True.intro⟩
       ·have sg26 := g26
        try simp only [q1, q2, q3, q4, q5, q6, q7, q8, q9] at sg26
        refine RunS.s0f g26 ?_
        refine RunS.s0f g26 ?_
        refine RunS.s0f g26 ?_
        refine rA ?_ (x := pkF g26)
        refine sw_cond (t := 199) rfl (fun hb_ => nomatch hb_) (fun hb_ => ?_)
        refine sw_boxEq (d := 0) (by exact rfl) (show _ = arr nAnnotated (sy1 P A B R s t) jk from congrArg (fun z_ => arr nAnnotated z_ jk) (by first | exact rfl | exact sy_rot' | exact (hz.trans sy0_eq).trans (sy1_eq hr0))) ?_
        have hr1 : (A.take s).length = 0 ∨ (B.take t).length = 0 := by omega
        refine sw_skip ?_
        refine sw_seq ?_
        refine sO [(0, _), (1, _), (2, _), (3, _), (4, _), (18, _), (19, _), (20, _), (21, _), (22, _), (24, _), (5000, _), (5001, _)] [(0, _)] ?_
        refine sw_reg ?_
        refine rA ?_ (x := sM)
        refine rA ?_ (x := sM)
        refine rA ?_ (x := B_lss)
        refine rA ?_ (x := sM)
        refine RunS.cases (s := 209) rfl (fun g35 => ?_) (fun g35 => ?_)
        ·have sg35 := g35
         try simp only [q1, q2, q3, q4, q5, q6, q7, q8, q9] at sg35
         refine rB g35 ?_ (x := sM)
         refine rB g35 ?_ (x := sM)
         refine rB g35 ?_ (x := B_lss)
         refine rA ?_ (x := pkT g35)
         refine sw_cond (t := 213) rfl (fun hb36 => ?_) (fun hb36 => ?_)
         ·try simp only [q1, q2, q3, q4, q5, q6, q7, q8, q9] at hb36
          refine sw_boxEq (d := 0) (by exact rfl) (show _ = arr nAnnotated (sy2 (ltC q) P A B R s t) jk from congrArg (fun z_ => arr nAnnotated z_ jk) (by first | exact rfl | exact sy2_eq hr1)) ?_
          refine sO [(0, _), (1, _), (2, _), (3, _), (4, _), (18, _), (19, _), (20, _), (21, _), (22, _), (24, _), (5000, _), (5001, _)] [(0, _)] ?_
          refine sw_reg ?_
          refine rA ?_ (x := vM false [PV.val _])
          refine rA ?_ (x := sM)
          refine rA ?_ (x := sM)
          refine rA ?_ (x := sM)
          refine rA ?_ (x := loc_copy (r' := RV.sv false [PV.clo _ _ _]) (.inl rfl) (by decide) (by exact Cp.sv (ToL.cons (PV.To.refl _) ToL.nil) (BorL.cons (PV.bor_clo _ _) BorL.nil)))
          refine rA ?_ (x := loc_acall0 (bx := 0) (G := 5001) (qs := [(false, [PV.val _]), (false, [PV.val _]), (false, [PV.val _]), (false, [PV.clo _ _ _])]) (as_ := [(false, [PV.val _]), (false, [PV.val _]), (false, [PV.val _]), (false, [PV.clo _ _ _])]) (by decide) FSyA_c_73 rfl (by exact (And.intro (by exact ⟨⟩) (And.intro (by exact ⟨⟩) (And.intro (by exact ⟨⟩) (And.intro (by exact ⟨⟩) True.intro))))) (by exact (And.intro (And.intro rfl (ToL.cons (PV.To.refl _) ToL.nil)) (And.intro (And.intro rfl (ToL.cons (PV.To.refl _) ToL.nil)) (And.intro (And.intro rfl (ToL.cons (PV.To.refl _) ToL.nil)) (And.intro (And.intro rfl (ToL.cons (PV.To.refl _) ToL.nil)) True.intro))))) (bor_arr bor_nAnnotated _ _) (by exact (borA_cons (BorL.cons (PV.bor_val _) BorL.nil) (borA_cons (BorL.cons (PV.bor_val _) BorL.nil) (borA_cons (BorL.cons (PV.bor_val _) BorL.nil) (borA_cons (BorL.cons (PV.bor_clo _ _) BorL.nil) borA_nil))))) (by exact (ih (P' := P ++ mergeL (ltC q) (A.take s) (B.take t)) (A' := A.drop s) (B' := B.drop t) (R' := R) (hm.trans hl2.symm) sy_r2 (by (try simp only [List.length_append, List.length_take, List.length_drop, List.length_nil, mergeL_len]) <;> omega) (by (try simp only [List.length_append, List.length_take, List.length_drop, List.length_nil, mergeL_len]) <;> omega) (by (try simp only [List.length_append, List.length_take, List.length_drop, List.length_nil, mergeL_len]) <;> omega) (by (try simp only [List.length_append, List.length_take, List.length_drop, List.length_nil, mergeL_len]) <;> omega) (by (try simp only [List.length_append, List.length_take, List.length_drop, List.length_nil, mergeL_len]) <;> omega) (sorted_drop hSA _) (sorted_drop hSB _) (by (try simp only [List.length_append, List.length_take, List.length_drop, List.length_nil, mergeL_len]) <;> omega) (by omega))))
          exact ⟨(by exact congrArg (fun z_ => some (35, arr nAnnotated z_ jk)) (by first | exact sy_r2'.trans (sy_end hpart) | exact (sy3_eq hr2).trans (sy_end hpart))), rfl, True.intro⟩
         ·try simp only [q1, q2, q3, q4, q5, q6, q7, q8, q9] at hb36
          refine sw_boxEq (d := 0) (by exact rfl) (show _ = arr nAnnotated (sy2 (ltC q) P A B R s t) jk from congrArg (fun z_ => arr nAnnotated z_ jk) (by first | exact rfl | exact sy2_eq hr1)) ?_
          have hr2 : (A.drop s).length = 0 ∨ (B.drop t).length = 0 := by omega
          refine sw_skip ?_
          exact ⟨(by exact congrArg (fun z_ => some (35, arr nAnnotated z_ jk)) (by first | exact sy_r2'.trans (sy_end hpart) | exact (sy3_eq hr2).trans (sy_end hpart))), rfl, True.intro⟩
        ·have sg35 := g35
         try simp only [q1, q2, q3, q4, q5, q6, q7, q8, q9] at sg35
         refine RunS.s0f g35 ?_
         refine RunS.s0f g35 ?_
         refine RunS.s0f g35 ?_
         refine rA ?_ (x := pkF g35)
         refine sw_cond (t := 213) rfl (fun hb_ => nomatch hb_) (fun hb_ => ?_)
         refine sw_boxEq (d := 0) (by exact rfl) (show _ = arr nAnnotated (sy2 (ltC q) P A B R s t) jk from congrArg (fun z_ => arr nAnnotated z_ jk) (by first | exact rfl | exact sy2_eq hr1)) ?_
         have hr2 : (A.drop s).length = 0 ∨ (B.drop t).length = 0 := by omega
         refine sw_skip ?_
         exact ⟨(by exact congrArg (fun z_ => some (35, arr nAnnotated z_ jk)) (by first | exact sy_r2'.trans (sy_end hpart) | exact (sy3_eq hr2).trans (sy_end hpart))), rfl, True.intro⟩
     ·have sg12 := g12
      try simp only [q1, q2, q3, q4, q5, q6, q7, q8, q9] at sg12
      refine RunS.s0f g12 ?_
      refine RunS.s0f g12 ?_
      refine RunS.s0f g12 ?_
      refine rA ?_ (x := pkF g12)
      refine sw_cond (t := 185) rfl (fun hb_ => nomatch hb_) (fun hb_ => ?_)
      have hr0 : (A.drop s).length = 0 ∨ (B.take t).length = 0 := by omega
      refine sw_skip ?_
      refine sw_seq ?_
      refine sw_seq ?_
      refine sO [(0, _), (1, _), (2, _), (3, _), (4, _), (18, _), (19, _), (20, _), (21, _), (22, _), (24, _), (5000, _), (5001, _)] [(0, _)] ?_
      refine sw_reg ?_
      refine rA ?_ (x := sM)
      refine rA ?_ (x := sM)
      refine rA ?_ (x := B_lss)
      refine rA ?_ (x := sM)
      refine RunS.cases (s := 195) rfl (fun g39 => ?_) (fun g39 => ?_)
      ·have sg39 := g39
       try simp only [q1, q2, q3, q4, q5, q6, q7, q8, q9] at sg39
       refine rB g39 ?_ (x := sM)
       refine rB g39 ?_ (x := sM)
       refine rB g39 ?_ (x := B_lss)
       refine rA ?_ (x := pkT g39)
       refine sw_cond (t := 199) rfl (fun hb40 => ?_) (fun hb40 => ?_)
       ·try simp only [q1, q2, q3, q4, q5, q6, q7, q8, q9] at hb40
        refine sw_boxEq (d := 0) (by exact rfl) (show _ = arr nAnnotated (sy1 P A B R s t) jk from congrArg (fun z_ => arr nAnnotated z_ jk) (by first | exact rfl | exact sy_rot' | exact (hz.trans sy0_eq).trans (sy1_eq hr0))) ?_
        refine sO [(0, _), (1, _), (2, _), (3, _), (4, _), (18, _), (19, _), (20, _), (21, _), (22, _), (24, _), (5000, _), (5001, _)] [(0, _)] ?_
        refine sw_reg ?_
        refine rA ?_ (x := vM false [PV.val _])
        refine rA ?_ (x := sM)
        refine rA ?_ (x := sM)
        refine rA ?_ (x := sM)
        refine rA ?_ (x := loc_copy (r' := RV.sv false [PV.clo _ _ _]) (.inl rfl) (by decide) (by exact Cp.sv (ToL.cons (PV.To.refl _) ToL.nil) (BorL.cons (PV.bor_clo _ _) BorL.nil)))
        refine rA ?_ (x := loc_acall0 (bx := 0) (G := 5001) (qs := [(false, [PV.val _]), (false, [PV.val _]), (false, [PV.val _]), (false, [PV.clo _ _ _])]) (as_ := [(false, [PV.val _]), (false, [PV.val _]), (false, [PV.val _]), (false, [PV.clo _ _ _])]) (by decide) FSyA_c_73 rfl (by exact (And.intro (by exact ⟨⟩) (And.intro (by exact ⟨⟩) (And.intro (by exact ⟨⟩) (And.intro (by exact ⟨⟩) True.intro))))) (by exact (And.intro (And.intro rfl (ToL.cons (PV.To.refl _) ToL.nil)) (And.intro (And.intro rfl (ToL.cons (PV.To.refl _) ToL.nil)) (And.intro (And.intro rfl (ToL.cons (PV.To.refl _) ToL.nil)) (And.intro (And.intro rfl (ToL.cons (PV.To.refl _) ToL.nil)) True.intro))))) (bor_arr bor_nAnnotated _ _) (by exact (borA_cons (BorL.cons (PV.bor_val _) BorL.nil) (borA_cons (BorL.cons (PV.bor_val _) BorL.nil) (borA_cons (BorL.cons (PV.bor_val _) BorL.nil) (borA_cons (BorL.cons (PV.bor_clo _ _) BorL.nil) borA_nil))))) (by exact (ih (P' := P) (A' := A.take s) (B' := B.take t) (R' := A.drop s ++ (B.drop t ++ R)) (hm.trans hl1.symm) rfl (by (try simp only [List.length_append, List.length_take, List.length_drop, List.length_nil, mergeL_len]) <;> omega) (by (try simp only [List.length_append, List.length_take, List.length_drop, List.length_nil, mergeL_len]) <;> omega) (by (try simp only [List.length_append, List.length_take, List.length_drop, List.length_nil, mergeL_len]) <;> omega) (by (try simp only [List.length_append, List.length_take, List.length_drop, List.length_nil, mergeL_len]) <;> omega) (by (try simp only [List.length_append, List.length_take, List.length_drop, List.length_nil, mergeL_len]) <;> omega) (sorted_take hSA _) (sorted_take hSB _) (by (try simp only [List.length_append, List.length_take, List.length_drop, List.length_nil, mergeL_len]) <;> omega) (by omega))))
        refine sw_seq ?_
        refine sO [(0, _), (1, _), (2, _), (3, _), (4, _), (18, _), (19, _), (20, _), (21, _), (22, _), (24, _), (5000, _), (5001, _)] [(0, _)] ?_
        refine sw_reg ?_
        refine rA ?_ (x := sM)
        refine rA ?_ (x := sM)
        refine rA ?_ (x := B_lss)
        refine rA ?_ (x := sM)
        refine RunS.cases (s := 209) rfl (fun g41 => ?_) (fun g41 => ?_)
        ·have sg41 := g41
         try simp only [q1, q2, q3, q4, q5, q6, q7, q8, q9] at sg41
         refine rB g41 ?_ (x := sM)
         refine rB g41 ?_ (x := sM)
         refine rB g41 ?_ (x := B_lss)
         refine rA ?_ (x := pkT g41)
         refine sw_cond (t := 213) rfl (fun hb42 => ?_) (fun hb42 => ?_)
         ·try simp only [q1, q2, q3, q4, q5, q6, q7, q8, q9] at hb42
          refine sw_boxEq (d := 0) (by exact rfl) (show _ = arr nAnnotated (sy2 (ltC q) P A B R s t) jk from congrArg (fun z_ => arr nAnnotated z_ jk) (by first | exact rfl | exact sy2_eq hr1)) ?_
          refine sO [(0, _), (1, _), (2, _), (3, _), (4, _), (18, _), (19, _), (20, _), (21, _), (22, _), (24, _), (5000, _), (5001, _)] [(0, _)] ?_
          refine sw_reg ?_
          refine rA ?_ (x := vM false [PV.val _])
          refine rA ?_ (x := sM)
          refine rA ?_ (x := sM)
          refine rA ?_ (x := sM)
          refine rA ?_ (x := loc_copy (r' := RV.sv false [PV.clo _ _ _]) (.inl rfl) (by decide) (by exact Cp.sv (ToL.cons (PV.To.refl _) ToL.nil) (BorL.cons (PV.bor_clo _ _) BorL.nil)))
          refine rA ?_ (x := loc_acall0 (bx := 0) (G := 5001) (qs := [(false, [PV.val _]), (false, [PV.val _]), (false, [PV.val _]), (false, [PV.clo _ _ _])]) (as_ := [(false, [PV.val _]), (false, [PV.val _]), (false, [PV.val _]), (false, [PV.clo _ _ _])]) (by decide) FSyA_c_73 rfl (by exact (And.intro (by exact ⟨⟩) (And.intro (by exact ⟨⟩) (And.intro (by exact ⟨⟩) (And.intro (by exact ⟨⟩) True.intro))))) (by exact (And.intro (And.intro rfl (ToL.cons (PV.To.refl _) ToL.nil)) (And.intro (And.intro rfl (ToL.cons (PV.To.refl _) ToL.nil)) (And.intro (And.intro rfl (ToL.cons (PV.To.refl _) ToL.nil)) (And.intro (And.intro rfl (ToL.cons (PV.To.refl _) ToL.nil)) True.intro))))) (bor_arr bor_nAnnotated _ _) (by exact (borA_cons (BorL.cons (PV.bor_val _) BorL.nil) (borA_cons (BorL.cons (PV.bor_val _) BorL.nil) (borA_cons (BorL.cons (PV.bor_val _) BorL.nil) (borA_cons (BorL.cons (PV.bor_clo _ _) BorL.nil) borA_nil))))) (by exact (ih (P' := P ++ mergeL (ltC q) (A.take s) (B.take t)) (A' := A.drop s) (B' := B.drop t) (R' := R) (hm.trans hl2.symm) sy_r2 (by (try simp only [List.length_append, List.length_take, List.length_drop, List.length_nil, mergeL_len]) <;> omega) (by (try simp only [List.length_append, List.length_take, List.length_drop, List.length_nil, mergeL_len]) <;> omega) (by (try simp only [List.length_append, List.length_take, List.length_drop, List.length_nil, mergeL_len]) <;> omega) (by (try simp only [List.length_append, List.length_take, List.length_drop, List.length_nil, mergeL_len]) <;> omega) (by (try simp only [List.length_append, List.length_take, List.length_drop, List.length_nil, mergeL_len]) <;> omega) (sorted_drop hSA _) (sorted_drop hSB _) (by (try simp only [List.length_append, List.length_take, List.length_drop, List.length_nil, mergeL_len]) <;> omega) (by omega))))
          exact ⟨(by exact congrArg (fun z_ => some (35, arr nAnnotated z_ jk)) (by first | exact sy_r2'.trans (sy_end hpart) | exact (sy3_eq hr2).trans (sy_end hpart))), rfl, True.intro⟩
         ·try simp only [q1, q2, q3, q4, q5, q6, q7, q8, q9] at hb42
          refine sw_boxEq (d := 0) (by exact rfl) (show _ = arr nAnnotated (sy2 (ltC q) P A B R s t) jk from congrArg (fun z_ => arr nAnnotated z_ jk) (by first | exact rfl | exact sy2_eq hr1)) ?_
          have hr2 : (A.drop s).length = 0 ∨ (B.drop t).length = 0 := by omega
          refine sw_skip ?_
          exact ⟨(by exact congrArg (fun z_ => some (35, arr nAnnotated z_ jk)) (by first | exact sy_r2'.trans (sy_end hpart) | exact (sy3_eq hr2).trans (sy_end hpart))), rfl, True.intro⟩
        ·have sg41 := g41
         try simp only [q1, q2, q3, q4, q5, q6, q7, q8, q9] at sg41
         refine RunS.s0f g41 ?_
         refine RunS.s0f g41 ?_
         refine RunS.s0f g41 ?_
         refine rA ?_ (x := pkF g41)
         refine sw_cond (t := 213) rfl (fun hb_ => nomatch hb_) (fun hb_ => ?_)
         refine sw_boxEq (d := 0) (by exact rfl) (show _ = arr nAnnotated (sy2 (ltC q) P A B R s t) jk from congrArg (fun z_ => arr nAnnotated z_ jk) (by first | exact rfl | exact sy2_eq hr1)) ?_
         have hr2 : (A.drop s).length = 0 ∨ (B.drop t).length = 0 := by omega
         refine sw_skip ?_
         exact ⟨(by exact congrArg (fun z_ => some (35, arr nAnnotated z_ jk)) (by first | exact sy_r2'.trans (sy_end hpart) | exact (sy3_eq hr2).trans (sy_end hpart))), rfl, True.intro⟩
       ·try simp only [q1, q2, q3, q4, q5, q6, q7, q8, q9] at hb40
        refine sw_boxEq (d := 0) (by exact rfl) (show _ = arr nAnnotated (sy1 P A B R s t) jk from congrArg (fun z_ => arr nAnnotated z_ jk) (by first | exact rfl | exact sy_rot' | exact (hz.trans sy0_eq).trans (sy1_eq hr0))) ?_
        have hr1 : (A.take s).length = 0 ∨ (B.take t).length = 0 := by omega
        refine sw_skip ?_
        refine sw_seq ?_
        refine sO [(0, _), (1, _), (2, _), (3, _), (4, _), (18, _), (19, _), (20, _), (21, _), (22, _), (24, _), (5000, _), (5001, _)] [(0, _)] ?_
        refine sw_reg ?_
        refine rA ?_ (x := sM)
        refine rA ?_ (x := sM)
        refine rA ?_ (x := B_lss)
        refine rA ?_ (x := sM)
        refine RunS.cases (s := 209) rfl (fun g44 => ?_) (fun g44 => ?_)
        ·have sg44 := g44
         try simp only [q1, q2, q3, q4, q5, q6, q7, q8, q9] at sg44
         refine rB g44 ?_ (x := sM)
         refine rB g44 ?_ (x := sM)
         refine rB g44 ?_ (x := B_lss)
         refine rA ?_ (x := pkT g44)
         refine sw_cond (t := 213) rfl (fun hb45 => ?_) (fun hb45 => ?_)
         ·try simp only [q1, q2, q3, q4, q5, q6, q7, q8, q9] at hb45
          refine sw_boxEq (d := 0) (by exact rfl) (show _ = arr nAnnotated (sy2 (ltC q) P A B R s t) jk from congrArg (fun z_ => arr nAnnotated z_ jk) (by first | exact rfl | exact sy2_eq hr1)) ?_
          refine sO [(0, _), (1, _), (2, _), (3, _), (4, _), (18, _), (19, _), (20, _), (21, _), (22, _), (24, _), (5000, _), (5001, _)] [(0, _)] ?_
          refine sw_reg ?_
          refine rA ?_ (x := vM false [PV.val _])
          refine rA ?_ (x := sM)
          refine rA ?_ (x := sM)
          refine rA ?_ (x := sM)
          refine rA ?_ (x := loc_copy (r' := RV.sv false [PV.clo _ _ _]) (.inl rfl) (by decide) (by exact Cp.sv (ToL.cons (PV.To.refl _) ToL.nil) (BorL.cons (PV.bor_clo _ _) BorL.nil)))
          refine rA ?_ (x := loc_acall0 (bx := 0) (G := 5001) (qs := [(false, [PV.val _]), (false, [PV.val _]), (false, [PV.val _]), (false, [PV.clo _ _ _])]) (as_ := [(false, [PV.val _]), (false, [PV.val _]), (false, [PV.val _]), (false, [PV.clo _ _ _])]) (by decide) FSyA_c_73 rfl (by exact (And.intro (by exact ⟨⟩) (And.intro (by exact ⟨⟩) (And.intro (by exact ⟨⟩) (And.intro (by exact ⟨⟩) True.intro))))) (by exact (And.intro (And.intro rfl (ToL.cons (PV.To.refl _) ToL.nil)) (And.intro (And.intro rfl (ToL.cons (PV.To.refl _) ToL.nil)) (And.intro (And.intro rfl (ToL.cons (PV.To.refl _) ToL.nil)) (And.intro (And.intro rfl (ToL.cons (PV.To.refl _) ToL.nil)) True.intro))))) (bor_arr bor_nAnnotated _ _) (by exact (borA_cons (BorL.cons (PV.bor_val _) BorL.nil) (borA_cons (BorL.cons (PV.bor_val _) BorL.nil) (borA_cons (BorL.cons (PV.bor_val _) BorL.nil) (borA_cons (BorL.cons (PV.bor_clo _ _) BorL.nil) borA_nil))))) (by exact (ih (P' := P ++ mergeL (ltC q) (A.take s) (B.take t)) (A' := A.drop s) (B' := B.drop t) (R' := R) (hm.trans hl2.symm) sy_r2 (by (try simp only [List.length_append, List.length_take, List.length_drop, List.length_nil, mergeL_len]) <;> omega) (by (try simp only [List.length_append, List.length_take, List.length_drop, List.length_nil, mergeL_len]) <;> omega) (by (try simp only [List.length_append, List.length_take, List.length_drop, List.length_nil, mergeL_len]) <;> omega) (by (try simp only [List.length_append, List.length_take, List.length_drop, List.length_nil, mergeL_len]) <;> omega) (by (try simp only [List.length_append, List.length_take, List.length_drop, List.length_nil, mergeL_len]) <;> omega) (sorted_drop hSA _) (sorted_drop hSB _) (by (try simp only [List.length_append, List.length_take, List.length_drop, List.length_nil, mergeL_len]) <;> omega) (by omega))))
          exact ⟨(by exact congrArg (fun z_ => some (35, arr nAnnotated z_ jk)) (by first | exact sy_r2'.trans (sy_end hpart) | exact (sy3_eq hr2).trans (sy_end hpart))), rfl, True.intro⟩
         ·try simp only [q1, q2, q3, q4, q5, q6, q7, q8, q9] at hb45
          refine sw_boxEq (d := 0) (by exact rfl) (show _ = arr nAnnotated (sy2 (ltC q) P A B R s t) jk from congrArg (fun z_ => arr nAnnotated z_ jk) (by first | exact rfl | exact sy2_eq hr1)) ?_
          have hr2 : (A.drop s).length = 0 ∨ (B.drop t).length = 0 := by omega
          refine sw_skip ?_
          exact ⟨(by exact congrArg (fun z_ => some (35, arr nAnnotated z_ jk)) (by first | exact sy_r2'.trans (sy_end hpart) | exact (sy3_eq hr2).trans (sy_end hpart))), rfl, True.intro⟩
        ·have sg44 := g44
         try simp only [q1, q2, q3, q4, q5, q6, q7, q8, q9] at sg44
         refine RunS.s0f g44 ?_
         refine RunS.s0f g44 ?_
         refine RunS.s0f g44 ?_
         refine rA ?_ (x := pkF g44)
         refine sw_cond (t := 213) rfl (fun hb_ => nomatch hb_) (fun hb_ => ?_)
         refine sw_boxEq (d := 0) (by exact rfl) (show _ = arr nAnnotated (sy2 (ltC q) P A B R s t) jk from congrArg (fun z_ => arr nAnnotated z_ jk) (by first | exact rfl | exact sy2_eq hr1)) ?_
         have hr2 : (A.drop s).length = 0 ∨ (B.drop t).length = 0 := by omega
         refine sw_skip ?_
         exact ⟨(by exact congrArg (fun z_ => some (35, arr nAnnotated z_ jk)) (by first | exact sy_r2'.trans (sy_end hpart) | exact (sy3_eq hr2).trans (sy_end hpart))), rfl, True.intro⟩
      ·have sg39 := g39
       try simp only [q1, q2, q3, q4, q5, q6, q7, q8, q9] at sg39
       refine RunS.s0f g39 ?_
       refine RunS.s0f g39 ?_
       refine RunS.s0f g39 ?_
       refine rA ?_ (x := pkF g39)
       refine sw_cond (t := 199) rfl (fun hb_ => nomatch hb_) (fun hb_ => ?_)
       refine sw_boxEq (d := 0) (by exact rfl) (show _ = arr nAnnotated (sy1 P A B R s t) jk from congrArg (fun z_ => arr nAnnotated z_ jk) (by first | exact rfl | exact sy_rot' | exact (hz.trans sy0_eq).trans (sy1_eq hr0))) ?_
       have hr1 : (A.take s).length = 0 ∨ (B.take t).length = 0 := by omega
       refine sw_skip ?_
       refine sw_seq ?_
       refine sO [(0, _), (1, _), (2, _), (3, _), (4, _), (18, _), (19, _), (20, _), (21, _), (22, _), (24, _), (5000, _), (5001, _)] [(0, _)] ?_
       refine sw_reg ?_
       refine rA ?_ (x := sM)
       refine rA ?_ (x := sM)
       refine rA ?_ (x := B_lss)
       refine rA ?_ (x := sM)
       refine RunS.cases (s := 209) rfl (fun g48 => ?_) (fun g48 => ?_)
       ·have sg48 := g48
        try simp only [q1, q2, q3, q4, q5, q6, q7, q8, q9] at sg48
        refine rB g48 ?_ (x := sM)
        refine rB g48 ?_ (x := sM)
        refine rB g48 ?_ (x := B_lss)
        refine rA ?_ (x := pkT g48)
        refine sw_cond (t := 213) rfl (fun hb49 => ?_) (fun hb49 => ?_)
        ·try simp only [q1, q2, q3, q4, q5, q6, q7, q8, q9] at hb49
         refine sw_boxEq (d := 0) (by exact rfl) (show _ = arr nAnnotated (sy2 (ltC q) P A B R s t) jk from congrArg (fun z_ => arr nAnnotated z_ jk) (by first | exact rfl | exact sy2_eq hr1)) ?_
         refine sO [(0, _), (1, _), (2, _), (3, _), (4, _), (18, _), (19, _), (20, _), (21, _), (22, _), (24, _), (5000, _), (5001, _)] [(0, _)] ?_
         refine sw_reg ?_
         refine rA ?_ (x := vM false [PV.val _])
         refine rA ?_ (x := sM)
         refine rA ?_ (x := sM)
         refine rA ?_ (x := sM)
         refine rA ?_ (x := loc_copy (r' := RV.sv false [PV.clo _ _ _]) (.inl rfl) (by decide) (by exact Cp.sv (ToL.cons (PV.To.refl _) ToL.nil) (BorL.cons (PV.bor_clo _ _) BorL.nil)))
         refine rA ?_ (x := loc_acall0 (bx := 0) (G := 5001) (qs := [(false, [PV.val _]), (false, [PV.val _]), (false, [PV.val _]), (false, [PV.clo _ _ _])]) (as_ := [(false, [PV.val _]), (false, [PV.val _]), (false, [PV.val _]), (false, [PV.clo _ _ _])]) (by decide) FSyA_c_73 rfl (by exact (And.intro (by exact ⟨⟩) (And.intro (by exact ⟨⟩) (And.intro (by exact ⟨⟩) (And.intro (by exact ⟨⟩) True.intro))))) (by exact (And.intro (And.intro rfl (ToL.cons (PV.To.refl _) ToL.nil)) (And.intro (And.intro rfl (ToL.cons (PV.To.refl _) ToL.nil)) (And.intro (And.intro rfl (ToL.cons (PV.To.refl _) ToL.nil)) (And.intro (And.intro rfl (ToL.cons (PV.To.refl _) ToL.nil)) True.intro))))) (bor_arr bor_nAnnotated _ _) (by exact (borA_cons (BorL.cons (PV.bor_val _) BorL.nil) (borA_cons (BorL.cons (PV.bor_val _) BorL.nil) (borA_cons (BorL.cons (PV.bor_val _) BorL.nil) (borA_cons (BorL.cons (PV.bor_clo _ _) BorL.nil) borA_nil))))) (by exact (ih (P' := P ++ mergeL (ltC q) (A.take s) (B.take t)) (A' := A.drop s) (B' := B.drop t) (R' := R) (hm.trans hl2.symm) sy_r2 (by (try simp only [List.length_append, List.length_take, List.length_drop, List.length_nil, mergeL_len]) <;> omega) (by (try simp only [List.length_append, List.length_take, List.length_drop, List.length_nil, mergeL_len]) <;> omega) (by (try simp only [List.length_append, List.length_take, List.length_drop, List.length_nil, mergeL_len]) <;> omega) (by (try simp only [List.length_append, List.length_take, List.length_drop, List.length_nil, mergeL_len]) <;> omega) (by (try simp only [List.length_append, List.length_take, List.length_drop, List.length_nil, mergeL_len]) <;> omega) (sorted_drop hSA _) (sorted_drop hSB _) (by (try simp only [List.length_append, List.length_take, List.length_drop, List.length_nil, mergeL_len]) <;> omega) (by omega))))
         exact ⟨(by exact congrArg (fun z_ => some (35, arr nAnnotated z_ jk)) (by first | exact sy_r2'.trans (sy_end hpart) | exact (sy3_eq hr2).trans (sy_end hpart))), rfl, True.intro⟩
        ·try simp only [q1, q2, q3, q4, q5, q6, q7, q8, q9] at hb49
         refine sw_boxEq (d := 0) (by exact rfl) (show _ = arr nAnnotated (sy2 (ltC q) P A B R s t) jk from congrArg (fun z_ => arr nAnnotated z_ jk) (by first | exact rfl | exact sy2_eq hr1)) ?_
         have hr2 : (A.drop s).length = 0 ∨ (B.drop t).length = 0 := by omega
         refine sw_skip ?_
         exact ⟨(by exact congrArg (fun z_ => some (35, arr nAnnotated z_ jk)) (by first | exact sy_r2'.trans (sy_end hpart) | exact (sy3_eq hr2).trans (sy_end hpart))), rfl, True.intro⟩
       ·have sg48 := g48
        try simp only [q1, q2, q3, q4, q5, q6, q7, q8, q9] at sg48
        refine RunS.s0f g48 ?_
        refine RunS.s0f g48 ?_
        refine RunS.s0f g48 ?_
        refine rA ?_ (x := pkF g48)
        refine sw_cond (t := 213) rfl (fun hb_ => nomatch hb_) (fun hb_ => ?_)
        refine sw_boxEq (d := 0) (by exact rfl) (show _ = arr nAnnotated (sy2 (ltC q) P A B R s t) jk from congrArg (fun z_ => arr nAnnotated z_ jk) (by first | exact rfl | exact sy2_eq hr1)) ?_
        have hr2 : (A.drop s).length = 0 ∨ (B.drop t).length = 0 := by omega
        refine sw_skip ?_
        exact ⟨(by exact congrArg (fun z_ => some (35, arr nAnnotated z_ jk)) (by first | exact sy_r2'.trans (sy_end hpart) | exact (sy3_eq hr2).trans (sy_end hpart))), rfl, True.intro⟩
   ·try simp only [q1, q2, q3, q4, q5, q6, q7, q8, q9] at hb9
    obtain ⟨lo, hi2, hlo, hhi, hc4⟩ : ∃ lo hi2 : Nat, lo = 0 ∧ hi2 = A.length ∧ ((M < A.length ∧ lo = M - B.length ∧ hi2 = M ∧ B.length ≤ M) ∨ (A.length ≤ M ∧ lo = 0 ∧ hi2 = A.length)) := ⟨_, _, rfl, rfl, .inr ⟨by omega, rfl, rfl⟩⟩
    refine sw_seq ?_
    refine sO [(0, _), (1, _), (2, _), (3, _), (4, _), (18, _), (19, _), (20, _), (21, _), (5000, _), (5001, _)] [(0, _)] ?_
    refine sw_reg ?_
    refine rA ?_ (x := sM)
    refine rA ?_ (x := sA)
    refine sO [(0, _), (1, _), (2, _), (3, _), (4, _), (18, _), (19, _), (20, _), (21, _), (5000, _), (5001, _)] [(0, _)] ?_
    refine sw_reg ?_
    refine rA ?_ (x := sM)
    refine rA ?_ (x := sA)
    refine sw_seq ?_
    refine sO [(0, _), (1, _), (2, _), (3, _), (4, _), (18, _), (19, _), (20, _), (21, _), (5000, _), (5001, _)] [(0, _)] ?_
    refine sw_reg ?_
    refine rA ?_ (x := sM)
    refine rA ?_ (x := B_sub)
    refine rA ?_ (x := sA)
    refine sw_seq ?_
    refine sw_block ?_
    refine sO [(0, _), (1, _), (2, _), (3, _), (4, _), (18, _), (19, _), (20, _), (21, _), (22, _), (5000, _), (5001, _)] [(0, _)] ?_
    refine sw_loop (l0 := [(0, RV.sv false [PV.val _]), (1, RV.sv false [PV.val _]), (2, RV.sv false [PV.val _]), (3, RV.sv false [PV.val _]), (4, RV.sv false [PV.clo _ _ _]), (18, RV.sv false [PV.val _]), (19, RV.sv false [PV.val _]), (22, RV.sv false [PV.val _]), (5000, RV.phi 0 _), (5001, RV.gat _ 0 _ _)]) (b0 := [(0, (35, arr nAnnotated _ _))]) (fun v : Nat × Nat => lo ≤ v.1 ∧ v.1 ≤ v.2 ∧ v.2 ≤ hi2 ∧ (∀ (c_ : Nat) (x_ y_ : NAnnotated), lo ≤ c_ → c_ < v.1 → A[c_]? = some x_ → B[M - 1 - c_]? = some y_ → ltC q y_ x_ = false) ∧ (∀ (c_ : Nat) (x_ y_ : NAnnotated), v.2 ≤ c_ → c_ < hi2 → A[c_]? = some x_ → B[M - 1 - c_]? = some y_ → ltC q y_ x_ = true)) (fun v : Nat × Nat => [(20, RV.int ((P.length + v.1 : Nat) : Int)), (21, RV.int ((P.length + v.2 : Nat) : Int))]) (fun v : Nat × Nat => []) (fun v : Nat × Nat => v.2 - v.1) (lo, hi2) (by exact ⟨Nat.le_refl _, (by dsimp only; omega), Nat.le_refl _, fun c_ x_ y_ h1 h2 => absurd h2 (Nat.not_lt.2 h1), fun c_ x_ y_ h1 h2 => absurd h2 (Nat.not_lt.2 h1)⟩) (by exact ⟨rfl, rfl, rfl, rfl, rfl, rfl, rfl, rfl, rfl, rfl, ⟨⟩⟩) (by exact ⟨rfl, ⟨⟩⟩) (by exact And.intro (by exact int_eq (by dsimp only; omega)) (And.intro (by exact int_eq (by dsimp only; omega)) (True.intro))) (by exact ⟨⟩) ?_
    rintro ⟨x, y⟩ ⟨hlx, hxy, hyh, hx1, hx2⟩
    dsimp only at hlx hxy hyh hx1 hx2
    have e1 : (x, y).1 = x := rfl
    have e2 : (x, y).2 = y := rfl
    obtain ⟨H, hH⟩ : ∃ H, H = (x + y) / 2 := ⟨_, rfl⟩
    refine sw_seq ?_
    refine sw_seq ?_
    refine sw_reg ?_
    refine rA ?_ (x := sM)
    refine rA ?_ (x := sM)
    refine rA ?_ (x := B_lss)
    refine sw_cond (t := 151) rfl (fun hb51 => ?_) (fun hb51 => ?_)
    ·try simp only [q1, q2, q3, q4, q5, q6, q7, q8, q9] at hb51
     have hHA : H < A.length := by omega
     have hHM : H < M := by omega
     have hHB : M - 1 - H < B.length := by omega
     have hbd6_ : P.length + H < zs.length := by omega
     have hbd7_ : P.length + A.length + (M - 1 - H) < zs.length := by omega
     refine sw_skip ?_
     refine sw_block ?_
     refine sw_seq ?_
     refine sO [(0, _), (1, _), (2, _), (3, _), (4, _), (18, _), (19, _), (20, _), (21, _), (22, _), (5000, _), (5001, _)] [(0, (35, arr nAnnotated _ _))] ?_
     refine sw_reg ?_
     refine rA ?_ (x := sM)
     refine rA ?_ (x := sM)
     refine rA ?_ (x := B_add)
     refine rA ?_ (x := loc_conv FSyA_ui_3 FSyA_ui_105 (by first | exact (congrArg (IntKind.wrap .u64) fdiv2).trans (IntWalk.u64_in _ (by omega)) | exact IntWalk.u64_in _ (by omega)))
     refine rA ?_ (x := loc_shr (m := 1) rfl (by decide))
     refine rA ?_ (x := loc_conv FSyA_ui_105 FSyA_ui_3 (by first | exact (congrArg (IntKind.wrap .i64) fdiv2).trans (IntWalk.i64_in _ (by omega)) | exact IntWalk.i64_in _ (by omega)))
     refine rA ?_ (x := sA)
     refine sw_seq ?_
     refine sO [(0, _), (1, _), (2, _), (3, _), (4, _), (18, _), (19, _), (20, _), (21, _), (22, _), (23, _), (5000, _), (5001, _)] [(0, _)] ?_
     refine sw_draw hm_ ?_
     refine dA 0 ?_ (x := loc_copy (r' := RV.sv false [PV.clo _ _ _]) (.inl rfl) (by decide) (by exact Cp.sv (ToL.cons (PV.To.refl _) ToL.nil) (BorL.cons (PV.bor_clo _ _) BorL.nil)))
     refine dA 0 ?_ (x := vM false [PV.val _])
     refine dA 0 ?_ (x := sM)
     refine dA 0 ?_ (x := sM)
     refine dA 12 ?_ (x := B_sub)
     refine dA 30 ?_ (x := loc_gidx (k := (P.length + A.length + (M - 1 - H))) (G := 5001) (by decide) FSyA_sl_24 (by exact ⟨⟩) (by omega) (by omega))
     refine dA 62 ?_ (x := loc_aget (f := nAnnotated) (e := 3) (k := (P.length + A.length + (M - 1 - H))) (fun _ => rfl) rfl hbd7_ FSyA_ty_35 (fun h => nomatch h) bor_nAnnotated)
     refine dA 0 ?_ (x := vM false [PV.val _])
     refine dA 0 ?_ (x := sM)
     refine dA 384 ?_ (x := loc_gidx (k := (P.length + H)) (G := 5001) (by decide) FSyA_sl_24 (by exact ⟨⟩) (by omega) (by omega))
     refine dA 896 ?_ (x := loc_aget (f := nAnnotated) (e := 3) (k := (P.length + H)) (fun _ => rfl) rfl hbd6_ FSyA_ty_35 (fun h => nomatch h) bor_nAnnotated)
     refine dA 2047 ?_ (x := loc_callp (zs[(P.length + A.length + (M - 1 - H))].1, zs[(P.length + H)].1) (qs := [(true, [PV.nv _ (PV.val _), PV.nv _ (PV.sl _ _), PV.nv _ (PV.sl _ _)]), (true, [PV.nv _ (PV.val _), PV.nv _ (PV.sl _ _), PV.nv _ (PV.sl _ _)])]) (r := RV.sv false [PV.val _]) (by decide) (by exact (And.intro (by exact ⟨⟩) (And.intro (by exact ⟨⟩) True.intro))) (by exact (And.intro (And.intro rfl (ToL.cons (PV.nv_to (PV.To.refl _)) (ToL.cons (PV.nv_to (PV.to_map (fun _ => (ToL.cons (PV.To.refl _) ToL.nil)))) (ToL.cons (PV.nv_to (PV.to_map (fun _ => (ToL.cons (PV.To.refl _) ToL.nil)))) ToL.nil)))) (And.intro (And.intro rfl (ToL.cons (PV.nv_to (PV.To.refl _)) (ToL.cons (PV.nv_to (PV.to_map (fun _ => (ToL.cons (PV.To.refl _) ToL.nil)))) (ToL.cons (PV.nv_to (PV.to_map (fun _ => (ToL.cons (PV.To.refl _) ToL.nil)))) ToL.nil)))) True.intro))) (by exact rfl))
     refine dA 4095 ?_ (x := B_lss)
     refine dA 8191 ?_ (x := nT)
     refine sw_cond (t := 171) rfl (fun hb52 => ?_) (fun hb52 => ?_)
     ·try simp only [q1, q2, q3, q4, q5, q6, q7, q8, q9] at hb52
      obtain ⟨v2, hv2⟩ : ∃ v2 : Nat × Nat, v2 = (H + 1, y) := ⟨_, rfl⟩
      have hq1 : v2.1 = H + 1 := by rw [hv2]
      have hq2 : v2.2 = y := by rw [hv2]
      have hm2 : v2.2 - v2.1 < (x, y).2 - (x, y).1 := by rw [hq1, hq2]; dsimp only; omega
      have hlt : ltC q B[M - 1 - H] A[H] = false := ltC_no (by have hh := hb52; rw [at_B hHB hz, at_A hHA hz] at hh; omega)
      have hI : lo ≤ v2.1 ∧ v2.1 ≤ v2.2 ∧ v2.2 ≤ hi2 ∧ (∀ (c_ : Nat) (x_ y_ : NAnnotated), lo ≤ c_ → c_ < v2.1 → A[c_]? = some x_ → B[M - 1 - c_]? = some y_ → ltC q y_ x_ = false) ∧ (∀ (c_ : Nat) (x_ y_ : NAnnotated), v2.2 ≤ c_ → c_ < hi2 → A[c_]? = some x_ → B[M - 1 - c_]? = some y_ → ltC q y_ x_ = true) := by rw [hq1, hq2]; exact ⟨by omega, by omega, by omega, fun c_ x_ y_ h1 h2 hx_ hy_ => sym_lo ho hSA hSB (List.getElem?_eq_getElem hHA) (List.getElem?_eq_getElem hHB) hlt c_ x_ y_ (by omega) hHM hx_ hy_, hx2⟩
      refine sO [(0, _), (1, _), (2, _), (3, _), (4, _), (18, _), (19, _), (20, _), (21, _), (22, _), (23, _), (5000, _), (5001, _)] [(0, _)] ?_
      refine sw_reg ?_
      refine rA ?_ (x := sM)
      refine rA ?_ (x := B_add)
      refine rA ?_ (x := sA)
      refine Exists.intro v2 (And.intro (by exact hI) (And.intro (by exact hm2) (And.intro (And.intro (by exact ⟨rfl, rfl, rfl, rfl, rfl, rfl, rfl, rfl, rfl, rfl, ⟨⟩⟩) (by exact ⟨rfl, ⟨⟩⟩)) (And.intro (by exact And.intro (by exact int_eq (by omega)) (And.intro (by exact int_eq (by omega)) (True.intro))) (by exact ⟨⟩)))))
     ·try simp only [q1, q2, q3, q4, q5, q6, q7, q8, q9] at hb52
      obtain ⟨v2, hv2⟩ : ∃ v2 : Nat × Nat, v2 = (x, H) := ⟨_, rfl⟩
      have hq1 : v2.1 = x := by rw [hv2]
      have hq2 : v2.2 = H := by rw [hv2]
      have hm2 : v2.2 - v2.1 < (x, y).2 - (x, y).1 := by rw [hq1, hq2]; dsimp only; omega
      have hlt : ltC q B[M - 1 - H] A[H] = true := ltC_yes (by have hh := hb52; rw [at_B hHB hz, at_A hHA hz] at hh; omega)
      have hI : lo ≤ v2.1 ∧ v2.1 ≤ v2.2 ∧ v2.2 ≤ hi2 ∧ (∀ (c_ : Nat) (x_ y_ : NAnnotated), lo ≤ c_ → c_ < v2.1 → A[c_]? = some x_ → B[M - 1 - c_]? = some y_ → ltC q y_ x_ = false) ∧ (∀ (c_ : Nat) (x_ y_ : NAnnotated), v2.2 ≤ c_ → c_ < hi2 → A[c_]? = some x_ → B[M - 1 - c_]? = some y_ → ltC q y_ x_ = true) := by rw [hq1, hq2]; exact ⟨by omega, by omega, by omega, hx1, fun c_ x_ y_ h1 h2 hx_ hy_ => sym_hi ho hSA hSB (List.getElem?_eq_getElem hHA) (List.getElem?_eq_getElem hHB) hlt c_ x_ y_ h1 (by omega) hx_ hy_⟩
      refine sO [(0, _), (1, _), (2, _), (3, _), (4, _), (18, _), (19, _), (20, _), (21, _), (22, _), (23, _), (5000, _), (5001, _)] [(0, _)] ?_
      refine sw_reg ?_
      refine rA ?_ (x := sM)
      refine rA ?_ (x := sA)
      refine Exists.intro v2 (And.intro (by exact hI) (And.intro (by exact hm2) (And.intro (And.intro (by exact ⟨rfl, rfl, rfl, rfl, rfl, rfl, rfl, rfl, rfl, rfl, ⟨⟩⟩) (by exact ⟨rfl, ⟨⟩⟩)) (And.intro (by exact And.intro (by exact int_eq (by omega)) (And.intro (by exact int_eq (by omega)) (True.intro))) (by exact ⟨⟩)))))
    ·try simp only [q1, q2, q3, q4, q5, q6, q7, q8, q9] at hb51
     obtain ⟨s, hs⟩ : ∃ s, s = x := ⟨_, rfl⟩
     obtain ⟨t, ht⟩ : ∃ t, t = M - s := ⟨_, rfl⟩
     have hpart := sym_part ho hSA hSB (s := s) (M := M) (lo := lo) (hi := hi2) (by omega) hc4 (by omega) (by omega) (fun c_ x_ y_ h1 h2 => hx1 c_ x_ y_ h1 (by omega)) (fun c_ x_ y_ h1 h2 => hx2 c_ x_ y_ (by omega) h2)
     rw [← ht] at hpart
     have hsA : s ≤ A.length := by omega
     have htB : t ≤ B.length := by omega
     have hl1 : (sy1 P A B R s t).length = zs.length := by rw [sy1_len]; omega
     have hl2 : (sy2 (ltC q) P A B R s t).length = zs.length := by rw [sy2_len]; omega
     have hst : s + t = M := by omega
     have he1 : (A.take s).length = s := by rw [List.length_take]; omega
     have he2 : (A.drop s).length = A.length - s := List.length_drop
     have he3 : (B.take t).length = t := by rw [List.length_take]; omega
     have he4 : (B.drop t).length = B.length - t := List.length_drop
     refine sw_exit ?_
     refine sw_seq ?_
     refine sO [(0, _), (1, _), (2, _), (3, _), (4, _), (18, _), (19, _), (20, _), (21, _), (22, _), (5000, _), (5001, _)] [(0, (35, arr nAnnotated _ _))] ?_
     refine sw_reg ?_
     refine rA ?_ (x := sM)
     refine rA ?_ (x := sM)
     refine rA ?_ (x := B_sub)
     refine rA ?_ (x := sA)
     refine sw_seq ?_
     refine sw_seq ?_
     refine sO [(0, _), (1, _), (2, _), (3, _), (4, _), (18, _), (19, _), (20, _), (21, _), (22, _), (24, _), (5000, _), (5001, _)] [(0, _)] ?_
     refine sw_reg ?_
     refine rA ?_ (x := sM)
     refine rA ?_ (x := sM)
     refine rA ?_ (x := B_lss)
     refine rA ?_ (x := sM)
     refine RunS.cases (s := 181) rfl (fun g53 => ?_) (fun g53 => ?_)
     ·have sg53 := g53
      try simp only [q1, q2, q3, q4, q5, q6, q7, q8, q9] at sg53
      refine rB g53 ?_ (x := sM)
      refine rB g53 ?_ (x := sM)
      refine rB g53 ?_ (x := B_lss)
      refine rA ?_ (x := pkT g53)
      refine sw_cond (t := 185) rfl (fun hb54 => ?_) (fun hb54 => ?_)
      ·try simp only [q1, q2, q3, q4, q5, q6, q7, q8, q9] at hb54
       refine sO [(0, _), (1, _), (2, _), (3, _), (4, _), (18, _), (19, _), (20, _), (21, _), (22, _), (24, _), (5000, _), (5001, _)] [(0, _)] ?_
       refine sw_reg ?_
       refine rA ?_ (x := vM false [PV.val _])
       refine rA ?_ (x := sM)
       refine rA ?_ (x := sM)
       refine rA ?_ (x := sM)
       refine rA ?_ (x := loc_copy (r' := RV.sv false [PV.clo _ _ _]) (.inl rfl) (by decide) (by exact Cp.sv (ToL.cons (PV.To.refl _) ToL.nil) (BorL.cons (PV.bor_clo _ _) BorL.nil)))
       refine rA ?_ (x := loc_acall0 (bx := 0) (G := 5001) (qs := [(false, [PV.val _]), (false, [PV.val _]), (false, [PV.val _]), (false, [PV.clo _ _ _])]) (as_ := [(false, [PV.val _]), (false, [PV.val _]), (false, [PV.val _]), (false, [PV.clo _ _ _])]) (by decide) FSyA_c_79 rfl (by exact (And.intro (by exact ⟨⟩) (And.intro (by exact ⟨⟩) (And.intro (by exact ⟨⟩) (And.intro (by exact ⟨⟩) True.intro))))) (by exact (And.intro (And.intro rfl (ToL.cons (PV.To.refl _) ToL.nil)) (And.intro (And.intro rfl (ToL.cons (PV.To.refl _) ToL.nil)) (And.intro (And.intro rfl (ToL.cons (PV.To.refl _) ToL.nil)) (And.intro (And.intro rfl (ToL.cons (PV.To.refl _) ToL.nil)) True.intro))))) (bor_arr bor_nAnnotated _ _) (by exact (borA_cons (BorL.cons (PV.bor_val _) BorL.nil) (borA_cons (BorL.cons (PV.bor_val _) BorL.nil) (borA_cons (BorL.cons (PV.bor_val _) BorL.nil) (borA_cons (BorL.cons (PV.bor_clo _ _) BorL.nil) borA_nil))))) (by exact (rot_Annotated (P := P ++ A.take s) (X := A.drop s) (Y := B.take t) (R := B.drop t ++ R) (by (try simp only [List.length_append, List.length_take, List.length_drop, List.length_nil, mergeL_len]) <;> omega) (hz.trans (sy0_eq.trans sy_rot)) (by (try simp only [List.length_append, List.length_take, List.length_drop, List.length_nil, mergeL_len]) <;> omega) (by (try simp only [List.length_append, List.length_take, List.length_drop, List.length_nil, mergeL_len]) <;> omega) (by (try simp only [List.length_append, List.length_take, List.length_drop, List.length_nil, mergeL_len]) <;> omega) (by (try simp only [List.length_append, List.length_take, List.length_drop, List.length_nil, mergeL_len]) <;> omega) (by (try simp only [List.length_append, List.length_take, List.length_drop, List.length_nil, mergeL_len]) <;> omega) (by (try simp only [List.length_append, List.length_take, List.length_drop, List.length_nil, mergeL_len]) <;> omega))))
       refine sw_seq ?_
       refine sw_seq ?_
       refine sO [(0, _), (1, _), (2, _), (3, _), (4, _), (18, _), (19, _), (20, _), (21, _), (22, _), (24, _), (5000, _), (5001, _)] [(0, _)] ?_
       refine sw_reg ?_
       refine rA ?_ (x := sM)
       refine rA ?_ (x := sM)
       refine rA ?_ (x := B_lss)
       refine rA ?_ (x := sM)
       refine RunS.cases (s := 195) rfl (fun g55 => ?_) (fun g55 => ?_)
       ·have sg55 := g55
        try simp only [q1, q2, q3, q4, q5, q6, q7, q8, q9] at sg55
        refine rB g55 ?_ (x := sM)
        refine rB g55 ?_ (x := sM)
        refine rB g55 ?_ (x := B_lss)
        refine rA ?_ (x := pkT g55)
        refine sw_cond (t := 199) rfl (fun hb56 => ?_) (fun hb56 => ?_)
        ·try simp only [q1, q2, q3, q4, q5, q6, q7, q8, q9] at hb56
         refine sw_boxEq (d := 0) (by exact rfl) (show _ = arr nAnnotated (sy1 P A B R s t) jk from congrArg (fun z_ => arr nAnnotated z_ jk) (by first | exact rfl | exact sy_rot' | exact (hz.trans sy0_eq).trans (sy1_eq hr0))) ?_
         refine sO [(0, _), (1, _), (2, _), (3, _), (4, _), (18, _), (19, _), (20, _), (21, _), (22, _), (24, _), (5000, _), (5001, _)] [(0, _)] ?_
         refine sw_reg ?_
         refine rA ?_ (x := vM false [PV.val _])
         refine rA ?_ (x := sM)
         refine rA ?_ (x := sM)
         refine rA ?_ (x := sM)
         refine rA ?_ (x := loc_copy (r' := RV.sv false [PV.clo _ _ _]) (.inl rfl) (by decide) (by exact Cp.sv (ToL.cons (PV.To.refl _) ToL.nil) (BorL.cons (PV.bor_clo _ _) BorL.nil)))
         refine rA ?_ (x := loc_acall0 (bx := 0) (G := 5001) (qs := [(false, [PV.val _]), (false, [PV.val _]), (false, [PV.val _]), (false, [PV.clo _ _ _])]) (as_ := [(false, [PV.val _]), (false, [PV.val _]), (false, [PV.val _]), (false, [PV.clo _ _ _])]) (by decide) FSyA_c_73 rfl (by exact (And.intro (by exact ⟨⟩) (And.intro (by exact ⟨⟩) (And.intro (by exact ⟨⟩) (And.intro (by exact ⟨⟩) True.intro))))) (by exact (And.intro (And.intro rfl (ToL.cons (PV.To.refl _) ToL.nil)) (And.intro (And.intro rfl (ToL.cons (PV.To.refl _) ToL.nil)) (And.intro (And.intro rfl (ToL.cons (PV.To.refl _) ToL.nil)) (And.intro (And.intro rfl (ToL.cons (PV.To.refl _) ToL.nil)) True.intro))))) (bor_arr bor_nAnnotated _ _) (by exact (borA_cons (BorL.cons (PV.bor_val _) BorL.nil) (borA_cons (BorL.cons (PV.bor_val _) BorL.nil) (borA_cons (BorL.cons (PV.bor_val _) BorL.nil) (borA_cons (BorL.cons (PV.bor_clo _ _) BorL.nil) borA_nil))))) (by exact (ih (P' := P) (A' := A.take s) (B' := B.take t) (R' := A.drop s ++ (B.drop t ++ R)) (hm.trans hl1.symm) rfl (by (try simp only [List.length_append, List.length_take, List.length_drop, List.length_nil, mergeL_len]) <;> omega) (by (try simp only [List.length_append, List.length_take, List.length_drop, List.length_nil, mergeL_len]) <;> omega) (by (try simp only [List.length_append, List.length_take, List.length_drop, List.length_nil, mergeL_len]) <;> omega) (by (try simp only [List.length_append, List.length_take, List.length_drop, List.length_nil, mergeL_len]) <;> omega) (by (try simp only [List.length_append, List.length_take, List.length_drop, List.length_nil, mergeL_len]) <;> omega) (sorted_take hSA _) (sorted_take hSB _) (by (try simp only [List.length_append, List.length_take, List.length_drop, List.length_nil, mergeL_len]) <;> omega) (by omega))))
         refine sw_seq ?_
         refine sO [(0, _), (1, _), (2, _), (3, _), (4, _), (18, _), (19, _), (20, _), (21, _), (22, _), (24, _), (5000, _), (5001, _)] [(0, _)] ?_
         refine sw_reg ?_
         refine rA ?_ (x := sM)
         refine rA ?_ (x := sM)
         refine rA ?_ (x := B_lss)
         refine rA ?_ (x := sM)
         refine RunS.cases (s := 209) rfl (fun g57 => ?_) (fun g57 => ?_)
         ·have sg57 := g57
          try simp only [q1, q2, q3, q4, q5, q6, q7, q8, q9] at sg57
          refine rB g57 ?_ (x := sM)
          refine rB g57 ?_ (x := sM)
          refine rB g57 ?_ (x := B_lss)
          refine rA ?_ (x := pkT g57)
          refine sw_cond (t := 213) rfl (fun hb58 => ?_) (fun hb58 => ?_)
          ·try simp only [q1, q2, q3, q4, q5, q6, q7, q8, q9] at hb58
           refine sw_boxEq (d := 0) (by exact rfl) (show _ = arr nAnnotated (sy2 (ltC q) P A B R s t) jk from congrArg (fun z_ => arr nAnnotated z_ jk) (by first | exact rfl | exact sy2_eq hr1)) ?_
           refine sO [(0, _), (1, _), (2, _), (3, _), (4, _), (18, _), (19, _), (20, _), (21, _), (22, _), (24, _), (5000, _), (5001, _)] [(0, _)] ?_
           refine sw_reg ?_
           refine rA ?_ (x := vM false [PV.val _])
           refine rA ?_ (x := sM)
           refine rA ?_ (x := sM)
           refine rA ?_ (x := sM)
           refine rA ?_ (x := loc_copy (r' := RV.sv false [PV.clo _ _ _]) (.inl rfl) (by decide) (by exact Cp.sv (ToL.cons (PV.To.refl _) ToL.nil) (BorL.cons (PV.bor_clo _ _) BorL.nil)))
           refine rA ?_ (x := loc_acall0 (bx := 0) (G := 5001) (qs := [(false, [PV.val _]), (false, [PV.val _]), (false, [PV.val _]), (false, [PV.clo _ _ _])]) (as_ := [(false, [PV.val _]), (false, [PV.val _]), (false, [PV.val _]), (false, [PV.clo _ _ _])]) (by decide) FSyA_c_73 rfl (by exact (And.intro (by exact ⟨⟩) (And.intro (by exact ⟨⟩) (And.intro (by exact ⟨⟩) (And.intro (by exact ⟨⟩) True.intro))))) (by exact (And.intro (And.intro rfl (ToL.cons (PV.To.refl _) ToL.nil)) (And.intro (And.intro rfl (ToL.cons (PV.To.refl _) ToL.nil)) (And.intro (And.intro rfl (ToL.cons (PV.To.refl _) ToL.nil)) (And.intro (And.intro rfl (ToL.cons (PV.To.refl _) ToL.nil)) True.intro))))) (bor_arr bor_nAnnotated _ _) (by exact (borA_cons (BorL.cons (PV.bor_val _) BorL.nil) (borA_cons (BorL.cons (PV.bor_val _) BorL.nil) (borA_cons (BorL.cons (PV.bor_val _) BorL.nil) (borA_cons (BorL.cons (PV.bor_clo _ _) BorL.nil) borA_nil))))) (by exact (ih (P' := P ++ mergeL (ltC q) (A.take s) (B.take t)) (A' := A.drop s) (B' := B.drop t) (R' := R) (hm.trans hl2.symm) sy_r2 (by (try simp only [List.length_append, List.length_take, List.length_drop, List.length_nil, mergeL_len]) <;> omega) (by (try simp only [List.length_append, List.length_take, List.length_drop, List.length_nil, mergeL_len]) <;> omega) (by (try simp only [List.length_append, List.length_take, List.length_drop, List.length_nil, mergeL_len]) <;> omega) (by (try simp only [List.length_append, List.length_take, List.length_drop, List.length_nil, mergeL_len]) <;> omega) (by (try simp only [List.length_append, List.length_take, List.length_drop, List.length_nil, mergeL_len]) <;> omega) (sorted_drop hSA _) (sorted_drop hSB _) (by (try simp only [List.length_append, List.length_take, List.length_drop, List.length_nil, mergeL_len]) <;> omega) (by omega))))
           exact ⟨(by exact congrArg (fun z_ => some (35, arr nAnnotated z_ jk)) (by first | exact sy_r2'.trans (sy_end hpart) | exact (sy3_eq hr2).trans (sy_end hpart))), rfl, True.intro⟩
          ·try simp only [q1, q2, q3, q4, q5, q6, q7, q8, q9] at hb58
           refine sw_boxEq (d := 0) (by exact rfl) (show _ = arr nAnnotated (sy2 (ltC q) P A B R s t) jk from congrArg (fun z_ => arr nAnnotated z_ jk) (by first | exact rfl | exact sy2_eq hr1)) ?_
           have hr2 : (A.drop s).length = 0 ∨ (B.drop t).length = 0 := by omega
           refine sw_skip ?_
           exact ⟨(by exact congrArg (fun z_ => some (35, arr nAnnotated z_ jk)) (by first | exact sy_r2'.trans (sy_end hpart) | exact (sy3_eq hr2).trans (sy_end hpart))), rfl, True.intro⟩
         ·have sg57 := g57
          try simp only [q1, q2, q3, q4, q5, q6, q7, q8, q9] at sg57
          refine RunS.s0f g57 ?_
          refine RunS.s0f g57 ?_
          refine RunS.s0f g57 ?_
          refine rA ?_ (x := pkF g57)
          refine sw_cond (t := 213) rfl (fun hb_ => nomatch hb_) (fun hb_ => ?_)
          refine sw_boxEq (d := 0) (by exact rfl) (show _ = arr nAnnotated (sy2 (ltC q) P A B R s t) jk from congrArg (fun z_ => arr nAnnotated z_ jk) (by first | exact rfl | exact sy2_eq hr1)) ?_
          have hr2 : (A.drop s).length = 0 ∨ (B.drop t).length = 0 := by omega
          refine sw_skip ?_
          exact ⟨(by exact congrArg (fun z_ => some (35, arr nAnnotated z_ jk)) (by first | exact sy_r2'.trans (sy_end hpart) | exact (sy3_eq hr2).trans (sy_end hpart))), rfl, True.intro⟩
        ·try simp only [q1, q2, q3, q4, q5, q6, q7, q8, q9] at hb56
         refine sw_boxEq (d := 0) (by exact rfl) (show _ = arr nAnnotated (sy1 P A B R s t) jk from congrArg (fun z_ => arr nAnnotated z_ jk) (by first | exact rfl | exact sy_rot' | exact (hz.trans sy0_eq).trans (sy1_eq hr0))) ?_
         have hr1 : (A.take s).length = 0 ∨ (B.take t).length = 0 := by omega
         refine sw_skip ?_
         refine sw_seq ?_
         refine sO [(0, _), (1, _), (2, _), (3, _), (4, _), (18, _), (19, _), (20, _), (21, _), (22, _), (24, _), (5000, _), (5001, _)] [(0, _)] ?_
         refine sw_reg ?_
         refine rA ?_ (x := sM)
         refine rA ?_ (x := sM)
         refine rA ?_ (x := B_lss)
         refine rA ?_ (x := sM)
         refine RunS.cases (s := 209) rfl (fun g60 => ?_) (fun g60 => ?_)
         ·have sg60 := g60
          try simp only [q1, q2, q3, q4, q5, q6, q7, q8, q9] at sg60
          refine rB g60 ?_ (x := sM)
          refine rB g60 ?_ (x := sM)
          refine rB g60 ?_ (x := B_lss)
          refine rA ?_ (x := pkT g60)
          refine sw_cond (t := 213) rfl (fun hb61 => ?_) (fun hb61 => ?_)
          ·try simp only [q1, q2, q3, q4, q5, q6, q7, q8, q9] at hb61
           refine sw_boxEq (d := 0) (by exact rfl) (show _ = arr nAnnotated (sy2 (ltC q) P A B R s t) jk from congrArg (fun z_ => arr nAnnotated z_ jk) (by first | exact rfl | exact sy2_eq hr1)) ?_
           refine sO [(0, _), (1, _), (2, _), (3, _), (4, _), (18, _), (19, _), (20, _), (21, _), (22, _), (24, _), (5000, _), (5001, _)] [(0, _)] ?_
           refine sw_reg ?_
           refine rA ?_ (x := vM false [PV.val _])
           refine rA ?_ (x := sM)
           refine rA ?_ (x := sM)
           refine rA ?_ (x := sM)
           refine rA ?_ (x := loc_copy (r' := RV.sv false [PV.clo _ _ _]) (.inl rfl) (by decide) (by exact Cp.sv (ToL.cons (PV.To.refl _) ToL.nil) (BorL.cons (PV.bor_clo _ _) BorL.nil)))
           refine rA ?_ (x := loc_acall0 (bx := 0) (G := 5001) (qs := [(false, [PV.val _]), (false, [PV.val _]), (false, [PV.val _]), (false, [PV.clo _ _ _])]) (as_ := [(false, [PV.val _]), (false, [PV.val _]), (false, [PV.val _]), (false, [PV.clo _ _ _])]) (by decide) FSyA_c_73 rfl (by exact (And.intro (by exact ⟨⟩) (And.intro (by exact ⟨⟩) (And.intro (by exact ⟨⟩) (And.intro (by exact ⟨⟩) True.intro))))) (by exact (And.intro (And.intro rfl (ToL.cons (PV.To.refl _) ToL.nil)) (And.intro (And.intro rfl (ToL.cons (PV.To.refl _) ToL.nil)) (And.intro (And.intro rfl (ToL.cons (PV.To.refl _) ToL.nil)) (And.intro (And.intro rfl (ToL.cons (PV.To.refl _) ToL.nil)) True.intro))))) (bor_arr bor_nAnnotated _ _) (by exact (borA_cons (BorL.cons (PV.bor_val _) BorL.nil) (borA_cons (BorL.cons (PV.bor_val _) BorL.nil) (borA_cons (BorL.cons (PV.bor_val _) BorL.nil) (borA_cons (BorL.cons (PV.bor_clo _ _) BorL.nil) borA_nil))))) (by exact (ih (P' := P ++ mergeL (ltC q) (A.take s) (B.take t)) (A' := A.drop s) (B' := B.drop t) (R' := R) (hm.trans hl2.symm) sy_r2 (by (try simp only [List.length_append, List.length_take, List.length_drop, List.length_nil, mergeL_len]) <;> omega) (by (try simp only [List.length_append, List.length_take, List.length_drop, List.length_nil, mergeL_len]) <;> omega) (by (try simp only [List.length_append, List.length_take, List.length_drop, List.length_nil, mergeL_len]) <;> omega) (by (try simp only [List.length_append, List.length_take, List.length_drop, List.length_nil, mergeL_len]) <;> omega) (by (try simp only [List.length_append, List.length_take, List.length_drop, List.length_nil, mergeL_len]) <;> omega) (sorted_drop hSA _) (sorted_drop hSB _) (by (try simp only [List.length_append, List.length_take, List.length_drop, List.length_nil, mergeL_len]) <;> omega) (by omega))))
           exact ⟨(by exact congrArg (fun z_ => some (35, arr nAnnotated z_ jk)) (by first | exact sy_r2'.trans (sy_end hpart) | exact (sy3_eq hr2).trans (sy_end hpart))), rfl, True.intro⟩
          ·try simp only [q1, q2, q3, q4, q5, q6, q7, q8, q9] at hb61
           refine sw_boxEq (d := 0) (by exact rfl) (show _ = arr nAnnotated (sy2 (ltC q) P A B R s t) jk from congrArg (fun z_ => arr nAnnotated z_ jk) (by first | exact rfl | exact sy2_eq hr1)) ?_
           have hr2 : (A.drop s).length = 0 ∨ (B.drop t).length = 0 := by omega
           refine sw_skip ?_
           exact ⟨(by exact congrArg (fun z_ => some (35, arr nAnnotated z_ jk)) (by first | exact sy_r2'.trans (sy_end hpart) | exact (sy3_eq hr2).trans (sy_end hpart))), rfl, True.intro⟩
         ·have sg60 := g60
          try simp only [q1, q2, q3, q4, q5, q6, q7, q8, q9] at sg60
          refine RunS.s0f g60 ?_
          refine RunS.s0f g60 ?_
          refine RunS.s0f g60 ?_
          refine rA ?_ (x := pkF g60)
          refine sw_cond (t := 213) rfl (fun hb_ => nomatch hb_) (fun hb_ => ?_)
          refine sw_boxEq (d := 0) (by exact rfl) (show _ = arr nAnnotated (sy2 (ltC q) P A B R s t) jk from congrArg (fun z_ => arr nAnnotated z_ jk) (by first | exact rfl | exact sy2_eq hr1)) ?_
          have hr2 : (A.drop s).length = 0 ∨ (B.drop t).length = 0 := by omega
          refine sw_skip ?_
          exact ⟨(by exact congrArg (fun z_ => some (35, arr nAnnotated z_ jk)) (by first | exact sy_r2'.trans (sy_end hpart) | exact (sy3_eq hr2).trans (sy_end hpart))), rfl, True.intro⟩
       ·have sg55 := g55
        try simp only [q1, q2, q3, q4, q5, q6, q7, q8, q9] at sg55
        refine RunS.s0f g55 ?_
        refine RunS.s0f g55 ?_
        refine RunS.s0f g55 ?_
        refine rA ?_ (x := pkF g55)
        refine sw_cond (t := 199) rfl (fun hb_ => nomatch hb_) (fun hb_ => ?_)
        refine sw_boxEq (d := 0) (by exact rfl) (show _ = arr nAnnotated (sy1 P A B R s t) jk from congrArg (fun z_ => arr nAnnotated z_ jk) (by first | exact rfl | exact sy_rot' | exact (hz.trans sy0_eq).trans (sy1_eq hr0))) ?_
        have hr1 : (A.take s).length = 0 ∨ (B.take t).length = 0 := by omega
        refine sw_skip ?_
        refine sw_seq ?_
        refine sO [(0, _), (1, _), (2, _), (3, _), (4, _), (18, _), (19, _), (20, _), (21, _), (22, _), (24, _), (5000, _), (5001, _)] [(0, _)] ?_
        refine sw_reg ?_
        refine rA ?_ (x := sM)
        refine rA ?_ (x := sM)
        refine rA ?_ (x := B_lss)
        refine rA ?_ (x := sM)
        refine RunS.cases (s := 209) rfl (fun g64 => ?_) (fun g64 => ?_)
        ·have sg64 := g64
         try simp only [q1, q2, q3, q4, q5, q6, q7, q8, q9] at sg64
         refine rB g64 ?_ (x := sM)
         refine rB g64 ?_ (x := sM)
         refine rB g64 ?_ (x := B_lss)
         refine rA ?_ (x := pkT g64)
         refine sw_cond (t := 213) rfl (fun hb65 => ?_) (fun hb65 => ?_)
         ·try simp only [q1, q2, q3, q4, q5, q6, q7, q8, q9] at hb65
          refine sw_boxEq (d := 0) (by exact rfl) (show _ = arr nAnnotated (sy2 (ltC q) P A B R s t) jk from congrArg (fun z_ => arr nAnnotated z_ jk) (by first | exact rfl | exact sy2_eq hr1)) ?_
          refine sO [(0, _), (1, _), (2, _), (3, _), (4, _), (18, _), (19, _), (20, _), (21, _), (22, _), (24, _), (5000, _), (5001, _)] [(0, _)] ?_
          refine sw_reg ?_
          refine rA ?_ (x := vM false [PV.val _])
          refine rA ?_ (x := sM)
          refine rA ?_ (x := sM)
          refine rA ?_ (x := sM)
          refine rA ?_ (x := loc_copy (r' := RV.sv false [PV.clo _ _ _]) (.inl rfl) (by decide) (by exact Cp.sv (ToL.cons (PV.To.refl _) ToL.nil) (BorL.cons (PV.bor_clo _ _) BorL.nil)))
          refine rA ?_ (x := loc_acall0 (bx := 0) (G := 5001) (qs := [(false, [PV.val _]), (false, [PV.val _]), (false, [PV.val _]), (false, [PV.clo _ _ _])]) (as_ := [(false, [PV.val _]), (false, [PV.val _]), (false, [PV.val _]), (false, [PV.clo _ _ _])]) (by decide) FSyA_c_73 rfl (by exact (And.intro (by exact ⟨⟩) (And.intro (by exact ⟨⟩) (And.intro (by exact ⟨⟩) (And.intro (by exact ⟨⟩) True.intro))))) (by exact (And.intro (And.intro rfl (ToL.cons (PV.To.refl _) ToL.nil)) (And.intro (And.intro rfl (ToL.cons (PV.To.refl _) ToL.nil)) (And.intro (And.intro rfl (ToL.cons (PV.To.refl _) ToL.nil)) (And.intro (And.intro rfl (ToL.cons (PV.To.refl _) ToL.nil)) True.intro))))) (bor_arr bor_nAnnotated _ _) (by exact (borA_cons (BorL.cons (PV.bor_val _) BorL.nil) (borA_cons (BorL.cons (PV.bor_val _) BorL.nil) (borA_cons (BorL.cons (PV.bor_val _) BorL.nil) (borA_cons (BorL.cons (PV.bor_clo _ _) BorL.nil) borA_nil))))) (by exact (ih (P' := P ++ mergeL (ltC q) (A.take s) (B.take t)) (A' := A.drop s) (B' := B.drop t) (R' := R) (hm.trans hl2.symm) sy_r2 (by (try simp only [List.length_append, List.length_take, List.length_drop, List.length_nil, mergeL_len]) <;> omega) (by (try simp only [List.length_append, List.length_take, List.length_drop, List.length_nil, mergeL_len]) <;> omega) (by (try simp only [List.length_append, List.length_take, List.length_drop, List.length_nil, mergeL_len]) <;> omega) (by (try simp only [List.length_append, List.length_take, List.length_drop, List.length_nil, mergeL_len]) <;> omega) (by (try simp only [List.length_append, List.length_take, List.length_drop, List.length_nil, mergeL_len]) <;> omega) (sorted_drop hSA _) (sorted_drop hSB _) (by (try simp only [List.length_append, List.length_take, List.length_drop, List.length_nil, mergeL_len]) <;> omega) (by omega))))
          exact ⟨(by exact congrArg (fun z_ => some (35, arr nAnnotated z_ jk)) (by first | exact sy_r2'.trans (sy_end hpart) | exact (sy3_eq hr2).trans (sy_end hpart))), rfl, True.intro⟩
         ·try simp only [q1, q2, q3, q4, q5, q6, q7, q8, q9] at hb65
          refine sw_boxEq (d := 0) (by exact rfl) (show _ = arr nAnnotated (sy2 (ltC q) P A B R s t) jk from congrArg (fun z_ => arr nAnnotated z_ jk) (by first | exact rfl | exact sy2_eq hr1)) ?_
          have hr2 : (A.drop s).length = 0 ∨ (B.drop t).length = 0 := by omega
          refine sw_skip ?_
          exact ⟨(by exact congrArg (fun z_ => some (35, arr nAnnotated z_ jk)) (by first | exact sy_r2'.trans (sy_end hpart) | exact (sy3_eq hr2).trans (sy_end hpart))), rfl, True.intro⟩
        ·have sg64 := g64
         try simp only [q1, q2, q3, q4, q5, q6, q7, q8, q9] at sg64
         refine RunS.s0f g64 ?_
         refine RunS.s0f g64 ?_
         refine RunS.s0f g64 ?_
         refine rA ?_ (x := pkF g64)
         refine sw_cond (t := 213) rfl (fun hb_ => nomatch hb_) (fun hb_ => ?_)
         refine sw_boxEq (d := 0) (by exact rfl) (show _ = arr nAnnotated (sy2 (ltC q) P A B R s t) jk from congrArg (fun z_ => arr nAnnotated z_ jk) (by first | exact rfl | exact sy2_eq hr1)) ?_
         have hr2 : (A.drop s).length = 0 ∨ (B.drop t).length = 0 := by omega
         refine sw_skip ?_
         exact ⟨(by exact congrArg (fun z_ => some (35, arr nAnnotated z_ jk)) (by first | exact sy_r2'.trans (sy_end hpart) | exact (sy3_eq hr2).trans (sy_end hpart))), rfl, True.intro⟩
      ·try simp only [q1, q2, q3, q4, q5, q6, q7, q8, q9] at hb54
       have hr0 : (A.drop s).length = 0 ∨ (B.take t).length = 0 := by omega
       refine sw_skip ?_
       refine sw_seq ?_
       refine sw_seq ?_
       refine sO [(0, _), (1, _), (2, _), (3, _), (4, _), (18, _), (19, _), (20, _), (21, _), (22, _), (24, _), (5000, _), (5001, _)] [(0, _)] ?_
       refine sw_reg ?_
       refine rA ?_ (x := sM)
       refine rA ?_ (x := sM)
       refine rA ?_ (x := B_lss)
       refine rA ?_ (x := sM)
       refine RunS.cases (s := 195) rfl (fun g67 => ?_) (fun g67 => ?_)
       ·have sg67 := g67
        try simp only [q1, q2, q3, q4, q5, q6, q7, q8, q9] at sg67
        refine rB g67 ?_ (x := sM)
        refine rB g67 ?_ (x := sM)
        refine rB g67 ?_ (x := B_lss)
        refine rA ?_ (x := pkT g67)
        refine sw_cond (t := 199) rfl (fun hb68 => ?_) (fun hb68 => ?_)
        ·try simp only [q1, q2, q3, q4, q5, q6, q7, q8, q9] at hb68
         refine sw_boxEq (d := 0) (by exact rfl) (show _ = arr nAnnotated (sy1 P A B R s t) jk from congrArg (fun z_ => arr nAnnotated z_ jk) (by first | exact rfl | exact sy_rot' | exact (hz.trans sy0_eq).trans (sy1_eq hr0))) ?_
         refine sO [(0, _), (1, _), (2, _), (3, _), (4, _), (18, _), (19, _), (20, _), (21, _), (22, _), (24, _), (5000, _), (5001, _)] [(0, _)] ?_
         refine sw_reg ?_
         refine rA ?_ (x := vM false [PV.val _])
         refine rA ?_ (x := sM)
         refine rA ?_ (x := sM)
         refine rA ?_ (x := sM)
         refine rA ?_ (x := loc_copy (r' := RV.sv false [PV.clo _ _ _]) (.inl rfl) (by decide) (by exact Cp.sv (ToL.cons (PV.To.refl _) ToL.nil) (BorL.cons (PV.bor_clo _ _) BorL.nil)))
         refine rA ?_ (x := loc_acall0 (bx := 0) (G := 5001) (qs := [(false, [PV.val _]), (false, [PV.val _]), (false, [PV.val _]), (false, [PV.clo _ _ _])]) (as_ := [(false, [PV.val _]), (false, [PV.val _]), (false, [PV.val _]), (false, [PV.clo _ _ _])]) (by decide) FSyA_c_73 rfl (by exact (And.intro (by exact ⟨⟩) (And.intro (by exact ⟨⟩) (And.intro (by exact ⟨⟩) (And.intro (by exact ⟨⟩) True.intro))))) (by exact (And.intro (And.intro rfl (ToL.cons (PV.To.refl _) ToL.nil)) (And.intro (And.intro rfl (ToL.cons (PV.To.refl _) ToL.nil)) (And.intro (And.intro rfl (ToL.cons (PV.To.refl _) ToL.nil)) (And.intro (And.intro rfl (ToL.cons (PV.To.refl _) ToL.nil)) True.intro))))) (bor_arr bor_nAnnotated _ _) (by exact (borA_cons (BorL.cons (PV.bor_val _) BorL.nil) (borA_cons (BorL.cons (PV.bor_val _) BorL.nil) (borA_cons (BorL.cons (PV.bor_val _) BorL.nil) (borA_cons (BorL.cons (PV.bor_clo _ _) BorL.nil) borA_nil))))) (by exact (ih (P' := P) (A' := A.take s) (B' := B.take t) (R' := A.drop s ++ (B.drop t ++ R)) (hm.trans hl1.symm) rfl (by (try simp only [List.length_append, List.length_take, List.length_drop, List.length_nil, mergeL_len]) <;> omega) (by (try simp only [List.length_append, List.length_take, List.length_drop, List.length_nil, mergeL_len]) <;> omega) (by (try simp only [List.length_append, List.length_take, List.length_drop, List.length_nil, mergeL_len]) <;> omega) (by (try simp only [List.length_append, List.length_take, List.length_drop, List.length_nil, mergeL_len]) <;> omega) (by (try simp only [List.length_append, List.length_take, List.length_drop, List.length_nil, mergeL_len]) <;> omega) (sorted_take hSA _) (sorted_take hSB _) (by (try simp only [List.length_append, List.length_take, List.length_drop, List.length_nil, mergeL_len]) <;> omega) (by omega))))
         refine sw_seq ?_
         refine sO [(0, _), (1, _), (2, _), (3, _), (4, _), (18, _), (19, _), (20, _), (21, _), (22, _), (24, _), (5000, _), (5001, _)] [(0, _)] ?_
         refine sw_reg ?_
         refine rA ?_ (x := sM)
         refine rA ?_ (x := sM)
         refine rA ?_ (x := B_lss)
         refine rA ?_ (x := sM)
         refine RunS.cases (s := 209) rfl (fun g69 => ?_) (fun g69 => ?_)
         ·have sg69 := g69
          try simp only [q1, q2, q3, q4, q5, q6, q7, q8, q9] at sg69
          refine rB g69 ?_ (x := sM)
          refine rB g69 ?_ (x := sM)
          refine rB g69 ?_ (x := B_lss)
          refine rA ?_ (x := pkT g69)
          refine sw_cond (t := 213) rfl (fun hb70 => ?_) (fun hb70 => ?_)
          ·try simp only [q1, q2, q3, q4, q5, q6, q7, q8, q9] at hb70
           refine sw_boxEq (d := 0) (by exact rfl) (show _ = arr nAnnotated (sy2 (ltC q) P A B R s t) jk from congrArg (fun z_ => arr nAnnotated z_ jk) (by first | exact rfl | exact sy2_eq hr1)) ?_
           refine sO [(0, _), (1, _), (2, _), (3, _), (4, _), (18, _), (19, _), (20, _), (21, _), (22, _), (24, _), (5000, _), (5001, _)] [(0, _)] ?_
           refine sw_reg ?_
           refine rA ?_ (x := vM false [PV.val _])
           refine rA ?_ (x := sM)
           refine rA ?_ (x := sM)
           refine rA ?_ (x := sM)
           refine rA ?_ (x := loc_copy (r' := RV.sv false [PV.clo _ _ _]) (.inl rfl) (by decide) (by exact Cp.sv (ToL.cons (PV.To.refl _) ToL.nil) (BorL.cons (PV.bor_clo _ _) BorL.nil)))
           refine rA ?_ (x := loc_acall0 (bx := 0) (G := 5001) (qs := [(false, [PV.val _]), (false, [PV.val _]), (false, [PV.val _]), (false, [PV.clo _ _ _])]) (as_ := [(false, [PV.val _]), (false, [PV.val _]), (false, [PV.val _]), (false, [PV.clo _ _ _])]) (by decide) FSyA_c_73 rfl (by exact (And.intro (by exact ⟨⟩) (And.intro (by exact ⟨⟩) (And.intro (by exact ⟨⟩) (And.intro (by exact ⟨⟩) True.intro))))) (by exact (And.intro (And.intro rfl (ToL.cons (PV.To.refl _) ToL.nil)) (And.intro (And.intro rfl (ToL.cons (PV.To.refl _) ToL.nil)) (And.intro (And.intro rfl (ToL.cons (PV.To.refl _) ToL.nil)) (And.intro (And.intro rfl (ToL.cons (PV.To.refl _) ToL.nil)) True.intro))))) (bor_arr bor_nAnnotated _ _) (by exact (borA_cons (BorL.cons (PV.bor_val _) BorL.nil) (borA_cons (BorL.cons (PV.bor_val _) BorL.nil) (borA_cons (BorL.cons (PV.bor_val _) BorL.nil) (borA_cons (BorL.cons (PV.bor_clo _ _) BorL.nil) borA_nil))))) (by exact (ih (P' := P ++ mergeL (ltC q) (A.take s) (B.take t)) (A' := A.drop s) (B' := B.drop t) (R' := R) (hm.trans hl2.symm) sy_r2 (by (try simp only [List.length_append, List.length_take, List.length_drop, List.length_nil, mergeL_len]) <;> omega) (by (try simp only [List.length_append, List.length_take, List.length_drop, List.length_nil, mergeL_len]) <;> omega) (by (try simp only [List.length_append, List.length_take, List.length_drop, List.length_nil, mergeL_len]) <;> omega) (by (try simp only [List.length_append, List.length_take, List.length_drop, List.length_nil, mergeL_len]) <;> omega) (by (try simp only [List.length_append, List.length_take, List.length_drop, List.length_nil, mergeL_len]) <;> omega) (sorted_drop hSA _) (sorted_drop hSB _) (by (try simp only [List.length_append, List.length_take, List.length_drop, List.length_nil, mergeL_len]) <;> omega) (by omega))))
           exact ⟨(by exact congrArg (fun z_ => some (35, arr nAnnotated z_ jk)) (by first | exact sy_r2'.trans (sy_end hpart) | exact (sy3_eq hr2).trans (sy_end hpart))), rfl, True.intro⟩
          ·try simp only [q1, q2, q3, q4, q5, q6, q7, q8, q9] at hb70
           refine sw_boxEq (d := 0) (by exact rfl) (show _ = arr nAnnotated (sy2 (ltC q) P A B R s t) jk from congrArg (fun z_ => arr nAnnotated z_ jk) (by first | exact rfl | exact sy2_eq hr1)) ?_
           have hr2 : (A.drop s).length = 0 ∨ (B.drop t).length = 0 := by omega
           refine sw_skip ?_
           exact ⟨(by exact congrArg (fun z_ => some (35, arr nAnnotated z_ jk)) (by first | exact sy_r2'.trans (sy_end hpart) | exact (sy3_eq hr2).trans (sy_end hpart))), rfl, True.intro⟩
         ·have sg69 := g69
          try simp only [q1, q2, q3, q4, q5, q6, q7, q8, q9] at sg69
          refine RunS.s0f g69 ?_
          refine RunS.s0f g69 ?_
          refine RunS.s0f g69 ?_
          refine rA ?_ (x := pkF g69)
          refine sw_cond (t := 213) rfl (fun hb_ => nomatch hb_) (fun hb_ => ?_)
          refine sw_boxEq (d := 0) (by exact rfl) (show _ = arr nAnnotated (sy2 (ltC q) P A B R s t) jk from congrArg (fun z_ => arr nAnnotated z_ jk) (by first | exact rfl | exact sy2_eq hr1)) ?_
          have hr2 : (A.drop s).length = 0 ∨ (B.drop t).length = 0 := by omega
          refine sw_skip ?_
          exact ⟨(by exact congrArg (fun z_ => some (35, arr nAnnotated z_ jk)) (by first | exact sy_r2'.trans (sy_end hpart) | exact (sy3_eq hr2).trans (sy_end hpart))), rfl, True.intro⟩
        ·try simp only [q1, q2, q3, q4, q5, q6, q7, q8, q9] at hb68
         refine sw_boxEq (d := 0) (by exact rfl) (show _ = arr nAnnotated (sy1 P A B R s t) jk from congrArg (fun z_ => arr nAnnotated z_ jk) (by first | exact rfl | exact sy_rot' | exact (hz.trans sy0_eq).trans (sy1_eq hr0))) ?_
         have hr1 : (A.take s).length = 0 ∨ (B.take t).length = 0 := by omega
         refine sw_skip ?_
         refine sw_seq ?_
         refine sO [(0, _), (1, _), (2, _), (3, _), (4, _), (18, _), (19, _), (20, _), (21, _), (22, _), (24, _), (5000, _), (5001, _)] [(0, _)] ?_
         refine sw_reg ?_
         refine rA ?_ (x := sM)
         refine rA ?_ (x := sM)
         refine rA ?_ (x := B_lss)
         refine rA ?_ (x := sM)
         refine RunS.cases (s := 209) rfl (fun g72 => ?_) (fun g72 => ?_)
         ·have sg72 := g72
          try simp only [q1, q2, q3, q4, q5, q6, q7, q8, q9] at sg72
          refine rB g72 ?_ (x := sM)
          refine rB g72 ?_ (x := sM)
          refine rB g72 ?_ (x := B_lss)
          refine rA ?_ (x := pkT g72)
          refine sw_cond (t := 213) rfl (fun hb73 => ?_) (fun hb73 => ?_)
          ·try simp only [q1, q2, q3, q4, q5, q6, q7, q8, q9] at hb73
           refine sw_boxEq (d := 0) (by exact rfl) (show _ = arr nAnnotated (sy2 (ltC q) P A B R s t) jk from congrArg (fun z_ => arr nAnnotated z_ jk) (by first | exact rfl | exact sy2_eq hr1)) ?_
           refine sO [(0, _), (1, _), (2, _), (3, _), (4, _), (18, _), (19, _), (20, _), (21, _), (22, _), (24, _), (5000, _), (5001, _)] [(0, _)] ?_
           refine sw_reg ?_
           refine rA ?_ (x := vM false [PV.val _])
           refine rA ?_ (x := sM)
           refine rA ?_ (x := sM)
           refine rA ?_ (x := sM)
           refine rA ?_ (x := loc_copy (r' := RV.sv false [PV.clo _ _ _]) (.inl rfl) (by decide) (by exact Cp.sv (ToL.cons (PV.To.refl _) ToL.nil) (BorL.cons (PV.bor_clo _ _) BorL.nil)))
           refine rA ?_ (x := loc_acall0 (bx := 0) (G := 5001) (qs := [(false, [PV.val _]), (false, [PV.val _]), (false, [PV.val _]), (false, [PV.clo _ _ _])]) (as_ := [(false, [PV.val _]), (false, [PV.val _]), (false, [PV.val _]), (false, [PV.clo _ _ _])]) (by decide) FSyA_c_73 rfl (by exact (And.intro (by exact ⟨⟩) (And.intro (by exact ⟨⟩) (And.intro (by exact ⟨⟩) (And.intro (by exact ⟨⟩) True.intro))))) (by exact (And.intro (And.intro rfl (ToL.cons (PV.To.refl _) ToL.nil)) (And.intro (And.intro rfl (ToL.cons (PV.To.refl _) ToL.nil)) (And.intro (And.intro rfl (ToL.cons (PV.To.refl _) ToL.nil)) (And.intro (And.intro rfl (ToL.cons (PV.To.refl _) ToL.nil)) True.intro))))) (bor_arr bor_nAnnotated _ _) (by exact (borA_cons (BorL.cons (PV.bor_val _) BorL.nil) (borA_cons (BorL.cons (PV.bor_val _) BorL.nil) (borA_cons (BorL.cons (PV.bor_val _) BorL.nil) (borA_cons (BorL.cons (PV.bor_clo _ _) BorL.nil) borA_nil))))) (by exact (ih (P' := P ++ mergeL (ltC q) (A.take s) (B.take t)) (A' := A.drop s) (B' := B.drop t) (R' := R) (hm.trans hl2.symm) sy_r2 (by (try simp only [List.length_append, List.length_take, List.length_drop, List.length_nil, mergeL_len]) <;> omega) (by (try simp only [List.length_append, List.length_take, List.length_drop, List.length_nil, mergeL_len]) <;> omega) (by (try simp only [List.length_append, List.length_take, List.length_drop, List.length_nil, mergeL_len]) <;> omega) (by (try simp only [List.length_append, List.length_take, List.length_drop, List.length_nil, mergeL_len]) <;> omega) (by (try simp only [List.length_append, List.length_take, List.length_drop, List.length_nil, mergeL_len]) <;> omega) (sorted_drop hSA _) (sorted_drop hSB _) (by (try simp only [List.length_append, List.length_take, List.length_drop, List.length_nil, mergeL_len]) <;> omega) (by omega))))
           exact ⟨(by exact congrArg (fun z_ => some (35, arr nAnnotated z_ jk)) (by first | exact sy_r2'.trans (sy_end hpart) | exact (sy3_eq hr2).trans (sy_end hpart))), rfl, True.intro⟩
          ·try simp only [q1, q2, q3, q4, q5, q6, q7, q8, q9] at hb73
           refine sw_boxEq (d := 0) (by exact rfl) (show _ = arr nAnnotated (sy2 (ltC q) P A B R s t) jk from congrArg (fun z_ => arr nAnnotated z_ jk) (by first | exact rfl | exact sy2_eq hr1)) ?_
           have hr2 : (A.drop s).length = 0 ∨ (B.drop t).length = 0 := by omega
           refine sw_skip ?_
           exact ⟨(by exact congrArg (fun z_ => some (35, arr nAnnotated z_ jk)) (by first | exact sy_r2'.trans (sy_end hpart) | exact (sy3_eq hr2).trans (sy_end hpart))), rfl, True.intro⟩
         ·have sg72 := g72
          try simp only [q1, q2, q3, q4, q5, q6, q7, q8, q9] at sg72
          refine RunS.s0f g72 ?_
          refine RunS.s0f g72 ?_
          refine RunS.s0f g72 ?_
          refine rA ?_ (x := pkF g72)
          refine sw_cond (t := 213) rfl (fun hb_ => nomatch hb_) (fun hb_ => ?_)
          refine sw_boxEq (d := 0) (by exact rfl) (show _ = arr nAnnotated (sy2 (ltC q) P A B R s t) jk from congrArg (fun z_ => arr nAnnotated z_ jk) (by first | exact rfl | exact sy2_eq hr1)) ?_
          have hr2 : (A.drop s).length = 0 ∨ (B.drop t).length = 0 := by omega
          refine sw_skip ?_
          exact ⟨(by exact congrArg (fun z_ => some (35, arr nAnnotated z_ jk)) (by first | exact sy_r2'.trans (sy_end hpart) | exact (sy3_eq hr2).trans (sy_end hpart))), rfl, True.intro⟩
       ·have sg67 := g67
        try simp only [q1, q2, q3, q4, q5, q6, q7, q8, q9] at sg67
        refine RunS.s0f g67 ?_
        refine RunS.s0f g67 ?_
        refine RunS.s0f g67 ?_
        refine rA ?_ (x := pkF g67)
        refine sw_cond (t := 199) rfl (fun hb_ => nomatch hb_) (fun hb_ => ?_)
        refine sw_boxEq (d := 0) (by exact rfl) (show _ = arr nAnnotated (sy1 P A B R s t) jk from congrArg (fun z_ => arr nAnnotated z_ jk) (by first | exact rfl | exact sy_rot' | exact (hz.trans sy0_eq).trans (sy1_eq hr0))) ?_
        have hr1 : (A.take s).length = 0 ∨ (B.take t).length = 0 := by omega
        refine sw_skip ?_
        refine sw_seq ?_
        refine sO [(0, _), (1, _), (2, _), (3, _), (4, _), (18, _), (19, _), (20, _), (21, _), (22, _), (24, _), (5000, _), (5001, _)] [(0, _)] ?_
        refine sw_reg ?_
        refine rA ?_ (x := sM)
        refine rA ?_ (x := sM)
        refine rA ?_ (x := B_lss)
        refine rA ?_ (x := sM)
        refine RunS.cases (s := 209) rfl (fun g76 => ?_) (fun g76 => ?_)
        ·have sg76 := g76
         try simp only [q1, q2, q3, q4, q5, q6, q7, q8, q9] at sg76
         refine rB g76 ?_ (x := sM)
         refine rB g76 ?_ (x := sM)
         refine rB g76 ?_ (x := B_lss)
         refine rA ?_ (x := pkT g76)
         refine sw_cond (t := 213) rfl (fun hb77 => ?_) (fun hb77 => ?_)
         ·try simp only [q1, q2, q3, q4, q5, q6, q7, q8, q9] at hb77
          refine sw_boxEq (d := 0) (by exact rfl) (show _ = arr nAnnotated (sy2 (ltC q) P A B R s t) jk from congrArg (fun z_ => arr nAnnotated z_ jk) (by first | exact rfl | exact sy2_eq hr1)) ?_
          refine sO [(0, _), (1, _), (2, _), (3, _), (4, _), (18, _), (19, _), (20, _), (21, _), (22, _), (24, _), (5000, _), (5001, _)] [(0, _)] ?_
          refine sw_reg ?_
          refine rA ?_ (x := vM false [PV.val _])
          refine rA ?_ (x := sM)
          refine rA ?_ (x := sM)
          refine rA ?_ (x := sM)
          refine rA ?_ (x := loc_copy (r' := RV.sv false [PV.clo _ _ _]) (.inl rfl) (by decide) (by exact Cp.sv (ToL.cons (PV.To.refl _) ToL.nil) (BorL.cons (PV.bor_clo _ _) BorL.nil)))
          refine rA ?_ (x := loc_acall0 (bx := 0) (G := 5001) (qs := [(false, [PV.val _]), (false, [PV.val _]), (false, [PV.val _]), (false, [PV.clo _ _ _])]) (as_ := [(false, [PV.val _]), (false, [PV.val _]), (false, [PV.val _]), (false, [PV.clo _ _ _])]) (by decide) FSyA_c_73 rfl (by exact (And.intro (by exact ⟨⟩) (And.intro (by exact ⟨⟩) (And.intro (by exact ⟨⟩) (And.intro (by exact ⟨⟩) True.intro))))) (by exact (And.intro (And.intro rfl (ToL.cons (PV.To.refl _) ToL.nil)) (And.intro (And.intro rfl (ToL.cons (PV.To.refl _) ToL.nil)) (And.intro (And.intro rfl (ToL.cons (PV.To.refl _) ToL.nil)) (And.intro (And.intro rfl (ToL.cons (PV.To.refl _) ToL.nil)) True.intro))))) (bor_arr bor_nAnnotated _ _) (by exact (borA_cons (BorL.cons (PV.bor_val _) BorL.nil) (borA_cons (BorL.cons (PV.bor_val _) BorL.nil) (borA_cons (BorL.cons (PV.bor_val _) BorL.nil) (borA_cons (BorL.cons (PV.bor_clo _ _) BorL.nil) borA_nil))))) (by exact (ih (P' := P ++ mergeL (ltC q) (A.take s) (B.take t)) (A' := A.drop s) (B' := B.drop t) (R' := R) (hm.trans hl2.symm) sy_r2 (by (try simp only [List.length_append, List.length_take, List.length_drop, List.length_nil, mergeL_len]) <;> omega) (by (try simp only [List.length_append, List.length_take, List.length_drop, List.length_nil, mergeL_len]) <;> omega) (by (try simp only [List.length_append, List.length_take, List.length_drop, List.length_nil, mergeL_len]) <;> omega) (by (try simp only [List.length_append, List.length_take, List.length_drop, List.length_nil, mergeL_len]) <;> omega) (by (try simp only [List.length_append, List.length_take, List.length_drop, List.length_nil, mergeL_len]) <;> omega) (sorted_drop hSA _) (sorted_drop hSB _) (by (try simp only [List.length_append, List.length_take, List.length_drop, List.length_nil, mergeL_len]) <;> omega) (by omega))))
          exact ⟨(by exact congrArg (fun z_ => some (35, arr nAnnotated z_ jk)) (by first | exact sy_r2'.trans (sy_end hpart) | exact (sy3_eq hr2).trans (sy_end hpart))), rfl, True.intro⟩
         ·try simp only [q1, q2, q3, q4, q5, q6, q7, q8, q9] at hb77
          refine sw_boxEq (d := 0) (by exact rfl) (show _ = arr nAnnotated (sy2 (ltC q) P A B R s t) jk from congrArg (fun z_ => arr nAnnotated z_ jk) (by first | exact rfl | exact sy2_eq hr1)) ?_
          have hr2 : (A.drop s).length = 0 ∨ (B.drop t).length = 0 := by omega
          refine sw_skip ?_
          exact ⟨(by exact congrArg (fun z_ => some (35, arr nAnnotated z_ jk)) (by first | exact sy_r2'.trans (sy_end hpart) | exact (sy3_eq hr2).trans (sy_end hpart))), rfl, True.intro⟩
        ·have sg76 := g76
         try simp only [q1, q2, q3, q4, q5, q6, q7, q8, q9] at sg76
         refine RunS.s0f g76 ?_
         refine RunS.s0f g76 ?_
         refine RunS.s0f g76 ?_
         refine rA ?_ (x := pkF g76)
         refine sw_cond (t := 213) rfl (fun hb_ => nomatch hb_) (fun hb_ => ?_)
         refine sw_boxEq (d := 0) (by exact rfl) (show _ = arr nAnnotated (sy2 (ltC q) P A B R s t) jk from congrArg (fun z_ => arr nAnnotated z_ jk) (by first | exact rfl | exact sy2_eq hr1)) ?_
         have hr2 : (A.drop s).length = 0 ∨ (B.drop t).length = 0 := by omega
         refine sw_skip ?_
         exact ⟨(by exact congrArg (fun z_ => some (35, arr nAnnotated z_ jk)) (by first | exact sy_r2'.trans (sy_end hpart) | exact (sy3_eq hr2).trans (sy_end hpart))), rfl, True.intro⟩
     ·have sg53 := g53
      try simp only [q1, q2, q3, q4, q5, q6, q7, q8, q9] at sg53
      refine RunS.s0f g53 ?_
      refine RunS.s0f g53 ?_
      refine RunS.s0f g53 ?_
      refine rA ?_ (x := pkF g53)
      refine sw_cond (t := 185) rfl (fun hb_ => nomatch hb_) (fun hb_ => ?_)
      have hr0 : (A.drop s).length = 0 ∨ (B.take t).length = 0 := by omega
      refine sw_skip ?_
      refine sw_seq ?_
      refine sw_seq ?_
      refine sO [(0, _), (1, _), (2, _), (3, _), (4, _), (18, _), (19, _), (20, _), (21, _), (22, _), (24, _), (5000, _), (5001, _)] [(0, _)] ?_
      refine sw_reg ?_
      refine rA ?_ (x := sM)
      refine rA ?_ (x := sM)
      refine rA ?_ (x := B_lss)
      refine rA ?_ (x := sM)
      refine RunS.cases (s := 195) rfl (fun g80 => ?_) (fun g80 => ?_)
      ·have sg80 := g80
       try simp only [q1, q2, q3, q4, q5, q6, q7, q8, q9] at sg80
       refine rB g80 ?_ (x := sM)
       refine rB g80 ?_ (x := sM)
       refine rB g80 ?_ (x := B_lss)
       refine rA ?_ (x := pkT g80)
       refine sw_cond (t := 199) rfl (fun hb81 => ?_) (fun hb81 => ?_)
       ·try simp only [q1, q2, q3, q4, q5, q6, q7, q8, q9] at hb81
        refine sw_boxEq (d := 0) (by exact rfl) (show _ = arr nAnnotated (sy1 P A B R s t) jk from congrArg (fun z_ => arr nAnnotated z_ jk) (by first | exact rfl | exact sy_rot' | exact (hz.trans sy0_eq).trans (sy1_eq hr0))) ?_
        refine sO [(0, _), (1, _), (2, _), (3, _), (4, _), (18, _), (19, _), (20, _), (21, _), (22, _), (24, _), (5000, _), (5001, _)] [(0, _)] ?_
        refine sw_reg ?_
        refine rA ?_ (x := vM false [PV.val _])
        refine rA ?_ (x := sM)
        refine rA ?_ (x := sM)
        refine rA ?_ (x := sM)
        refine rA ?_ (x := loc_copy (r' := RV.sv false [PV.clo _ _ _]) (.inl rfl) (by decide) (by exact Cp.sv (ToL.cons (PV.To.refl _) ToL.nil) (BorL.cons (PV.bor_clo _ _) BorL.nil)))
        refine rA ?_ (x := loc_acall0 (bx := 0) (G := 5001) (qs := [(false, [PV.val _]), (false, [PV.val _]), (false, [PV.val _]), (false, [PV.clo _ _ _])]) (as_ := [(false, [PV.val _]), (false, [PV.val _]), (false, [PV.val _]), (false, [PV.clo _ _ _])]) (by decide) FSyA_c_73 rfl (by exact (And.intro (by exact ⟨⟩) (And.intro (by exact ⟨⟩) (And.intro (by exact ⟨⟩) (And.intro (by exact ⟨⟩) True.intro))))) (by exact (And.intro (And.intro rfl (ToL.cons (PV.To.refl _) ToL.nil)) (And.intro (And.intro rfl (ToL.cons (PV.To.refl _) ToL.nil)) (And.intro (And.intro rfl (ToL.cons (PV.To.refl _) ToL.nil)) (And.intro (And.intro rfl (ToL.cons (PV.To.refl _) ToL.nil)) True.intro))))) (bor_arr bor_nAnnotated _ _) (by exact (borA_cons (BorL.cons (PV.bor_val _) BorL.nil) (borA_cons (BorL.cons (PV.bor_val _) BorL.nil) (borA_cons (BorL.cons (PV.bor_val _) BorL.nil) (borA_cons (BorL.cons (PV.bor_clo _ _) BorL.nil) borA_nil))))) (by exact (ih (P' := P) (A' := A.take s) (B' := B.take t) (R' := A.drop s ++ (B.drop t ++ R)) (hm.trans hl1.symm) rfl (by (try simp only [List.length_append, List.length_take, List.length_drop, List.length_nil, mergeL_len]) <;> omega) (by (try simp only [List.length_append, List.length_take, List.length_drop, List.length_nil, mergeL_len]) <;> omega) (by (try simp only [List.length_append, List.length_take, List.length_drop, List.length_nil, mergeL_len]) <;> omega) (by (try simp only [List.length_append, List.length_take, List.length_drop, List.length_nil, mergeL_len]) <;> omega) (by (try simp only [List.length_append, List.length_take, List.length_drop, List.length_nil, mergeL_len]) <;> omega) (sorted_take hSA _) (sorted_take hSB _) (by (try simp only [List.length_append, List.length_take, List.length_drop, List.length_nil, mergeL_len]) <;> omega) (by omega))))
        refine sw_seq ?_
        refine sO [(0, _), (1, _), (2, _), (3, _), (4, _), (18, _), (19, _), (20, _), (21, _), (22, _), (24, _), (5000, _), (5001, _)] [(0, _)] ?_
        refine sw_reg ?_
        refine rA ?_ (x := sM)
        refine rA ?_ (x := sM)
        refine rA ?_ (x := B_lss)
        refine rA ?_ (x := sM)
        refine RunS.cases (s := 209) rfl (fun g82 => ?_) (fun g82 => ?_)
        ·have sg82 := g82
         try simp only [q1, q2, q3, q4, q5, q6, q7, q8, q9] at sg82
         refine rB g82 ?_ (x := sM)
         refine rB g82 ?_ (x := sM)
         refine rB g82 ?_ (x := B_lss)
         refine rA ?_ (x := pkT g82)
         refine sw_cond (t := 213) rfl (fun hb83 => ?_) (fun hb83 => ?_)
         ·try simp only [q1, q2, q3, q4, q5, q6, q7, q8, q9] at hb83
          refine sw_boxEq (d := 0) (by exact rfl) (show _ = arr nAnnotated (sy2 (ltC q) P A B R s t) jk from congrArg (fun z_ => arr nAnnotated z_ jk) (by first | exact rfl | exact sy2_eq hr1)) ?_
          refine sO [(0, _), (1, _), (2, _), (3, _), (4, _), (18, _), (19, _), (20, _), (21, _), (22, _), (24, _), (5000, _), (5001, _)] [(0, _)] ?_
          refine sw_reg ?_
          refine rA ?_ (x := vM false [PV.val _])
          refine rA ?_ (x := sM)
          refine rA ?_ (x := sM)
          refine rA ?_ (x := sM)
          refine rA ?_ (x := loc_copy (r' := RV.sv false [PV.clo _ _ _]) (.inl rfl) (by decide) (by exact Cp.sv (ToL.cons (PV.To.refl _) ToL.nil) (BorL.cons (PV.bor_clo _ _) BorL.nil)))
          refine rA ?_ (x := loc_acall0 (bx := 0) (G := 5001) (qs := [(false, [PV.val _]), (false, [PV.val _]), (false, [PV.val _]), (false, [PV.clo _ _ _])]) (as_ := [(false, [PV.val _]), (false, [PV.val _]), (false, [PV.val _]), (false, [PV.clo _ _ _])]) (by decide) FSyA_c_73 rfl (by exact (And.intro (by exact ⟨⟩) (And.intro (by exact ⟨⟩) (And.intro (by exact ⟨⟩) (And.intro (by exact ⟨⟩) True.intro))))) (by exact (And.intro (And.intro rfl (ToL.cons (PV.To.refl _) ToL.nil)) (And.intro (And.intro rfl (ToL.cons (PV.To.refl _) ToL.nil)) (And.intro (And.intro rfl (ToL.cons (PV.To.refl _) ToL.nil)) (And.intro (And.intro rfl (ToL.cons (PV.To.refl _) ToL.nil)) True.intro))))) (bor_arr bor_nAnnotated _ _) (by exact (borA_cons (BorL.cons (PV.bor_val _) BorL.nil) (borA_cons (BorL.cons (PV.bor_val _) BorL.nil) (borA_cons (BorL.cons (PV.bor_val _) BorL.nil) (borA_cons (BorL.cons (PV.bor_clo _ _) BorL.nil) borA_nil))))) (by exact (ih (P' := P ++ mergeL (ltC q) (A.take s) (B.take t)) (A' := A.drop s) (B' := B.drop t) (R' := R) (hm.trans hl2.symm) sy_r2 (by (try simp only [List.length_append, List.length_take, List.length_drop, List.length_nil, mergeL_len]) <;> omega) (by (try simp only [List.length_append, List.length_take, List.length_drop, List.length_nil, mergeL_len]) <;> omega) (by (try simp only [List.length_append, List.length_take, List.length_drop, List.length_nil, mergeL_len]) <;> omega) (by (try simp only [List.length_append, List.length_take, List.length_drop, List.length_nil, mergeL_len]) <;> omega) (by (try simp only [List.length_append, List.length_take, List.length_drop, List.length_nil, mergeL_len]) <;> omega) (sorted_drop hSA _) (sorted_drop hSB _) (by (try simp only [List.length_append, List.length_take, List.length_drop, List.length_nil, mergeL_len]) <;> omega) (by omega))))
          exact ⟨(by exact congrArg (fun z_ => some (35, arr nAnnotated z_ jk)) (by first | exact sy_r2'.trans (sy_end hpart) | exact (sy3_eq hr2).trans (sy_end hpart))), rfl, True.intro⟩
         ·try simp only [q1, q2, q3, q4, q5, q6, q7, q8, q9] at hb83
          refine sw_boxEq (d := 0) (by exact rfl) (show _ = arr nAnnotated (sy2 (ltC q) P A B R s t) jk from congrArg (fun z_ => arr nAnnotated z_ jk) (by first | exact rfl | exact sy2_eq hr1)) ?_
          have hr2 : (A.drop s).length = 0 ∨ (B.drop t).length = 0 := by omega
          refine sw_skip ?_
          exact ⟨(by exact congrArg (fun z_ => some (35, arr nAnnotated z_ jk)) (by first | exact sy_r2'.trans (sy_end hpart) | exact (sy3_eq hr2).trans (sy_end hpart))), rfl, True.intro⟩
        ·have sg82 := g82
         try simp only [q1, q2, q3, q4, q5, q6, q7, q8, q9] at sg82
         refine RunS.s0f g82 ?_
         refine RunS.s0f g82 ?_
         refine RunS.s0f g82 ?_
         refine rA ?_ (x := pkF g82)
         refine sw_cond (t := 213) rfl (fun hb_ => nomatch hb_) (fun hb_ => ?_)
         refine sw_boxEq (d := 0) (by exact rfl) (show _ = arr nAnnotated (sy2 (ltC q) P A B R s t) jk from congrArg (fun z_ => arr nAnnotated z_ jk) (by first | exact rfl | exact sy2_eq hr1)) ?_
         have hr2 : (A.drop s).length = 0 ∨ (B.drop t).length = 0 := by omega
         refine sw_skip ?_
         exact ⟨(by exact congrArg (fun z_ => some (35, arr nAnnotated z_ jk)) (by first | exact sy_r2'.trans (sy_end hpart) | exact (sy3_eq hr2).trans (sy_end hpart))), rfl, True.intro⟩
       ·try simp only [q1, q2, q3, q4, q5, q6, q7, q8, q9] at hb81
        refine sw_boxEq (d := 0) (by exact rfl) (show _ = arr nAnnotated (sy1 P A B R s t) jk from congrArg (fun z_ => arr nAnnotated z_ jk) (by first | exact rfl | exact sy_rot' | exact (hz.trans sy0_eq).trans (sy1_eq hr0))) ?_
        have hr1 : (A.take s).length = 0 ∨ (B.take t).length = 0 := by omega
        refine sw_skip ?_
        refine sw_seq ?_
        refine sO [(0, _), (1, _), (2, _), (3, _), (4, _), (18, _), (19, _), (20, _), (21, _), (22, _), (24, _), (5000, _), (5001, _)] [(0, _)] ?_
        refine sw_reg ?_
        refine rA ?_ (x := sM)
        refine rA ?_ (x := sM)
        refine rA ?_ (x := B_lss)
        refine rA ?_ (x := sM)
        refine RunS.cases (s := 209) rfl (fun g85 => ?_) (fun g85 => ?_)
        ·have sg85 := g85
         try simp only [q1, q2, q3, q4, q5, q6, q7, q8, q9] at sg85
         refine rB g85 ?_ (x := sM)
         refine rB g85 ?_ (x := sM)
         refine rB g85 ?_ (x := B_lss)
         refine rA ?_ (x := pkT g85)
         refine sw_cond (t := 213) rfl (fun hb86 => ?_) (fun hb86 => ?_)
         ·try simp only [q1, q2, q3, q4, q5, q6, q7, q8, q9] at hb86
          refine sw_boxEq (d := 0) (by exact rfl) (show _ = arr nAnnotated (sy2 (ltC q) P A B R s t) jk from congrArg (fun z_ => arr nAnnotated z_ jk) (by first | exact rfl | exact sy2_eq hr1)) ?_
          refine sO [(0, _), (1, _), (2, _), (3, _), (4, _), (18, _), (19, _), (20, _), (21, _), (22, _), (24, _), (5000, _), (5001, _)] [(0, _)] ?_
          refine sw_reg ?_
          refine rA ?_ (x := vM false [PV.val _])
          refine rA ?_ (x := sM)
          refine rA ?_ (x := sM)
          refine rA ?_ (x := sM)
          refine rA ?_ (x := loc_copy (r' := RV.sv false [PV.clo _ _ _]) (.inl rfl) (by decide) (by exact Cp.sv (ToL.cons (PV.To.refl _) ToL.nil) (BorL.cons (PV.bor_clo _ _) BorL.nil)))
          refine rA ?_ (x := loc_acall0 (bx := 0) (G := 5001) (qs := [(false, [PV.val _]), (false, [PV.val _]), (false, [PV.val _]), (false, [PV.clo _ _ _])]) (as_ := [(false, [PV.val _]), (false, [PV.val _]), (false, [PV.val _]), (false, [PV.clo _ _ _])]) (by decide) FSyA_c_73 rfl (by exact (And.intro (by exact ⟨⟩) (And.intro (by exact ⟨⟩) (And.intro (by exact ⟨⟩) (And.intro (by exact ⟨⟩) True.intro))))) (by exact (And.intro (And.intro rfl (ToL.cons (PV.To.refl _) ToL.nil)) (And.intro (And.intro rfl (ToL.cons (PV.To.refl _) ToL.nil)) (And.intro (And.intro rfl (ToL.cons (PV.To.refl _) ToL.nil)) (And.intro (And.intro rfl (ToL.cons (PV.To.refl _) ToL.nil)) True.intro))))) (bor_arr bor_nAnnotated _ _) (by exact (borA_cons (BorL.cons (PV.bor_val _) BorL.nil) (borA_cons (BorL.cons (PV.bor_val _) BorL.nil) (borA_cons (BorL.cons (PV.bor_val _) BorL.nil) (borA_cons (BorL.cons (PV.bor_clo _ _) BorL.nil) borA_nil))))) (by exact (ih (P' := P ++ mergeL (ltC q) (A.take s) (B.take t)) (A' := A.drop s) (B' := B.drop t) (R' := R) (hm.trans hl2.symm) sy_r2 (by (try simp only [List.length_append, List.length_take, List.length_drop, List.length_nil, mergeL_len]) <;> omega) (by (try simp only [List.length_append, List.length_take, List.length_drop, List.length_nil, mergeL_len]) <;> omega) (by (try simp only [List.length_append, List.length_take, List.length_drop, List.length_nil, mergeL_len]) <;> omega) (by (try simp only [List.length_append, List.length_take, List.length_drop, List.length_nil, mergeL_len]) <;> omega) (by (try simp only [List.length_append, List.length_take, List.length_drop, List.length_nil, mergeL_len]) <;> omega) (sorted_drop hSA _) (sorted_drop hSB _) (by (try simp only [List.length_append, List.length_take, List.length_drop, List.length_nil, mergeL_len]) <;> omega) (by omega))))
          exact ⟨(by exact congrArg (fun z_ => some (35, arr nAnnotated z_ jk)) (by first | exact sy_r2'.trans (sy_end hpart) | exact (sy3_eq hr2).trans (sy_end hpart))), rfl, True.intro⟩
         ·try simp only [q1, q2, q3, q4, q5, q6, q7, q8, q9] at hb86
          refine sw_boxEq (d := 0) (by exact rfl) (show _ = arr nAnnotated (sy2 (ltC q) P A B R s t) jk from congrArg (fun z_ => arr nAnnotated z_ jk) (by first | exact rfl | exact sy2_eq hr1)) ?_
          have hr2 : (A.drop s).length = 0 ∨ (B.drop t).length = 0 := by omega
          refine sw_skip ?_
          exact ⟨(by exact congrArg (fun z_ => some (35, arr nAnnotated z_ jk)) (by first | exact sy_r2'.trans (sy_end hpart) | exact (sy3_eq hr2).trans (sy_end hpart))), rfl, True.intro⟩
        ·have sg85 := g85
         try simp only [q1, q2, q3, q4, q5, q6, q7, q8, q9] at sg85
         refine RunS.s0f g85 ?_
         refine RunS.s0f g85 ?_
         refine RunS.s0f g85 ?_
         refine rA ?_ (x := pkF g85)
         refine sw_cond (t := 213) rfl (fun hb_ => nomatch hb_) (fun hb_ => ?_)
         refine sw_boxEq (d := 0) (by exact rfl) (show _ = arr nAnnotated (sy2 (ltC q) P A B R s t) jk from congrArg (fun z_ => arr nAnnotated z_ jk) (by first | exact rfl | exact sy2_eq hr1)) ?_
         have hr2 : (A.drop s).length = 0 ∨ (B.drop t).length = 0 := by omega
         refine sw_skip ?_
         exact ⟨(by exact congrArg (fun z_ => some (35, arr nAnnotated z_ jk)) (by first | exact sy_r2'.trans (sy_end hpart) | exact (sy3_eq hr2).trans (sy_end hpart))), rfl, True.intro⟩
      ·have sg80 := g80
       try simp only [q1, q2, q3, q4, q5, q6, q7, q8, q9] at sg80
       refine RunS.s0f g80 ?_
       refine RunS.s0f g80 ?_
       refine RunS.s0f g80 ?_
       refine rA ?_ (x := pkF g80)
       refine sw_cond (t := 199) rfl (fun hb_ => nomatch hb_) (fun hb_ => ?_)
       refine sw_boxEq (d := 0) (by exact rfl) (show _ = arr nAnnotated (sy1 P A B R s t) jk from congrArg (fun z_ => arr nAnnotated z_ jk) (by first | exact rfl | exact sy_rot' | exact (hz.trans sy0_eq).trans (sy1_eq hr0))) ?_
       have hr1 : (A.take s).length = 0 ∨ (B.take t).length = 0 := by omega
       refine sw_skip ?_
       refine sw_seq ?_
       refine sO [(0, _), (1, _), (2, _), (3, _), (4, _), (18, _), (19, _), (20, _), (21, _), (22, _), (24, _), (5000, _), (5001, _)] [(0, _)] ?_
       refine sw_reg ?_
       refine rA ?_ (x := sM)
       refine rA ?_ (x := sM)
       refine rA ?_ (x := B_lss)
       refine rA ?_ (x := sM)
       refine RunS.cases (s := 209) rfl (fun g89 => ?_) (fun g89 => ?_)
       ·have sg89 := g89
        try simp only [q1, q2, q3, q4, q5, q6, q7, q8, q9] at sg89
        refine rB g89 ?_ (x := sM)
        refine rB g89 ?_ (x := sM)
        refine rB g89 ?_ (x := B_lss)
        refine rA ?_ (x := pkT g89)
        refine sw_cond (t := 213) rfl (fun hb90 => ?_) (fun hb90 => ?_)
        ·try simp only [q1, q2, q3, q4, q5, q6, q7, q8, q9] at hb90
         refine sw_boxEq (d := 0) (by exact rfl) (show _ = arr nAnnotated (sy2 (ltC q) P A B R s t) jk from congrArg (fun z_ => arr nAnnotated z_ jk) (by first | exact rfl | exact sy2_eq hr1)) ?_
         refine sO [(0, _), (1, _), (2, _), (3, _), (4, _), (18, _), (19, _), (20, _), (21, _), (22, _), (24, _), (5000, _), (5001, _)] [(0, _)] ?_
         refine sw_reg ?_
         refine rA ?_ (x := vM false [PV.val _])
         refine rA ?_ (x := sM)
         refine rA ?_ (x := sM)
         refine rA ?_ (x := sM)
         refine rA ?_ (x := loc_copy (r' := RV.sv false [PV.clo _ _ _]) (.inl rfl) (by decide) (by exact Cp.sv (ToL.cons (PV.To.refl _) ToL.nil) (BorL.cons (PV.bor_clo _ _) BorL.nil)))
         refine rA ?_ (x := loc_acall0 (bx := 0) (G := 5001) (qs := [(false, [PV.val _]), (false, [PV.val _]), (false, [PV.val _]), (false, [PV.clo _ _ _])]) (as_ := [(false, [PV.val _]), (false, [PV.val _]), (false, [PV.val _]), (false, [PV.clo _ _ _])]) (by decide) FSyA_c_73 rfl (by exact (And.intro (by exact ⟨⟩) (And.intro (by exact ⟨⟩) (And.intro (by exact ⟨⟩) (And.intro (by exact ⟨⟩) True.intro))))) (by exact (And.intro (And.intro rfl (ToL.cons (PV.To.refl _) ToL.nil)) (And.intro (And.intro rfl (ToL.cons (PV.To.refl _) ToL.nil)) (And.intro (And.intro rfl (ToL.cons (PV.To.refl _) ToL.nil)) (And.intro (And.intro rfl (ToL.cons (PV.To.refl _) ToL.nil)) True.intro))))) (bor_arr bor_nAnnotated _ _) (by exact (borA_cons (BorL.cons (PV.bor_val _) BorL.nil) (borA_cons (BorL.cons (PV.bor_val _) BorL.nil) (borA_cons (BorL.cons (PV.bor_val _) BorL.nil) (borA_cons (BorL.cons (PV.bor_clo _ _) BorL.nil) borA_nil))))) (by exact (ih (P' := P ++ mergeL (ltC q) (A.take s) (B.take t)) (A' := A.drop s) (B' := B.drop t) (R' := R) (hm.trans hl2.symm) sy_r2 (by (try simp only [List.length_append, List.length_take, List.length_drop, List.length_nil, mergeL_len]) <;> omega) (by (try simp only [List.length_append, List.length_take, List.length_drop, List.length_nil, mergeL_len]) <;> omega) (by (try simp only [List.length_append, List.length_take, List.length_drop, List.length_nil, mergeL_len]) <;> omega) (by (try simp only [List.length_append, List.length_take, List.length_drop, List.length_nil, mergeL_len]) <;> omega) (by (try simp only [List.length_append, List.length_take, List.length_drop, List.length_nil, mergeL_len]) <;> omega) (sorted_drop hSA _) (sorted_drop hSB _) (by (try simp only [List.length_append, List.length_take, List.length_drop, List.length_nil, mergeL_len]) <;> omega) (by omega))))
         exact ⟨(by exact congrArg (fun z_ => some (35, arr nAnnotated z_ jk)) (by first | exact sy_r2'.trans (sy_end hpart) | exact (sy3_eq hr2).trans (sy_end hpart))), rfl, True.intro⟩
        ·try simp only [q1, q2, q3, q4, q5, q6, q7, q8, q9] at hb90
         refine sw_boxEq (d := 0) (by exact rfl) (show _ = arr nAnnotated (sy2 (ltC q) P A B R s t) jk from congrArg (fun z_ => arr nAnnotated z_ jk) (by first | exact rfl | exact sy2_eq hr1)) ?_
         have hr2 : (A.drop s).length = 0 ∨ (B.drop t).length = 0 := by omega
         refine sw_skip ?_
         exact ⟨(by exact congrArg (fun z_ => some (35, arr nAnnotated z_ jk)) (by first | exact sy_r2'.trans (sy_end hpart) | exact (sy3_eq hr2).trans (sy_end hpart))), rfl, True.intro⟩
       ·have sg89 := g89
        try simp only [q1, q2, q3, q4, q5, q6, q7, q8, q9] at sg89
        refine RunS.s0f g89 ?_
        refine RunS.s0f g89 ?_
        refine RunS.s0f g89 ?_
        refine rA ?_ (x := pkF g89)
        refine sw_cond (t := 213) rfl (fun hb_ => nomatch hb_) (fun hb_ => ?_)
        refine sw_boxEq (d := 0) (by exact rfl) (show _ = arr nAnnotated (sy2 (ltC q) P A B R s t) jk from congrArg (fun z_ => arr nAnnotated z_ jk) (by first | exact rfl | exact sy2_eq hr1)) ?_
        have hr2 : (A.drop s).length = 0 ∨ (B.drop t).length = 0 := by omega
        refine sw_skip ?_
        exact ⟨(by exact congrArg (fun z_ => some (35, arr nAnnotated z_ jk)) (by first | exact sy_r2'.trans (sy_end hpart) | exact (sy3_eq hr2).trans (sy_end hpart))), rfl, True.intro⟩
theorem sym_Annotated {m cp : Nat} {jk : List Value} : ∀ (N_ : Nat) {zs : List NAnnotated} {q : OkA × OkA → Int} {P A B R : List NAnnotated} {a c b_ : Int} (hm : m = zs.length) (hz : zs = P ++ (A ++ (B ++ R))) (ha : a = (P.length : Int)) (hc : c = (P.length + A.length : Nat)) (hb : b_ = (P.length + A.length + B.length : Nat)) (hA : 0 < A.length) (hB : 0 < B.length) (hSA : sortedL (ltC q) A) (hSB : sortedL (ltC q) B) (ho : Ord (ltC q)) (hn : zs.length ≤ 4398046511104) (hN : A.length + B.length ≤ N_), ACall Try.prog 73 35 m cp (arr nAnnotated zs jk) (arr nAnnotated (P ++ (mergeL (ltC q) A B ++ R)) jk) [(false, [PV.val (vI a)]), (false, [PV.val (vI c)]), (false, [PV.val (vI b_)]), (false, [PV.clo Try.prog (as2 (fun x : OkA => (true, [PV.val (vI x.1.Row.Id), PV.sl .v (x.1.Row.Values.map cInt), PV.sl .v (x.1.Set.map cInt)]))) (rsI q)])] (resRV [])
 | 0, _, _, _, _, _, _, _, _, _, _, _, _, _, _, hA, _, _, _, _, _, hN => by omega
 | N_ + 1, zs, q, P, A, B, R, a, c, b_, hm, hz, ha, hc, hb, hA, hB, hSA, hSB, ho, hn, hN => symS_Annotated hm hz ha hc hb hA hB hSA hSB ho hn fun h1 h2 h3 h4 h5 h6 h7 h8 h9 h10 h11 => sym_Annotated N_ h1 h2 h3 h4 h5 h6 h7 h8 h9 ho h11 (by omega)
end Go.Proofs.Ytaomckpfgmhapaa
