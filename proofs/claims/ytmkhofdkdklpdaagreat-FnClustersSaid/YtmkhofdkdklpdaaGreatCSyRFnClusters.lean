/- What functions of the program compute. No condition. -/
import Derived.Test.YtmkhofdkdklpdaaGreatCZMFnClusters
import Derived.Test.YtmkhofdkdklpdaaGreatCFcFnClusters
import Derived.Test.YtmkhofdkdklpdaaGreatCSrRFnClusters
import Derived.KernelRfl
set_option linter.unusedVariables false
set_option linter.unusedSimpArgs false
namespace Go.Proofs.YtmkhofdkdklpdaaGreat
open Go Go.RowKit M PV
set_option maxRecDepth 10000
attribute [local irreducible] PV.Lcl PV.LclR RV.Lcl
set_option maxHeartbeats 8000000
theorem FSyR_ui_3 : Tryz.prog.underlying 3 = some (.int .i64) := by kernel_rfl
theorem FSyR_ui_91 : Tryz.prog.underlying 91 = some (.int .u64) := by kernel_rfl
theorem symS_Row {m cp : Nat} {jk : List Value} {zs : List NRow} {q : Row × Row → Int} {P A B R : List NRow} {a : Int} {c : Int} {b_ : Int}  (hm : m = (zs).length) (hz : zs = P ++ (A ++ (B ++ R))) (ha : a = (P.length : Int)) (hc : c = (P.length + A.length : Nat)) (hb : b_ = (P.length + A.length + B.length : Nat)) (hA : 0 < A.length) (hB : 0 < B.length) (hSA : sortedL (ltC q) A) (hSB : sortedL (ltC q) B) (ho : Ord (ltC q)) (hn : zs.length ≤ 4398046511104) (ih : ∀ {zs' P' A' B' R' : List NRow} {a' c' b' : Int}, m = zs'.length → zs' = P' ++ (A' ++ (B' ++ R')) → a' = (P'.length : Int) → c' = (P'.length + A'.length : Nat) → b' = (P'.length + A'.length + B'.length : Nat) → 0 < A'.length → 0 < B'.length → sortedL (ltC q) A' → sortedL (ltC q) B' → A'.length + B'.length < A.length + B.length → zs'.length ≤ 4398046511104 → ACall Tryz.prog 113 63 m cp (arr nRow zs' jk) (arr nRow (P' ++ (mergeL (ltC q) A' B' ++ R')) jk) [(false, [val (vI a')]), (false, [val (vI c')]), (false, [val (vI b')]), (false, [PV.clo Tryz.prog (as2 (fun x : Row => (true, [val (vI x.Id), sl .v (x.Values.map cInt)]))) (rsI q)])] (resRV [])) : ACall Tryz.prog 113 63 m cp (arr nRow zs jk) (arr nRow (P ++ (mergeL (ltC q) A B ++ R)) jk) [(false, [val (vI a)]), (false, [val (vI c)]), (false, [val (vI b_)]), (false, [PV.clo Tryz.prog (as2 (fun x : Row => (true, [val (vI x.Id), sl .v (x.Values.map cInt)]))) (rsI q)])] (resRV []) := by
 refine acall_of (rs := []) Tryz.func113 rfl (nl rfl) (nl rfl) ?_
 intro g_ h0 w0 Fz0 hcp_
 have hzl : zs.length = P.length + (A.length + (B.length + R.length)) := by rw [hz]; simp only [List.length_append]
 refine zk8 ?_
 refine zil ?_
 refine rA ?_ (x := B_eql)
 refine sc (fun hba => ?_) (fun hba => ?_)
 have hA1 : A.length = 1 := by omega
 have hA0 : A = [A[0]] := one_eq hA1 hA
 refine zkg ?_
 refine zah ?_
 refine rS ?_
 refine sS [0, 1, 2, 3, 4, 10, 5000, 5001] [0] ?_
 refine rM ?_
 refine zk7 ?_
 refine sP [0, 1, 2, 3, 4, 10, 11, 5000, 5001] [0] ?_
 refine sL [0, 1, 2, 3, 4, 5000, 5001] [0] (fun v : Nat × Nat => v.1 ≤ v.2 ∧ v.2 ≤ B.length ∧ (∀ (t_ : Nat) (z_ : NRow), t_ < v.1 → B[t_]? = some z_ → ltC q z_ A[0] = true) ∧ (∀ (t_ : Nat) (z_ : NRow), v.2 ≤ t_ → B[t_]? = some z_ → ltC q z_ A[0] = false)) (fun v : Nat × Nat => [(10, RV.int ((P.length + A.length + v.1 : Nat) : Int)), (11, RV.int ((P.length + A.length + v.2 : Nat) : Int))]) (fun v : Nat × Nat => []) (fun v : Nat × Nat => v.2 - v.1) (0, B.length) (by exact ⟨Nat.zero_le _, Nat.le_refl _, fun t z h => absurd h (Nat.not_lt_zero _), fun t z h h2 => absurd (List.getElem?_eq_some_iff.1 h2).1 (Nat.not_lt.2 h)⟩) (by exact aI (by exact int_eq (by dsimp only; omega)) (aI (by exact int_eq (by dsimp only; omega)) (tI))) (by exact ⟨⟩) ?_
 rintro ⟨x, y⟩ ⟨hxy, hyB, hx1, hx2⟩
 dsimp only at hxy hyB hx1 hx2
 have e1 : (x, y).1 = x := rfl
 have e2 : (x, y).2 = y := rfl
 obtain ⟨H, hH⟩ : ∃ H, H = (x + y) / 2 := ⟨_, rfl⟩
 refine zfo ?_
 refine sc (fun hbb => ?_) (fun hbb => ?_)
 have hHB : H < B.length := by omega
 have hbd1_ : P.length + A.length + H < zs.length := by omega
 have hbd2_ : P.length + 0 < zs.length := by omega
 refine zk9 ?_
 refine zka ?_
 refine rM ?_
 refine zkf ?_
 refine zkh ?_
 refine za2 ?_
 refine sP [0, 1, 2, 3, 4, 10, 11, 12, 5000, 5001] [0] ?_
 refine zki ?_
 refine zij ?_
 refine dA 6 ?_ (x := loc_gidx (k := (P.length + A.length + H)) (G := 5001) (by decide) sl_36 (by exact ⟨⟩) (by omega) (by omega))
 refine dA 14 ?_ (x := loc_aget (f := nRow) (e := 2) (k := (P.length + A.length + H)) (fun _ => rfl) rfl hbd1_ ty_63 (fun h => nomatch h) bor_nRow)
 refine zij ?_
 refine dA 96 ?_ (x := loc_gidx (k := (P.length + 0)) (G := 5001) (by decide) sl_36 (by exact ⟨⟩) (by omega) (by omega))
 refine dA 224 ?_ (x := loc_aget (f := nRow) (e := 2) (k := (P.length + 0)) (fun _ => rfl) rfl hbd2_ ty_63 (fun h => nomatch h) bor_nRow)
 refine dA 511 ?_ (x := loc_callp (zs[(P.length + A.length + H)].1, zs[(P.length + 0)].1) (qs := [(true, [nv _ (val _), nv _ (sl _ _)]), (true, [nv _ (val _), nv _ (sl _ _)])]) (r := RV.sv false [val _]) (by decide) (by exact (aI (by exact ⟨⟩) (aI (by exact ⟨⟩) tI))) (by exact (aI (aI rfl (ToL.cons (PV.nv_to (PV.To.refl _)) (ToL.cons (PV.nv_to (PV.to_map (fun _ => (ToL.cons (PV.To.refl _) ToL.nil)))) ToL.nil))) (aI (aI rfl (ToL.cons (PV.nv_to (PV.To.refl _)) (ToL.cons (PV.nv_to (PV.to_map (fun _ => (ToL.cons (PV.To.refl _) ToL.nil)))) ToL.nil))) tI))) (by exact rfl))
 refine dA 1023 ?_ (x := B_lss)
 refine sc (fun hbc => ?_) (fun hbc => ?_)
 obtain ⟨v2, hv2⟩ : ∃ v2 : Nat × Nat, v2 = (H + 1, y) := ⟨_, rfl⟩
 have hq1 : v2.1 = H + 1 := by rw [hv2]
 have hq2 : v2.2 = y := by rw [hv2]
 have hm2 : v2.2 - v2.1 < (x, y).2 - (x, y).1 := by rw [hq1, hq2]; dsimp only; omega
 have hlt : ltC q B[H] A[0] = true := ltC_yes (by have hh := hbc; rw [at_B hHB hz, at_A hA hz] at hh; omega)
 have hI : v2.1 ≤ v2.2 ∧ v2.2 ≤ B.length ∧ (∀ (t_ : Nat) (z_ : NRow), t_ < v2.1 → B[t_]? = some z_ → ltC q z_ A[0] = true) ∧ (∀ (t_ : Nat) (z_ : NRow), v2.2 ≤ t_ → B[t_]? = some z_ → ltC q z_ A[0] = false) := by rw [hq1, hq2]; exact ⟨by omega, hyB, fun t_ z_ ht hzz => below_all ho hSB (List.getElem?_eq_getElem hHB) hlt t_ z_ (by omega) hzz, hx2⟩
 refine sG [0, 1, 2, 3, 4, 10, 11, 12, 5000, 5001] [0] ?_
 exact zkj
 obtain ⟨v2, hv2⟩ : ∃ v2 : Nat × Nat, v2 = (x, H) := ⟨_, rfl⟩
 have hq1 : v2.1 = x := by rw [hv2]
 have hq2 : v2.2 = H := by rw [hv2]
 have hm2 : v2.2 - v2.1 < (x, y).2 - (x, y).1 := by rw [hq1, hq2]; dsimp only; omega
 have hlt : ltC q B[H] A[0] = false := ltC_no (by have hh := hbc; rw [at_B hHB hz, at_A hA hz] at hh; omega)
 have hI : v2.1 ≤ v2.2 ∧ v2.2 ≤ B.length ∧ (∀ (t_ : Nat) (z_ : NRow), t_ < v2.1 → B[t_]? = some z_ → ltC q z_ A[0] = true) ∧ (∀ (t_ : Nat) (z_ : NRow), v2.2 ≤ t_ → B[t_]? = some z_ → ltC q z_ A[0] = false) := by rw [hq1, hq2]; exact ⟨by omega, by omega, hx1, fun t_ z_ ht hzz => above_none ho hSB (List.getElem?_eq_getElem hHB) hlt t_ z_ ht hzz⟩
 refine sG [0, 1, 2, 3, 4, 10, 11, 12, 5000, 5001] [0] ?_
 refine rM ?_
 exact zkk
 have hxe : x = y := by omega
 have hx2 : ∀ (t_ : Nat) (z_ : NRow), x ≤ t_ → B[t_]? = some z_ → ltC q z_ A[0] = false := fun t_ z_ h => hx2 t_ z_ (by omega)
 refine zay ?_
 refine sw_seq ?_
 refine zka ?_
 refine rM ?_
 refine zbb ?_
 refine sP [0, 1, 2, 3, 4, 10, 11, 13, 5000, 5001] [0] ?_
 refine sL [0, 1, 2, 3, 4, 10, 11, 5000, 5001] [] (fun j : Nat => j ≤ x) (fun j : Nat => [(13, RV.int ((P.length + j : Nat) : Int))]) (fun j : Nat => [(0, (63, arr nRow (cN P B A[0] R j) jk))]) (fun j : Nat => x - j) 0 (by omega) (by exact aI (by exact int_eq (by omega)) (tI)) (by exact aI (by exact congrArg (fun z_ => some (63, arr nRow z_ jk)) (hz.trans (cN_one hA0))) (tI)) ?_
 rintro j hj
 refine zk8 ?_
 refine zil ?_
 refine rA ?_ (x := B_lss)
 refine sc (fun hbc => ?_) (fun hbc => ?_)
 have hjx : j < x := by omega
 have hjB : j < B.length := by omega
 have hcl : (cN P B A[0] R j).length = zs.length := by rw [cN_len (by omega), hz]; simp only [List.length_append]; omega
 have hbd3_ : P.length + j < (cN P B A[0] R j).length := by omega
 have hbd4_ : P.length + j + 1 < (cN P B A[0] R j).length := by omega
 refine za6 ?_
 refine sO [(0, _), (1, _), (2, _), (3, _), (4, _), (10, _), (11, _), (13, _), (5000, _), (5001, _)] [(0, (63, arr nRow _ _))] ?_
 refine sw_draw hm_ ?_
 refine zij ?_
 refine zij ?_
 refine dA 8 ?_ (x := B_add)
 refine zij ?_
 refine dA 64 ?_ (x := B_add)
 refine dA 224 ?_ (x := loc_gidx (k := (P.length + j + 1)) (G := 5001) (by decide) sl_36 (by exact ⟨⟩) (by omega) (by omega))
 refine dA 480 ?_ (x := loc_aget (f := nRow) (e := 2) (k := (P.length + j + 1)) (fun _ => rfl) rfl hbd4_ ty_63 (fun h => nomatch h) bor_nRow)
 refine zkl ?_
 refine zk3 ?_
 refine dA 65535 ?_ (x := loc_gidx (k := (P.length + j + 1)) (G := 5001) (by decide) sl_36 (by exact ⟨⟩) (by omega) (by omega))
 refine dA 131071 ?_ (x := loc_astore (f := nRow) (e := 2) (k := (P.length + j + 1)) (ag := true) (vs := nRow _) _ (fun _ => rfl) rfl (by first | omega | (simp only [List.length_set]; omega)) ty_63 (by exact ⟨⟩) (by exact rfl))
 refine sG [0, 1, 2, 3, 4, 10, 11, 13, 5000, 5001] [0] ?_
 refine za8 ?_
 refine nx (j + 1) (by omega) (e := (by exact aI (by exact int_eq (by omega)) (tI))) (f := (by exact aI (by exact congrArg (fun z_ => some (63, arr nRow z_ jk)) (cN_up hjB)) (tI)))
 have hje : j = x := by omega
 refine sw_exit ?_
 refine sw_ret ?_
 exact ⟨(by exact congrArg (fun z_ => some (63, arr nRow z_ jk)) (by rw [hje]; exact cN_merge1 ho hA0 hx1 hx2)), rfl, tI⟩
 have hA1 : 1 < A.length := by omega
 refine zaj ?_
 refine zkg ?_
 refine sw_reg ?_
 refine zil ?_
 refine rA ?_ (x := B_eql)
 refine sc (fun hbb => ?_) (fun hbb => ?_)
 have hB1 : B.length = 1 := by omega
 have hB0 : B = [B[0]] := one_eq hB1 hB
 refine sS [0, 1, 2, 3, 4, 5000, 5001] [0] ?_
 refine zb8 ?_
 refine sS [0, 1, 2, 3, 4, 14, 5000, 5001] [0] ?_
 refine rM ?_
 refine zk7 ?_
 refine sP [0, 1, 2, 3, 4, 14, 15, 5000, 5001] [0] ?_
 refine sL [0, 1, 2, 3, 4, 5000, 5001] [0] (fun v : Nat × Nat => v.1 ≤ v.2 ∧ v.2 ≤ A.length ∧ (∀ (t_ : Nat) (z_ : NRow), t_ < v.1 → A[t_]? = some z_ → ltC q B[0] z_ = false) ∧ (∀ (t_ : Nat) (z_ : NRow), v.2 ≤ t_ → A[t_]? = some z_ → ltC q B[0] z_ = true)) (fun v : Nat × Nat => [(14, RV.int ((P.length + v.1 : Nat) : Int)), (15, RV.int ((P.length + v.2 : Nat) : Int))]) (fun v : Nat × Nat => []) (fun v : Nat × Nat => v.2 - v.1) (0, A.length) (by exact ⟨Nat.zero_le _, Nat.le_refl _, fun t z h => absurd h (Nat.not_lt_zero _), fun t z h h2 => absurd (List.getElem?_eq_some_iff.1 h2).1 (Nat.not_lt.2 h)⟩) (by exact aI (by exact int_eq (by dsimp only; omega)) (aI (by exact int_eq (by dsimp only; omega)) (tI))) (by exact ⟨⟩) ?_
 rintro ⟨x, y⟩ ⟨hxy, hyB, hx1, hx2⟩
 dsimp only at hxy hyB hx1 hx2
 have e1 : (x, y).1 = x := rfl
 have e2 : (x, y).2 = y := rfl
 obtain ⟨H, hH⟩ : ∃ H, H = (x + y) / 2 := ⟨_, rfl⟩
 refine zfo ?_
 refine sc (fun hbc => ?_) (fun hbc => ?_)
 have hHA : H < A.length := by omega
 have hbd5_ : P.length + A.length + 0 < zs.length := by omega
 have hbd6_ : P.length + H < zs.length := by omega
 refine sw_skip ?_
 refine sw_block ?_
 refine zkm ?_
 refine zah ?_
 refine zkf ?_
 refine zkh ?_
 refine za2 ?_
 refine sP [0, 1, 2, 3, 4, 14, 15, 16, 5000, 5001] [0] ?_
 refine zki ?_
 refine zij ?_
 refine dA 6 ?_ (x := loc_gidx (k := (P.length + A.length + 0)) (G := 5001) (by decide) sl_36 (by exact ⟨⟩) (by omega) (by omega))
 refine dA 14 ?_ (x := loc_aget (f := nRow) (e := 2) (k := (P.length + A.length + 0)) (fun _ => rfl) rfl hbd5_ ty_63 (fun h => nomatch h) bor_nRow)
 refine zij ?_
 refine dA 96 ?_ (x := loc_gidx (k := (P.length + H)) (G := 5001) (by decide) sl_36 (by exact ⟨⟩) (by omega) (by omega))
 refine dA 224 ?_ (x := loc_aget (f := nRow) (e := 2) (k := (P.length + H)) (fun _ => rfl) rfl hbd6_ ty_63 (fun h => nomatch h) bor_nRow)
 refine dA 511 ?_ (x := loc_callp (zs[(P.length + A.length + 0)].1, zs[(P.length + H)].1) (qs := [(true, [nv _ (val _), nv _ (sl _ _)]), (true, [nv _ (val _), nv _ (sl _ _)])]) (r := RV.sv false [val _]) (by decide) (by exact (aI (by exact ⟨⟩) (aI (by exact ⟨⟩) tI))) (by exact (aI (aI rfl (ToL.cons (PV.nv_to (PV.To.refl _)) (ToL.cons (PV.nv_to (PV.to_map (fun _ => (ToL.cons (PV.To.refl _) ToL.nil)))) ToL.nil))) (aI (aI rfl (ToL.cons (PV.nv_to (PV.To.refl _)) (ToL.cons (PV.nv_to (PV.to_map (fun _ => (ToL.cons (PV.To.refl _) ToL.nil)))) ToL.nil))) tI))) (by exact rfl))
 refine dA 1023 ?_ (x := B_lss)
 refine dA 2047 ?_ (x := nT)
 refine sc (fun hbd => ?_) (fun hbd => ?_)
 obtain ⟨v2, hv2⟩ : ∃ v2 : Nat × Nat, v2 = (H + 1, y) := ⟨_, rfl⟩
 have hq1 : v2.1 = H + 1 := by rw [hv2]
 have hq2 : v2.2 = y := by rw [hv2]
 have hm2 : v2.2 - v2.1 < (x, y).2 - (x, y).1 := by rw [hq1, hq2]; dsimp only; omega
 have hlt : ltC q B[0] A[H] = false := ltC_no (by have hh := hbd; rw [at_B hB hz, at_A hHA hz] at hh; omega)
 have hI : v2.1 ≤ v2.2 ∧ v2.2 ≤ A.length ∧ (∀ (t_ : Nat) (z_ : NRow), t_ < v2.1 → A[t_]? = some z_ → ltC q B[0] z_ = false) ∧ (∀ (t_ : Nat) (z_ : NRow), v2.2 ≤ t_ → A[t_]? = some z_ → ltC q B[0] z_ = true) := by rw [hq1, hq2]; exact ⟨by omega, hyB, fun t_ z_ ht hzz => left_none ho hSA (List.getElem?_eq_getElem hHA) hlt t_ z_ (by omega) hzz, hx2⟩
 refine sG [0, 1, 2, 3, 4, 14, 15, 16, 5000, 5001] [0] ?_
 exact zkj
 obtain ⟨v2, hv2⟩ : ∃ v2 : Nat × Nat, v2 = (x, H) := ⟨_, rfl⟩
 have hq1 : v2.1 = x := by rw [hv2]
 have hq2 : v2.2 = H := by rw [hv2]
 have hm2 : v2.2 - v2.1 < (x, y).2 - (x, y).1 := by rw [hq1, hq2]; dsimp only; omega
 have hlt : ltC q B[0] A[H] = true := ltC_yes (by have hh := hbd; rw [at_B hB hz, at_A hHA hz] at hh; omega)
 have hI : v2.1 ≤ v2.2 ∧ v2.2 ≤ A.length ∧ (∀ (t_ : Nat) (z_ : NRow), t_ < v2.1 → A[t_]? = some z_ → ltC q B[0] z_ = false) ∧ (∀ (t_ : Nat) (z_ : NRow), v2.2 ≤ t_ → A[t_]? = some z_ → ltC q B[0] z_ = true) := by rw [hq1, hq2]; exact ⟨by omega, by omega, hx1, fun t_ z_ ht hzz => right_all ho hSA (List.getElem?_eq_getElem hHA) hlt t_ z_ ht hzz⟩
 refine sG [0, 1, 2, 3, 4, 14, 15, 16, 5000, 5001] [0] ?_
 refine rM ?_
 exact zkk
 have hxe : x = y := by omega
 have hx2 : ∀ (t_ : Nat) (z_ : NRow), x ≤ t_ → A[t_]? = some z_ → ltC q B[0] z_ = true := fun t_ z_ h => hx2 t_ z_ (by omega)
 refine zay ?_
 refine zkm ?_
 refine zah ?_
 refine zbb ?_
 refine sP [0, 1, 2, 3, 4, 14, 15, 17, 5000, 5001] [0] ?_
 refine sL [0, 1, 2, 3, 4, 14, 15, 5000, 5001] [] (fun j : Nat => x ≤ j ∧ j ≤ A.length) (fun j : Nat => [(17, RV.int ((P.length + j : Nat) : Int))]) (fun j : Nat => [(0, (63, arr nRow (cN P A B[0] R j) jk))]) (fun j : Nat => j) A.length (by omega) (by exact aI (by exact int_eq (by omega)) (tI)) (by exact aI (by exact congrArg (fun z_ => some (63, arr nRow z_ jk)) (hz.trans (cN_last hB0))) (tI)) ?_
 rintro j ⟨hj, hjA⟩
 refine zk8 ?_
 refine zkb ?_
 refine sc (fun hbd => ?_) (fun hbd => ?_)
 have hjx : x < j := by omega
 have hj1 : 1 ≤ j := by omega
 have hcl : (cN P A B[0] R j).length = zs.length := by rw [cN_len (by omega), hz]; simp only [List.length_append]; omega
 have hbd3_ : P.length + j < (cN P A B[0] R j).length := by omega
 have hbd4_ : P.length + j - 1 < (cN P A B[0] R j).length := by omega
 refine za6 ?_
 refine sO [(0, _), (1, _), (2, _), (3, _), (4, _), (14, _), (15, _), (17, _), (5000, _), (5001, _)] [(0, (63, arr nRow _ _))] ?_
 refine sw_draw hm_ ?_
 refine zij ?_
 refine zij ?_
 refine dA 8 ?_ (x := B_sub)
 refine zij ?_
 refine zk1 ?_
 refine dA 480 ?_ (x := loc_aget (f := nRow) (e := 2) (k := (P.length + j - 1)) (fun _ => rfl) rfl hbd4_ ty_63 (fun h => nomatch h) bor_nRow)
 refine zkl ?_
 refine zk3 ?_
 refine zk4 ?_
 refine sG [0, 1, 2, 3, 4, 14, 15, 17, 5000, 5001] [0] ?_
 refine zbf ?_
 refine nx (j - 1) (by omega) (e := (by exact aI (by exact int_eq (by omega)) (tI))) (f := (by exact aI (by exact congrArg (fun z_ => some (63, arr nRow z_ jk)) (cN_swap hj1 hjA)) (tI)))
 have hje : j = x := by omega
 refine sw_exit ?_
 refine sw_ret ?_
 exact ⟨(by exact congrArg (fun z_ => some (63, arr nRow z_ jk)) (by rw [hje]; exact cN_merge2 ho hB0 hx1 hx2)), rfl, tI⟩
 have hB1 : 1 < B.length := by omega
 obtain ⟨M, hM⟩ : ∃ M, M = (A.length + B.length) / 2 := ⟨_, rfl⟩
 refine sw_skip ?_
 refine sS [0, 1, 2, 3, 4, 5000, 5001] [0] ?_
 refine rM ?_
 refine zkf ?_
 refine zkh ?_
 refine rS ?_
 refine sS [0, 1, 2, 3, 4, 18, 5000, 5001] [0] ?_
 refine rM ?_
 refine za8 ?_
 refine sS [0, 1, 2, 3, 4, 18, 19, 5000, 5001] [0] ?_
 refine rK ?_
 refine zby ?_
 refine sS [0, 1, 2, 3, 4, 18, 19, 20, 21, 5000, 5001] [0] ?_
 refine zkb ?_
 refine sc (fun hbc => ?_) (fun hbc => ?_)
 obtain ⟨lo, hi2, hlo, hhi, hc4⟩ : ∃ lo hi2 : Nat, lo = M - B.length ∧ hi2 = M ∧ ((M < A.length ∧ lo = M - B.length ∧ hi2 = M ∧ B.length ≤ M) ∨ (A.length ≤ M ∧ lo = 0 ∧ hi2 = A.length)) := ⟨_, _, rfl, rfl, .inl ⟨by omega, rfl, rfl, by omega⟩⟩
 refine sS [0, 1, 2, 3, 4, 18, 19, 20, 21, 5000, 5001] [0] ?_
 refine zil ?_
 exact zkn
 obtain ⟨lo, hi2, hlo, hhi, hc4⟩ : ∃ lo hi2 : Nat, lo = 0 ∧ hi2 = A.length ∧ ((M < A.length ∧ lo = M - B.length ∧ hi2 = M ∧ B.length ≤ M) ∨ (A.length ≤ M ∧ lo = 0 ∧ hi2 = A.length)) := ⟨_, _, rfl, rfl, .inr ⟨by omega, rfl, rfl⟩⟩
 refine sS [0, 1, 2, 3, 4, 18, 19, 20, 21, 5000, 5001] [0] ?_
 refine rM ?_
 exact zkn
theorem sym_Row {m cp : Nat} {jk : List Value} : ∀ (N_ : Nat) {zs : List NRow} {q : Row × Row → Int} {P A B R : List NRow} {a c b_ : Int} (hm : m = zs.length) (hz : zs = P ++ (A ++ (B ++ R))) (ha : a = (P.length : Int)) (hc : c = (P.length + A.length : Nat)) (hb : b_ = (P.length + A.length + B.length : Nat)) (hA : 0 < A.length) (hB : 0 < B.length) (hSA : sortedL (ltC q) A) (hSB : sortedL (ltC q) B) (ho : Ord (ltC q)) (hn : zs.length ≤ 4398046511104) (hN : A.length + B.length ≤ N_), ACall Tryz.prog 113 63 m cp (arr nRow zs jk) (arr nRow (P ++ (mergeL (ltC q) A B ++ R)) jk) [(false, [val (vI a)]), (false, [val (vI c)]), (false, [val (vI b_)]), (false, [PV.clo Tryz.prog (as2 (fun x : Row => (true, [val (vI x.Id), sl .v (x.Values.map cInt)]))) (rsI q)])] (resRV [])
 | 0, _, _, _, _, _, _, _, _, _, _, _, _, _, _, hA, _, _, _, _, _, hN => by omega
 | N_ + 1, zs, q, P, A, B, R, a, c, b_, hm, hz, ha, hc, hb, hA, hB, hSA, hSB, ho, hn, hN => symS_Row hm hz ha hc hb hA hB hSA hSB ho hn fun h1 h2 h3 h4 h5 h6 h7 h8 h9 h10 h11 => sym_Row N_ h1 h2 h3 h4 h5 h6 h7 h8 h9 ho h11 (by omega)
end Go.Proofs.YtmkhofdkdklpdaaGreat
