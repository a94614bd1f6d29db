/- What functions of the program compute. No condition. -/
import Derived.Test.YtmkhofdkdklpdaaGreatCZMFnClusters
import Derived.Test.YtmkhofdkdklpdaaGreatCFcFnClusters
import Derived.Test.YtmkhofdkdklpdaaGreatCSyRFnClusters
import Derived.KernelRfl
set_option linter.unusedVariables false
set_option linter.unusedSimpArgs false
namespace Go.Proofs.YtmkhofdkdklpdaaGreat
open Go Go.RowKit M PV
set_option maxRecDepth 10000
attribute [local irreducible] PV.Lcl PV.LclR RV.Lcl
set_option maxHeartbeats 8000000
theorem stb_Row {m cp : Nat} {jk : List Value} {zs : List NRow} {q : Row × Row → Int} {c : Int}  (hm : m = (zs).length) (hc : c = (zs.length : Int)) (ho : Ord (ltC q)) (hi : ∀ x, ltC q x x = false) (hn : zs.length ≤ 4398046511104) : ACall Tryz.prog 97 63 m cp (arr nRow zs jk) (arr nRow (isort (ltC q) zs) jk) [(false, [val (vI c)]), (false, [PV.clo Tryz.prog (as2 (fun x : Row => (true, [val (vI x.Id), sl .v (x.Values.map cInt)]))) (rsI q)])] (resRV []) := by
 refine acall_of (rs := []) Tryz.func97 rfl (nl rfl) (nl rfl) ?_
 intro g_ h0 w0 Fz0 hcp_
 refine zab ?_
 refine zko ?_
 refine rK ?_
 refine zk7 ?_
 refine sP [0, 1, 2, 6, 7, 8, 5000, 5001] [0] ?_
 refine sL [0, 1, 2, 6, 5000, 5001] [] (fun t : Nat => 20 * t ≤ zs.length) (fun t : Nat => [(7, RV.int ((20 * t : Nat) : Int)), (8, RV.int ((20 * t + 20 : Nat) : Int))]) (fun t : Nat => [(0, (63, arr nRow (chunks (ltC q) 20 t zs ++ zs.drop (20 * t)) jk))]) (fun t : Nat => zs.length - 20 * t) 0 (by omega) (by exact aI (by exact rfl) (aI (by exact rfl) (tI))) (by exact aI (by exact congrArg (fun z_ => some (63, arr nRow z_ jk)) (by simp [chunks])) (tI)) ?_
 rintro t ht
 have hc20 : (chunks (ltC q) 20 t zs).length = 20 * t := chunks_len (by omega)
 have hcl : (chunks (ltC q) 20 t zs ++ zs.drop (20 * t)).length = zs.length := by rw [List.length_append, hc20, List.length_drop]; omega
 have hd20 : (zs.drop (20 * t)).length = zs.length - 20 * t := List.length_drop
 refine zk8 ?_
 refine zbp ?_
 refine rA ?_ (x := B_leq)
 refine sc (fun hba => ?_) (fun hba => ?_)
 have hS : ((zs.drop (20 * t)).take 20).length = 20 := by rw [List.length_take]; omega
 refine zk9 ?_
 refine zkp ?_
 refine rA ?_ (x := vM false [val _])
 refine rM ?_
 refine zkd ?_
 refine rA ?_ (x := loc_acall0 (bx := 0) (G := 5001) (qs := [(false, [val _]), (false, [val _]), (false, [PV.clo _ _ _])]) (as_ := [(false, [val _]), (false, [val _]), (false, [PV.clo _ _ _])]) (by decide) c_112 rfl (by exact (aI (by exact ⟨⟩) (aI (by exact ⟨⟩) (aI (by exact ⟨⟩) tI)))) (by exact (aI (aI rfl (ToL.cons (PV.To.refl _) ToL.nil)) (aI (aI rfl (ToL.cons (PV.To.refl _) ToL.nil)) (aI (aI rfl (ToL.cons (PV.To.refl _) ToL.nil)) tI)))) (bor_arr bor_nRow _ _) (by exact (borA_cons (BorL.cons (bor_val _) BorL.nil) (borA_cons (BorL.cons (bor_val _) BorL.nil) (borA_cons (BorL.cons (bor_clo _ _) BorL.nil) borA_nil)))) (by exact (ins_Row (P := chunks (ltC q) 20 t zs) (S := (zs.drop (20 * t)).take 20) (R := zs.drop (20 * (t + 1))) (hm.trans hcl.symm) fst_at (by omega) (by omega) ho hi (Nat.le_trans (Nat.le_of_eq hcl) hn))))
 refine sS [0, 1, 2, 6, 7, 8, 5000, 5001] [0] ?_
 refine zb8 ?_
 refine sG [0, 1, 2, 6, 7, 8, 5000, 5001] [0] ?_
 refine rM ?_
 refine za8 ?_
 refine nx (t + 1) (by omega) (e := (by exact aI (by exact int_eq (by omega)) (aI (by exact int_eq (by omega)) (tI)))) (f := (by exact aI (by exact congrArg (fun z_ => some (63, arr nRow z_ jk)) (fst_next)) (tI)))
 have hend : zs.length < 20 * t + 20 := by omega
 refine zay ?_
 refine zkp ?_
 refine rA ?_ (x := vM false [val _])
 refine rM ?_
 refine zkd ?_
 refine rA ?_ (x := loc_acall0 (bx := 0) (G := 5001) (qs := [(false, [val _]), (false, [val _]), (false, [PV.clo _ _ _])]) (as_ := [(false, [val _]), (false, [val _]), (false, [PV.clo _ _ _])]) (by decide) c_112 rfl (by exact (aI (by exact ⟨⟩) (aI (by exact ⟨⟩) (aI (by exact ⟨⟩) tI)))) (by exact (aI (aI rfl (ToL.cons (PV.To.refl _) ToL.nil)) (aI (aI rfl (ToL.cons (PV.To.refl _) ToL.nil)) (aI (aI rfl (ToL.cons (PV.To.refl _) ToL.nil)) tI)))) (bor_arr bor_nRow _ _) (by exact (borA_cons (BorL.cons (bor_val _) BorL.nil) (borA_cons (BorL.cons (bor_val _) BorL.nil) (borA_cons (BorL.cons (bor_clo _ _) BorL.nil) borA_nil)))) (by exact (ins_Row (P := chunks (ltC q) 20 t zs) (S := zs.drop (20 * t)) (R := []) (hm.trans hcl.symm) (by rw [List.append_nil]) (by omega) (by omega) ho hi (Nat.le_trans (Nat.le_of_eq hcl) hn))))
 refine sw_block ?_
 refine sP [0, 1, 2, 6, 7, 8, 5000, 5001] [0] ?_
 refine sL [0, 1, 2, 5000, 5001] [] (fun s : Nat => 1 ≤ s) (fun s : Nat => [(6, RV.int (s : Int))]) (fun s : Nat => [(0, (63, arr nRow (full (ltC q) s zs) jk))]) (fun s : Nat => zs.length - s) 20 (by omega) (by exact aI (by exact rfl) (tI)) (by exact aI (by exact congrArg (fun z_ => some (63, arr nRow z_ jk)) (fst_end (by decide) ht hend)) (tI)) ?_
 rintro s hs
 refine zfo ?_
 refine sc (fun hbb => ?_) (fun hbb => ?_)
 have hsn : s < zs.length := by omega
 refine zk9 ?_
 refine zko ?_
 refine rA ?_ (x := loc_mul (by decide) (ok_sc rfl) (by exact ⟨⟩) (by unfold I64; omega))
 refine rK ?_
 refine zk7 ?_
 refine sP [0, 1, 2, 6, 7, 8, 5000, 5001] [0] ?_
 refine sL [0, 1, 2, 6, 5000, 5001] [] (fun v : Nat × Nat => v.2 = 2 * s * v.1 ∧ v.2 ≤ zs.length) (fun v : Nat × Nat => [(7, RV.int ((v.2 : Nat) : Int)), (8, RV.int ((v.2 + 2 * s : Nat) : Int))]) (fun v : Nat × Nat => [(0, (63, arr nRow (stp (ltC q) s v.1 v.2 zs) jk))]) (fun v : Nat × Nat => zs.length - v.2) (0, 0) (by exact ⟨rfl, Nat.zero_le _⟩) (by exact aI (by exact rfl) (aI (by exact int_eq (by first | (dsimp only; done) | (dsimp only; omega))) (tI))) (by exact aI (by exact congrArg (fun z_ => some (63, arr nRow z_ jk)) (stp_zero)) (tI)) ?_
 rintro ⟨t, u⟩ ⟨hu, hul⟩
 dsimp only at hu hul
 have e1 : (t, u).1 = t := rfl
 have e2 : (t, u).2 = u := rfl
 have hcl2 : (stp (ltC q) s t u zs).length = zs.length := stp_len hu hul
 have hc2 : (chunks (ltC q) (2 * s) t zs).length = u := (chunks_len (by omega)).trans hu.symm
 have hl1 : (isort (ltC q) ((zs.drop u).take s)).length = min s (zs.length - u) := by rw [isort_len, List.length_take, List.length_drop]
 have hl2 : (isort (ltC q) (((zs.drop u).drop s).take s)).length = min s (zs.length - u - s) := by rw [isort_len, List.length_take, List.length_drop, List.length_drop]
 have hl3 : (isort (ltC q) ((zs.drop u).drop s)).length = zs.length - u - s := by rw [isort_len, List.length_drop, List.length_drop]
 refine zk8 ?_
 refine zbp ?_
 refine rA ?_ (x := B_leq)
 refine sc (fun hbc => ?_) (fun hbc => ?_)
 have hbe2_ : u + 2 * s ≤ zs.length := by omega
 refine zk9 ?_
 refine zkp ?_
 refine zkc ?_
 refine zkf ?_
 refine zkd ?_
 refine rA ?_ (x := loc_acall0 (bx := 0) (G := 5001) (qs := [(false, [val _]), (false, [val _]), (false, [val _]), (false, [PV.clo _ _ _])]) (as_ := [(false, [val _]), (false, [val _]), (false, [val _]), (false, [PV.clo _ _ _])]) (by decide) c_113 rfl (by exact (aI (by exact ⟨⟩) (aI (by exact ⟨⟩) (aI (by exact ⟨⟩) (aI (by exact ⟨⟩) tI))))) (by exact (aI (aI rfl (ToL.cons (PV.To.refl _) ToL.nil)) (aI (aI rfl (ToL.cons (PV.To.refl _) ToL.nil)) (aI (aI rfl (ToL.cons (PV.To.refl _) ToL.nil)) (aI (aI rfl (ToL.cons (PV.To.refl _) ToL.nil)) tI))))) (bor_arr bor_nRow _ _) (by exact (borA_cons (BorL.cons (bor_val _) BorL.nil) (borA_cons (BorL.cons (bor_val _) BorL.nil) (borA_cons (BorL.cons (bor_val _) BorL.nil) (borA_cons (BorL.cons (bor_clo _ _) BorL.nil) borA_nil))))) (by exact (sym_Row _ (P := chunks (ltC q) (2 * s) t zs) (A := isort (ltC q) ((zs.drop u).take s)) (B := isort (ltC q) (((zs.drop u).drop s).take s)) (R := full (ltC q) s (zs.drop (u + 2 * s))) (hm.trans hcl2.symm) (stp_at ho hs hbe2_) (by omega) (by omega) (by omega) (by omega) (by omega) (sorted_isort ho hi _) (sorted_isort ho hi _) ho (Nat.le_trans (Nat.le_of_eq hcl2) hn) (Nat.le_refl _))))
 refine sS [0, 1, 2, 6, 7, 8, 5000, 5001] [0] ?_
 refine zb8 ?_
 refine sG [0, 1, 2, 6, 7, 8, 5000, 5001] [0] ?_
 refine zbp ?_
 refine rA ?_ (x := loc_mul (by decide) (ok_sc rfl) (by exact ⟨⟩) (by unfold I64; omega))
 refine rA ?_ (x := B_add)
 refine rS ?_
 refine nx (t + 1, u + 2 * s) (by exact ⟨by dsimp only; rw [hu, Nat.mul_add, Nat.mul_one], hbe2_⟩) (e := (by exact aI (by exact int_eq (by first | (dsimp only; done) | (dsimp only; omega))) (aI (by exact int_eq (by first | (dsimp only; done) | (dsimp only; omega))) (tI)))) (f := (by exact aI (by exact congrArg (fun z_ => some (63, arr nRow z_ jk)) (stp_next ho hs hu hbe2_)) (tI)))
 have hbe4_ : zs.length < u + 2 * s := by omega
 refine zay ?_
 refine sw_seq ?_
 refine zkp ?_
 refine rM ?_
 refine za8 ?_
 refine sS [0, 1, 2, 6, 7, 8, 9, 5000, 5001] [0] ?_
 refine zkq ?_
 refine sc (fun hbd => ?_) (fun hbd => ?_)
 have hbe3_ : u + s < zs.length := by omega
 refine sG [0, 1, 2, 6, 7, 8, 9, 5000, 5001] [0] ?_
 refine zkc ?_
 refine zkd ?_
 refine rA ?_ (x := loc_acall0 (bx := 0) (G := 5001) (qs := [(false, [val _]), (false, [val _]), (false, [val _]), (false, [PV.clo _ _ _])]) (as_ := [(false, [val _]), (false, [val _]), (false, [val _]), (false, [PV.clo _ _ _])]) (by decide) c_113 rfl (by exact (aI (by exact ⟨⟩) (aI (by exact ⟨⟩) (aI (by exact ⟨⟩) (aI (by exact ⟨⟩) tI))))) (by exact (aI (aI rfl (ToL.cons (PV.To.refl _) ToL.nil)) (aI (aI rfl (ToL.cons (PV.To.refl _) ToL.nil)) (aI (aI rfl (ToL.cons (PV.To.refl _) ToL.nil)) (aI (aI rfl (ToL.cons (PV.To.refl _) ToL.nil)) tI))))) (bor_arr bor_nRow _ _) (by exact (borA_cons (BorL.cons (bor_val _) BorL.nil) (borA_cons (BorL.cons (bor_val _) BorL.nil) (borA_cons (BorL.cons (bor_val _) BorL.nil) (borA_cons (BorL.cons (bor_clo _ _) BorL.nil) borA_nil))))) (by exact (sym_Row _ (P := chunks (ltC q) (2 * s) t zs) (A := isort (ltC q) ((zs.drop u).take s)) (B := isort (ltC q) ((zs.drop u).drop s)) (R := []) (hm.trans hcl2.symm) (stp_last ho hs hbe3_ hbe4_) (by omega) (by omega) (by omega) (by omega) (by omega) (sorted_isort ho hi _) (sorted_isort ho hi _) ho (Nat.le_trans (Nat.le_of_eq hcl2) hn) (Nat.le_refl _))))
 exact zkr
 have hbe5_ : zs.length ≤ u + s := by omega
 refine sw_skip ?_
 exact zkr
 have hend2 : zs.length ≤ s := by omega
 refine sw_exit ?_
 exact ⟨(by exact congrArg (fun z_ => some (63, arr nRow z_ jk)) (by exact full_le hs hend2)), rfl, tI⟩
theorem sst_Row {m cp : Nat} {jk : List Value} {zs : List NRow} {q : Row × Row → Int}  (hm : m = (zs).length) (ho : Ord (ltC q)) (hi : ∀ x, ltC q x x = false) (hn : zs.length ≤ 4398046511104) : ACall Tryz.prog 81 63 m cp (arr nRow zs jk) (arr nRow (isort (ltC q) zs) jk) [(false, [PV.clo Tryz.prog (as2 (fun x : Row => (true, [val (vI x.Id), sl .v (x.Values.map cInt)]))) (rsI q)])] (resRV []) := by
 refine acall_of (rs := []) Tryz.func81 rfl (nl rfl) (nl rfl) ?_
 intro g_ h0 w0 Fz0 hcp_
 refine sw_reg ?_
 refine rA ?_ (x := vM false [val _])
 refine rA ?_ (x := vM false [val _])
 refine rA ?_ (x := loc_glen (G := 5001) (by decide) sl_36)
 refine rA ?_ (x := loc_copy (r' := RV.sv false [PV.clo _ _ _]) (.inl rfl) (by decide) (by exact Cp.sv (ToL.cons (PV.To.refl _) ToL.nil) (BorL.cons (bor_clo _ _) BorL.nil)))
 refine rA ?_ (x := loc_acall0 (bx := 0) (G := 5001) (qs := [(false, [val _]), (false, [PV.clo _ _ _])]) (as_ := [(false, [val _]), (false, [PV.clo _ _ _])]) (by decide) c_97 rfl (by exact (aI (by exact ⟨⟩) (aI (by exact ⟨⟩) tI))) (by exact (aI (aI rfl (ToL.cons (PV.To.refl _) ToL.nil)) (aI (aI rfl (ToL.cons (PV.To.refl _) ToL.nil)) tI))) (bor_arr bor_nRow _ _) (by exact (borA_cons (BorL.cons (bor_val _) BorL.nil) (borA_cons (BorL.cons (bor_clo _ _) BorL.nil) borA_nil))) (by exact (stb_Row hm (by omega) ho hi hn)))
 exact zim
end Go.Proofs.YtmkhofdkdklpdaaGreat
