/- What functions of the program compute. No condition. -/
import Derived.Test.YtaomckpfgmhapaaCSyAFnTops
import Derived.KernelRfl
set_option linter.unusedVariables false
set_option linter.unusedSimpArgs false
namespace Go.Proofs.Ytaomckpfgmhapaa
open Go Go.RowKit M
set_option maxRecDepth 10000
attribute [local irreducible] PV.Lcl PV.LclR RV.Lcl
set_option maxHeartbeats 8000000
theorem FStA_c_65 : callI Try.prog 65 = true := by kernel_rfl
theorem FStA_c_72 : callI Try.prog 72 = true := by kernel_rfl
theorem FStA_c_73 : callI Try.prog 73 = true := by kernel_rfl
theorem FStA_sl_24 : sliceI Try.prog 24 = some (35, 3, 56) := by kernel_rfl
theorem stb_Annotated {m cp : Nat} {jk : List Value} {zs : List NAnnotated} {q : OkA × OkA → Int} {c : Int}  (hm : m = (zs).length) (hc : c = (zs.length : Int)) (ho : Ord (ltC q)) (hi : ∀ x, ltC q x x = false) (hn : zs.length ≤ 4398046511104) : ACall Try.prog 65 35 m cp (arr nAnnotated zs jk) (arr nAnnotated (isort (ltC q) zs) jk) [(false, [PV.val (vI c)]), (false, [PV.clo Try.prog (as2 (fun x : OkA => (true, [PV.val (vI x.1.Row.Id), PV.sl .v (x.1.Row.Values.map cInt), PV.sl .v (x.1.Set.map cInt)]))) (rsI q)])] (resRV []) := by
 refine acall_of (rs := []) Try.func65 rfl (Nat.le_of_ble_eq_true rfl) (Nat.le_of_ble_eq_true rfl) ?_
 intro g_ h0 w0 Fz0 hcp_
 refine sw_seq ?_
 refine sw_reg ?_
 refine rA ?_ (x := kA)
 refine sw_seq ?_
 refine sO [(0, _), (1, _), (2, _), (6, _), (5000, _), (5001, _)] [(0, (35, arr nAnnotated _ _))] ?_
 refine sw_reg ?_
 refine rA ?_ (x := sM)
 refine rA ?_ (x := kA)
 refine rA ?_ (x := sA)
 refine sw_seq ?_
 refine sw_block ?_
 refine sO [(0, _), (1, _), (2, _), (6, _), (7, _), (8, _), (5000, _), (5001, _)] [(0, _)] ?_
 refine sw_loop (l0 := [(0, RV.sv false [PV.val _]), (1, RV.sv false [PV.val _]), (2, RV.sv false [PV.clo _ _ _]), (6, RV.sv false [PV.val _]), (5000, RV.phi 0 _), (5001, RV.gat _ 0 _ _)]) (b0 := []) (fun t : Nat => 20 * t ≤ zs.length) (fun t : Nat => [(7, RV.int ((20 * t : Nat) : Int)), (8, RV.int ((20 * t + 20 : Nat) : Int))]) (fun t : Nat => [(0, (35, arr nAnnotated (chunks (ltC q) 20 t zs ++ zs.drop (20 * t)) jk))]) (fun t : Nat => zs.length - 20 * t) 0 (by omega) (by exact ⟨rfl, rfl, rfl, rfl, rfl, rfl, ⟨⟩⟩) (by exact ⟨⟩) (by exact And.intro (by exact rfl) (And.intro (by exact rfl) (True.intro))) (by exact And.intro (by exact congrArg (fun z_ => some (35, arr nAnnotated z_ jk)) (by simp [chunks])) (True.intro)) ?_
 rintro t ht
 have hc20 : (chunks (ltC q) 20 t zs).length = 20 * t := chunks_len (by omega)
 have hcl : (chunks (ltC q) 20 t zs ++ zs.drop (20 * t)).length = zs.length := by rw [List.length_append, hc20, List.length_drop]; omega
 have hd20 : (zs.drop (20 * t)).length = zs.length - 20 * t := List.length_drop
 refine sw_seq ?_
 refine sw_seq ?_
 refine sw_reg ?_
 refine rA ?_ (x := sM)
 refine rA ?_ (x := sM)
 refine rA ?_ (x := B_leq)
 refine sw_cond (t := 13) rfl (fun hb1 => ?_) (fun hb1 => ?_)
 ·try simp only [q1, q2, q3, q4, q5, q6, q7, q8, q9] at hb1
  have hS : ((zs.drop (20 * t)).take 20).length = 20 := by rw [List.length_take]; omega
  refine sw_skip ?_
  refine sw_block ?_
  refine sw_seq ?_
  refine sO [(0, _), (1, _), (2, _), (6, _), (7, _), (8, _), (5000, _), (5001, _)] [(0, (35, arr nAnnotated _ _))] ?_
  refine sw_reg ?_
  refine rA ?_ (x := vM false [PV.val _])
  refine rA ?_ (x := sM)
  refine rA ?_ (x := sM)
  refine rA ?_ (x := loc_copy (r' := RV.sv false [PV.clo _ _ _]) (.inl rfl) (by decide) (by exact Cp.sv (ToL.cons (PV.To.refl _) ToL.nil) (BorL.cons (PV.bor_clo _ _) BorL.nil)))
  refine rA ?_ (x := loc_acall0 (bx := 0) (G := 5001) (qs := [(false, [PV.val _]), (false, [PV.val _]), (false, [PV.clo _ _ _])]) (as_ := [(false, [PV.val _]), (false, [PV.val _]), (false, [PV.clo _ _ _])]) (by decide) FStA_c_72 rfl (by exact (And.intro (by exact ⟨⟩) (And.intro (by exact ⟨⟩) (And.intro (by exact ⟨⟩) True.intro)))) (by exact (And.intro (And.intro rfl (ToL.cons (PV.To.refl _) ToL.nil)) (And.intro (And.intro rfl (ToL.cons (PV.To.refl _) ToL.nil)) (And.intro (And.intro rfl (ToL.cons (PV.To.refl _) ToL.nil)) True.intro)))) (bor_arr bor_nAnnotated _ _) (by exact (borA_cons (BorL.cons (PV.bor_val _) BorL.nil) (borA_cons (BorL.cons (PV.bor_val _) BorL.nil) (borA_cons (BorL.cons (PV.bor_clo _ _) BorL.nil) borA_nil)))) (by exact (ins_Annotated (P := chunks (ltC q) 20 t zs) (S := (zs.drop (20 * t)).take 20) (R := zs.drop (20 * (t + 1))) (hm.trans hcl.symm) fst_at (by omega) (by omega) ho hi (Nat.le_trans (Nat.le_of_eq hcl) hn))))
  refine sw_seq ?_
  refine sO [(0, _), (1, _), (2, _), (6, _), (7, _), (8, _), (5000, _), (5001, _)] [(0, _)] ?_
  refine sw_reg ?_
  refine rA ?_ (x := sM)
  refine rA ?_ (x := sA)
  refine sO [(0, _), (1, _), (2, _), (6, _), (7, _), (8, _), (5000, _), (5001, _)] [(0, _)] ?_
  refine sw_reg ?_
  refine rA ?_ (x := sM)
  refine rA ?_ (x := sM)
  refine rA ?_ (x := B_add)
  refine rA ?_ (x := sA)
  refine Exists.intro (t + 1) (And.intro (by omega) (And.intro (by omega) (And.intro (And.intro (by exact ⟨rfl, rfl, rfl, rfl, rfl, rfl, ⟨⟩⟩) (by exact ⟨⟩)) (And.intro (by exact And.intro (by exact int_eq (by omega)) (And.intro (by exact int_eq (by omega)) (True.intro))) (by exact And.intro (by exact congrArg (fun z_ => some (35, arr nAnnotated z_ jk)) (fst_next)) (True.intro))))))
 ·try simp only [q1, q2, q3, q4, q5, q6, q7, q8, q9] at hb1
  have hend : zs.length < 20 * t + 20 := by omega
  refine sw_exit ?_
  refine sw_seq ?_
  refine sO [(0, _), (1, _), (2, _), (6, _), (7, _), (8, _), (5000, _), (5001, _)] [(0, (35, arr nAnnotated _ _))] ?_
  refine sw_reg ?_
  refine rA ?_ (x := vM false [PV.val _])
  refine rA ?_ (x := sM)
  refine rA ?_ (x := sM)
  refine rA ?_ (x := loc_copy (r' := RV.sv false [PV.clo _ _ _]) (.inl rfl) (by decide) (by exact Cp.sv (ToL.cons (PV.To.refl _) ToL.nil) (BorL.cons (PV.bor_clo _ _) BorL.nil)))
  refine rA ?_ (x := loc_acall0 (bx := 0) (G := 5001) (qs := [(false, [PV.val _]), (false, [PV.val _]), (false, [PV.clo _ _ _])]) (as_ := [(false, [PV.val _]), (false, [PV.val _]), (false, [PV.clo _ _ _])]) (by decide) FStA_c_72 rfl (by exact (And.intro (by exact ⟨⟩) (And.intro (by exact ⟨⟩) (And.intro (by exact ⟨⟩) True.intro)))) (by exact (And.intro (And.intro rfl (ToL.cons (PV.To.refl _) ToL.nil)) (And.intro (And.intro rfl (ToL.cons (PV.To.refl _) ToL.nil)) (And.intro (And.intro rfl (ToL.cons (PV.To.refl _) ToL.nil)) True.intro)))) (bor_arr bor_nAnnotated _ _) (by exact (borA_cons (BorL.cons (PV.bor_val _) BorL.nil) (borA_cons (BorL.cons (PV.bor_val _) BorL.nil) (borA_cons (BorL.cons (PV.bor_clo _ _) BorL.nil) borA_nil)))) (by exact (ins_Annotated (P := chunks (ltC q) 20 t zs) (S := zs.drop (20 * t)) (R := []) (hm.trans hcl.symm) (by rw [List.append_nil]) (by omega) (by omega) ho hi (Nat.le_trans (Nat.le_of_eq hcl) hn))))
  refine sw_block ?_
  refine sO [(0, _), (1, _), (2, _), (6, _), (7, _), (8, _), (5000, _), (5001, _)] [(0, _)] ?_
  refine sw_loop (l0 := [(0, RV.sv false [PV.val _]), (1, RV.sv false [PV.val _]), (2, RV.sv false [PV.clo _ _ _]), (5000, RV.phi 0 _), (5001, RV.gat _ 0 _ _)]) (b0 := []) (fun s : Nat => 1 ≤ s) (fun s : Nat => [(6, RV.int (s : Int))]) (fun s : Nat => [(0, (35, arr nAnnotated (full (ltC q) s zs) jk))]) (fun s : Nat => zs.length - s) 20 (by omega) (by exact ⟨rfl, rfl, rfl, rfl, rfl, ⟨⟩⟩) (by exact ⟨⟩) (by exact And.intro (by exact rfl) (True.intro)) (by exact And.intro (by exact congrArg (fun z_ => some (35, arr nAnnotated z_ jk)) (fst_end (by decide) ht hend)) (True.intro)) ?_
  rintro s hs
  refine sw_seq ?_
  refine sw_seq ?_
  refine sw_reg ?_
  refine rA ?_ (x := sM)
  refine rA ?_ (x := sM)
  refine rA ?_ (x := B_lss)
  refine sw_cond (t := 30) rfl (fun hb2 => ?_) (fun hb2 => ?_)
  ·try simp only [q1, q2, q3, q4, q5, q6, q7, q8, q9] at hb2
   have hsn : s < zs.length := by omega
   refine sw_skip ?_
   refine sw_block ?_
   refine sw_seq ?_
   refine sO [(0, _), (1, _), (2, _), (6, _), (5000, _), (5001, _)] [(0, (35, arr nAnnotated _ _))] ?_
   refine sw_reg ?_
   refine rA ?_ (x := sM)
   refine rA ?_ (x := loc_mul (by decide) (ok_sc rfl) (by exact ⟨⟩) (by unfold I64; omega))
   refine rA ?_ (x := kA)
   refine rA ?_ (x := sA)
   refine sw_seq ?_
   refine sw_block ?_
   refine sO [(0, _), (1, _), (2, _), (6, _), (7, _), (8, _), (5000, _), (5001, _)] [(0, _)] ?_
   refine sw_loop (l0 := [(0, RV.sv false [PV.val _]), (1, RV.sv false [PV.val _]), (2, RV.sv false [PV.clo _ _ _]), (6, RV.sv false [PV.val _]), (5000, RV.phi 0 _), (5001, RV.gat _ 0 _ _)]) (b0 := []) (fun v : Nat × Nat => v.2 = 2 * s * v.1 ∧ v.2 ≤ zs.length) (fun v : Nat × Nat => [(7, RV.int ((v.2 : Nat) : Int)), (8, RV.int ((v.2 + 2 * s : Nat) : Int))]) (fun v : Nat × Nat => [(0, (35, arr nAnnotated (stp (ltC q) s v.1 v.2 zs) jk))]) (fun v : Nat × Nat => zs.length - v.2) (0, 0) (by exact ⟨rfl, Nat.zero_le _⟩) (by exact ⟨rfl, rfl, rfl, rfl, rfl, rfl, ⟨⟩⟩) (by exact ⟨⟩) (by exact And.intro (by exact rfl) (And.intro (by exact int_eq (by first | (dsimp only; done) | (dsimp only; omega))) (True.intro))) (by exact And.intro (by exact congrArg (fun z_ => some (35, arr nAnnotated z_ jk)) (stp_zero)) (True.intro)) ?_
   rintro ⟨t, u⟩ ⟨hu, hul⟩
   dsimp only at hu hul
   have e1 : (t, u).1 = t := rfl
   have e2 : (t, u).2 = u := rfl
   have hcl2 : (stp (ltC q) s t u zs).length = zs.length := stp_len hu hul
   have hc2 : (chunks (ltC q) (2 * s) t zs).length = u := (chunks_len (by omega)).trans hu.symm
   have hl1 : (isort (ltC q) ((zs.drop u).take s)).length = min s (zs.length - u) := by rw [isort_len, List.length_take, List.length_drop]
   have hl2 : (isort (ltC q) (((zs.drop u).drop s).take s)).length = min s (zs.length - u - s) := by rw [isort_len, List.length_take, List.length_drop, List.length_drop]
   have hl3 : (isort (ltC q) ((zs.drop u).drop s)).length = zs.length - u - s := by rw [isort_len, List.length_drop, List.length_drop]
   refine sw_seq ?_
   refine sw_seq ?_
   refine sw_reg ?_
   refine rA ?_ (x := sM)
   refine rA ?_ (x := sM)
   refine rA ?_ (x := B_leq)
   refine sw_cond (t := 35) rfl (fun hb3 => ?_) (fun hb3 => ?_)
   ·try simp only [q1, q2, q3, q4, q5, q6, q7, q8, q9] at hb3
    have hbe2_ : u + 2 * s ≤ zs.length := by omega
    refine sw_skip ?_
    refine sw_block ?_
    refine sw_seq ?_
    refine sO [(0, _), (1, _), (2, _), (6, _), (7, _), (8, _), (5000, _), (5001, _)] [(0, (35, arr nAnnotated _ _))] ?_
    refine sw_reg ?_
    refine rA ?_ (x := vM false [PV.val _])
    refine rA ?_ (x := sM)
    refine rA ?_ (x := sM)
    refine rA ?_ (x := sM)
    refine rA ?_ (x := B_add)
    refine rA ?_ (x := sM)
    refine rA ?_ (x := loc_copy (r' := RV.sv false [PV.clo _ _ _]) (.inl rfl) (by decide) (by exact Cp.sv (ToL.cons (PV.To.refl _) ToL.nil) (BorL.cons (PV.bor_clo _ _) BorL.nil)))
    refine rA ?_ (x := loc_acall0 (bx := 0) (G := 5001) (qs := [(false, [PV.val _]), (false, [PV.val _]), (false, [PV.val _]), (false, [PV.clo _ _ _])]) (as_ := [(false, [PV.val _]), (false, [PV.val _]), (false, [PV.val _]), (false, [PV.clo _ _ _])]) (by decide) FStA_c_73 rfl (by exact (And.intro (by exact ⟨⟩) (And.intro (by exact ⟨⟩) (And.intro (by exact ⟨⟩) (And.intro (by exact ⟨⟩) True.intro))))) (by exact (And.intro (And.intro rfl (ToL.cons (PV.To.refl _) ToL.nil)) (And.intro (And.intro rfl (ToL.cons (PV.To.refl _) ToL.nil)) (And.intro (And.intro rfl (ToL.cons (PV.To.refl _) ToL.nil)) (And.intro (And.intro rfl (ToL.cons (PV.To.refl _) ToL.nil)) True.intro))))) (bor_arr bor_nAnnotated _ _) (by exact (borA_cons (BorL.cons (PV.bor_val _) BorL.nil) (borA_cons (BorL.cons (PV.bor_val _) BorL.nil) (borA_cons (BorL.cons (PV.bor_val _) BorL.nil) (borA_cons (BorL.cons (PV.bor_clo _ _) BorL.nil) borA_nil))))) (by exact (sym_Annotated _ (P := chunks (ltC q) (2 * s) t zs) (A := isort (ltC q) ((zs.drop u).take s)) (B := isort (ltC q) (((zs.drop u).drop s).take s)) (R := full (ltC q) s (zs.drop (u + 2 * s))) (hm.trans hcl2.symm) (stp_at ho hs hbe2_) (by omega) (by omega) (by omega) (by omega) (by omega) (sorted_isort ho hi _) (sorted_isort ho hi _) ho (Nat.le_trans (Nat.le_of_eq hcl2) hn) (Nat.le_refl _))))
    refine sw_seq ?_
    refine sO [(0, _), (1, _), (2, _), (6, _), (7, _), (8, _), (5000, _), (5001, _)] [(0, _)] ?_
    refine sw_reg ?_
    refine rA ?_ (x := sM)
    refine rA ?_ (x := sA)
    refine sO [(0, _), (1, _), (2, _), (6, _), (7, _), (8, _), (5000, _), (5001, _)] [(0, _)] ?_
    refine sw_reg ?_
    refine rA ?_ (x := sM)
    refine rA ?_ (x := sM)
    refine rA ?_ (x := loc_mul (by decide) (ok_sc rfl) (by exact ⟨⟩) (by unfold I64; omega))
    refine rA ?_ (x := B_add)
    refine rA ?_ (x := sA)
    refine Exists.intro (t + 1, u + 2 * s) (And.intro (by exact ⟨by dsimp only; rw [hu, Nat.mul_add, Nat.mul_one], hbe2_⟩) (And.intro (by dsimp only; omega) (And.intro (And.intro (by exact ⟨rfl, rfl, rfl, rfl, rfl, rfl, ⟨⟩⟩) (by exact ⟨⟩)) (And.intro (by exact And.intro (by exact int_eq (by first | (dsimp only; done) | (dsimp only; omega))) (And.intro (by exact int_eq (by first | (dsimp only; done) | (dsimp only; omega))) (True.intro))) (by exact And.intro (by exact congrArg (fun z_ => some (35, arr nAnnotated z_ jk)) (stp_next ho hs hu hbe2_)) (True.intro))))))
   ·try simp only [q1, q2, q3, q4, q5, q6, q7, q8, q9] at hb3
    have hbe4_ : zs.length < u + 2 * s := by omega
    refine sw_exit ?_
    refine sw_seq ?_
    refine sw_seq ?_
    refine sO [(0, _), (1, _), (2, _), (6, _), (7, _), (8, _), (5000, _), (5001, _)] [(0, (35, arr nAnnotated _ _))] ?_
    refine sw_reg ?_
    refine rA ?_ (x := sM)
    refine rA ?_ (x := sM)
    refine rA ?_ (x := B_add)
    refine rA ?_ (x := sA)
    refine sw_seq ?_
    refine sO [(0, _), (1, _), (2, _), (6, _), (7, _), (8, _), (9, _), (5000, _), (5001, _)] [(0, _)] ?_
    refine sw_reg ?_
    refine rA ?_ (x := sM)
    refine rA ?_ (x := sM)
    refine rA ?_ (x := B_lss)
    refine sw_cond (t := 54) rfl (fun hb4 => ?_) (fun hb4 => ?_)
    ·try simp only [q1, q2, q3, q4, q5, q6, q7, q8, q9] at hb4
     have hbe3_ : u + s < zs.length := by omega
     refine sO [(0, _), (1, _), (2, _), (6, _), (7, _), (8, _), (9, _), (5000, _), (5001, _)] [(0, _)] ?_
     refine sw_reg ?_
     refine rA ?_ (x := vM false [PV.val _])
     refine rA ?_ (x := sM)
     refine rA ?_ (x := sM)
     refine rA ?_ (x := sM)
     refine rA ?_ (x := loc_copy (r' := RV.sv false [PV.clo _ _ _]) (.inl rfl) (by decide) (by exact Cp.sv (ToL.cons (PV.To.refl _) ToL.nil) (BorL.cons (PV.bor_clo _ _) BorL.nil)))
     refine rA ?_ (x := loc_acall0 (bx := 0) (G := 5001) (qs := [(false, [PV.val _]), (false, [PV.val _]), (false, [PV.val _]), (false, [PV.clo _ _ _])]) (as_ := [(false, [PV.val _]), (false, [PV.val _]), (false, [PV.val _]), (false, [PV.clo _ _ _])]) (by decide) FStA_c_73 rfl (by exact (And.intro (by exact ⟨⟩) (And.intro (by exact ⟨⟩) (And.intro (by exact ⟨⟩) (And.intro (by exact ⟨⟩) True.intro))))) (by exact (And.intro (And.intro rfl (ToL.cons (PV.To.refl _) ToL.nil)) (And.intro (And.intro rfl (ToL.cons (PV.To.refl _) ToL.nil)) (And.intro (And.intro rfl (ToL.cons (PV.To.refl _) ToL.nil)) (And.intro (And.intro rfl (ToL.cons (PV.To.refl _) ToL.nil)) True.intro))))) (bor_arr bor_nAnnotated _ _) (by exact (borA_cons (BorL.cons (PV.bor_val _) BorL.nil) (borA_cons (BorL.cons (PV.bor_val _) BorL.nil) (borA_cons (BorL.cons (PV.bor_val _) BorL.nil) (borA_cons (BorL.cons (PV.bor_clo _ _) BorL.nil) borA_nil))))) (by exact (sym_Annotated _ (P := chunks (ltC q) (2 * s) t zs) (A := isort (ltC q) ((zs.drop u).take s)) (B := isort (ltC q) ((zs.drop u).drop s)) (R := []) (hm.trans hcl2.symm) (stp_last ho hs hbe3_ hbe4_) (by omega) (by omega) (by omega) (by omega) (by omega) (sorted_isort ho hi _) (sorted_isort ho hi _) ho (Nat.le_trans (Nat.le_of_eq hcl2) hn) (Nat.le_refl _))))
     refine sO [(0, _), (1, _), (2, _), (6, _), (7, _), (8, _), (9, _), (5000, _), (5001, _)] [(0, _)] ?_
     refine sw_reg ?_
     refine rA ?_ (x := sM)
     refine rA ?_ (x := loc_mul (by decide) (by exact ⟨⟩) (ok_sc rfl) (by unfold I64; omega))
     refine rA ?_ (x := sA)
     refine Exists.intro (2 * s) (And.intro (by omega) (And.intro (by omega) (And.intro (And.intro (by exact ⟨rfl, rfl, rfl, rfl, rfl, ⟨⟩⟩) (by exact ⟨⟩)) (And.intro (by exact And.intro (by exact int_eq (by omega)) (True.intro)) (by exact And.intro (by exact congrArg (fun z_ => some (35, arr nAnnotated z_ jk)) (by first | exact stp_end1 ho hs hu hbe3_ hbe4_ | exact stp_end2 hs hu hul hbe5_)) (True.intro))))))
    ·try simp only [q1, q2, q3, q4, q5, q6, q7, q8, q9] at hb4
     have hbe5_ : zs.length ≤ u + s := by omega
     refine sw_skip ?_
     refine sO [(0, _), (1, _), (2, _), (6, _), (7, _), (8, _), (9, _), (5000, _), (5001, _)] [(0, _)] ?_
     refine sw_reg ?_
     refine rA ?_ (x := sM)
     refine rA ?_ (x := loc_mul (by decide) (by exact ⟨⟩) (ok_sc rfl) (by unfold I64; omega))
     refine rA ?_ (x := sA)
     refine Exists.intro (2 * s) (And.intro (by omega) (And.intro (by omega) (And.intro (And.intro (by exact ⟨rfl, rfl, rfl, rfl, rfl, ⟨⟩⟩) (by exact ⟨⟩)) (And.intro (by exact And.intro (by exact int_eq (by omega)) (True.intro)) (by exact And.intro (by exact congrArg (fun z_ => some (35, arr nAnnotated z_ jk)) (by first | exact stp_end1 ho hs hu hbe3_ hbe4_ | exact stp_end2 hs hu hul hbe5_)) (True.intro))))))
  ·try simp only [q1, q2, q3, q4, q5, q6, q7, q8, q9] at hb2
   have hend2 : zs.length ≤ s := by omega
   refine sw_exit ?_
   exact ⟨(by exact congrArg (fun z_ => some (35, arr nAnnotated z_ jk)) (by exact full_le hs hend2)), rfl, True.intro⟩
theorem sst_Annotated {m cp : Nat} {jk : List Value} {zs : List NAnnotated} {q : OkA × OkA → Int}  (hm : m = (zs).length) (ho : Ord (ltC q)) (hi : ∀ x, ltC q x x = false) (hn : zs.length ≤ 4398046511104) : ACall Try.prog 48 35 m cp (arr nAnnotated zs jk) (arr nAnnotated (isort (ltC q) zs) jk) [(false, [PV.clo Try.prog (as2 (fun x : OkA => (true, [PV.val (vI x.1.Row.Id), PV.sl .v (x.1.Row.Values.map cInt), PV.sl .v (x.1.Set.map cInt)]))) (rsI q)])] (resRV []) := by
 refine acall_of (rs := []) Try.func48 rfl (Nat.le_of_ble_eq_true rfl) (Nat.le_of_ble_eq_true rfl) ?_
 intro g_ h0 w0 Fz0 hcp_
 refine sw_reg ?_
 refine rA ?_ (x := vM false [PV.val _])
 refine rA ?_ (x := vM false [PV.val _])
 refine rA ?_ (x := loc_glen (G := 5001) (by decide) FStA_sl_24)
 refine rA ?_ (x := loc_copy (r' := RV.sv false [PV.clo _ _ _]) (.inl rfl) (by decide) (by exact Cp.sv (ToL.cons (PV.To.refl _) ToL.nil) (BorL.cons (PV.bor_clo _ _) BorL.nil)))
 refine rA ?_ (x := loc_acall0 (bx := 0) (G := 5001) (qs := [(false, [PV.val _]), (false, [PV.clo _ _ _])]) (as_ := [(false, [PV.val _]), (false, [PV.clo _ _ _])]) (by decide) FStA_c_65 rfl (by exact (And.intro (by exact ⟨⟩) (And.intro (by exact ⟨⟩) True.intro))) (by exact (And.intro (And.intro rfl (ToL.cons (PV.To.refl _) ToL.nil)) (And.intro (And.intro rfl (ToL.cons (PV.To.refl _) ToL.nil)) True.intro))) (bor_arr bor_nAnnotated _ _) (by exact (borA_cons (BorL.cons (PV.bor_val _) BorL.nil) (borA_cons (BorL.cons (PV.bor_clo _ _) BorL.nil) borA_nil))) (by exact (stb_Annotated hm (by omega) ho hi hn)))
 exact ⟨(by exact rfl), rfl, True.intro⟩
end Go.Proofs.Ytaomckpfgmhapaa
