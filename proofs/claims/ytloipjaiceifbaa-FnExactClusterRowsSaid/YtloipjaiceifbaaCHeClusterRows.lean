/- What functions of the program compute. No condition. -/
import Derived.Test.YtloipjaiceifbaaCDb
import Derived.KernelRfl
set_option linter.unusedVariables false
set_option linter.unusedSimpArgs false
namespace Go.Proofs.Ytloipjaiceifbaa
open Go Go.RowKit M
set_option maxRecDepth 10000
attribute [local irreducible] PV.Lcl PV.LclR RV.Lcl
theorem held_IntS {x : List Int} {k : Int}  (h0k : 0 ≤ k) (hbk : (mkL mkE_Int x k).2 ≤ 4611686018427387904): SCall Try.prog 65 [(false, [PV.sl .v ((mkL mkE_Int x k).1.map cInt)]), (false, [PV.val (vI k)])] (resRV [(false, [PV.val (vI (mkL mkE_Int x k).2)])]) := by
 refine scall_of (rs := [(false, [PV.val (vI (mkL mkE_Int x k).2)])]) Try.func65 rfl (Nat.le_of_ble_eq_true rfl) (borA_cons (BorL.cons (PV.bor_sl _) BorL.nil) (borA_cons (BorL.cons (PV.bor_val _) BorL.nil) borA_nil)) ?_
 intro h0 w0 Fz0
 refine sw_len (s := 0) rfl fun hl0 => ?_
 try rw [List.length_map] at hl0
 have hlm : (mkL mkE_Int x k).1.length = x.length := mkL_len _ _
 have hmono := mkL_take_le mkE_Int_le x
 have hmono0 := fun i => mkL_le mkE_Int_le (x.take i) k
 refine sw_seq ?_
 refine sw_reg ?_
 refine rA ?_ (x := kA)
 refine sw_seq ?_
 refine sw_seq ?_
 refine sO [(0, _), (1, _), (4, _)] [] ?_
 refine sw_reg ?_
 refine rA ?_ (x := kA)
 refine sw_block ?_
 refine sO [(0, _), (1, _), (4, _), (5, _)] [] ?_
 refine sw_loop (l0 := [(0, RV.sv false [PV.sl _ _])]) (b0 := []) (fun i : Nat => i ≤ x.length) (fun i : Nat => [(1, RV.int (mkL mkE_Int (x.take i) k).2), (5, RV.int (i : Int))]) (fun i : Nat => []) (fun i : Nat => x.length - i) 0 (by omega) (by exact ⟨rfl, ⟨⟩⟩) (by exact ⟨⟩) (by exact And.intro (by exact rfl) (And.intro (by exact rfl) (True.intro))) (by exact ⟨⟩) ?_
 rintro i hi
 refine sw_seq ?_
 refine sw_seq ?_
 refine sw_reg ?_
 refine rA ?_ (x := sM)
 refine rA ?_ (x := vM false [PV.sl .v _])
 refine rA ?_ (x := lN sl_38)
 refine rA ?_ (x := B_lss)
 refine sw_cond (t := 9) rfl (fun hb1 => ?_) (fun hb1 => ?_)
 ·try simp only [q1, q2, q3, q4, q5, q6, q7, q8, q9] at hb1
  have hlt : i < x.length := by omega
  have hk0 := hmono0 i
  have hk1 := hmono (i + 1) k
  rw [mkL_succ hlt] at hk1
  dsimp only at hk1
  simp only [mkE_Int] at hk1
  refine sw_skip ?_
  refine sw_seq ?_
  refine sw_block ?_
  refine sw_seq ?_
  refine sw_seq ?_
  refine sO [(0, _), (1, _), (5, _)] [] ?_
  refine sw_reg ?_
  refine rA ?_ (x := vM false [PV.sl .v _])
  refine rA ?_ (x := sM)
  refine rA ?_ (x := loc_index (by decide) sl_38 (by exact ⟨⟩) (by exact rfl) (by exact mkL_getc hlt rfl) (by exact rfl))
  refine rA ?_ (x := lE [PV.val _] ty_3)
  refine rA ?_ (x := sM)
  refine rA ?_ (x := B_neq)
  refine sw_cond (t := 17) rfl (fun hb2 => ?_) (fun hb2 => ?_)
  ·try simp only [q1, q2, q3, q4, q5, q6, q7, q8, q9] at hb2
   first | exact absurd rfl hb2 | omega
  ·try simp only [q1, q2, q3, q4, q5, q6, q7, q8, q9] at hb2
   refine sw_skip ?_
   refine sO [(0, _), (1, _), (5, _)] [] ?_
   refine sw_reg ?_
   refine rA ?_ (x := sM)
   refine rA ?_ (x := B_add)
   refine rA ?_ (x := sA)
   refine sO [(0, _), (1, _), (5, _)] [] ?_
   refine sw_reg ?_
   refine rA ?_ (x := sM)
   refine rA ?_ (x := B_add)
   refine rA ?_ (x := sA)
   refine Exists.intro (i + 1) (And.intro (by omega) (And.intro (by omega) (And.intro (And.intro (by exact ⟨rfl, ⟨⟩⟩) (by exact ⟨⟩)) (And.intro (by exact And.intro (by exact int_eq (by rw [mkL_succ hlt]; rfl)) (And.intro (by exact rfl) (True.intro))) (by exact ⟨⟩)))))
 ·try simp only [q1, q2, q3, q4, q5, q6, q7, q8, q9] at hb1
  have hend : i = x.length := by omega
  refine sw_exit ?_
  refine sw_seq ?_
  refine sO [(0, _), (1, _), (5, _)] [] ?_
  refine sw_reg ?_
  refine rA ?_ (x := sM)
  refine rA ?_ (x := sA)
  refine sw_ret ?_
  exact (And.intro (by refine int_eq ?_; first | rfl | rw [hend, List.take_length]) True.intro)
theorem held_RowS {p1 : Fl} {x : List Row} {k : Int}  (h0k : 0 ≤ k) (hbk : (mkL mkE_Row x k).2 ≤ 4611686018427387904): SCall Try.prog 23 [(false, [PV.sl .v ((mkL mkE_Row x k).1.map (cRow p1))]), (false, [PV.val (vI k)])] (resRV [(false, [PV.val (vI (mkL mkE_Row x k).2)])]) := by
 refine scall_of (rs := [(false, [PV.val (vI (mkL mkE_Row x k).2)])]) Try.func23 rfl (Nat.le_of_ble_eq_true rfl) (borA_cons (BorL.cons (PV.bor_sl _) BorL.nil) (borA_cons (BorL.cons (PV.bor_val _) BorL.nil) borA_nil)) ?_
 intro h0 w0 Fz0
 refine sw_len (s := 0) rfl fun hl0 => ?_
 try rw [List.length_map] at hl0
 have hlm : (mkL mkE_Row x k).1.length = x.length := mkL_len _ _
 have hmono := mkL_take_le mkE_Row_le x
 have hmono0 := fun i => mkL_le mkE_Row_le (x.take i) k
 refine sw_seq ?_
 refine sw_reg ?_
 refine rA ?_ (x := kA)
 refine sw_seq ?_
 refine sw_seq ?_
 refine sO [(0, _), (1, _), (4, _)] [] ?_
 refine sw_reg ?_
 refine rA ?_ (x := kA)
 refine sw_block ?_
 refine sO [(0, _), (1, _), (4, _), (5, _)] [] ?_
 refine sw_loop (l0 := [(0, RV.sv false [PV.sl _ _])]) (b0 := []) (fun i : Nat => i ≤ x.length) (fun i : Nat => [(1, RV.int (mkL mkE_Row (x.take i) k).2), (5, RV.int (i : Int))]) (fun i : Nat => []) (fun i : Nat => x.length - i) 0 (by omega) (by exact ⟨rfl, ⟨⟩⟩) (by exact ⟨⟩) (by exact And.intro (by exact rfl) (And.intro (by exact rfl) (True.intro))) (by exact ⟨⟩) ?_
 rintro i hi
 refine sw_seq ?_
 refine sw_seq ?_
 refine sw_reg ?_
 refine rA ?_ (x := sM)
 refine rA ?_ (x := vM false [PV.sl .v _])
 refine rA ?_ (x := lN sl_32)
 refine rA ?_ (x := B_lss)
 refine sw_cond (t := 9) rfl (fun hb1 => ?_) (fun hb1 => ?_)
 ·try simp only [q1, q2, q3, q4, q5, q6, q7, q8, q9] at hb1
  have hlt : i < x.length := by omega
  have hk0 := hmono0 i
  have hk1 := hmono (i + 1) k
  rw [mkL_succ hlt] at hk1
  dsimp only at hk1
  have hm0 := mkL_le mkE_Int_le x[i].Values ((mkL mkE_Row (x.take i) k).2 + 1)
  simp only [mkE_Row] at hk1
  refine sw_skip ?_
  refine sw_seq ?_
  refine sw_block ?_
  refine sw_seq ?_
  refine sw_seq ?_
  refine sO [(0, _), (1, _), (5, _)] [] ?_
  refine sw_reg ?_
  refine rA ?_ (x := vM false [PV.sl .v _])
  refine rA ?_ (x := sM)
  refine rA ?_ (x := loc_index (by decide) sl_32 (by exact ⟨⟩) (by exact rfl) (by exact mkL_getc hlt rfl) (by exact rfl))
  refine rA ?_ (x := loc_efield (by decide) fd_87_0 (by exact Nat.le_of_ble_eq_true rfl))
  refine rA ?_ (x := lE [PV.val _] ty_3)
  refine rA ?_ (x := sM)
  refine rA ?_ (x := B_neq)
  refine sw_cond (t := 18) rfl (fun hb2 => ?_) (fun hb2 => ?_)
  ·try simp only [q1, q2, q3, q4, q5, q6, q7, q8, q9] at hb2
   first | exact absurd rfl hb2 | omega
  ·try simp only [q1, q2, q3, q4, q5, q6, q7, q8, q9] at hb2
   refine sw_skip ?_
   refine sw_seq ?_
   refine sO [(0, _), (1, _), (5, _)] [] ?_
   refine sw_reg ?_
   refine rA ?_ (x := sM)
   refine rA ?_ (x := B_add)
   refine rA ?_ (x := sA)
   refine sw_seq ?_
   refine sO [(0, _), (1, _), (5, _)] [] ?_
   refine sw_reg ?_
   refine rA ?_ (x := vM false [PV.sl .v _])
   refine rA ?_ (x := sM)
   refine rA ?_ (x := loc_index (by decide) sl_32 (by exact ⟨⟩) (by exact rfl) (by exact mkL_getc hlt rfl) (by exact rfl))
   refine rA ?_ (x := loc_efield (by decide) fd_87_1 (by exact Nat.le_of_ble_eq_true rfl))
   refine rA ?_ (x := lE [PV.sl .v _] ty_38)
   refine rA ?_ (x := sM)
   refine rA ?_ (x := cL [(false, [PV.sl _ _]), (false, [PV.val _])] [(false, [PV.sl .v _]), (false, [PV.val _])] c_65 (hs := by exact held_IntS (by omega) (by omega)))
   refine rA ?_ (x := sA)
   refine sw_seq ?_
   refine sO [(0, _), (1, _), (5, _)] [] ?_
   refine sw_reg ?_
   refine rA ?_ (x := sM)
   refine rA ?_ (x := B_lss)
   refine sw_cond (t := 29) rfl (fun hb3 => ?_) (fun hb3 => ?_)
   ·try simp only [q1, q2, q3, q4, q5, q6, q7, q8, q9] at hb3
    first | exact absurd rfl hb3 | omega
   ·try simp only [q1, q2, q3, q4, q5, q6, q7, q8, q9] at hb3
    refine sw_skip ?_
    refine sO [(0, _), (1, _), (5, _)] [] ?_
    refine sw_reg ?_
    refine rA ?_ (x := sM)
    refine rA ?_ (x := B_add)
    refine rA ?_ (x := sA)
    refine Exists.intro (i + 1) (And.intro (by omega) (And.intro (by omega) (And.intro (And.intro (by exact ⟨rfl, ⟨⟩⟩) (by exact ⟨⟩)) (And.intro (by exact And.intro (by exact int_eq (by rw [mkL_succ hlt]; rfl)) (And.intro (by exact rfl) (True.intro))) (by exact ⟨⟩)))))
 ·try simp only [q1, q2, q3, q4, q5, q6, q7, q8, q9] at hb1
  have hend : i = x.length := by omega
  refine sw_exit ?_
  refine sw_seq ?_
  refine sO [(0, _), (1, _), (5, _)] [] ?_
  refine sw_reg ?_
  refine rA ?_ (x := sM)
  refine rA ?_ (x := sA)
  refine sw_ret ?_
  exact (And.intro (by refine int_eq ?_; first | rfl | rw [hend, List.take_length]) True.intro)
end Go.Proofs.Ytloipjaiceifbaa
