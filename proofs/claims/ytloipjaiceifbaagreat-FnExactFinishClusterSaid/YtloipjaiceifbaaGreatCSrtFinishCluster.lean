/- What functions of the program compute. No condition. -/
import Derived.Test.YtloipjaiceifbaaGreatCProgFinishCluster
import Derived.Test.YtloipjaiceifbaaGreatCDs
import Derived.KernelRfl
set_option linter.unusedVariables false
set_option linter.unusedSimpArgs false
namespace Go.Proofs.YtloipjaiceifbaaGreat
open Go Go.RowKit M
set_option maxRecDepth 10000
theorem FSrt_c_102 : callI Tryz.prog 102 = true := by kernel_rfl
theorem FSrt_c_106 : callI Tryz.prog 106 = true := by kernel_rfl
theorem FSrt_c_118 : callI Tryz.prog 118 = true := by kernel_rfl
theorem FSrt_c_75 : callI Tryz.prog 75 = true := by kernel_rfl
theorem FSrt_c_76 : callI Tryz.prog 76 = true := by kernel_rfl
theorem FSrt_c_96 : callI Tryz.prog 96 = true := by kernel_rfl
theorem FSrt_sl_23 : sliceI Tryz.prog 23 = some (3, 1, 8) := by kernel_rfl
theorem FSrt_ty_3 : tyI Tryz.prog 3 = some (false, 1) := by kernel_rfl
theorem FSrt_ui_117 : Tryz.prog.underlying 117 = some (.int .u64) := by kernel_rfl
theorem FSrt_ui_3 : Tryz.prog.underlying 3 = some (.int .i64) := by kernel_rfl
theorem FSrt_ui_5 : Tryz.prog.underlying 5 = some (.int .u8) := by kernel_rfl
theorem FSrt_ui_90 : Tryz.prog.underlying 90 = some (.int .u64) := by kernel_rfl
theorem FSrt_us_9 : Tryz.prog.underlying 9 = some .string := by kernel_rfl
theorem cmp_isNaN {x : Int}  : SCall Tryz.prog 118 [(false, [PV.val (vI x)])] (resRV [(false, [PV.val (.bool false)])]) := by
 refine scall_of (rs := [(false, [PV.val (.bool false)])]) Tryz.func118 rfl (Nat.le_of_ble_eq_true rfl) (borA_cons (BorL.cons (PV.bor_val _) BorL.nil) borA_nil) ?_
 intro h0 w0 Fz0
 refine sw_seq ?_
 refine sw_reg ?_
 refine rA ?_ (x := kA)
 refine sw_seq ?_
 refine sO [(0, _), (2, _)] [] ?_
 refine sw_reg ?_
 refine rA ?_ (x := sM)
 refine rA ?_ (x := sM)
 refine rA ?_ (x := B_neq)
 refine rA ?_ (x := sA)
 refine sw_ret ?_
 exact (And.intro (by refine bool_eq ?_; simp) True.intro)
theorem cmp_Less {x : Int} {y : Int}  : SCall Tryz.prog 102 [(false, [PV.val (vI x)]), (false, [PV.val (vI y)])] (resRV [(false, [PV.val (.bool (decide (x < y)))])]) := by
 refine scall_of (rs := [(false, [PV.val (.bool (decide (x < y)))])]) Tryz.func102 rfl (Nat.le_of_ble_eq_true rfl) (borA_cons (BorL.cons (PV.bor_val _) BorL.nil) (borA_cons (BorL.cons (PV.bor_val _) BorL.nil) borA_nil)) ?_
 intro h0 w0 Fz0
 refine sw_seq ?_
 refine sw_reg ?_
 refine rA ?_ (x := kA)
 refine sw_seq ?_
 refine sO [(0, _), (1, _), (4, _)] [] ?_
 refine sw_reg ?_
 refine rA ?_ (x := sM)
 refine rA ?_ (x := cL [(false, [PV.val _])] [(false, [PV.val _])] FSrt_c_118 (hs := by exact cmp_isNaN))
 refine rA ?_ (x := sM)
 refine RunS.cases (s := 7) rfl (fun g1 => ?_) (fun g1 => ?_)
 ·have sg1 := g1
  try simp only [q1, q2, q3, q4, q5, q6, q7, q8, q9] at sg1
  refine rB g1 ?_ (x := sM)
  refine rB g1 ?_ (x := cL [(false, [PV.val _])] [(false, [PV.val _])] FSrt_c_118 (hs := by exact cmp_isNaN))
  refine rB g1 ?_ (x := nT)
  refine rA ?_ (x := pkT g1)
  refine rA ?_ (x := sM)
  refine RunS.cases (s := 12) rfl (fun g2 => ?_) (fun g2 => ?_)
  ·have sg2 := g2
   try simp only [q1, q2, q3, q4, q5, q6, q7, q8, q9] at sg2
   refine RunS.s0t g2 ?_
   refine RunS.s0t g2 ?_
   refine RunS.s0t g2 ?_
   refine rA ?_ (x := pkT g2)
   refine rA ?_ (x := sA)
   refine sw_ret ?_
   exact (And.intro (by refine bool_eq ?_; simp_all) True.intro)
  ·have sg2 := g2
   try simp only [q1, q2, q3, q4, q5, q6, q7, q8, q9] at sg2
   refine rB g2 ?_ (x := sM)
   refine rB g2 ?_ (x := sM)
   refine rB g2 ?_ (x := B_lss)
   refine rA ?_ (x := pkF g2)
   refine rA ?_ (x := sA)
   refine sw_ret ?_
   exact (And.intro (by refine bool_eq ?_; simp_all) True.intro)
 ·have sg1 := g1
  try simp only [q1, q2, q3, q4, q5, q6, q7, q8, q9] at sg1
  refine RunS.s0f g1 ?_
  refine RunS.s0f g1 ?_
  refine RunS.s0f g1 ?_
  refine rA ?_ (x := pkF g1)
  refine rA ?_ (x := sM)
  refine RunS.cases (s := 12) rfl (fun g3 => nomatch g3) (fun g3 => ?_)
  refine rB g3 ?_ (x := sM)
  refine rB g3 ?_ (x := sM)
  refine rB g3 ?_ (x := B_lss)
  refine rA ?_ (x := pkF g3)
  refine rA ?_ (x := sA)
  refine sw_ret ?_
  exact (And.intro (by refine bool_eq ?_; simp_all) True.intro)
theorem bits_Len64 {x : Int}  (hx : 0 ≤ x ∧ x ≤ 12) : SCall Tryz.prog 106 [(false, [PV.val (.int .u64 x)])] (resRV [(false, [PV.val (vI (lenT x))])]) := by
 refine scall_of (rs := [(false, [PV.val (vI (lenT x))])]) Tryz.func106 rfl (Nat.le_of_ble_eq_true rfl) (borA_cons (BorL.cons (PV.bor_val _) BorL.nil) borA_nil) ?_
 intro h0 w0 Fz0
 have hx12 : x = 0 ∨ x = 1 ∨ x = 2 ∨ x = 3 ∨ x = 4 ∨ x = 5 ∨ x = 6 ∨ x = 7 ∨ x = 8 ∨ x = 9 ∨ x = 10 ∨ x = 11 ∨ x = 12 := by omega
 have hlt : 0 ≤ lenT x ∧ lenT x ≤ 4 := by rcases hx12 with rfl | rfl | rfl | rfl | rfl | rfl | rfl | rfl | rfl | rfl | rfl | rfl | rfl <;> decide
 refine sw_seq ?_
 refine sw_reg ?_
 refine rA ?_ (x := kA)
 refine sw_seq ?_
 refine sw_seq ?_
 refine sO [(0, _), (2, _)] [] ?_
 refine sw_reg ?_
 refine rA ?_ (x := sM)
 refine rA ?_ (x := U_geq)
 refine sw_cond (t := 4) rfl (fun hb1 => ?_) (fun hb1 => ?_)
 ·try simp only [q1, q2, q3, q4, q5, q6, q7, q8, q9] at hb1
  omega
 ·try simp only [q1, q2, q3, q4, q5, q6, q7, q8, q9] at hb1
  refine sw_skip ?_
  refine sw_seq ?_
  refine sw_seq ?_
  refine sO [(0, _), (2, _)] [] ?_
  refine sw_reg ?_
  refine rA ?_ (x := sM)
  refine rA ?_ (x := U_geq)
  refine sw_cond (t := 8) rfl (fun hb2 => ?_) (fun hb2 => ?_)
  ·try simp only [q1, q2, q3, q4, q5, q6, q7, q8, q9] at hb2
   omega
  ·try simp only [q1, q2, q3, q4, q5, q6, q7, q8, q9] at hb2
   refine sw_skip ?_
   refine sw_seq ?_
   refine sw_seq ?_
   refine sO [(0, _), (2, _)] [] ?_
   refine sw_reg ?_
   refine rA ?_ (x := sM)
   refine rA ?_ (x := U_geq)
   refine sw_cond (t := 14) rfl (fun hb3 => ?_) (fun hb3 => ?_)
   ·try simp only [q1, q2, q3, q4, q5, q6, q7, q8, q9] at hb3
    omega
   ·try simp only [q1, q2, q3, q4, q5, q6, q7, q8, q9] at hb3
    refine sw_skip ?_
    refine sw_seq ?_
    refine sO [(0, _), (2, _)] [] ?_
    refine sw_reg ?_
    refine rA ?_ (x := sM)
    refine rA ?_ (x := sM)
    refine rA ?_ (x := loc_conv FSrt_ui_117 FSrt_ui_5 (IntWalk.u8_in _ (by omega)))
    refine rA ?_ (x := loc_sidx (j := (lenT x)) FSrt_us_9 (hi := by omega) (hb := (by rcases hx12 with rfl | rfl | rfl | rfl | rfl | rfl | rfl | rfl | rfl | rfl | rfl | rfl | rfl <;> exact ⟨_, rfl, rfl⟩)))
    refine rA ?_ (x := loc_conv FSrt_ui_5 FSrt_ui_3 (IntWalk.i64_in _ (by omega)))
    refine rA ?_ (x := B_add)
    refine rA ?_ (x := sA)
    refine sw_ret ?_
    exact (And.intro (by refine int_eq ?_; omega) True.intro)
theorem bits_Len {x : Int}  (hx : 0 ≤ x ∧ x ≤ 12) : SCall Tryz.prog 76 [(false, [PV.val (.int .u64 x)])] (resRV [(false, [PV.val (vI (lenT x))])]) := by
 refine scall_of (rs := [(false, [PV.val (vI (lenT x))])]) Tryz.func76 rfl (Nat.le_of_ble_eq_true rfl) (borA_cons (BorL.cons (PV.bor_val _) BorL.nil) borA_nil) ?_
 intro h0 w0 Fz0
 refine sw_seq ?_
 refine sw_reg ?_
 refine rA ?_ (x := kA)
 refine sw_seq ?_
 refine sw_condF ?_
 refine sw_skip ?_
 refine sw_seq ?_
 refine sO [(0, _), (2, _)] [] ?_
 refine sw_reg ?_
 refine rA ?_ (x := sM)
 refine rA ?_ (x := cL [(false, [PV.val _])] [(false, [PV.val _])] FSrt_c_106 (hs := by exact (bits_Len64 (by omega))))
 refine rA ?_ (x := sA)
 refine sw_ret ?_
 exact (And.intro (by exact rfl) True.intro)
theorem ins_sort {m cp : Nat} {jk : List Value} {xs : List Int} {a : Int} {b : Int}  (hm : m = (xs).length) (ha0 : a = 0) (hb0 : b = (xs.length : Int)) (hn1 : 1 ≤ xs.length) (hn2 : xs.length ≤ 1000000) : ACall Tryz.prog 96 3 m cp (arr cInt xs jk) (arr cInt (srt xs xs.length) jk) [(false, [PV.val (vI a)]), (false, [PV.val (vI b)])] (resRV []) := by
 refine acall_of (rs := []) Tryz.func96 rfl (Nat.le_of_ble_eq_true rfl) (Nat.le_of_ble_eq_true rfl) ?_
 intro g_ h0 w0 Fz0 hcp_
 refine sw_seq ?_
 refine sw_reg ?_
 refine rA ?_ (x := sM)
 refine rA ?_ (x := B_add)
 refine rA ?_ (x := sA)
 refine sw_block ?_
 refine sO [(0, _), (1, _), (2, _), (6, _), (5000, _), (5001, _)] [(0, (3, arr cInt _ _))] ?_
 refine sw_loop (l0 := [(0, RV.sv false [PV.val _]), (1, RV.sv false [PV.val _]), (2, RV.sv false [PV.val _]), (5000, RV.phi 0 _), (5001, RV.gat _ 0 _ _)]) (b0 := []) (fun k : Nat => 1 ≤ k ∧ k ≤ xs.length) (fun k : Nat => [(6, RV.int (k : Int))]) (fun k : Nat => [(0, (3, arr cInt (srt xs k ++ xs.drop k) jk))]) (fun k : Nat => xs.length - k) 1 (by omega) (by exact ⟨rfl, rfl, rfl, rfl, rfl, ⟨⟩⟩) (by exact ⟨⟩) (by exact And.intro (by exact int_eq (by omega)) (True.intro)) (by exact And.intro (by exact congrArg (fun z_ => some (3, arr cInt z_ jk)) (srt_one hn1)) (True.intro)) ?_
 rintro k ⟨hk1, hk⟩
 refine sw_seq ?_
 refine sw_seq ?_
 refine sw_reg ?_
 refine rA ?_ (x := sM)
 refine rA ?_ (x := sM)
 refine rA ?_ (x := B_lss)
 refine sw_cond (t := 12) rfl (fun hb1 => ?_) (fun hb1 => ?_)
 ·try simp only [q1, q2, q3, q4, q5, q6, q7, q8, q9] at hb1
  have hlt : k < xs.length := by omega
  refine sw_skip ?_
  refine sw_seq ?_
  refine sw_block ?_
  refine sw_seq ?_
  refine sO [(0, _), (1, _), (2, _), (6, _), (5000, _), (5001, _)] [(0, (3, arr cInt _ _))] ?_
  refine sw_reg ?_
  refine rA ?_ (x := sM)
  refine rA ?_ (x := sA)
  refine sw_block ?_
  refine sO [(0, _), (1, _), (2, _), (6, _), (7, _), (5000, _), (5001, _)] [(0, _)] ?_
  refine sw_loop (l0 := [(0, RV.sv false [PV.val _]), (1, RV.sv false [PV.val _]), (2, RV.sv false [PV.val _]), (6, RV.sv false [PV.val _]), (5000, RV.phi 0 _), (5001, RV.gat _ 0 _ _)]) (b0 := []) (fun j : Nat => j ≤ k ∧ insAt (srt xs k) (xs.getD k 0) j = insAt (srt xs k) (xs.getD k 0) k) (fun j : Nat => [(7, RV.int (j : Int))]) (fun j : Nat => [(0, (3, arr cInt (cont (srt xs k) (xs.getD k 0) (xs.drop (k + 1)) j) jk))]) (fun j : Nat => j) k (by exact ⟨Nat.le_refl _, rfl⟩) (by exact ⟨rfl, rfl, rfl, rfl, rfl, rfl, ⟨⟩⟩) (by exact ⟨⟩) (by exact And.intro (by exact rfl) (True.intro)) (by exact And.intro (by exact congrArg (fun z_ => some (3, arr cInt z_ jk)) (cont_start hlt)) (True.intro)) ?_
  rintro j ⟨hj, haj⟩
  have hcl : (cont (srt xs k) (xs.getD k 0) (xs.drop (k + 1)) j).length = xs.length := by rw [cont_len (by rw [srt_len]; exact hj), srt_len, List.length_drop]; omega
  refine sw_seq ?_
  refine sw_seq ?_
  refine sw_draw hm_ ?_
  refine dA 0 ?_ (x := sM)
  refine dA 0 ?_ (x := sM)
  refine dA 3 ?_ (x := B_gtr)
  refine dA 7 ?_ (x := sM)
  refine Run.cases (s := 19) rfl (fun g2 => ?_) (fun g2 => ?_)
  ·have sg2 := g2
   try simp only [q1, q2, q3, q4, q5, q6, q7, q8, q9] at sg2
   refine dB 15 g2 ?_ (x := vM false [PV.val _])
   refine dB 15 g2 ?_ (x := sM)
   refine dB 63 g2 ?_ (x := loc_gidx (k := j) (G := 5001) (by decide) FSrt_sl_23 (by exact ⟨⟩) (by omega) (by omega))
   refine dB 127 g2 ?_ (x := loc_aload (f := cInt) (e := 1) (k := j) (qs := [PV.val _]) (fun _ => rfl) rfl (by omega) (by decide) FSrt_ty_3 (fun _ => rfl) (by exact (ToL.cons (PV.To.refl _) ToL.nil)) (by exact (BorL.cons (PV.bor_val _) BorL.nil)))
   refine dB 15 g2 ?_ (x := vM false [PV.val _])
   refine dB 15 g2 ?_ (x := sM)
   refine dB 527 g2 ?_ (x := B_sub)
   refine dB 1807 g2 ?_ (x := loc_gidx (k := (j - 1)) (G := 5001) (by decide) FSrt_sl_23 (by exact ⟨⟩) (by omega) (by omega))
   refine dB 3855 g2 ?_ (x := loc_aload (f := cInt) (e := 1) (k := (j - 1)) (qs := [PV.val _]) (fun _ => rfl) rfl (by omega) (by decide) FSrt_ty_3 (fun _ => rfl) (by exact (ToL.cons (PV.To.refl _) ToL.nil)) (by exact (BorL.cons (PV.bor_val _) BorL.nil)))
   refine dB 8191 g2 ?_ (x := cL [(false, [PV.val _]), (false, [PV.val _])] [(false, [PV.val _]), (false, [PV.val _])] FSrt_c_102 (hs := by exact cmp_Less))
   refine dA 16383 ?_ (x := pkT g2)
   refine sw_cond (t := 30) rfl (fun hb3 => ?_) (fun hb3 => ?_)
   ·try simp only [q1, q2, q3, q4, q5, q6, q7, q8, q9] at hb3
    have hj1 : 1 ≤ j := by omega
    have hlt2 : xs.getD k 0 < (srt xs k).getD (j - 1) 0 := by have hh := hb3; rwa [cont_at (by rw [srt_len]; exact hj), cont_pre hj1 (by rw [srt_len]; exact hj)] at hh
    refine sw_skip ?_
    refine sw_seq ?_
    refine sw_block ?_
    refine sO [(0, _), (1, _), (2, _), (6, _), (7, _), (5000, _), (5001, _)] [(0, (3, arr cInt _ _))] ?_
    refine sw_draw hm_ ?_
    refine dA 0 ?_ (x := vM false [PV.val _])
    refine dA 0 ?_ (x := sM)
    refine dA 0 ?_ (x := vM false [PV.val _])
    refine dA 0 ?_ (x := sM)
    refine dA 8 ?_ (x := B_sub)
    refine dA 0 ?_ (x := vM false [PV.val _])
    refine dA 0 ?_ (x := sM)
    refine dA 64 ?_ (x := B_sub)
    refine dA 224 ?_ (x := loc_gidx (k := (j - 1)) (G := 5001) (by decide) FSrt_sl_23 (by exact ⟨⟩) (by omega) (by omega))
    refine dA 480 ?_ (x := loc_aload (f := cInt) (e := 1) (k := (j - 1)) (qs := [PV.val _]) (fun _ => rfl) rfl (by omega) (by decide) FSrt_ty_3 (fun _ => rfl) (by exact (ToL.cons (PV.To.refl _) ToL.nil)) (by exact (BorL.cons (PV.bor_val _) BorL.nil)))
    refine dA 0 ?_ (x := vM false [PV.val _])
    refine dA 0 ?_ (x := sM)
    refine dA 3072 ?_ (x := loc_gidx (k := j) (G := 5001) (by decide) FSrt_sl_23 (by exact ⟨⟩) (by omega) (by omega))
    refine dA 7168 ?_ (x := loc_aload (f := cInt) (e := 1) (k := j) (qs := [PV.val _]) (fun _ => rfl) rfl (by omega) (by decide) FSrt_ty_3 (fun _ => rfl) (by exact (ToL.cons (PV.To.refl _) ToL.nil)) (by exact (BorL.cons (PV.bor_val _) BorL.nil)))
    refine dA 16355 ?_ (x := loc_gidx (k := j) (G := 5001) (by decide) FSrt_sl_23 (by exact ⟨⟩) (by omega) (by omega))
    refine dA 32739 ?_ (x := loc_astore (f := cInt) (e := 1) (k := j) (ag := false) (vs := [PV.val _]) _ (fun _ => rfl) rfl (by first | omega | (simp only [List.length_set]; omega)) FSrt_ty_3 (by exact ⟨⟩) (by exact rfl))
    refine dA 65535 ?_ (x := loc_gidx (k := (j - 1)) (G := 5001) (by decide) FSrt_sl_23 (by exact ⟨⟩) (by omega) (by omega))
    refine dA 131071 ?_ (x := loc_astore (f := cInt) (e := 1) (k := (j - 1)) (ag := false) (vs := [PV.val _]) _ (fun _ => rfl) rfl (by first | omega | (simp only [List.length_set]; omega)) FSrt_ty_3 (by exact ⟨⟩) (by exact rfl))
    refine sO [(0, _), (1, _), (2, _), (6, _), (7, _), (5000, _), (5001, _)] [(0, _)] ?_
    refine sw_reg ?_
    refine rA ?_ (x := sM)
    refine rA ?_ (x := B_sub)
    refine rA ?_ (x := sA)
    refine Exists.intro (j - 1) (And.intro (by exact ⟨by omega, by rw [insAt_go hj1 hlt2, haj]⟩) (And.intro (by omega) (And.intro (And.intro (by exact ⟨rfl, rfl, rfl, rfl, rfl, rfl, ⟨⟩⟩) (by exact ⟨⟩)) (And.intro (by exact And.intro (by exact int_eq (by omega)) (True.intro)) (by exact And.intro (by exact congrArg (fun z_ => some (3, arr cInt z_ jk)) (cont_swap hj1 (by rw [srt_len]; exact hj))) (True.intro))))))
   ·try simp only [q1, q2, q3, q4, q5, q6, q7, q8, q9] at hb3
    have hst : insAt (srt xs k) (xs.getD k 0) j = j := insAt_stop (by first | exact .inl (by omega) | (by_cases h0 : j = 0; exact .inl h0; right; have hh := hb3; rwa [cont_at (by rw [srt_len]; exact hj), cont_pre (by omega) (by rw [srt_len]; exact hj)] at hh))
    refine sw_exit ?_
    refine sO [(0, _), (1, _), (2, _), (6, _), (7, _), (5000, _), (5001, _)] [(0, (3, arr cInt _ _))] ?_
    refine sw_reg ?_
    refine rA ?_ (x := sM)
    refine rA ?_ (x := B_add)
    refine rA ?_ (x := sA)
    refine Exists.intro (k + 1) (And.intro (by omega) (And.intro (by omega) (And.intro (And.intro (by exact ⟨rfl, rfl, rfl, rfl, rfl, ⟨⟩⟩) (by exact ⟨⟩)) (And.intro (by exact And.intro (by exact rfl) (True.intro)) (by exact And.intro (by exact congrArg (fun z_ => some (3, arr cInt z_ jk)) (cont_end haj hst)) (True.intro))))))
  ·have sg2 := g2
   try simp only [q1, q2, q3, q4, q5, q6, q7, q8, q9] at sg2
   refine dF 15 g2 ?_
   refine dF 15 g2 ?_
   refine dF 63 g2 ?_
   refine dF 127 g2 ?_
   refine dF 15 g2 ?_
   refine dF 15 g2 ?_
   refine dF 527 g2 ?_
   refine dF 1807 g2 ?_
   refine dF 3855 g2 ?_
   refine dF 8191 g2 ?_
   refine dA 16383 ?_ (x := pkF g2)
   refine sw_cond (t := 30) rfl (fun hb_ => nomatch hb_) (fun hb_ => ?_)
   have hst : insAt (srt xs k) (xs.getD k 0) j = j := insAt_stop (by first | exact .inl (by omega) | (by_cases h0 : j = 0; exact .inl h0; right; have hh := hb_; rwa [cont_at (by rw [srt_len]; exact hj), cont_pre (by omega) (by rw [srt_len]; exact hj)] at hh))
   refine sw_exit ?_
   refine sO [(0, _), (1, _), (2, _), (6, _), (7, _), (5000, _), (5001, _)] [(0, (3, arr cInt _ _))] ?_
   refine sw_reg ?_
   refine rA ?_ (x := sM)
   refine rA ?_ (x := B_add)
   refine rA ?_ (x := sA)
   refine Exists.intro (k + 1) (And.intro (by omega) (And.intro (by omega) (And.intro (And.intro (by exact ⟨rfl, rfl, rfl, rfl, rfl, ⟨⟩⟩) (by exact ⟨⟩)) (And.intro (by exact And.intro (by exact rfl) (True.intro)) (by exact And.intro (by exact congrArg (fun z_ => some (3, arr cInt z_ jk)) (cont_end haj hst)) (True.intro))))))
 ·try simp only [q1, q2, q3, q4, q5, q6, q7, q8, q9] at hb1
  have hend : k = xs.length := by omega
  refine sw_exit ?_
  exact ⟨(by exact congrArg (fun z_ => some (3, arr cInt z_ jk)) (by rw [show k = xs.length by omega]; exact srt_all)), rfl, True.intro⟩
theorem pdq_sort {m cp : Nat} {jk : List Value} {xs : List Int} {a : Int} {b : Int} {q : Int}  (hm : m = (xs).length) (ha0 : a = 0) (hb0 : b = (xs.length : Int)) (hn1 : 1 ≤ xs.length) (hn2 : xs.length ≤ 12) : ACall Tryz.prog 75 3 m cp (arr cInt xs jk) (arr cInt (srt xs xs.length) jk) [(false, [PV.val (vI a)]), (false, [PV.val (vI b)]), (false, [PV.val (vI q)])] (resRV []) := by
 refine acall_of (rs := []) Tryz.func75 rfl (Nat.le_of_ble_eq_true rfl) (Nat.le_of_ble_eq_true rfl) ?_
 intro g_ h0 w0 Fz0 hcp_
 refine sw_seq ?_
 refine sw_reg ?_
 refine rA ?_ (x := kA)
 refine sw_seq ?_
 refine sO [(0, _), (1, _), (2, _), (3, _), (8, _), (5000, _), (5001, _)] [(0, (3, arr cInt _ _))] ?_
 refine sw_reg ?_
 refine rA ?_ (x := kA)
 refine sw_block ?_
 refine sO [(0, _), (1, _), (2, _), (3, _), (8, _), (9, _), (5000, _), (5001, _)] [(0, _)] ?_
 refine sw_loop (l0 := [(0, RV.sv false [PV.val _]), (5000, RV.phi 0 _), (5001, RV.gat _ 0 _ _)]) (b0 := [(0, (3, arr cInt _ _))]) (fun _u : Unit => True) (fun _u : Unit => [(1, RV.int a), (2, RV.int b), (3, RV.int q)]) (fun _u : Unit => []) (fun _u : Unit => 0) () True.intro (by exact ⟨rfl, rfl, rfl, ⟨⟩⟩) (by exact ⟨rfl, ⟨⟩⟩) (by exact And.intro (by exact rfl) (And.intro (by exact rfl) (And.intro (by exact rfl) (True.intro)))) (by exact ⟨⟩) ?_
 rintro _u _
 refine sw_block ?_
 refine sw_seq ?_
 refine sw_reg ?_
 refine rA ?_ (x := sM)
 refine rA ?_ (x := sM)
 refine rA ?_ (x := B_sub)
 refine rA ?_ (x := sA)
 refine sw_seq ?_
 refine sw_seq ?_
 refine sO [(0, _), (1, _), (2, _), (3, _), (10, _), (5000, _), (5001, _)] [(0, (3, arr cInt _ _))] ?_
 refine sw_reg ?_
 refine rA ?_ (x := sM)
 refine rA ?_ (x := B_leq)
 refine sw_cond (t := 23) rfl (fun hb1 => ?_) (fun hb1 => ?_)
 ·try simp only [q1, q2, q3, q4, q5, q6, q7, q8, q9] at hb1
  refine sw_seq ?_
  refine sO [(0, _), (1, _), (2, _), (3, _), (10, _), (5000, _), (5001, _)] [(0, _)] ?_
  refine sw_regL ?_
  refine wA ?_ (x := vM false [PV.val _])
  refine wA ?_ (x := sM)
  refine wA ?_ (x := sM)
  refine wO [(0, _), (1, _), (2, _), (3, _), (10, _), (24, _), (25, _), (26, _), (5000, _), (5001, _)] [(0, _)] ?_
  refine swl_acall (bx := 0) (G := 5001) (L := 0) (qs := [(false, [PV.val _]), (false, [PV.val _])]) (as_ := [(false, [PV.val _]), (false, [PV.val _])]) (by decide) FSrt_c_96 rfl (by exact rfl) (by exact rfl) (by exact rfl) (by exact ⟨rfl, rfl, ⟨⟩⟩) (by exact (And.intro (by exact ⟨⟩) (And.intro (by exact ⟨⟩) True.intro))) (by decide) (by exact (And.intro (And.intro rfl (OwnTo.cons OTo.refl OwnTo.nil)) (And.intro (And.intro rfl (OwnTo.cons OTo.refl OwnTo.nil)) True.intro))) (by exact (ins_sort (by first | rfl | exact List.length_map _ | assumption) (by first | rfl | omega) (by omega) (by omega) (by omega))) (fun x hx => absurd hx (Nat.not_lt_zero x)) (by exact (And.intro (.inr (RV.lcl_sv (LclC.cons PV.lcl_val LclC.nil))) (And.intro (.inr (RV.lcl_sv (LclC.cons PV.lcl_val LclC.nil))) (And.intro (.inr (RV.lcl_sv (LclC.cons PV.lcl_val LclC.nil))) (And.intro (.inr (RV.lcl_sv (LclC.cons PV.lcl_val LclC.nil))) (And.intro (.inr (RV.lcl_sv (LclC.cons PV.lcl_val LclC.nil))) (And.intro (.inr (RV.lcl_sv (LclC.cons PV.lcl_val LclC.nil))) (And.intro (.inl (by simp [tmpsO])) (And.intro (.inl (by simp [tmpsO])) (And.intro (.inr RV.lcl_phi) (And.intro (.inr RV.lcl_gat) True.intro))))))))))) (by exact (And.intro (.inl rfl) True.intro)) ?_
  refine swl_nil ?_
  refine sw_ret ?_
  exact ⟨(by exact rfl), rfl, True.intro⟩
 ·try simp only [q1, q2, q3, q4, q5, q6, q7, q8, q9] at hb1
  omega
theorem sl_sort {m cp : Nat} {jk : List Value} {xs : List Int}  (hm : m = (xs).length) (hn1 : 1 ≤ xs.length) (hn2 : xs.length ≤ 12) : ACall Tryz.prog 35 3 m cp (arr cInt xs jk) (arr cInt (srt xs xs.length) jk) [] (resRV []) := by
 refine acall_of (rs := []) Tryz.func35 rfl (Nat.le_of_ble_eq_true rfl) (Nat.le_of_ble_eq_true rfl) ?_
 intro g_ h0 w0 Fz0 hcp_
 refine sw_seq ?_
 refine sw_reg ?_
 refine rA ?_ (x := vM false [PV.val _])
 refine rA ?_ (x := loc_glen (G := 5001) (by decide) FSrt_sl_23)
 refine rA ?_ (x := sA)
 refine sO [(0, _), (2, _), (5000, _), (5001, _)] [(0, (3, arr cInt _ _))] ?_
 refine sw_regL ?_
 refine wA ?_ (x := vM false [PV.val _])
 refine wA ?_ (x := sM)
 refine wA ?_ (x := sM)
 refine wA ?_ (x := loc_conv FSrt_ui_3 FSrt_ui_90 (IntWalk.u64_in _ (by omega)))
 refine wA ?_ (x := cL [(false, [PV.val _])] [(false, [PV.val _])] FSrt_c_76 (hs := by exact (bits_Len (by omega))))
 refine wO [(0, _), (2, _), (5, _), (6, _), (7, _), (8, _), (9, _), (5000, _), (5001, _)] [(0, _)] ?_
 refine swl_acall (bx := 0) (G := 5001) (L := 0) (qs := [(false, [PV.val _]), (false, [PV.val _]), (false, [PV.val _])]) (as_ := [(false, [PV.val _]), (false, [PV.val _]), (false, [PV.val _])]) (by decide) FSrt_c_75 rfl (by exact rfl) (by exact rfl) (by exact rfl) (by exact ⟨rfl, rfl, ⟨⟩⟩) (by exact (And.intro (ok_sc rfl) (And.intro (by exact ⟨⟩) (And.intro (by exact ⟨⟩) True.intro)))) (by decide) (by exact (And.intro (And.intro rfl (OwnTo.cons OTo.refl OwnTo.nil)) (And.intro (And.intro rfl (OwnTo.cons OTo.refl OwnTo.nil)) (And.intro (And.intro rfl (OwnTo.cons OTo.refl OwnTo.nil)) True.intro)))) (by exact (pdq_sort (by first | rfl | exact List.length_map _ | assumption) (by first | rfl | omega) (by omega) (by omega) (by omega))) (fun x hx => absurd hx (Nat.not_lt_zero x)) (by exact (And.intro (.inr (RV.lcl_sv (LclC.cons PV.lcl_val LclC.nil))) (And.intro (.inr (RV.lcl_sv (LclC.cons PV.lcl_val LclC.nil))) (And.intro (.inr (RV.lcl_sv (LclC.cons PV.lcl_val LclC.nil))) (And.intro (.inl (by simp [tmpsO])) (And.intro (.inr (RV.lcl_sv (LclC.cons PV.lcl_val LclC.nil))) (And.intro (.inr (RV.lcl_sv (LclC.cons PV.lcl_val LclC.nil))) (And.intro (.inl (by simp [tmpsO])) (And.intro (.inr RV.lcl_phi) (And.intro (.inr RV.lcl_gat) True.intro)))))))))) (by exact (And.intro (.inl rfl) True.intro)) ?_
 refine swl_nil ?_
 exact ⟨(by exact rfl), rfl, True.intro⟩
end Go.Proofs.YtloipjaiceifbaaGreat
