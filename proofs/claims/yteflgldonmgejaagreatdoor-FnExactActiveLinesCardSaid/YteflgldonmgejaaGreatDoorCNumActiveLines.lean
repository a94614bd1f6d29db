/- What functions of the program compute. No condition. -/
import Derived.Test.YteflgldonmgejaaGreatDoorCProgActiveLines
import Derived.Test.YteflgldonmgejaaGreatDoorCDn
import Derived.Test.YteflgldonmgejaaGreatDoorCShf
import Derived.KernelRfl
set_option linter.unusedVariables false
set_option linter.unusedSimpArgs false
namespace Go.Proofs.YteflgldonmgejaaGreatDoor
open Go Go.RowKit M
set_option maxRecDepth 10000
attribute [local irreducible] PV.Lcl PV.LclR RV.Lcl
theorem FNum_c_98 : callI Tryz.prog 98 = true := by kernel_rfl
theorem FNum_sl_137 : sliceI Tryz.prog 137 = some (5, 1, 1) := by kernel_rfl
theorem FNum_ui_3 : Tryz.prog.underlying 3 = some (.int .i64) := by kernel_rfl
theorem FNum_ui_5 : Tryz.prog.underlying 5 = some (.int .u8) := by kernel_rfl
theorem FNum_us_9 : Tryz.prog.underlying 9 = some .string := by kernel_rfl
theorem FNum_usl_137 : Tryz.prog.underlying 137 = some (.slice 5) := by kernel_rfl
theorem FNum_z_5 : zeroI Tryz.prog 5 = some (.int .u8 0) := by kernel_rfl
theorem g10_ : Tryz.prog.globalNamed "internal/strconv.uint64pow10" = some 3 := by kernel_rfl
abbrev gl : Glob := glItoa Tryz.prog 3 g10_
theorem lib_Itoa {n : Int} (hn : I64 n) : GCall Tryz.prog gl 98 [(false, [PV.val (vI n)])] (resRV [(false, [PV.val (.string (B (itoa n)))])]) := itoa_g (G := gl) (fun h => h.2) Tryz.strconv_Itoa hn
theorem impl_FormatInt {n : Int}  (hn : I64 n) : GCall Tryz.prog gl 39 [(false, [PV.val (vI n)])] (resRV [(false, [PV.val (.string (B (itoa n)))])]) := by
 refine gcall_of (rs := [(false, [PV.val (.string (B (itoa n)))])]) Tryz.func39 rfl (Nat.le_of_ble_eq_true rfl) (borA_cons (BorL.cons (PV.bor_val _) BorL.nil) borA_nil) ?_
 intro h0 w0 Fz0
 have hn2 := hn
 unfold I64 at hn2
 refine sw_seq ?_
 refine sw_reg ?_
 refine rA ?_ (x := kA)
 refine sw_seq ?_
 refine sO [(0, _), (2, _), (7000, _)] [] ?_
 refine sw_reg ?_
 refine rA ?_ (x := sM)
 refine rA ?_ (x := gL [(false, [PV.val _])] [(false, [PV.val _])] FNum_c_98 (hs := by exact (lib_Itoa (by unfold I64; omega))))
 refine rA ?_ (x := sA)
 refine sw_ret ?_
 exact (And.intro (by exact rfl) True.intro)
theorem spec_FormatInt {n : Int}  (hn : I64 n) : SCall Tryz.prog 31 [(false, [PV.val (vI n)])] (resRV [(false, [PV.val (.string (B (itoa n)))])]) := by
 refine scall_of (rs := [(false, [PV.val (.string (B (itoa n)))])]) Tryz.func31 rfl (Nat.le_of_ble_eq_true rfl) (borA_cons (BorL.cons (PV.bor_val _) BorL.nil) borA_nil) ?_
 intro h0 w0 Fz0
 have hn2 := hn
 unfold I64 at hn2
 refine sw_seq ?_
 refine sw_reg ?_
 refine rA ?_ (x := kA)
 refine sw_seq ?_
 refine sw_seq ?_
 refine sO [(0, _), (2, _)] [] ?_
 refine sw_reg ?_
 refine rA ?_ (x := sM)
 refine rA ?_ (x := B_eql)
 refine sw_cond (t := 7) rfl (fun hb1 => ?_) (fun hb1 => ?_)
 ·try simp only [q1, q2, q3, q4, q5, q6, q7, q8, q9] at hb1
  have h0_ : n = 0 := hb1
  refine sw_seq ?_
  refine sO [(0, _), (2, _)] [] ?_
  refine sw_reg ?_
  refine rA ?_ (x := kA)
  refine sw_ret ?_
  exact (And.intro (by refine sv_eq ?_; exact str_eq (by rw [h0_, itoa_zero])) True.intro)
 ·try simp only [q1, q2, q3, q4, q5, q6, q7, q8, q9] at hb1
  have h0_ : ¬ n = 0 := hb1
  refine sw_skip ?_
  refine sw_seq ?_
  refine sO [(0, _), (2, _)] [] ?_
  refine sw_reg ?_
  refine rA ?_ (x := kA)
  refine sw_seq ?_
  refine sO [(0, _), (2, _), (3, _)] [] ?_
  refine sw_reg ?_
  refine rA ?_ (x := sM)
  refine rA ?_ (x := B_lss)
  refine rA ?_ (x := sA)
  refine sw_seq ?_
  refine sw_block ?_
  refine sO [(0, _), (2, _), (3, _), (4, _)] [] ?_
  refine sw_loop (l0 := [(2, RV.sv false [PV.val _]), (4, RV.sv false [PV.val _])]) (b0 := []) (fun q : Int × Bytes => I64 q.1 ∧ numTo n q.1 q.2) (fun q : Int × Bytes => [(0, RV.int q.1), (3, RV.sc (.string (B q.2)))]) (fun q : Int × Bytes => []) (fun q : Int × Bytes => q.1.natAbs) (n, []) (by exact ⟨hn, numTo_start h0_⟩) (by exact ⟨rfl, rfl, ⟨⟩⟩) (by exact ⟨⟩) (by exact And.intro (by exact rfl) (And.intro (by exact rfl) (True.intro))) (by exact ⟨⟩) ?_
  rintro q ⟨hi, hto⟩
  unfold I64 at hi
  refine sw_seq ?_
  refine sw_seq ?_
  refine sw_reg ?_
  refine rA ?_ (x := sM)
  refine rA ?_ (x := B_neq)
  refine sw_cond (t := 11) rfl (fun hb2 => ?_) (fun hb2 => ?_)
  ·try simp only [q1, q2, q3, q4, q5, q6, q7, q8, q9] at hb2
   have hq0 : q.1 ≠ 0 := by simpa using hb2
   have hln := numTo_len hto hn
   have hmd := natAbs_tmod10 q.1
   have hdv := natAbs_tdiv10 q.1
   have hl1 : (bys [48 + -(q.1.tmod 10)]).length = 1 := rfl
   have hl2 : (bys [48 + q.1.tmod 10]).length = 1 := rfl
   refine sw_skip ?_
   refine sw_block ?_
   refine sw_seq ?_
   refine sO [(0, _), (2, _), (3, _), (4, _)] [] ?_
   refine sw_reg ?_
   refine rA ?_ (x := sM)
   refine rA ?_ (x := loc_rem (by decide) (by exact ⟨⟩) (ok_sc rfl) (by omega))
   refine rA ?_ (x := sA)
   refine sw_seq ?_
   refine sw_seq ?_
   refine sO [(0, _), (2, _), (3, _), (4, _), (5, _)] [] ?_
   refine sw_reg ?_
   refine rA ?_ (x := sM)
   refine rA ?_ (x := B_lss)
   refine sw_cond (t := 15) rfl (fun hb3 => ?_) (fun hb3 => ?_)
   ·try simp only [q1, q2, q3, q4, q5, q6, q7, q8, q9] at hb3
    have hd_ : -(q.1.tmod 10) = ((q.1.natAbs % 10 : Nat) : Int) := by omega
    refine sO [(0, _), (2, _), (3, _), (4, _), (5, _)] [] ?_
    refine sw_reg ?_
    refine rA ?_ (x := sM)
    refine rA ?_ (x := loc_neg)
    refine rA ?_ (x := sA)
    refine sw_seq ?_
    refine sO [(0, _), (2, _), (3, _), (4, _), (5, _)] [] ?_
    refine sw_reg ?_
    refine rA ?_ (x := sM)
    refine rA ?_ (x := B_add)
    refine rA ?_ (x := loc_conv FNum_ui_3 FNum_ui_5 (by first | exact (congrArg (IntKind.wrap .u8) fdiv2).trans (IntWalk.u8_in _ (by omega)) | exact IntWalk.u8_in _ (by omega)))
    refine rA ?_ (x := loc_bslice (qs := [(false, [PV.val _])]) (by decide) FNum_sl_137 FNum_z_5 (by decide) rfl rfl rfl rfl rfl (by exact Nat.le_of_ble_eq_true rfl) (by exact (And.intro (by exact ⟨⟩) True.intro)) rfl)
    refine rA ?_ (x := loc_b2s1 FNum_usl_137 FNum_ui_5 FNum_us_9)
    refine rA ?_ (x := sM)
    refine rA ?_ (x := loc_sadd)
    refine rA ?_ (x := sA)
    refine sO [(0, _), (2, _), (3, _), (4, _), (5, _)] [] ?_
    refine sw_reg ?_
    refine rA ?_ (x := sM)
    refine rA ?_ (x := loc_quo)
    refine rA ?_ (x := sA)
    refine Exists.intro (q.1.tdiv 10, bys [48 + ((q.1.natAbs % 10 : Nat) : Int)] ++ q.2) (And.intro (by exact ⟨by have := natAbs_tdiv10 q.1; unfold I64; omega, numTo_next hto hq0 rfl⟩) (And.intro (by have := natAbs_tdiv10 q.1; dsimp only; omega) (And.intro (And.intro (by exact ⟨rfl, rfl, ⟨⟩⟩) (by exact ⟨⟩)) (And.intro (by exact And.intro (by exact rfl) (And.intro (by exact congrArg (fun z => some (RV.sc (.string (B (bys [48 + z] ++ q.2))))) hd_) (True.intro))) (by exact ⟨⟩)))))
   ·try simp only [q1, q2, q3, q4, q5, q6, q7, q8, q9] at hb3
    have hd_ : q.1.tmod 10 = ((q.1.natAbs % 10 : Nat) : Int) := by omega
    refine sw_skip ?_
    refine sw_seq ?_
    refine sO [(0, _), (2, _), (3, _), (4, _), (5, _)] [] ?_
    refine sw_reg ?_
    refine rA ?_ (x := sM)
    refine rA ?_ (x := B_add)
    refine rA ?_ (x := loc_conv FNum_ui_3 FNum_ui_5 (by first | exact (congrArg (IntKind.wrap .u8) fdiv2).trans (IntWalk.u8_in _ (by omega)) | exact IntWalk.u8_in _ (by omega)))
    refine rA ?_ (x := loc_bslice (qs := [(false, [PV.val _])]) (by decide) FNum_sl_137 FNum_z_5 (by decide) rfl rfl rfl rfl rfl (by exact Nat.le_of_ble_eq_true rfl) (by exact (And.intro (by exact ⟨⟩) True.intro)) rfl)
    refine rA ?_ (x := loc_b2s1 FNum_usl_137 FNum_ui_5 FNum_us_9)
    refine rA ?_ (x := sM)
    refine rA ?_ (x := loc_sadd)
    refine rA ?_ (x := sA)
    refine sO [(0, _), (2, _), (3, _), (4, _), (5, _)] [] ?_
    refine sw_reg ?_
    refine rA ?_ (x := sM)
    refine rA ?_ (x := loc_quo)
    refine rA ?_ (x := sA)
    refine Exists.intro (q.1.tdiv 10, bys [48 + ((q.1.natAbs % 10 : Nat) : Int)] ++ q.2) (And.intro (by exact ⟨by have := natAbs_tdiv10 q.1; unfold I64; omega, numTo_next hto hq0 rfl⟩) (And.intro (by have := natAbs_tdiv10 q.1; dsimp only; omega) (And.intro (And.intro (by exact ⟨rfl, rfl, ⟨⟩⟩) (by exact ⟨⟩)) (And.intro (by exact And.intro (by exact rfl) (And.intro (by exact congrArg (fun z => some (RV.sc (.string (B (bys [48 + z] ++ q.2))))) hd_) (True.intro))) (by exact ⟨⟩)))))
  ·try simp only [q1, q2, q3, q4, q5, q6, q7, q8, q9] at hb2
   have hq0 : q.1 = 0 := by simpa using hb2
   have hend := hto
   rw [hq0] at hend
   have hend := numTo_end hend
   have hln := numTo_len hto hn
   refine sw_exit ?_
   refine sw_seq ?_
   refine sw_seq ?_
   refine sO [(0, _), (2, _), (3, _), (4, _)] [] ?_
   refine sw_reg ?_
   refine rA ?_ (x := sM)
   refine sw_cond (t := 27) rfl (fun hb4 => ?_) (fun hb4 => ?_)
   ·try simp only [q1, q2, q3, q4, q5, q6, q7, q8, q9] at hb4
    have hneg : n < 0 := by simpa using hb4
    refine sw_seq ?_
    refine sO [(0, _), (2, _), (3, _), (4, _)] [] ?_
    refine sw_reg ?_
    refine rA ?_ (x := sM)
    refine rA ?_ (x := loc_sadd)
    refine rA ?_ (x := sA)
    refine sw_ret ?_
    exact (And.intro (by refine sv_eq ?_; exact str_eq (by rw [itoa_neg hneg, hend]; rfl)) True.intro)
   ·try simp only [q1, q2, q3, q4, q5, q6, q7, q8, q9] at hb4
    have hneg : ¬ n < 0 := by simpa using hb4
    refine sw_skip ?_
    refine sw_seq ?_
    refine sO [(0, _), (2, _), (3, _), (4, _)] [] ?_
    refine sw_reg ?_
    refine rA ?_ (x := sM)
    refine rA ?_ (x := sA)
    refine sw_ret ?_
    exact (And.intro (by refine sv_eq ?_; exact str_eq (by rw [itoa_pos hneg, hend])) True.intro)
end Go.Proofs.YteflgldonmgejaaGreatDoor
