/- What functions of the program compute. No condition. -/
import Derived.Test.YteflgldonmgejaaGreatDoorCNumActiveLines
import Derived.Test.YteflgldonmgejaaGreatDoorCDmt
import Derived.KernelRfl
set_option linter.unusedVariables false
set_option linter.unusedSimpArgs false
namespace Go.Proofs.YteflgldonmgejaaGreatDoor
open Go Go.RowKit M
set_option maxRecDepth 10000
attribute [local irreducible] PV.Lcl PV.LclR RV.Lcl
theorem FMks_c_54 : callI Tryz.prog 54 = true := by kernel_rfl
theorem FMks_sl_137 : sliceI Tryz.prog 137 = some (5, 1, 1) := by kernel_rfl
theorem FMks_sl_44 : sliceI Tryz.prog 44 = some (9, 1, 16) := by kernel_rfl
theorem FMks_ty_9 : tyI Tryz.prog 9 = some (false, 1) := by kernel_rfl
theorem FMks_ui_3 : Tryz.prog.underlying 3 = some (.int .i64) := by kernel_rfl
theorem FMks_ui_5 : Tryz.prog.underlying 5 = some (.int .u8) := by kernel_rfl
theorem FMks_us_9 : Tryz.prog.underlying 9 = some .string := by kernel_rfl
theorem FMks_usl_137 : Tryz.prog.underlying 137 = some (.slice 5) := by kernel_rfl
theorem FMks_z_5 : zeroI Tryz.prog 5 = some (.int .u8 0) := by kernel_rfl
theorem mark_Text {k : Int}  (hn : I64 k) : SCall Tryz.prog 54 [(false, [PV.val (vI k)])] (resRV [(false, [PV.val (.string (B (markText k)))])]) := by
 refine scall_of (rs := [(false, [PV.val (.string (B (markText k)))])]) Tryz.func54 rfl (Nat.le_of_ble_eq_true rfl) (borA_cons (BorL.cons (PV.bor_val _) BorL.nil) borA_nil) ?_
 intro h0 w0 Fz0
 have hn2 := hn
 unfold I64 at hn2
 refine sw_seq ?_
 refine sw_reg ?_
 refine rA ?_ (x := kA)
 refine sw_seq ?_
 refine sw_seq ?_
 refine sO [(0, _), (2, _)] [] ?_
 refine sw_reg ?_
 refine rA ?_ (x := sM)
 refine rA ?_ (x := B_leq)
 refine sw_cond (t := 5) rfl (fun hb1 => ?_) (fun hb1 => ?_)
 ·try simp only [q1, q2, q3, q4, q5, q6, q7, q8, q9] at hb1
  have h0_ : k ≤ 0 := hb1
  refine sw_seq ?_
  refine sO [(0, _), (2, _)] [] ?_
  refine sw_reg ?_
  refine rA ?_ (x := kA)
  refine sw_ret ?_
  exact (And.intro (by refine sv_eq ?_; exact str_eq (markText_no h0_).symm) True.intro)
 ·try simp only [q1, q2, q3, q4, q5, q6, q7, q8, q9] at hb1
  have h0_ : ¬ k ≤ 0 := hb1
  refine sw_skip ?_
  refine sw_seq ?_
  refine sO [(0, _), (2, _)] [] ?_
  refine sw_reg ?_
  refine rA ?_ (x := kA)
  refine sw_seq ?_
  refine sw_block ?_
  refine sO [(0, _), (2, _), (3, _)] [] ?_
  refine sw_loop (l0 := [(2, RV.sv false [PV.val _])]) (b0 := []) (fun q : Int × Bytes => (0 ≤ q.1 ∧ q.1 ≤ 9223372036854775807) ∧ numTo k q.1 q.2) (fun q : Int × Bytes => [(0, RV.int q.1), (3, RV.sc (.string (B q.2)))]) (fun q : Int × Bytes => []) (fun q : Int × Bytes => q.1.natAbs) (k, []) (by exact ⟨by dsimp only; unfold I64 at hn; omega, numTo_start (by omega)⟩) (by exact ⟨rfl, ⟨⟩⟩) (by exact ⟨⟩) (by exact And.intro (by exact rfl) (And.intro (by exact rfl) (True.intro))) (by exact ⟨⟩) ?_
  rintro q ⟨hi, hto⟩
  refine sw_seq ?_
  refine sw_seq ?_
  refine sw_reg ?_
  refine rA ?_ (x := sM)
  refine rA ?_ (x := B_gtr)
  refine sw_cond (t := 7) rfl (fun hb2 => ?_) (fun hb2 => ?_)
  ·try simp only [q1, q2, q3, q4, q5, q6, q7, q8, q9] at hb2
   have hq0 : ¬ q.1 = 0 := by have := hb2; omega
   have hln := numTo_len hto hn
   have hmd := natAbs_tmod10 q.1
   have hdv := natAbs_tdiv10 q.1
   have hl2 : (bys [48 + q.1.tmod 10]).length = 1 := rfl
   have hmn := Int.tmod_nonneg 10 hi.1
   have hd_ : q.1.tmod 10 = ((q.1.natAbs % 10 : Nat) : Int) := by omega
   refine sw_skip ?_
   refine sw_block ?_
   refine sw_seq ?_
   refine sO [(0, _), (2, _), (3, _)] [] ?_
   refine sw_reg ?_
   refine rA ?_ (x := sM)
   refine rA ?_ (x := loc_rem (by decide) (by exact ⟨⟩) (ok_sc rfl) (by omega))
   refine rA ?_ (x := B_add)
   refine rA ?_ (x := loc_conv FMks_ui_3 FMks_ui_5 (by first | exact (congrArg (IntKind.wrap .u8) fdiv2).trans (IntWalk.u8_in _ (by omega)) | exact IntWalk.u8_in _ (by omega)))
   refine rA ?_ (x := loc_bslice (qs := [(false, [PV.val _])]) (by decide) FMks_sl_137 FMks_z_5 (by decide) rfl rfl rfl rfl rfl (by exact Nat.le_of_ble_eq_true rfl) (by exact (And.intro (by exact ⟨⟩) True.intro)) rfl)
   refine rA ?_ (x := loc_b2s1 FMks_usl_137 FMks_ui_5 FMks_us_9)
   refine rA ?_ (x := sM)
   refine rA ?_ (x := loc_sadd)
   refine rA ?_ (x := sA)
   refine sO [(0, _), (2, _), (3, _)] [] ?_
   refine sw_reg ?_
   refine rA ?_ (x := sM)
   refine rA ?_ (x := loc_quo)
   refine rA ?_ (x := sA)
   refine Exists.intro (q.1.tdiv 10, bys [48 + ((q.1.natAbs % 10 : Nat) : Int)] ++ q.2) (And.intro (by exact ⟨by have := natAbs_tdiv10 q.1; have := Int.tdiv_nonneg hi.1 (show (0 : Int) ≤ 10 by decide); dsimp only; omega, numTo_next hto hq0 rfl⟩) (And.intro (by have := natAbs_tdiv10 q.1; dsimp only; omega) (And.intro (And.intro (by exact ⟨rfl, ⟨⟩⟩) (by exact ⟨⟩)) (And.intro (by exact And.intro (by exact rfl) (And.intro (by exact congrArg (fun z => some (RV.sc (.string (B (bys [48 + z] ++ q.2))))) hd_) (True.intro))) (by exact ⟨⟩)))))
  ·try simp only [q1, q2, q3, q4, q5, q6, q7, q8, q9] at hb2
   have hq0 : q.1 = 0 := by have := hb2; omega
   have hend := hto
   rw [hq0] at hend
   have hend := numTo_end hend
   have hln := numTo_len hto hn
   refine sw_exit ?_
   refine sw_seq ?_
   refine sO [(0, _), (2, _), (3, _)] [] ?_
   refine sw_reg ?_
   refine rA ?_ (x := sM)
   refine rA ?_ (x := loc_sadd)
   refine rA ?_ (x := sA)
   refine sw_ret ?_
   exact (And.intro (by refine sv_eq ?_; exact str_eq (by rw [markText_yes h0_, hend]; rfl)) True.intro)
theorem eq_StrS {x : List Bytes} {y : List Bytes}  : SCall Tryz.prog 14 [(false, [PV.sl .v (x.map cStr)]), (false, [PV.sl .v (y.map cStr)])] (resRV [(false, [PV.val (.bool (deq x y))])]) := by
 refine scall_of (rs := [(false, [PV.val (.bool (deq x y))])]) Tryz.func14 rfl (Nat.le_of_ble_eq_true rfl) (borA_cons (BorL.cons (PV.bor_sl _) BorL.nil) (borA_cons (BorL.cons (PV.bor_sl _) BorL.nil) borA_nil)) ?_
 intro h0 w0 Fz0
 refine sw_len (s := 0) rfl fun hl0 => ?_
 try rw [List.length_map] at hl0
 refine sw_len (s := 1) rfl fun hl1 => ?_
 try rw [List.length_map] at hl1
 refine sw_seq ?_
 refine sw_reg ?_
 refine rA ?_ (x := kA)
 refine sw_seq ?_
 refine sw_seq ?_
 refine sO [(0, _), (1, _), (4, _)] [] ?_
 refine sw_reg ?_
 refine rA ?_ (x := vM false [PV.sl .v _])
 refine rA ?_ (x := lN FMks_sl_44)
 refine rA ?_ (x := vM false [PV.sl .v _])
 refine rA ?_ (x := lN FMks_sl_44)
 refine rA ?_ (x := B_neq)
 refine sw_cond (t := 10) rfl (fun hb1 => ?_) (fun hb1 => ?_)
 ·try simp only [q1, q2, q3, q4, q5, q6, q7, q8, q9] at hb1
  refine sw_seq ?_
  refine sO [(0, _), (1, _), (4, _)] [] ?_
  refine sw_reg ?_
  refine rA ?_ (x := kA)
  refine sw_ret ?_
  exact (And.intro (by refine bool_eq ?_; exact (deq_false (fun e => by subst e; omega)).symm) True.intro)
 ·try simp only [q1, q2, q3, q4, q5, q6, q7, q8, q9] at hb1
  have hl : x.length = y.length := by omega
  refine sw_skip ?_
  refine sw_seq ?_
  refine sw_seq ?_
  refine sO [(0, _), (1, _), (4, _)] [] ?_
  refine sw_reg ?_
  refine rA ?_ (x := kA)
  refine sw_block ?_
  refine sO [(0, _), (1, _), (4, _), (5, _)] [] ?_
  refine sw_loop (l0 := [(0, RV.sv false [PV.sl _ _]), (1, RV.sv false [PV.sl _ _])]) (b0 := []) (fun k : Nat => k ≤ x.length ∧ x.take k = y.take k) (fun k : Nat => [(5, RV.int (k : Int))]) (fun k : Nat => []) (fun k : Nat => x.length - k) 0 (by exact ⟨by omega, by simp⟩) (by exact ⟨rfl, rfl, ⟨⟩⟩) (by exact ⟨⟩) (by exact And.intro (by exact rfl) (True.intro)) (by exact ⟨⟩) ?_
  rintro k ⟨hk, ha⟩
  refine sw_seq ?_
  refine sw_seq ?_
  refine sw_reg ?_
  refine rA ?_ (x := sM)
  refine rA ?_ (x := vM false [PV.sl .v _])
  refine rA ?_ (x := lN FMks_sl_44)
  refine rA ?_ (x := B_lss)
  refine sw_cond (t := 14) rfl (fun hb2 => ?_) (fun hb2 => ?_)
  ·try simp only [q1, q2, q3, q4, q5, q6, q7, q8, q9] at hb2
   have hlt : k < x.length := by omega
   have hlt2 : k < y.length := by omega
   refine sw_skip ?_
   refine sw_seq ?_
   refine sw_block ?_
   refine sw_seq ?_
   refine sO [(0, _), (1, _), (5, _)] [] ?_
   refine sw_draw hm_ ?_
   refine dA 0 ?_ (x := vM false [PV.sl .v _])
   refine dA 0 ?_ (x := sM)
   refine dA 3 ?_ (x := loc_index (by decide) FMks_sl_44 (by exact ⟨⟩) (by exact rfl) (by exact getm2 (by omega) rfl) (by exact rfl))
   refine dA 7 ?_ (x := lE [PV.val _] FMks_ty_9)
   refine dA 0 ?_ (x := vM false [PV.sl .v _])
   refine dA 0 ?_ (x := sM)
   refine dA 48 ?_ (x := loc_index (by decide) FMks_sl_44 (by exact ⟨⟩) (by exact rfl) (by exact getm2 (by omega) rfl) (by exact rfl))
   refine dA 112 ?_ (x := lE [PV.val _] FMks_ty_9)
   refine dA 255 ?_ (x := loc_sneq)
   refine sw_cond (t := 25) rfl (fun hb3 => ?_) (fun hb3 => ?_)
   ·try simp only [q1, q2, q3, q4, q5, q6, q7, q8, q9] at hb3
    have hne : x[k] ≠ y[k] := by simpa using hb3
    refine sw_seq ?_
    refine sO [(0, _), (1, _), (5, _)] [] ?_
    refine sw_reg ?_
    refine rA ?_ (x := kA)
    refine sw_ret ?_
    exact (And.intro (by refine bool_eq ?_; exact (deq_false (eq_no hlt hlt2 hne)).symm) True.intro)
   ·try simp only [q1, q2, q3, q4, q5, q6, q7, q8, q9] at hb3
    have heq : x[k] = y[k] := by simpa using hb3
    refine sw_skip ?_
    refine sO [(0, _), (1, _), (5, _)] [] ?_
    refine sw_reg ?_
    refine rA ?_ (x := sM)
    refine rA ?_ (x := B_add)
    refine rA ?_ (x := sA)
    refine Exists.intro (k + 1) (And.intro (by exact ⟨by omega, eq_succ ha hlt hlt2 heq⟩) (And.intro (by omega) (And.intro (And.intro (by exact ⟨rfl, rfl, ⟨⟩⟩) (by exact ⟨⟩)) (And.intro (by exact And.intro (by exact rfl) (True.intro)) (by exact ⟨⟩)))))
  ·try simp only [q1, q2, q3, q4, q5, q6, q7, q8, q9] at hb2
   refine sw_exit ?_
   refine sw_seq ?_
   refine sO [(0, _), (1, _), (5, _)] [] ?_
   refine sw_reg ?_
   refine rA ?_ (x := kA)
   refine sw_ret ?_
   exact (And.intro (by refine bool_eq ?_; exact (deq_true (eq_end hl (by rw [show x.length = k by omega]; exact ha))).symm) True.intro)
theorem mark_StrS {x : List Bytes} {k : Int} (h0k : 0 ≤ k) (hbk : (mkL mkE_Str x k).2 ≤ 4611686018427387904) : UCall Tryz.prog 16 false [PV.sl (.own 9 1) (x.map cStr)] [PV.sl (.own 9 1) ((mkL mkE_Str x k).1.map cStr)] [(false, [PV.val (vI k)])] (vI (mkL mkE_Str x k).2) := by
 refine ucall_of Tryz.func16 rfl (Nat.le_of_ble_eq_true rfl) (borA_cons (BorL.cons (PV.bor_val _) BorL.nil) borA_nil) ?_
 intro us h0 w0 Fz0 hus
 obtain ⟨u0, rfl⟩ := len1 hus
 by_cases hx : x = []
 ·subst hx
  refine sw_seq ?_
  refine sO [(0, _), (1, _)] [] ?_
  refine sw_reg ?_
  refine rA ?_ (x := kA)
  refine sw_seq ?_
  refine sw_seq ?_
  refine sO [(0, _), (1, _), (4, _)] [] ?_
  refine sw_reg ?_
  refine rA ?_ (x := kA)
  refine sw_block ?_
  refine sO [(0, _), (1, _), (4, _), (5, _)] [] ?_
  refine sw_loop (l0 := [(0, RV.sv false [PV.nv _ (PV.sl _ _)]), (4, RV.sv false [PV.val _])]) (b0 := []) (fun _ : Unit => True) (fun _ : Unit => [(1, RV.int k), (5, RV.int 0)]) (fun _ : Unit => []) (fun _ : Unit => 0) () True.intro (by exact ⟨rfl, rfl, ⟨⟩⟩) (by exact ⟨⟩) (by exact And.intro (by exact rfl) (And.intro (by exact rfl) (True.intro))) (by exact ⟨⟩) ?_
  rintro _ _
  refine sw_seq ?_
  refine sw_seq ?_
  refine sw_reg ?_
  refine rA ?_ (x := sM)
  refine rA ?_ (x := loc_copy (r' := RV.sv false [PV.sl .v _]) (.inl rfl) (by decide) (by exact Cp.sv (ToL.cons (PV.nv_to PV.to_none) ToL.nil) (BorL.cons (PV.bor_sl _) BorL.nil)))
  refine rA ?_ (x := lN FMks_sl_44)
  refine rA ?_ (x := B_lss)
  refine sw_cond (t := 9) rfl (fun hb1 => ?_) (fun hb1 => ?_)
  ·try simp only [q1, q2, q3, q4, q5, q6, q7, q8, q9] at hb1
   simp at hb1
  ·try simp only [q1, q2, q3, q4, q5, q6, q7, q8, q9] at hb1
   refine sw_exit ?_
   refine sw_seq ?_
   refine sO [(0, _), (1, _), (4, _), (5, _)] [] ?_
   refine sw_reg ?_
   refine rA ?_ (x := sM)
   refine rA ?_ (x := sA)
   refine sw_ret ?_
   exact And.intro (by exact rfl) (Exists.intro _ (And.intro (.inl (by exact rfl)) (And.intro (by exact (Nm.nv Nm.nil)) (by exact (OwnTo.nv OwnTo.nil)))))
 ·refine sw_thaw (s := 0) (D := 999) (E := 9) (e := 1) (u := u0) (es := x.map cStr) (L := L0w) (by exact rfl) (by simpa using hx) (by exact rfl) (by exact rfl) (fun x hx => hx.elim) (by exact And.intro (.inl rfl) (And.intro (.inr (RV.lcl_sv (LclC.cons PV.lcl_val LclC.nil))) True.intro)) True.intro (LclC.map fun x => (LclC.cons PV.lcl_val LclC.nil)) fun cp jk hl0 hcp hjk => ?_
  have hlm : (x.map cStr).length = x.length := List.length_map _
  rw [hlm] at hl0 hcp
  have hmono := mkL_take_le mkE_Str_le x
  have hmono0 := fun i => mkL_le mkE_Str_le (x.take i) k
  refine sw_seq ?_
  refine sO [(0, _), (1, _)] [(999, (9, _))] ?_
  refine sw_reg ?_
  refine rA ?_ (x := kA)
  refine sw_seq ?_
  refine sw_seq ?_
  refine sO [(0, _), (1, _), (4, _)] [(999, _)] ?_
  refine sw_reg ?_
  refine rA ?_ (x := kA)
  refine sw_block ?_
  refine sO [(0, _), (1, _), (4, _), (5, _)] [(999, _)] ?_
  refine sw_loop (l0 := [(0, RV.nm _ (RV.hdr 999 _ _)), (4, RV.sv false [PV.val _])]) (b0 := []) (fun i : Nat => i ≤ x.length) (fun i : Nat => [(1, RV.int (mkL mkE_Str (x.take i) k).2), (5, RV.int (i : Int))]) (fun i : Nat => [(999, (9, (((mkL mkE_Str (x.take i) k).1 ++ x.drop i).map cStr).flatten ++ jk.map PV.val))]) (fun i : Nat => x.length - i) 0 (by omega) (by exact ⟨rfl, rfl, ⟨⟩⟩) (by exact ⟨⟩) (by exact And.intro (by exact rfl) (And.intro (by exact rfl) (True.intro))) (by exact And.intro (by exact congrArg (fun z => some (9, z)) mark_zero) (True.intro)) ?_
  rintro i hi
  refine sw_seq ?_
  refine sw_seq ?_
  refine sw_reg ?_
  refine rA ?_ (x := sM)
  refine rA ?_ (x := loc_copy (.inl rfl) (by decide) (by exact Cp.nm Cp.hdr))
  refine rA ?_ (x := loc_hlen (by decide) FMks_sl_44)
  refine rA ?_ (x := B_lss)
  refine sw_cond (t := 9) rfl (fun hb1 => ?_) (fun hb1 => ?_)
  ·try simp only [q1, q2, q3, q4, q5, q6, q7, q8, q9] at hb1
   have hlt : i < x.length := by omega
   have hk0 := hmono0 i
   have hk1 := hmono (i + 1) k
   rw [mkL_succ hlt] at hk1
   dsimp only at hk1
   simp only [mkE_Str] at hk1
   refine sw_boxEq (d := 999) (by exact rfl) (mark_split hlt) ?_
   have hA := mark_len (f := mkE_Str) (c := cStr) (e := 1) (k := k) (fun _ => rfl) (Nat.le_of_lt hlt)
   refine sw_skip ?_
   refine sw_seq ?_
   refine sw_block ?_
   refine sw_seq ?_
   refine sO [(0, _), (1, _), (4, _), (5, _)] [(999, (9, _ ++ ([PV.val _] ++ _)))] ?_
   refine sw_reg ?_
   refine rA ?_ (x := loc_copy (.inl rfl) (by decide) (by exact Cp.nm Cp.hdr))
   refine rA ?_ (x := sM)
   refine rA ?_ (x := sM)
   refine rA ?_ (x := cL [(false, [PV.val _])] [(false, [PV.val _])] FMks_c_54 (hs := by exact (mark_Text (by unfold I64; omega))))
   refine rA ?_ (x := loc_hindex (by decide) FMks_sl_44 (by exact ⟨⟩) (by exact rfl) (by omega))
   refine rA ?_ (x := loc_storeM (o := 0) (ag := false) (vs := [PV.val _]) (by omega) FMks_ty_9 (by exact ⟨⟩) (by exact rfl) (by exact Nat.le_of_ble_eq_true rfl))
   refine sO [(0, _), (1, _), (4, _), (5, _)] [(999, (9, _ ++ ([PV.val _] ++ _)))] ?_
   refine sw_reg ?_
   refine rA ?_ (x := sM)
   refine rA ?_ (x := B_add)
   refine rA ?_ (x := sA)
   refine sO [(0, _), (1, _), (4, _), (5, _)] [(999, _)] ?_
   refine sw_reg ?_
   refine rA ?_ (x := sM)
   refine rA ?_ (x := B_add)
   refine rA ?_ (x := sA)
   refine Exists.intro (i + 1) (And.intro (by omega) (And.intro (by omega) (And.intro (And.intro (by exact ⟨rfl, rfl, ⟨⟩⟩) (by exact ⟨⟩)) (And.intro (by exact And.intro (by exact int_eq (by rw [mkL_succ hlt]; rfl)) (And.intro (by exact rfl) (True.intro))) (by exact And.intro (by exact congrArg (fun z => some (9, z)) (mark_join hlt rfl)) (True.intro))))))
  ·try simp only [q1, q2, q3, q4, q5, q6, q7, q8, q9] at hb1
   have hend : i = x.length := by omega
   refine sw_boxEq (d := 999) (by exact rfl) (mark_all hend) ?_
   refine sw_freeze (s := 0) (D := 999) (e := 1) (by exact rfl) (by exact rfl) (by rw [List.length_map, mkL_len, List.length_map]) (by intro c hc; obtain ⟨y, _, rfl⟩ := List.mem_map.1 hc; exact rfl) hjk ?_
   refine sw_exit ?_
   refine sw_seq ?_
   refine sO [(0, _), (1, _), (4, _), (5, _)] [] ?_
   refine sw_reg ?_
   refine rA ?_ (x := sM)
   refine rA ?_ (x := sA)
   refine sw_ret ?_
   exact And.intro (by exact int_eq (by first | rfl | rw [hend, List.take_length])) (Exists.intro _ (And.intro (.inl (by exact rfl)) (And.intro (by exact (Nm.nv Nm.nil)) (by exact (OwnTo.nv OwnTo.nil)))))
theorem held_StrS {x : List Bytes} {k : Int}  (h0k : 0 ≤ k) (hbk : (mkL mkE_Str x k).2 ≤ 4611686018427387904): SCall Tryz.prog 17 [(false, [PV.sl .v ((mkL mkE_Str x k).1.map cStr)]), (false, [PV.val (vI k)])] (resRV [(false, [PV.val (vI (mkL mkE_Str x k).2)])]) := by
 refine scall_of (rs := [(false, [PV.val (vI (mkL mkE_Str x k).2)])]) Tryz.func17 rfl (Nat.le_of_ble_eq_true rfl) (borA_cons (BorL.cons (PV.bor_sl _) BorL.nil) (borA_cons (BorL.cons (PV.bor_val _) BorL.nil) borA_nil)) ?_
 intro h0 w0 Fz0
 refine sw_len (s := 0) rfl fun hl0 => ?_
 try rw [List.length_map] at hl0
 have hlm : (mkL mkE_Str x k).1.length = x.length := mkL_len _ _
 have hmono := mkL_take_le mkE_Str_le x
 have hmono0 := fun i => mkL_le mkE_Str_le (x.take i) k
 refine sw_seq ?_
 refine sw_reg ?_
 refine rA ?_ (x := kA)
 refine sw_seq ?_
 refine sw_seq ?_
 refine sO [(0, _), (1, _), (4, _)] [] ?_
 refine sw_reg ?_
 refine rA ?_ (x := kA)
 refine sw_block ?_
 refine sO [(0, _), (1, _), (4, _), (5, _)] [] ?_
 refine sw_loop (l0 := [(0, RV.sv false [PV.sl _ _])]) (b0 := []) (fun i : Nat => i ≤ x.length) (fun i : Nat => [(1, RV.int (mkL mkE_Str (x.take i) k).2), (5, RV.int (i : Int))]) (fun i : Nat => []) (fun i : Nat => x.length - i) 0 (by omega) (by exact ⟨rfl, ⟨⟩⟩) (by exact ⟨⟩) (by exact And.intro (by exact rfl) (And.intro (by exact rfl) (True.intro))) (by exact ⟨⟩) ?_
 rintro i hi
 refine sw_seq ?_
 refine sw_seq ?_
 refine sw_reg ?_
 refine rA ?_ (x := sM)
 refine rA ?_ (x := vM false [PV.sl .v _])
 refine rA ?_ (x := lN FMks_sl_44)
 refine rA ?_ (x := B_lss)
 refine sw_cond (t := 9) rfl (fun hb1 => ?_) (fun hb1 => ?_)
 ·try simp only [q1, q2, q3, q4, q5, q6, q7, q8, q9] at hb1
  have hlt : i < x.length := by omega
  have hk0 := hmono0 i
  have hk1 := hmono (i + 1) k
  rw [mkL_succ hlt] at hk1
  dsimp only at hk1
  simp only [mkE_Str] at hk1
  refine sw_skip ?_
  refine sw_seq ?_
  refine sw_block ?_
  refine sw_seq ?_
  refine sw_seq ?_
  refine sO [(0, _), (1, _), (5, _)] [] ?_
  refine sw_draw hm_ ?_
  refine dA 0 ?_ (x := vM false [PV.sl .v _])
  refine dA 0 ?_ (x := sM)
  refine dA 3 ?_ (x := loc_index (by decide) FMks_sl_44 (by exact ⟨⟩) (by exact rfl) (by exact mkL_getc hlt rfl) (by exact rfl))
  refine dA 7 ?_ (x := lE [PV.val _] FMks_ty_9)
  refine dA 0 ?_ (x := sM)
  refine dA 16 ?_ (x := cL [(false, [PV.val _])] [(false, [PV.val _])] FMks_c_54 (hs := by exact (mark_Text (by unfold I64; omega))))
  refine dA 63 ?_ (x := loc_sneq)
  refine sw_cond (t := 18) rfl (fun hb2 => ?_) (fun hb2 => ?_)
  ·try simp only [q1, q2, q3, q4, q5, q6, q7, q8, q9] at hb2
   first | exact absurd rfl hb2 | omega
  ·try simp only [q1, q2, q3, q4, q5, q6, q7, q8, q9] at hb2
   refine sw_skip ?_
   refine sO [(0, _), (1, _), (5, _)] [] ?_
   refine sw_reg ?_
   refine rA ?_ (x := sM)
   refine rA ?_ (x := B_add)
   refine rA ?_ (x := sA)
   refine sO [(0, _), (1, _), (5, _)] [] ?_
   refine sw_reg ?_
   refine rA ?_ (x := sM)
   refine rA ?_ (x := B_add)
   refine rA ?_ (x := sA)
   refine Exists.intro (i + 1) (And.intro (by omega) (And.intro (by omega) (And.intro (And.intro (by exact ⟨rfl, ⟨⟩⟩) (by exact ⟨⟩)) (And.intro (by exact And.intro (by exact int_eq (by rw [mkL_succ hlt]; rfl)) (And.intro (by exact rfl) (True.intro))) (by exact ⟨⟩)))))
 ·try simp only [q1, q2, q3, q4, q5, q6, q7, q8, q9] at hb1
  have hend : i = x.length := by omega
  refine sw_exit ?_
  refine sw_seq ?_
  refine sO [(0, _), (1, _), (5, _)] [] ?_
  refine sw_reg ?_
  refine rA ?_ (x := sM)
  refine rA ?_ (x := sA)
  refine sw_ret ?_
  exact (And.intro (by refine int_eq ?_; first | rfl | rw [hend, List.take_length]) True.intro)
end Go.Proofs.YteflgldonmgejaaGreatDoor
