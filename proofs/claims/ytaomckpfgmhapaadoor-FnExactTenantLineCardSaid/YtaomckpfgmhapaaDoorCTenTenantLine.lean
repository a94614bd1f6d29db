/- What functions of the program compute. No condition. -/
import Derived.Test.YtaomckpfgmhapaaDoorCChgTenantLine
import Derived.Test.YtaomckpfgmhapaaDoorCDt
import Derived.KernelRfl
set_option linter.unusedVariables false
set_option linter.unusedSimpArgs false
namespace Go.Proofs.YtaomckpfgmhapaaDoor
open Go Go.RowKit M
set_option maxRecDepth 10000
attribute [local irreducible] PV.Lcl PV.LclR RV.Lcl
theorem FTen_c_28 : callI Tryd.prog 28 = true := by kernel_rfl
theorem FTen_c_29 : callI Tryd.prog 29 = true := by kernel_rfl
theorem FTen_c_30 : callI Tryd.prog 30 = true := by kernel_rfl
theorem FTen_c_32 : callI Tryd.prog 32 = true := by kernel_rfl
theorem FTen_c_33 : callI Tryd.prog 33 = true := by kernel_rfl
theorem FTen_c_34 : callI Tryd.prog 34 = true := by kernel_rfl
theorem FTen_c_35 : callI Tryd.prog 35 = true := by kernel_rfl
theorem FTen_sl_82 : sliceI Tryd.prog 82 = some (9, 1, 16) := by kernel_rfl
theorem FTen_z_9 : zeroI Tryd.prog 9 = some (.string (B [])) := by kernel_rfl
theorem impl_TenantLine {p1 p2 p3 : Fl} {l : List Charge}  (hb : l.length ≤ 1048576) : GCall Tryd.prog gl 10 [(false, [PV.sl .v (l.map (cCharge p1 p2 p3))])] (resRV [(false, [PV.val (.string (B (tenLine l)))])]) := by
 refine gcall_of (rs := [(false, [PV.val (.string (B (tenLine l)))])]) Tryd.func10 rfl (Nat.le_of_ble_eq_true rfl) (borA_cons (BorL.cons (PV.bor_sl _) BorL.nil) borA_nil) ?_
 intro h0 w0 Fz0
 refine sw_len (s := 0) rfl fun hl0 => ?_
 try rw [List.length_map] at hl0
 have htw := totalWork_le l
 refine sw_seq ?_
 refine sw_reg ?_
 refine rA ?_ (x := kA)
 refine sw_seq ?_
 refine sO [(0, _), (2, _), (7000, _)] [] ?_
 refine sw_reg ?_
 refine rA ?_ (x := vM false [PV.sl .v _])
 refine rA ?_ (x := cL [(false, [PV.sl _ _])] [(false, [PV.sl .v _])] FTen_c_33 (hs := by exact impl_TotalWork (by omega)))
 refine rA ?_ (x := gL [(false, [PV.val _])] [(false, [PV.val _])] FTen_c_32 (hs := by exact (impl_FormatInt (by unfold I64; omega))))
 refine rA ?_ (x := loc_bslice (qs := [(false, [PV.val _]), (false, [PV.val _])]) (by decide) FTen_sl_82 FTen_z_9 (by decide) rfl rfl rfl rfl rfl (by exact Nat.le_of_ble_eq_true rfl) (by exact (And.intro (ok_sc rfl) (And.intro (by exact ⟨⟩) True.intro))) rfl)
 refine rA ?_ (x := tA)
 refine sw_seq ?_
 refine sw_seq ?_
 refine sO [(0, _), (2, _), (3, _), (7000, _)] [] ?_
 refine sw_reg ?_
 refine rA ?_ (x := kA)
 refine sw_block ?_
 refine sO [(0, _), (2, _), (3, _), (4, _), (7000, _)] [] ?_
 refine sw_loop (l0 := [(0, RV.sv false [PV.sl _ _]), (2, RV.sv false [PV.val _]), (7000, RV.glob _)]) (b0 := []) (fun k : Nat => k ≤ 4) (fun k : Nat => [(3, RV.slc (.own 9 1) ((wordsT l k).map cStr)), (4, RV.int (k : Int))]) (fun k : Nat => []) (fun k : Nat => 4 - k) 0 (by omega) (by exact ⟨rfl, rfl, rfl, ⟨⟩⟩) (by exact ⟨⟩) (by exact And.intro (by exact rfl) (And.intro (by exact rfl) (True.intro))) (by exact ⟨⟩) ?_
 rintro k hk
 refine sw_seq ?_
 refine sw_seq ?_
 refine sw_reg ?_
 refine rA ?_ (x := sM)
 refine rA ?_ (x := B_lss)
 refine sw_cond (t := 10) rfl (fun hb1 => ?_) (fun hb1 => ?_)
 ·try simp only [q1, q2, q3, q4, q5, q6, q7, q8, q9] at hb1
  have hlt : k < 4 := by omega
  have hwl := wordsT_len (l := l) (k := k)
  have htc := tenantCharge_le l (k : Int)
  have hil : (itoa (k : Int)).length ≤ 21 := itoa_len (by unfold I64; omega)
  have htl : (itoa (tenantCharge l (k : Int))).length ≤ 21 := itoa_len (by unfold I64; omega)
  refine sw_skip ?_
  refine sw_seq ?_
  refine sw_block ?_
  refine sO [(0, _), (2, _), (3, _), (4, _), (7000, _)] [] ?_
  refine sw_reg ?_
  refine rA ?_ (x := tM)
  refine rA ?_ (x := sM)
  refine rA ?_ (x := gL [(false, [PV.val _])] [(false, [PV.val _])] FTen_c_32 (hs := by exact (impl_FormatInt (by unfold I64; omega))))
  refine rA ?_ (x := loc_sadd)
  refine rA ?_ (x := vM false [PV.sl .v _])
  refine rA ?_ (x := sM)
  refine rA ?_ (x := cL [(false, [PV.sl _ _]), (false, [PV.val _])] [(false, [PV.sl .v _]), (false, [PV.val _])] FTen_c_34 (hs := by exact impl_TenantCharge (by omega)))
  refine rA ?_ (x := gL [(false, [PV.val _])] [(false, [PV.val _])] FTen_c_32 (hs := by exact (impl_FormatInt (by unfold I64; omega))))
  refine rA ?_ (x := loc_bslice (qs := [(false, [PV.val _]), (false, [PV.val _])]) (by decide) FTen_sl_82 FTen_z_9 (by decide) rfl rfl rfl rfl rfl (by exact Nat.le_of_ble_eq_true rfl) (by exact (And.intro (by exact ⟨⟩) (And.intro (by exact ⟨⟩) True.intro))) rfl)
  refine rA ?_ (x := loc_append (by decide) FTen_sl_82 FTen_z_9 rfl rfl (by decide) rfl (by simp only [List.length_map, List.length_append, List.length_cons, List.length_nil]; omega) (by simp only [List.length_map, List.length_append, List.length_cons, List.length_nil]; omega))
  refine rA ?_ (x := tA)
  refine sO [(0, _), (2, _), (3, _), (4, _), (7000, _)] [] ?_
  refine sw_reg ?_
  refine rA ?_ (x := sM)
  refine rA ?_ (x := B_add)
  refine rA ?_ (x := sA)
  refine Exists.intro (k + 1) (And.intro (by omega) (And.intro (by omega) (And.intro (And.intro (by exact ⟨rfl, rfl, rfl, ⟨⟩⟩) (by exact ⟨⟩)) (And.intro (by exact And.intro (by exact slc_eq (by rw [wordsT_succ, List.map_append]; rfl)) (And.intro (by exact rfl) (True.intro))) (by exact ⟨⟩)))))
 ·try simp only [q1, q2, q3, q4, q5, q6, q7, q8, q9] at hb1
  have hend : k = 4 := by omega
  subst hend
  have hwl := wordsT_len (l := l) (k := 4)
  have hjl := tenJ_le hb (k := 4) (by omega)
  refine sw_exit ?_
  refine sw_seq ?_
  refine sO [(0, _), (2, _), (3, _), (4, _), (7000, _)] [] ?_
  refine sw_reg ?_
  refine rA ?_ (x := vM false [PV.sl .v _])
  refine rA ?_ (x := cL [(false, [PV.sl _ _]), (false, [PV.val _])] [(false, [PV.sl .v _]), (false, [PV.val _])] FTen_c_35 (hs := by exact (lib_Join (by omega) (by omega))))
  refine rA ?_ (x := sA)
  refine sw_ret ?_
  exact (And.intro (by refine sv_eq ?_; exact str_eq rfl) True.intro)
theorem spec_TenantLine {p1 p2 p3 : Fl} {l : List Charge}  (hb : l.length ≤ 1048576) : SCall Tryd.prog 8 [(false, [PV.sl .v (l.map (cCharge p1 p2 p3))])] (resRV [(false, [PV.val (.string (B (tenLine l)))])]) := by
 refine scall_of (rs := [(false, [PV.val (.string (B (tenLine l)))])]) Tryd.func8 rfl (Nat.le_of_ble_eq_true rfl) (borA_cons (BorL.cons (PV.bor_sl _) BorL.nil) borA_nil) ?_
 intro h0 w0 Fz0
 refine sw_len (s := 0) rfl fun hl0 => ?_
 try rw [List.length_map] at hl0
 have htw := totalWork_le l
 have htl0 : (itoa (totalWork l)).length ≤ 21 := itoa_len (by unfold I64; omega)
 refine sw_seq ?_
 refine sw_reg ?_
 refine rA ?_ (x := kA)
 refine sw_seq ?_
 refine sO [(0, _), (2, _)] [] ?_
 refine sw_reg ?_
 refine rA ?_ (x := vM false [PV.sl .v _])
 refine rA ?_ (x := cL [(false, [PV.sl _ _])] [(false, [PV.sl .v _])] FTen_c_29 (hs := by exact spec_TotalWork (by omega)))
 refine rA ?_ (x := cL [(false, [PV.val _])] [(false, [PV.val _])] FTen_c_28 (hs := by exact (spec_FormatInt (by unfold I64; omega))))
 refine rA ?_ (x := loc_sadd)
 refine rA ?_ (x := sA)
 refine sw_seq ?_
 refine sw_seq ?_
 refine sO [(0, _), (2, _), (3, _)] [] ?_
 refine sw_reg ?_
 refine rA ?_ (x := kA)
 refine sw_block ?_
 refine sO [(0, _), (2, _), (3, _), (4, _)] [] ?_
 refine sw_loop (l0 := [(0, RV.sv false [PV.sl _ _]), (2, RV.sv false [PV.val _])]) (b0 := []) (fun k : Nat => k ≤ 4) (fun k : Nat => [(3, RV.sc (.string (B (joinB (wordsT l k) [32])))), (4, RV.int (k : Int))]) (fun k : Nat => []) (fun k : Nat => 4 - k) 0 (by omega) (by exact ⟨rfl, rfl, ⟨⟩⟩) (by exact ⟨⟩) (by exact And.intro (by exact congrArg (fun z => some (RV.sc (.string (B z)))) (by simp [wordsT, joinB, Lib.join_cons, Lib.joinTail])) (And.intro (by exact rfl) (True.intro))) (by exact ⟨⟩) ?_
 rintro k hk
 refine sw_seq ?_
 refine sw_seq ?_
 refine sw_reg ?_
 refine rA ?_ (x := sM)
 refine rA ?_ (x := B_lss)
 refine sw_cond (t := 10) rfl (fun hb1 => ?_) (fun hb1 => ?_)
 ·try simp only [q1, q2, q3, q4, q5, q6, q7, q8, q9] at hb1
  have hlt : k < 4 := by omega
  have hwl := wordsT_len (l := l) (k := k)
  have htc := tenantCharge_le l (k : Int)
  have hil : (itoa (k : Int)).length ≤ 21 := itoa_len (by unfold I64; omega)
  have htl : (itoa (tenantCharge l (k : Int))).length ≤ 21 := itoa_len (by unfold I64; omega)
  have hjl := tenJ_le hb (k := k) (by omega)
  refine sw_skip ?_
  refine sw_seq ?_
  refine sw_block ?_
  refine sO [(0, _), (2, _), (3, _), (4, _)] [] ?_
  refine sw_reg ?_
  refine rA ?_ (x := sM)
  refine rA ?_ (x := loc_sadd)
  refine rA ?_ (x := sM)
  refine rA ?_ (x := cL [(false, [PV.val _])] [(false, [PV.val _])] FTen_c_28 (hs := by exact (spec_FormatInt (by unfold I64; omega))))
  refine rA ?_ (x := loc_sadd)
  refine rA ?_ (x := loc_sadd)
  refine rA ?_ (x := vM false [PV.sl .v _])
  refine rA ?_ (x := sM)
  refine rA ?_ (x := cL [(false, [PV.sl _ _]), (false, [PV.val _])] [(false, [PV.sl .v _]), (false, [PV.val _])] FTen_c_30 (hs := by exact spec_TenantCharge (by omega)))
  refine rA ?_ (x := cL [(false, [PV.val _])] [(false, [PV.val _])] FTen_c_28 (hs := by exact (spec_FormatInt (by unfold I64; omega))))
  refine rA ?_ (x := loc_sadd)
  refine rA ?_ (x := sA)
  refine sO [(0, _), (2, _), (3, _), (4, _)] [] ?_
  refine sw_reg ?_
  refine rA ?_ (x := sM)
  refine rA ?_ (x := B_add)
  refine rA ?_ (x := sA)
  refine Exists.intro (k + 1) (And.intro (by omega) (And.intro (by omega) (And.intro (And.intro (by exact ⟨rfl, rfl, ⟨⟩⟩) (by exact ⟨⟩)) (And.intro (by exact And.intro (by exact congrArg (fun z => some (RV.sc (.string (B z)))) (by rw [wordsT_succ, join_two wordsT_ne]; simp [List.append_assoc])) (And.intro (by exact rfl) (True.intro))) (by exact ⟨⟩)))))
 ·try simp only [q1, q2, q3, q4, q5, q6, q7, q8, q9] at hb1
  have hend : k = 4 := by omega
  subst hend
  refine sw_exit ?_
  refine sw_seq ?_
  refine sO [(0, _), (2, _), (3, _), (4, _)] [] ?_
  refine sw_reg ?_
  refine rA ?_ (x := sM)
  refine rA ?_ (x := sA)
  refine sw_ret ?_
  exact (And.intro (by refine sv_eq ?_; exact str_eq rfl) True.intro)
end Go.Proofs.YtaomckpfgmhapaaDoor
