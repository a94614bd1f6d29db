/- What functions of the program compute. No condition. -/
import Derived.Test.YteflgldonmgejaaGreatCQuerProbeWork
import Derived.Test.YteflgldonmgejaaGreatCJoinProbeWork
import Derived.Test.YteflgldonmgejaaGreatCEqPProbeWork
import Derived.Test.YteflgldonmgejaaGreatCDi
import Derived.KernelRfl
set_option linter.unusedVariables false
set_option linter.unusedSimpArgs false
namespace Go.Proofs.YteflgldonmgejaaGreat
open Go Go.RowKit M
set_option maxRecDepth 10000
attribute [local irreducible] PV.Lcl PV.LclR RV.Lcl
theorem FIdx_c_100 : callI Tryz.prog 100 = true := by kernel_rfl
theorem FIdx_c_139 : callI Tryz.prog 139 = true := by kernel_rfl
theorem FIdx_c_179 : callI Tryz.prog 179 = true := by kernel_rfl
theorem FIdx_c_222 : callI Tryz.prog 222 = true := by kernel_rfl
theorem FIdx_c_223 : callI Tryz.prog 223 = true := by kernel_rfl
theorem FIdx_c_236 : callI Tryz.prog 236 = true := by kernel_rfl
theorem FIdx_c_97 : callI Tryz.prog 97 = true := by kernel_rfl
theorem FIdx_fd_193_0 : fieldI Tryz.prog 193 0 = some 0 := by kernel_rfl
theorem FIdx_fd_193_1 : fieldI Tryz.prog 193 1 = some 1 := by kernel_rfl
theorem FIdx_fd_193_2 : fieldI Tryz.prog 193 2 = some 2 := by kernel_rfl
theorem FIdx_fd_234_0 : fieldI Tryz.prog 234 0 = some 0 := by kernel_rfl
theorem FIdx_fd_234_1 : fieldI Tryz.prog 234 1 = some 1 := by kernel_rfl
theorem FIdx_fd_234_2 : fieldI Tryz.prog 234 2 = some 2 := by kernel_rfl
theorem FIdx_fd_65_0 : fieldI Tryz.prog 65 0 = some 0 := by kernel_rfl
theorem FIdx_fd_65_1 : fieldI Tryz.prog 65 1 = some 1 := by kernel_rfl
theorem FIdx_fd_65_2 : fieldI Tryz.prog 65 2 = some 2 := by kernel_rfl
theorem FIdx_fd_65_3 : fieldI Tryz.prog 65 3 = some 3 := by kernel_rfl
theorem FIdx_pl_234 : placesI Tryz.prog 234 = some [(0, 1), (1, 1), (2, 1)] := by kernel_rfl
theorem FIdx_pl_65 : placesI Tryz.prog 65 = some [(0, 1), (1, 1), (2, 1), (3, 1)] := by kernel_rfl
theorem FIdx_sl_205 : sliceI Tryz.prog 205 = some (234, 3, 40) := by kernel_rfl
theorem FIdx_sl_25 : sliceI Tryz.prog 25 = some (3, 1, 8) := by kernel_rfl
theorem FIdx_sl_63 : sliceI Tryz.prog 63 = some (193, 3, 24) := by kernel_rfl
theorem FIdx_sl_89 : sliceI Tryz.prog 89 = some (65, 4, 64) := by kernel_rfl
theorem FIdx_ty_25 : tyI Tryz.prog 25 = some (false, 1) := by kernel_rfl
theorem FIdx_ty_3 : tyI Tryz.prog 3 = some (false, 1) := by kernel_rfl
theorem FIdx_ty_63 : tyI Tryz.prog 63 = some (false, 1) := by kernel_rfl
theorem FIdx_ty_65 : tyI Tryz.prog 65 = some (true, 4) := by kernel_rfl
theorem FIdx_z_193 : zeroI Tryz.prog 193 = some (.agg #[.int .i64 0, .int .i64 0, .int .i64 0]) := by kernel_rfl
theorem FIdx_z_234 : zeroI Tryz.prog 234 = some (.agg #[.int .i64 0, .int .i64 0, .slice none 0 0]) := by kernel_rfl
theorem FIdx_z_3 : zeroI Tryz.prog 3 = some (.int .i64 0) := by kernel_rfl
theorem FIdx_z_65 : zeroI Tryz.prog 65 = some (.agg #[.int .i64 0, .int .i64 0, .slice none 0 0, .slice none 0 0]) := by kernel_rfl
theorem FIdx_zo_234 {Fz : FzT} {w : World} : OwnL [PV.val (.int .i64 0), PV.val (.int .i64 0), PV.sl (.own 3 1) []] Fz w (Value.cells (.agg #[.int .i64 0, .int .i64 0, .slice none 0 0])).toList [] := zo_val rfl (zo_val rfl (zo_sl (zo_nil)))
theorem FIdx_zo_65 {Fz : FzT} {w : World} : OwnL [PV.val (.int .i64 0), PV.val (.int .i64 0), PV.sl (.own 193 3) [], PV.sl (.own 3 1) []] Fz w (Value.cells (.agg #[.int .i64 0, .int .i64 0, .slice none 0 0, .slice none 0 0])).toList [] := zo_val rfl (zo_val rfl (zo_sl (zo_sl (zo_nil))))
theorem spec_AreQueries {p1 p2 : Fl} {l : List Query}  : SCall Tryz.prog 179 [(false, [PV.sl .v (l.map (cQuery p1 p2))])] (resRV [(false, [PV.val (.bool (okQueries l))])]) := by
 refine scall_of (rs := [(false, [PV.val (.bool (okQueries l))])]) Tryz.func179 rfl (Nat.le_of_ble_eq_true rfl) (borA_cons (BorL.cons (PV.bor_sl _) BorL.nil) borA_nil) ?_
 intro h0 w0 Fz0
 refine sw_len (s := 0) rfl fun hl0 => ?_
 try rw [List.length_map] at hl0
 refine sw_seq ?_
 refine sw_reg ?_
 refine rA ?_ (x := kA)
 refine sw_seq ?_
 refine sw_seq ?_
 refine sO [(0, _), (2, _)] [] ?_
 refine sw_reg ?_
 refine rA ?_ (x := kA)
 refine sw_block ?_
 refine sO [(0, _), (2, _), (3, _)] [] ?_
 refine sw_loop (l0 := [(0, RV.sv false [PV.sl _ _])]) (b0 := []) (fun k : Nat => k ≤ l.length ∧ adjTo q0_ okQuery ltQ l k = true) (fun k : Nat => [(3, RV.int (k : Int))]) (fun k : Nat => []) (fun k : Nat => l.length - k) 0 (by exact ⟨by omega, rfl⟩) (by exact ⟨rfl, ⟨⟩⟩) (by exact ⟨⟩) (by exact And.intro (by exact rfl) (True.intro)) (by exact ⟨⟩) ?_
 rintro k ⟨hk, ha⟩
 refine sw_seq ?_
 refine sw_seq ?_
 refine sw_reg ?_
 refine rA ?_ (x := sM)
 refine rA ?_ (x := vM false [PV.sl .v _])
 refine rA ?_ (x := lN FIdx_sl_89)
 refine rA ?_ (x := B_lss)
 refine sw_cond (t := 7) rfl (fun hb1 => ?_) (fun hb1 => ?_)
 ·try simp only [q1, q2, q3, q4, q5, q6, q7, q8, q9] at hb1
  have hlt : k < l.length := by omega
  have hgk : l.getD k q0_ = l[k] := getD_at hlt
  have hgp : 0 < k → l.getD (k - 1) q0_ = l[k - 1] := fun h => getD_at (by omega)
  refine sw_skip ?_
  refine sw_seq ?_
  refine sw_block ?_
  refine sw_seq ?_
  refine sO [(0, _), (3, _)] [] ?_
  refine sw_draw hm_ ?_
  refine dA 0 ?_ (x := vM false [PV.sl .v _])
  refine dA 0 ?_ (x := sM)
  refine dA 3 ?_ (x := loc_index (by decide) FIdx_sl_89 (by exact ⟨⟩) (by exact rfl) (by exact getm2 (by omega) rfl) (by exact rfl))
  refine dA 7 ?_ (x := lE [PV.val _, PV.val _, PV.sl .v _, PV.sl .v _] FIdx_ty_65)
  refine dA 15 ?_ (x := cL [(true, [PV.val _, PV.val _, PV.sl _ _, PV.sl _ _])] [(true, [PV.val _, PV.val _, PV.sl .v _, PV.sl .v _])] FIdx_c_100 (hs := by exact spec_IsQuery))
  refine dA 31 ?_ (x := nT)
  refine dA 63 ?_ (x := sM)
  refine Run.cases (s := 16) rfl (fun g2 => ?_) (fun g2 => ?_)
  ·have sg2 := g2
   try simp only [q1, q2, q3, q4, q5, q6, q7, q8, q9] at sg2
   refine dT 127 g2 ?_
   refine dT 255 g2 ?_
   refine dT 511 g2 ?_
   refine dU 1023 ?_
   refine dU 1023 ?_
   refine dU 4095 ?_
   refine dU 8191 ?_
   refine dU 16383 ?_
   refine dU 1023 ?_
   refine dU 1023 ?_
   refine dU 66559 ?_
   refine dU 230399 ?_
   refine dU 492543 ?_
   refine dU 1016831 ?_
   refine dU 2097151 ?_
   refine dT 4194303 g2 ?_
   refine dA 8388607 ?_ (x := pkT g2)
   refine sw_cond (t := 33) rfl (fun hb_ => ?_) (fun hb_ => nomatch hb_)
   have hbad : adjAll q0_ okQuery ltQ l = false := adj_no hlt (Bool.eq_false_iff.2 fun hx => by
    have hx := adjStep.1 hx
    rw [hgk] at hx
    obtain ⟨hx1, hx2⟩ := hx
    first
    | (simp_all; done)
    | (simp only [decide_eq_true_eq, ltQ] at *; by_cases h0 : k = 0 <;> (try rw [hgp (by omega)] at hx2) <;> omega))
   refine sw_seq ?_
   refine sO [(0, _), (3, _)] [] ?_
   refine sw_reg ?_
   refine rA ?_ (x := kA)
   refine sw_ret ?_
   exact (And.intro (by refine bool_eq ?_; simp [okQueries, hbad]) True.intro)
  ·have sg2 := g2
   try simp only [q1, q2, q3, q4, q5, q6, q7, q8, q9] at sg2
   refine dB 127 g2 ?_ (x := sM)
   refine dB 255 g2 ?_ (x := B_gtr)
   refine dB 511 g2 ?_ (x := sM)
   refine Run.cases (s := 19) rfl (fun g4 => ?_) (fun g4 => ?_)
   ·have sg4 := g4
    try simp only [q1, q2, q3, q4, q5, q6, q7, q8, q9] at sg4
    refine dB 1023 g4 ?_ (x := vM false [PV.sl .v _])
    refine dB 1023 g4 ?_ (x := sM)
    refine dB 4095 g4 ?_ (x := loc_index (by decide) FIdx_sl_89 (by exact ⟨⟩) (by exact rfl) (by exact getm2 (by omega) rfl) (by exact rfl))
    refine dB 8191 g4 ?_ (x := loc_efield (by decide) FIdx_fd_65_0 (by exact Nat.le_of_ble_eq_true rfl))
    refine dB 16383 g4 ?_ (x := lE [PV.val _] FIdx_ty_3)
    refine dB 1023 g4 ?_ (x := vM false [PV.sl .v _])
    refine dB 1023 g4 ?_ (x := sM)
    refine dB 66559 g4 ?_ (x := B_sub)
    refine dB 230399 g4 ?_ (x := loc_index (k := k - 1) (by decide) FIdx_sl_89 (by exact ⟨⟩) (by omega) (by exact getm2 (by omega) rfl) (by exact rfl))
    refine dB 492543 g4 ?_ (x := loc_efield (by decide) FIdx_fd_65_0 (by exact Nat.le_of_ble_eq_true rfl))
    refine dB 1016831 g4 ?_ (x := lE [PV.val _] FIdx_ty_3)
    refine dB 2097151 g4 ?_ (x := B_leq)
    refine dB 4194303 g2 ?_ (x := pkT g4)
    refine dA 8388607 ?_ (x := pkF g2)
    refine sw_cond (t := 33) rfl (fun hb5 => ?_) (fun hb5 => ?_)
    ·try simp only [q1, q2, q3, q4, q5, q6, q7, q8, q9] at hb5
     have hbad : adjAll q0_ okQuery ltQ l = false := adj_no hlt (Bool.eq_false_iff.2 fun hx => by
      have hx := adjStep.1 hx
      rw [hgk] at hx
      obtain ⟨hx1, hx2⟩ := hx
      first
      | (simp_all; done)
      | (simp only [decide_eq_true_eq, ltQ] at *; by_cases h0 : k = 0 <;> (try rw [hgp (by omega)] at hx2) <;> omega))
     refine sw_seq ?_
     refine sO [(0, _), (3, _)] [] ?_
     refine sw_reg ?_
     refine rA ?_ (x := kA)
     refine sw_ret ?_
     exact (And.intro (by refine bool_eq ?_; simp [okQueries, hbad]) True.intro)
    ·try simp only [q1, q2, q3, q4, q5, q6, q7, q8, q9] at hb5
     refine sw_skip ?_
     refine sO [(0, _), (3, _)] [] ?_
     refine sw_reg ?_
     refine rA ?_ (x := sM)
     refine rA ?_ (x := B_add)
     refine rA ?_ (x := sA)
     refine Exists.intro (k + 1) (And.intro (by exact ⟨by omega, by rw [adjTo_succ, ha, Bool.true_and]; refine adjStep.2 ⟨by rw [hgk]; first | assumption | simp_all, ?_⟩; rcases Nat.eq_zero_or_pos k with h0 | h0; (· exact .inl h0); (· right; rw [hgk, hgp h0]; first | (simp only [decide_eq_true_eq, ltQ] at *; omega) | (simp_all; done))⟩) (And.intro (by omega) (And.intro (And.intro (by exact ⟨rfl, ⟨⟩⟩) (by exact ⟨⟩)) (And.intro (by exact And.intro (by exact rfl) (True.intro)) (by exact ⟨⟩)))))
   ·have sg4 := g4
    try simp only [q1, q2, q3, q4, q5, q6, q7, q8, q9] at sg4
    refine dF 1023 g4 ?_
    refine dF 1023 g4 ?_
    refine dF 4095 g4 ?_
    refine dF 8191 g4 ?_
    refine dF 16383 g4 ?_
    refine dF 1023 g4 ?_
    refine dF 1023 g4 ?_
    refine dF 66559 g4 ?_
    refine dF 230399 g4 ?_
    refine dF 492543 g4 ?_
    refine dF 1016831 g4 ?_
    refine dF 2097151 g4 ?_
    refine dB 4194303 g2 ?_ (x := pkF g4)
    refine dA 8388607 ?_ (x := pkF g2)
    refine sw_cond (t := 33) rfl (fun hb_ => nomatch hb_) (fun hb_ => ?_)
    refine sw_skip ?_
    refine sO [(0, _), (3, _)] [] ?_
    refine sw_reg ?_
    refine rA ?_ (x := sM)
    refine rA ?_ (x := B_add)
    refine rA ?_ (x := sA)
    refine Exists.intro (k + 1) (And.intro (by exact ⟨by omega, by rw [adjTo_succ, ha, Bool.true_and]; refine adjStep.2 ⟨by rw [hgk]; first | assumption | simp_all, ?_⟩; rcases Nat.eq_zero_or_pos k with h0 | h0; (· exact .inl h0); (· right; rw [hgk, hgp h0]; first | (simp only [decide_eq_true_eq, ltQ] at *; omega) | (simp_all; done))⟩) (And.intro (by omega) (And.intro (And.intro (by exact ⟨rfl, ⟨⟩⟩) (by exact ⟨⟩)) (And.intro (by exact And.intro (by exact rfl) (True.intro)) (by exact ⟨⟩)))))
 ·try simp only [q1, q2, q3, q4, q5, q6, q7, q8, q9] at hb1
  have hend : k = l.length := by omega
  have hall : adjAll q0_ okQuery ltQ l = true := adj_end ha hend
  refine sw_exit ?_
  refine sw_seq ?_
  refine sO [(0, _), (3, _)] [] ?_
  refine sw_reg ?_
  refine rA ?_ (x := vM false [PV.sl .v _])
  refine rA ?_ (x := lN FIdx_sl_89)
  refine rA ?_ (x := B_leq)
  refine rA ?_ (x := sA)
  refine sw_ret ?_
  exact (And.intro (by refine bool_eq ?_; simp [okQueries, hall]) True.intro)
theorem spec_l5Admits {q : Query} {f : Int} {v : Int}  : SCall Tryz.prog 236 [(true, [PV.val (vI q.Id), PV.val (vI q.Tenant), PV.sl .v (q.Conds.map cCond), PV.sl .v (q.Out.map cInt)]), (false, [PV.val (vI f)]), (false, [PV.val (vI v)])] (resRV [(false, [PV.val (.bool (admitsV q f v))])]) := by
 refine scall_of (rs := [(false, [PV.val (.bool (admitsV q f v))])]) Tryz.func236 rfl (Nat.le_of_ble_eq_true rfl) (borA_cons (BorL.cons (PV.bor_val _) (BorL.cons (PV.bor_val _) (BorL.cons (PV.bor_sl _) (BorL.cons (PV.bor_sl _) BorL.nil)))) (borA_cons (BorL.cons (PV.bor_val _) BorL.nil) (borA_cons (BorL.cons (PV.bor_val _) BorL.nil) borA_nil))) ?_
 intro h0 w0 Fz0
 refine sw_slen (s := 0) (j := 2) rfl rfl fun hl0_2 => ?_
 try rw [List.length_map] at hl0_2
 refine sw_slen (s := 0) (j := 3) rfl rfl fun hl0_3 => ?_
 try rw [List.length_map] at hl0_3
 refine sw_seq ?_
 refine sw_reg ?_
 refine RunS.step (by exact ⟨rfl, ⟨⟩⟩) (by exact ⟨⟩) (LocG.of rfl (loc_box (ag := true) (cs := [PV.val _, PV.val _, PV.sl _ _, PV.sl _ _]) (by decide) (by exact ⟨⟩))) (free1 (Free.of_ rfl)) ?_
 refine rA ?_ (x := kA)
 refine sw_seq ?_
 refine sw_seq ?_
 refine sO [(1, _), (2, _), (3, _), (6, _)] [(3, (65, [PV.val _, PV.val _, PV.sl _ _, PV.sl _ _]))] ?_
 refine sw_reg ?_
 refine rA ?_ (x := kA)
 refine sw_block ?_
 refine sO [(1, _), (2, _), (3, _), (6, _), (7, _)] [(3, _)] ?_
 refine sw_loop (l0 := [(1, RV.sv false [PV.val _]), (2, RV.sv false [PV.val _]), (3, RV.ptr 3 0)]) (b0 := [(3, (65, [PV.val _, PV.val _, PV.sl _ _, PV.sl _ _]))]) (fun k : Nat => k ≤ q.Conds.length ∧ (q.Conds.take k).all (admC f v) = true) (fun k : Nat => [(7, RV.int (k : Int))]) (fun k : Nat => []) (fun k : Nat => q.Conds.length - k) 0 (by exact ⟨by omega, by simp⟩) (by exact ⟨rfl, rfl, rfl, ⟨⟩⟩) (by exact ⟨rfl, ⟨⟩⟩) (by exact And.intro (by exact rfl) (True.intro)) (by exact ⟨⟩) ?_
 rintro k ⟨hk, ha⟩
 refine sw_seq ?_
 refine sw_seq ?_
 refine sw_reg ?_
 refine rA ?_ (x := sM)
 refine rA ?_ (x := lF FIdx_fd_65_2)
 refine rA ?_ (x := lD [PV.sl .v _] FIdx_ty_63)
 refine rA ?_ (x := lN FIdx_sl_63)
 refine rA ?_ (x := B_lss)
 refine sw_cond (t := 12) rfl (fun hb1 => ?_) (fun hb1 => ?_)
 ·try simp only [q1, q2, q3, q4, q5, q6, q7, q8, q9] at hb1
  have hlt : k < q.Conds.length := by omega
  refine sw_skip ?_
  refine sw_seq ?_
  refine sw_block ?_
  refine sw_seq ?_
  refine sO [(1, _), (2, _), (3, _), (7, _)] [(3, (65, [PV.val _, PV.val _, PV.sl _ _, PV.sl _ _]))] ?_
  refine sw_draw hm_ ?_
  refine dA 0 ?_ (x := lF FIdx_fd_65_2)
  refine dA 1 ?_ (x := lD [PV.sl .v _] FIdx_ty_63)
  refine dA 0 ?_ (x := sM)
  refine dA 7 ?_ (x := loc_index (by decide) FIdx_sl_63 (by exact ⟨⟩) (by exact rfl) (by exact getm2 (by omega) rfl) (by exact rfl))
  refine dA 15 ?_ (x := loc_efield (by decide) FIdx_fd_193_0 (by exact Nat.le_of_ble_eq_true rfl))
  refine dA 31 ?_ (x := lE [PV.val _] FIdx_ty_3)
  refine dA 0 ?_ (x := sM)
  refine dA 127 ?_ (x := B_eql)
  refine dA 255 ?_ (x := sM)
  refine Run.cases (s := 23) rfl (fun g2 => ?_) (fun g2 => ?_)
  ·have sg2 := g2
   try simp only [q1, q2, q3, q4, q5, q6, q7, q8, q9] at sg2
   refine dB 511 g2 ?_ (x := sM)
   refine dB 511 g2 ?_ (x := lF FIdx_fd_65_2)
   refine dB 1535 g2 ?_ (x := lD [PV.sl .v _] FIdx_ty_63)
   refine dB 511 g2 ?_ (x := sM)
   refine dB 7679 g2 ?_ (x := loc_index (by decide) FIdx_sl_63 (by exact ⟨⟩) (by exact rfl) (by exact getm2 (by omega) rfl) (by exact rfl))
   refine dB 15871 g2 ?_ (x := loc_efield (by decide) FIdx_fd_193_1 (by exact Nat.le_of_ble_eq_true rfl))
   refine dB 32255 g2 ?_ (x := lE [PV.val _] FIdx_ty_3)
   refine dB 511 g2 ?_ (x := lF FIdx_fd_65_2)
   refine dB 66047 g2 ?_ (x := lD [PV.sl .v _] FIdx_ty_63)
   refine dB 511 g2 ?_ (x := sM)
   refine dB 459263 g2 ?_ (x := loc_index (by decide) FIdx_sl_63 (by exact ⟨⟩) (by exact rfl) (by exact getm2 (by omega) rfl) (by exact rfl))
   refine dB 983551 g2 ?_ (x := loc_efield (by decide) FIdx_fd_193_2 (by exact Nat.le_of_ble_eq_true rfl))
   refine dB 2032127 g2 ?_ (x := lE [PV.val _] FIdx_ty_3)
   refine dB 4194303 g2 ?_ (x := cL [(false, [PV.val _]), (false, [PV.val _]), (false, [PV.val _])] [(false, [PV.val _]), (false, [PV.val _]), (false, [PV.val _])] FIdx_c_97 (hs := by exact spec_l1In))
   refine dB 8388607 g2 ?_ (x := nT)
   refine dA 16777215 ?_ (x := pkT g2)
   refine sw_cond (t := 39) rfl (fun hb3 => ?_) (fun hb3 => ?_)
   ·try simp only [q1, q2, q3, q4, q5, q6, q7, q8, q9] at hb3
    have hno : admC f v q.Conds[k] = false := by simp_all [admC]
    refine sw_seq ?_
    refine sO [(1, _), (2, _), (3, _), (7, _)] [(3, _)] ?_
    refine sw_reg ?_
    refine rA ?_ (x := kA)
    refine sw_ret ?_
    exact (And.intro (by refine bool_eq ?_; simp [admitsV, all_no (P := (admC f v)) hlt hno]) True.intro)
   ·try simp only [q1, q2, q3, q4, q5, q6, q7, q8, q9] at hb3
    have hyes : admC f v q.Conds[k] = true := by simp_all [admC]
    refine sw_skip ?_
    refine sO [(1, _), (2, _), (3, _), (7, _)] [(3, _)] ?_
    refine sw_reg ?_
    refine rA ?_ (x := sM)
    refine rA ?_ (x := B_add)
    refine rA ?_ (x := sA)
    refine Exists.intro (k + 1) (And.intro (by exact ⟨by omega, all_succ ha hlt hyes⟩) (And.intro (by omega) (And.intro (And.intro (by exact ⟨rfl, rfl, rfl, ⟨⟩⟩) (by exact ⟨rfl, ⟨⟩⟩)) (And.intro (by exact And.intro (by exact rfl) (True.intro)) (by exact ⟨⟩)))))
  ·have sg2 := g2
   try simp only [q1, q2, q3, q4, q5, q6, q7, q8, q9] at sg2
   refine dF 511 g2 ?_
   refine dF 511 g2 ?_
   refine dF 1535 g2 ?_
   refine dF 511 g2 ?_
   refine dF 7679 g2 ?_
   refine dF 15871 g2 ?_
   refine dF 32255 g2 ?_
   refine dF 511 g2 ?_
   refine dF 66047 g2 ?_
   refine dF 511 g2 ?_
   refine dF 459263 g2 ?_
   refine dF 983551 g2 ?_
   refine dF 2032127 g2 ?_
   refine dF 4194303 g2 ?_
   refine dF 8388607 g2 ?_
   refine dA 16777215 ?_ (x := pkF g2)
   refine sw_cond (t := 39) rfl (fun hb_ => nomatch hb_) (fun hb_ => ?_)
   have hyes : admC f v q.Conds[k] = true := by simp_all [admC]
   refine sw_skip ?_
   refine sO [(1, _), (2, _), (3, _), (7, _)] [(3, _)] ?_
   refine sw_reg ?_
   refine rA ?_ (x := sM)
   refine rA ?_ (x := B_add)
   refine rA ?_ (x := sA)
   refine Exists.intro (k + 1) (And.intro (by exact ⟨by omega, all_succ ha hlt hyes⟩) (And.intro (by omega) (And.intro (And.intro (by exact ⟨rfl, rfl, rfl, ⟨⟩⟩) (by exact ⟨rfl, ⟨⟩⟩)) (And.intro (by exact And.intro (by exact rfl) (True.intro)) (by exact ⟨⟩)))))
 ·try simp only [q1, q2, q3, q4, q5, q6, q7, q8, q9] at hb1
  have hall : q.Conds.all (admC f v) = true := all_end (by rw [show q.Conds.length = k by omega]; exact ha)
  refine sw_exit ?_
  refine sw_seq ?_
  refine sO [(1, _), (2, _), (3, _), (7, _)] [(3, (65, [PV.val _, PV.val _, PV.sl _ _, PV.sl _ _]))] ?_
  refine sw_reg ?_
  refine rA ?_ (x := kA)
  refine sw_ret ?_
  exact (And.intro (by refine bool_eq ?_; simp [admitsV, hall, *]) True.intro)
theorem spec_StabSet {p1 p2 : Fl} {l : List Query} {f : Int} {v : Int}  : SCall Tryz.prog 222 [(false, [PV.sl .v (l.map (cQuery p1 p2))]), (false, [PV.val (vI f)]), (false, [PV.val (vI v)])] (resRV [(false, [PV.sl (.own 3 1) ((stabSetF l f v).map cInt)])]) := by
 refine scall_of (rs := [(false, [PV.sl (.own 3 1) ((stabSetF l f v).map cInt)])]) Tryz.func222 rfl (Nat.le_of_ble_eq_true rfl) (borA_cons (BorL.cons (PV.bor_sl _) BorL.nil) (borA_cons (BorL.cons (PV.bor_val _) BorL.nil) (borA_cons (BorL.cons (PV.bor_val _) BorL.nil) borA_nil))) ?_
 intro h0 w0 Fz0
 refine sw_len (s := 0) rfl fun hl0 => ?_
 try rw [List.length_map] at hl0
 refine sw_seq ?_
 refine sw_reg ?_
 refine rA ?_ (x := loc_const (.inr rfl) (by decide) (ok_nil (t := 3) (e := 1)))
 refine sw_seq ?_
 refine sO [(0, _), (1, _), (2, _), (6, _)] [] ?_
 refine sw_reg ?_
 refine rA ?_ (x := loc_bslice (qs := []) (by decide) FIdx_sl_25 FIdx_z_3 (by decide) rfl rfl rfl rfl rfl (by exact Nat.le_of_ble_eq_true rfl) (by exact ⟨⟩) rfl)
 refine rA ?_ (x := tA)
 refine sw_seq ?_
 refine sw_seq ?_
 refine sO [(0, _), (1, _), (2, _), (6, _), (7, _)] [] ?_
 refine sw_reg ?_
 refine rA ?_ (x := kA)
 refine sw_block ?_
 refine sO [(0, _), (1, _), (2, _), (6, _), (7, _), (8, _)] [] ?_
 refine sw_loop (l0 := [(0, RV.sv false [PV.sl _ _]), (1, RV.sv false [PV.val _]), (2, RV.sv false [PV.val _]), (6, RV.sv false [PV.sl _ _])]) (b0 := []) (fun k : Nat => k ≤ l.length ∧ (0 < k → (okQueries l && (inB f 0 2 && inB v 0 99)) = true)) (fun k : Nat => [(7, RV.slc (.own 3 1) ((stabS (l.take k) f v).map cInt)), (8, RV.int (k : Int))]) (fun k : Nat => []) (fun k : Nat => l.length - k) 0 (by exact ⟨by omega, fun h => absurd h (Nat.lt_irrefl 0)⟩) (by exact ⟨rfl, rfl, rfl, rfl, ⟨⟩⟩) (by exact ⟨⟩) (by exact And.intro (by exact rfl) (And.intro (by exact rfl) (True.intro))) (by exact ⟨⟩) ?_
 rintro k ⟨hk, ha⟩
 refine sw_seq ?_
 refine sw_seq ?_
 refine sw_reg ?_
 refine rA ?_ (x := sM)
 refine rA ?_ (x := vM false [PV.sl .v _])
 refine rA ?_ (x := lN FIdx_sl_89)
 refine rA ?_ (x := B_lss)
 refine rA ?_ (x := sM)
 refine RunS.cases (s := 14) rfl (fun g1 => ?_) (fun g1 => ?_)
 ·have sg1 := g1
  try simp only [q1, q2, q3, q4, q5, q6, q7, q8, q9] at sg1
  refine rB g1 ?_ (x := vM false [PV.sl .v _])
  refine rB g1 ?_ (x := cL [(false, [PV.sl _ _])] [(false, [PV.sl .v _])] FIdx_c_179 (hs := by exact spec_AreQueries))
  refine rA ?_ (x := pkT g1)
  refine rA ?_ (x := sM)
  refine RunS.cases (s := 18) rfl (fun g2 => ?_) (fun g2 => ?_)
  ·have sg2 := g2
   try simp only [q1, q2, q3, q4, q5, q6, q7, q8, q9] at sg2
   refine rB g2 ?_ (x := sM)
   refine rB g2 ?_ (x := cL [(false, [PV.val _]), (false, [PV.val _]), (false, [PV.val _])] [(false, [PV.val _]), (false, [PV.val _]), (false, [PV.val _])] FIdx_c_97 (hs := by exact spec_l1In))
   refine rA ?_ (x := pkT g2)
   refine rA ?_ (x := sM)
   refine RunS.cases (s := 22) rfl (fun g3 => ?_) (fun g3 => ?_)
   ·have sg3 := g3
    try simp only [q1, q2, q3, q4, q5, q6, q7, q8, q9] at sg3
    refine rB g3 ?_ (x := sM)
    refine rB g3 ?_ (x := cL [(false, [PV.val _]), (false, [PV.val _]), (false, [PV.val _])] [(false, [PV.val _]), (false, [PV.val _]), (false, [PV.val _])] FIdx_c_97 (hs := by exact spec_l1In))
    refine rA ?_ (x := pkT g3)
    refine sw_cond (t := 25) rfl (fun hb4 => ?_) (fun hb4 => ?_)
    ·try simp only [q1, q2, q3, q4, q5, q6, q7, q8, q9] at hb4
     have hok : (okQueries l && (inB f 0 2 && inB v 0 99)) = true := by simp_all
     have hok2 := okQs (Bool.and_eq_true_iff.1 hok).1
     have hlt : k < l.length := (by first | omega | (simp_all; done) | (simp_all; omega))
     have hsl := stabS_len (l.take k) f v
     rw [List.length_take] at hsl
     refine sw_skip ?_
     refine sw_seq ?_
     refine sw_block ?_
     refine sw_seq ?_
     refine sO [(0, _), (1, _), (2, _), (6, _), (7, _), (8, _)] [] ?_
     refine sw_reg ?_
     refine rA ?_ (x := vM false [PV.sl .v _])
     refine rA ?_ (x := sM)
     refine rA ?_ (x := loc_index (by decide) FIdx_sl_89 (by exact ⟨⟩) (by exact rfl) (by exact getm2 (by omega) rfl) (by exact rfl))
     refine rA ?_ (x := lE [PV.val _, PV.val _, PV.sl .v _, PV.sl .v _] FIdx_ty_65)
     refine rA ?_ (x := sM)
     refine rA ?_ (x := sM)
     refine rA ?_ (x := cL [(true, [PV.val _, PV.val _, PV.sl _ _, PV.sl _ _]), (false, [PV.val _]), (false, [PV.val _])] [(true, [PV.val _, PV.val _, PV.sl .v _, PV.sl .v _]), (false, [PV.val _]), (false, [PV.val _])] FIdx_c_236 (hs := by exact spec_l5Admits))
     refine sw_cond (t := 34) rfl (fun hb5 => ?_) (fun hb5 => ?_)
     ·try simp only [q1, q2, q3, q4, q5, q6, q7, q8, q9] at hb5
      have hc := hb5
      refine sO [(0, _), (1, _), (2, _), (6, _), (7, _), (8, _)] [] ?_
      refine sw_reg ?_
      refine rA ?_ (x := tM)
      refine rA ?_ (x := vM false [PV.sl .v _])
      refine rA ?_ (x := sM)
      refine rA ?_ (x := loc_index (by decide) FIdx_sl_89 (by exact ⟨⟩) (by exact rfl) (by exact getm2 (by omega) rfl) (by exact rfl))
      refine rA ?_ (x := loc_efield (by decide) FIdx_fd_65_0 (by exact Nat.le_of_ble_eq_true rfl))
      refine rA ?_ (x := lE [PV.val _] FIdx_ty_3)
      refine rA ?_ (x := loc_bslice (qs := [(false, [PV.val _])]) (by decide) FIdx_sl_25 FIdx_z_3 (by decide) rfl rfl rfl rfl rfl (by exact Nat.le_of_ble_eq_true rfl) (by exact (And.intro (by exact ⟨⟩) True.intro)) rfl)
      refine rA ?_ (x := loc_append (by decide) FIdx_sl_25 FIdx_z_3 rfl rfl (by decide) rfl (by simp only [List.length_map, List.length_append, List.length_cons, List.length_nil]; omega) (by simp only [List.length_map, List.length_append, List.length_cons, List.length_nil]; omega))
      refine rA ?_ (x := tA)
      refine sO [(0, _), (1, _), (2, _), (6, _), (7, _), (8, _)] [] ?_
      refine sw_reg ?_
      refine rA ?_ (x := sM)
      refine rA ?_ (x := B_add)
      refine rA ?_ (x := sA)
      refine Exists.intro (k + 1) (And.intro (by exact ⟨by omega, fun _ => hok⟩) (And.intro (by omega) (And.intro (And.intro (by exact ⟨rfl, rfl, rfl, rfl, ⟨⟩⟩) (by exact ⟨⟩)) (And.intro (by exact And.intro (by first | exact slc_eq (by rw [stabS_yes hlt hc, List.map_append]; rfl) | exact slc_eq (by rw [stabS_no hlt hc])) (And.intro (by exact rfl) (True.intro))) (by exact ⟨⟩)))))
     ·try simp only [q1, q2, q3, q4, q5, q6, q7, q8, q9] at hb5
      have hc := hb5
      refine sw_skip ?_
      refine sO [(0, _), (1, _), (2, _), (6, _), (7, _), (8, _)] [] ?_
      refine sw_reg ?_
      refine rA ?_ (x := sM)
      refine rA ?_ (x := B_add)
      refine rA ?_ (x := sA)
      refine Exists.intro (k + 1) (And.intro (by exact ⟨by omega, fun _ => hok⟩) (And.intro (by omega) (And.intro (And.intro (by exact ⟨rfl, rfl, rfl, rfl, ⟨⟩⟩) (by exact ⟨⟩)) (And.intro (by exact And.intro (by first | exact slc_eq (by rw [stabS_yes hlt hc, List.map_append]; rfl) | exact slc_eq (by rw [stabS_no hlt hc])) (And.intro (by exact rfl) (True.intro))) (by exact ⟨⟩)))))
    ·try simp only [q1, q2, q3, q4, q5, q6, q7, q8, q9] at hb4
     have hfin : (k = l.length ∧ (okQueries l && (inB f 0 2 && inB v 0 99)) = true) ∨ (k = 0 ∧ (l.length = 0 ∨ (okQueries l && (inB f 0 2 && inB v 0 99)) = false)) := by
      by_cases h0k : 0 < k
      ·left
       have h1 := ha h0k
       refine ⟨?_, h1⟩
       by_cases hka : k = l.length
       ·exact hka
       ·exfalso
        have hlt_ : k < l.length := by omega
        have hlt2_ : (k : Int) < (l.length : Int) := by omega
        simp_all
      ·right
       refine ⟨by omega, ?_⟩
       by_cases hka : l.length = 0
       ·exact .inl hka
       ·right
        have hlt_ : k < l.length := by omega
        have hlt2_ : (k : Int) < (l.length : Int) := by omega
        rw [← Bool.not_eq_true]; intro hc_; simp_all
     refine sw_exit ?_
     refine sw_seq ?_
     refine sO [(0, _), (1, _), (2, _), (6, _), (7, _), (8, _)] [] ?_
     refine sw_reg ?_
     refine rA ?_ (x := tM)
     refine rA ?_ (x := tA)
     refine sw_ret ?_
     exact (And.intro (by refine slc_eq ?_; rw [stab_end hfin]) True.intro)
   ·have sg3 := g3
    try simp only [q1, q2, q3, q4, q5, q6, q7, q8, q9] at sg3
    refine RunS.s0f g3 ?_
    refine RunS.s0f g3 ?_
    refine rA ?_ (x := pkF g3)
    refine sw_cond (t := 25) rfl (fun hb_ => nomatch hb_) (fun hb_ => ?_)
    have hfin : (k = l.length ∧ (okQueries l && (inB f 0 2 && inB v 0 99)) = true) ∨ (k = 0 ∧ (l.length = 0 ∨ (okQueries l && (inB f 0 2 && inB v 0 99)) = false)) := by
     by_cases h0k : 0 < k
     ·left
      have h1 := ha h0k
      refine ⟨?_, h1⟩
      by_cases hka : k = l.length
      ·exact hka
      ·exfalso
       have hlt_ : k < l.length := by omega
       have hlt2_ : (k : Int) < (l.length : Int) := by omega
       simp_all
     ·right
      refine ⟨by omega, ?_⟩
      by_cases hka : l.length = 0
      ·exact .inl hka
      ·right
       have hlt_ : k < l.length := by omega
       have hlt2_ : (k : Int) < (l.length : Int) := by omega
       rw [← Bool.not_eq_true]; intro hc_; simp_all
    refine sw_exit ?_
    refine sw_seq ?_
    refine sO [(0, _), (1, _), (2, _), (6, _), (7, _), (8, _)] [] ?_
    refine sw_reg ?_
    refine rA ?_ (x := tM)
    refine rA ?_ (x := tA)
    refine sw_ret ?_
    exact (And.intro (by refine slc_eq ?_; rw [stab_end hfin]) True.intro)
  ·have sg2 := g2
   try simp only [q1, q2, q3, q4, q5, q6, q7, q8, q9] at sg2
   refine RunS.s0f g2 ?_
   refine RunS.s0f g2 ?_
   refine rA ?_ (x := pkF g2)
   refine rA ?_ (x := sM)
   refine RunS.cases (s := 22) rfl (fun g7 => nomatch g7) (fun g7 => ?_)
   refine RunS.s0f g7 ?_
   refine RunS.s0f g7 ?_
   refine rA ?_ (x := pkF g7)
   refine sw_cond (t := 25) rfl (fun hb_ => nomatch hb_) (fun hb_ => ?_)
   have hfin : (k = l.length ∧ (okQueries l && (inB f 0 2 && inB v 0 99)) = true) ∨ (k = 0 ∧ (l.length = 0 ∨ (okQueries l && (inB f 0 2 && inB v 0 99)) = false)) := by
    by_cases h0k : 0 < k
    ·left
     have h1 := ha h0k
     refine ⟨?_, h1⟩
     by_cases hka : k = l.length
     ·exact hka
     ·exfalso
      have hlt_ : k < l.length := by omega
      have hlt2_ : (k : Int) < (l.length : Int) := by omega
      simp_all
    ·right
     refine ⟨by omega, ?_⟩
     by_cases hka : l.length = 0
     ·exact .inl hka
     ·right
      have hlt_ : k < l.length := by omega
      have hlt2_ : (k : Int) < (l.length : Int) := by omega
      rw [← Bool.not_eq_true]; intro hc_; simp_all
   refine sw_exit ?_
   refine sw_seq ?_
   refine sO [(0, _), (1, _), (2, _), (6, _), (7, _), (8, _)] [] ?_
   refine sw_reg ?_
   refine rA ?_ (x := tM)
   refine rA ?_ (x := tA)
   refine sw_ret ?_
   exact (And.intro (by refine slc_eq ?_; rw [stab_end hfin]) True.intro)
 ·have sg1 := g1
  try simp only [q1, q2, q3, q4, q5, q6, q7, q8, q9] at sg1
  refine RunS.s0f g1 ?_
  refine RunS.s0f g1 ?_
  refine rA ?_ (x := pkF g1)
  refine rA ?_ (x := sM)
  refine RunS.cases (s := 18) rfl (fun g9 => nomatch g9) (fun g9 => ?_)
  refine RunS.s0f g9 ?_
  refine RunS.s0f g9 ?_
  refine rA ?_ (x := pkF g9)
  refine rA ?_ (x := sM)
  refine RunS.cases (s := 22) rfl (fun g10 => nomatch g10) (fun g10 => ?_)
  refine RunS.s0f g10 ?_
  refine RunS.s0f g10 ?_
  refine rA ?_ (x := pkF g10)
  refine sw_cond (t := 25) rfl (fun hb_ => nomatch hb_) (fun hb_ => ?_)
  have hfin : (k = l.length ∧ (okQueries l && (inB f 0 2 && inB v 0 99)) = true) ∨ (k = 0 ∧ (l.length = 0 ∨ (okQueries l && (inB f 0 2 && inB v 0 99)) = false)) := by
   by_cases h0k : 0 < k
   ·left
    have h1 := ha h0k
    refine ⟨?_, h1⟩
    by_cases hka : k = l.length
    ·exact hka
    ·exfalso
     have hlt_ : k < l.length := by omega
     have hlt2_ : (k : Int) < (l.length : Int) := by omega
     simp_all
   ·right
    refine ⟨by omega, ?_⟩
    by_cases hka : l.length = 0
    ·exact .inl hka
    ·right
     have hlt_ : k < l.length := by omega
     have hlt2_ : (k : Int) < (l.length : Int) := by omega
     rw [← Bool.not_eq_true]; intro hc_; simp_all
  refine sw_exit ?_
  refine sw_seq ?_
  refine sO [(0, _), (1, _), (2, _), (6, _), (7, _), (8, _)] [] ?_
  refine sw_reg ?_
  refine rA ?_ (x := tM)
  refine rA ?_ (x := tA)
  refine sw_ret ?_
  exact (And.intro (by refine slc_eq ?_; rw [stab_end hfin]) True.intro)
theorem spec_StabIndex {p1 p2 : Fl} {l : List Query} {f : Int}  : SCall Tryz.prog 181 [(false, [PV.sl .v (l.map (cQuery p1 p2))]), (false, [PV.val (vI f)])] (resRV [(false, [PV.sl (.own 234 3) ((stabIdx l f).map (cSpan (.own 3 1)))])]) := by
 refine scall_lo (largs := fun L => [(false, [PV.sl (.lo L) (l.map (cQuery (.lo L) (.lo L)))]), (false, [PV.val (vI f)])]) (rs := [(false, [PV.sl (.own 234 3) ((stabIdx l f).map (cSpan (.own 3 1)))])]) Tryz.func181 rfl (Nat.le_of_ble_eq_true rfl) (fun L => by exact (And.intro (And.intro rfl (ToBL.cons (PV.tob_map (fun _ => Nat.le_of_ble_eq_true rfl) (fun _ => (ToBL.cons PV.tob_refl (ToBL.cons PV.tob_refl (ToBL.cons (PV.tob_map (fun _ => Nat.le_of_ble_eq_true rfl) (fun _ => (ToBL.cons PV.tob_refl (ToBL.cons PV.tob_refl (ToBL.cons PV.tob_refl ToBL.nil))))) (ToBL.cons (PV.tob_map (fun _ => Nat.le_of_ble_eq_true rfl) (fun _ => (ToBL.cons PV.tob_refl ToBL.nil))) ToBL.nil)))))) ToBL.nil)) (And.intro (And.intro rfl (ToBL.cons PV.tob_refl ToBL.nil)) True.intro))) (fun L => by exact (borA_cons (BorL.cons (PV.bor_lo _ _) BorL.nil) (borA_cons (BorL.cons (PV.bor_val _) BorL.nil) borA_nil))) ?_
 intro w0 Fz0
 refine sw_len (s := 0) rfl fun hl0 => ?_
 try rw [List.length_map] at hl0
 refine sw_seq ?_
 refine sw_reg ?_
 refine rA ?_ (x := loc_const (.inr rfl) (by decide) (ok_nil (t := 234) (e := 3)))
 refine sw_seq ?_
 refine sO [(0, _), (1, _), (4, _)] [] ?_
 refine sw_reg ?_
 refine rA ?_ (x := loc_bslice (qs := []) (by decide) FIdx_sl_205 FIdx_z_234 (by decide) rfl rfl rfl rfl rfl (by exact Nat.le_of_ble_eq_true rfl) (by exact ⟨⟩) rfl)
 refine rA ?_ (x := tA)
 refine sw_seq ?_
 refine sw_seq ?_
 refine sO [(0, _), (1, _), (4, _), (5, _)] [] ?_
 refine sw_reg ?_
 refine rA ?_ (x := vM false [PV.sl (.lo _) _])
 refine rA ?_ (x := cL [(false, [PV.sl (.lo _) _])] [(false, [PV.sl .v _])] FIdx_c_179 (hs := by exact spec_AreQueries))
 refine rA ?_ (x := nT)
 refine rA ?_ (x := sM)
 refine RunS.cases (s := 13) rfl (fun g1 => ?_) (fun g1 => ?_)
 ·have sg1 := g1
  try simp only [q1, q2, q3, q4, q5, q6, q7, q8, q9] at sg1
  refine RunS.s0t g1 ?_
  refine RunS.s0t g1 ?_
  refine RunS.s0t g1 ?_
  refine rA ?_ (x := pkT g1)
  refine sw_cond (t := 17) rfl (fun hb_ => ?_) (fun hb_ => nomatch hb_)
  have hok : (okQueries l && inB f 0 2) = false := by simp_all
  refine sw_seq ?_
  refine sO [(0, _), (1, _), (4, _), (5, _)] [] ?_
  refine sw_reg ?_
  refine rA ?_ (x := tM)
  refine rA ?_ (x := tA)
  refine sw_ret ?_
  exact (And.intro (by refine slc_eq ?_; unfold stabIdx; rw [if_neg (by rw [hok]; simp)]; rfl) True.intro)
 ·have sg1 := g1
  try simp only [q1, q2, q3, q4, q5, q6, q7, q8, q9] at sg1
  refine rB g1 ?_ (x := sM)
  refine rB g1 ?_ (x := cL [(false, [PV.val _]), (false, [PV.val _]), (false, [PV.val _])] [(false, [PV.val _]), (false, [PV.val _]), (false, [PV.val _])] FIdx_c_97 (hs := by exact spec_l1In))
  refine rB g1 ?_ (x := nT)
  refine rA ?_ (x := pkF g1)
  refine sw_cond (t := 17) rfl (fun hb3 => ?_) (fun hb3 => ?_)
  ·try simp only [q1, q2, q3, q4, q5, q6, q7, q8, q9] at hb3
   have hok : (okQueries l && inB f 0 2) = false := by simp_all
   refine sw_seq ?_
   refine sO [(0, _), (1, _), (4, _), (5, _)] [] ?_
   refine sw_reg ?_
   refine rA ?_ (x := tM)
   refine rA ?_ (x := tA)
   refine sw_ret ?_
   exact (And.intro (by refine slc_eq ?_; unfold stabIdx; rw [if_neg (by rw [hok]; simp)]; rfl) True.intro)
  ·try simp only [q1, q2, q3, q4, q5, q6, q7, q8, q9] at hb3
   have hok : (okQueries l && inB f 0 2) = true := by simp_all
   obtain ⟨hq, hf⟩ := Bool.and_eq_true_iff.1 hok
   have hq2 := okQs hq
   refine sw_skip ?_
   refine sw_seq ?_
   refine sw_seq ?_
   refine sO [(0, _), (1, _), (4, _), (5, _)] [] ?_
   refine sw_reg ?_
   refine rA ?_ (x := kA)
   refine sw_block ?_
   refine sO [(0, _), (1, _), (4, _), (5, _), (6, _)] [] ?_
   refine sw_loop (l0 := [(0, RV.sv false [PV.sl (.lo _) _]), (1, RV.sv false [PV.val _]), (4, RV.sv false [PV.sl _ _])]) (b0 := []) (fun k : Nat => k ≤ 100) (fun k : Nat => [(5, RV.slc (.own 234 3) ((spansTo l f k).map (cSpan (.own 3 1)))), (6, RV.int (k : Int))]) (fun k : Nat => []) (fun k : Nat => 100 - k) 0 (by omega) (by exact ⟨rfl, rfl, rfl, ⟨⟩⟩) (by exact ⟨⟩) (by exact And.intro (by exact rfl) (And.intro (by exact rfl) (True.intro))) (by exact ⟨⟩) ?_
   rintro k hk
   refine sw_seq ?_
   refine sw_seq ?_
   refine sw_reg ?_
   refine rA ?_ (x := sM)
   refine rA ?_ (x := B_leq)
   refine sw_cond (t := 20) rfl (fun hb4 => ?_) (fun hb4 => ?_)
   ·try simp only [q1, q2, q3, q4, q5, q6, q7, q8, q9] at hb4
    have hlt : k < 100 := by omega
    have hse : stabSetF l f (k : Int) = stabS l f (k : Int) := if_pos (by rw [hq, hf]; simp [inB]; omega)
    have hsl := spans_len l f k
    have hss := stabS_len l f (k : Int)
    refine sw_skip ?_
    refine sw_seq ?_
    refine sw_block ?_
    refine sw_seq ?_
    refine sO [(0, _), (1, _), (4, _), (5, _), (6, _)] [] ?_
    refine sw_reg ?_
    refine rA ?_ (x := vM false [PV.sl (.lo _) _])
    refine rA ?_ (x := sM)
    refine rA ?_ (x := sM)
    refine rA ?_ (x := cL [(false, [PV.sl (.lo _) _]), (false, [PV.val _]), (false, [PV.val _])] [(false, [PV.sl .v _]), (false, [PV.val _]), (false, [PV.val _])] FIdx_c_222 (hs := by exact (spec_StabSet (l := l) (f := f) (v := (k : Int)))))
    refine rA ?_ (x := tA)
    refine sw_seq ?_
    refine sO [(0, _), (1, _), (4, _), (5, _), (6, _), (7, _)] [] ?_
    refine sw_reg ?_
    refine rA ?_ (x := vM false [PV.sl .v _])
    refine rA ?_ (x := lN FIdx_sl_205)
    refine rA ?_ (x := sA)
    refine sw_seq ?_
    refine sO [(0, _), (1, _), (4, _), (5, _), (6, _), (7, _), (8, _)] [] ?_
    refine sw_reg ?_
    refine rA ?_ (x := sM)
    refine rA ?_ (x := B_gtr)
    refine rA ?_ (x := sM)
    refine RunS.cases (s := 31) rfl (fun g5 => ?_) (fun g5 => ?_)
    ·have sg5 := g5
     try simp only [q1, q2, q3, q4, q5, q6, q7, q8, q9] at sg5
     refine rB g5 ?_ (x := vM false [PV.sl .v _])
     refine rB g5 ?_ (x := sM)
     refine rB g5 ?_ (x := B_sub)
     refine rB g5 ?_ (x := loc_index (k := (spansTo l f k).length - 1) (by decide) FIdx_sl_205 (by exact ⟨⟩) (by omega) (by exact getm2 (by omega) (by rw [gDt_ (d := sp0) (by omega)])) (by exact rfl))
     refine rB g5 ?_ (x := loc_efield (by decide) FIdx_fd_234_2 (by exact Nat.le_of_ble_eq_true rfl))
     refine rB g5 ?_ (x := lE [PV.sl .v _] FIdx_ty_25)
     refine rB g5 ?_ (x := vM false [PV.sl .v _])
     refine rB g5 ?_ (x := cL [(false, [PV.sl _ _]), (false, [PV.sl _ _])] [(false, [PV.sl .v _]), (false, [PV.sl .v _])] FIdx_c_223 (hs := by exact spec_l2Ints))
     refine rA ?_ (x := pkT g5)
     refine sw_cond (t := 40) rfl (fun hb6 => ?_) (fun hb6 => ?_)
     ·try simp only [q1, q2, q3, q4, q5, q6, q7, q8, q9] at hb6
      have hls : lastIs (spansTo l f k) (stabS l f (k : Int)) = true := lastIs_yes (by omega) (by rw [← hse]; simpa using hb6)
      have hl1 : (spansTo l f k).length - 1 < (spansTo l f k).length := by omega
      refine sO [(0, _), (1, _), (4, _), (5, _), (6, _), (7, _), (8, _)] [] ?_
      refine sw_thawS (s := 5) (D := 900) (G := 2900) (E := 234) (e := 3) (L := (Lw w0.heap.size)) (es := ((spansTo l f k)).map (cSpan (.own 3 1))) (by exact rfl) (map_ne hl1) (by exact rfl) (by exact rfl) rfl (by exact rfl) (fun x hx => hx) (by exact (And.intro (.inr (RV.lcl_sv (LclC.cons (PV.lcl_lo (LclRC.map fun x => (LclRC.cons PV.lclr_val (LclRC.cons PV.lclr_val (LclRC.cons (PV.lclr_lo (LclRC.map fun x => (LclRC.cons PV.lclr_val (LclRC.cons PV.lclr_val (LclRC.cons PV.lclr_val LclRC.nil))))) (LclRC.cons (PV.lclr_lo (LclRC.map fun x => (LclRC.cons PV.lclr_val LclRC.nil))) LclRC.nil)))))) LclC.nil))) (And.intro (.inr (RV.lcl_sv (LclC.cons PV.lcl_val LclC.nil))) (And.intro (.inr (RV.lcl_sv (LclC.cons (PV.lcl_own (by first | exact (LclC.map fun x => (LclC.cons PV.lcl_val (LclC.cons PV.lcl_val (LclC.cons (PV.lcl_own (LclC.map fun x => (LclC.cons PV.lcl_val LclC.nil))) LclC.nil)))) | exact (fun cs h => nomatch h))) LclC.nil))) (And.intro (.inl rfl) (And.intro (.inr (RV.lcl_sv (LclC.cons PV.lcl_val LclC.nil))) (And.intro (.inr (RV.lcl_sv (LclC.cons (PV.lcl_own (by first | exact (LclC.map fun x => (LclC.cons PV.lcl_val LclC.nil)) | exact (fun cs h => nomatch h))) LclC.nil))) (And.intro (.inr (RV.lcl_sv (LclC.cons PV.lcl_val LclC.nil))) True.intro)))))))) (by exact ⟨⟩) (LclC.map fun x => (LclC.cons PV.lcl_val (LclC.cons PV.lcl_val (LclC.cons (PV.lcl_own (LclC.map fun x => (LclC.cons PV.lcl_val LclC.nil))) LclC.nil)))) fun uu900 cp900 jk900 hlD900 hcp900 hjk900 => ?_
      rw [List.length_map] at hlD900 hcp900 hjk900
      refine sw_boxEq (d := 900) (by exact rfl) (at_split (k := ((spansTo l f k).length - 1)) hl1) ?_
      have hA900 := at_len (f := (cSpan (.own 3 1))) (e := 3) (xs := (spansTo l f k)) (k := ((spansTo l f k).length - 1)) (fun _ => rfl) (Nat.le_of_lt hl1)
      refine sO [(0, _), (1, _), (4, _), (5, _), (6, _), (7, _), (8, _), (2900, _)] [(900, (234, _ ++ ([PV.val _, PV.val _, PV.sl _ _] ++ _)))] ?_
      refine sw_reg ?_
      refine rA ?_ (x := vM false [PV.val _])
      refine rA ?_ (x := sM)
      refine rA ?_ (x := B_sub)
      refine rA ?_ (x := sM)
      refine rA ?_ (x := loc_gidx (k := ((spansTo l f k).length - 1)) (G := 2900) (by decide) FIdx_sl_205 (by exact ⟨⟩) (by omega) (by first | (rw [List.length_map]; exact hl1) | exact hl1))
      refine rA ?_ (x := lF FIdx_fd_234_1)
      refine rA ?_ (x := loc_storeM (o := 1) (ag := false) (vs := [PV.val _]) (by omega) FIdx_ty_3 (by exact ⟨⟩) (by exact rfl) (by exact Nat.le_of_ble_eq_true rfl))
      refine sw_boxEq (d := 900) (by exact rfl) (at_join (⟨((spansTo l f k).getD ((spansTo l f k).length - 1) sp0).From, (k : Int), ((spansTo l f k).getD ((spansTo l f k).length - 1) sp0).Set⟩) hl1 (by rw [gDt_ (d := sp0) hl1]; exact rfl)) ?_
      refine sw_frzS (s := 5) (D := 900) (G := 2900) (e := 3) (es := (((spansTo l f k)).set ((spansTo l f k).length - 1) (⟨((spansTo l f k).getD ((spansTo l f k).length - 1) sp0).From, (k : Int), ((spansTo l f k).getD ((spansTo l f k).length - 1) sp0).Set⟩)).map (cSpan (.own 3 1))) (by exact rfl) (by exact rfl) (by exact rfl) rfl (by decide) (by rw [List.length_map, List.length_set, List.length_map]) (by intro c hc; obtain ⟨y, _, rfl⟩ := List.mem_map.1 hc; exact rfl) (by rw [List.length_map]; exact hjk900) ?_
      refine sO [(0, _), (1, _), (4, _), (5, _), (6, _), (7, _), (8, _)] [] ?_
      refine sw_reg ?_
      refine rA ?_ (x := sM)
      refine rA ?_ (x := B_add)
      refine rA ?_ (x := sA)
      refine Exists.intro (k + 1) (And.intro (by omega) (And.intro (by omega) (And.intro (And.intro (by exact ⟨rfl, rfl, rfl, ⟨⟩⟩) (by exact ⟨⟩)) (And.intro (by exact And.intro (by first | exact slc_eq (by rw [spansTo, spanNext_no hls, List.map_append, ← hse]; exact rfl) | exact slc_eq (by rw [spansTo, spanNext_yes hls])) (And.intro (by exact rfl) (True.intro))) (by exact ⟨⟩)))))
     ·try simp only [q1, q2, q3, q4, q5, q6, q7, q8, q9] at hb6
      have hls : lastIs (spansTo l f k) (stabS l f (k : Int)) = false := by
       by_cases h0 : (spansTo l f k).length = 0
       ·simp [lastIs, h0]
       ·simp_all [lastIs]
      refine sO [(0, _), (1, _), (4, _), (5, _), (6, _), (7, _), (8, _)] [] ?_
      refine sw_reg ?_
      refine rA ?_ (x := tM)
      refine rA ?_ (x := sM)
      refine rA ?_ (x := sM)
      refine rA ?_ (x := tM)
      refine rA ?_ (x := loc_build (qs := [(false, [PV.val _]), (false, [PV.val _]), (false, [PV.sl _ _])]) (cs := [PV.val _, PV.val _, PV.sl _ _]) (by decide) FIdx_z_234 FIdx_zo_234 FIdx_pl_234 (by exact rfl) (by exact (And.intro (by exact ⟨⟩) (And.intro (by exact ⟨⟩) (And.intro (by exact ⟨⟩) True.intro)))) rfl (by exact rfl))
      refine rA ?_ (x := loc_bslice (qs := [(true, [PV.val _, PV.val _, PV.sl _ _])]) (by decide) FIdx_sl_205 FIdx_z_234 (by decide) rfl rfl rfl rfl rfl (by exact Nat.le_of_ble_eq_true rfl) (by exact (And.intro (by exact ⟨⟩) True.intro)) rfl)
      refine rA ?_ (x := loc_append (by decide) FIdx_sl_205 FIdx_z_234 rfl rfl (by decide) rfl (by simp only [List.length_map, List.length_append, List.length_cons, List.length_nil]; omega) (by simp only [List.length_map, List.length_append, List.length_cons, List.length_nil]; omega))
      refine rA ?_ (x := tA)
      refine sO [(0, _), (1, _), (4, _), (5, _), (6, _), (8, _)] [] ?_
      refine sw_reg ?_
      refine rA ?_ (x := sM)
      refine rA ?_ (x := B_add)
      refine rA ?_ (x := sA)
      refine Exists.intro (k + 1) (And.intro (by omega) (And.intro (by omega) (And.intro (And.intro (by exact ⟨rfl, rfl, rfl, ⟨⟩⟩) (by exact ⟨⟩)) (And.intro (by exact And.intro (by first | exact slc_eq (by rw [spansTo, spanNext_no hls, List.map_append, ← hse]; exact rfl) | exact slc_eq (by rw [spansTo, spanNext_yes hls])) (And.intro (by exact rfl) (True.intro))) (by exact ⟨⟩)))))
    ·have sg5 := g5
     try simp only [q1, q2, q3, q4, q5, q6, q7, q8, q9] at sg5
     refine RunS.s0f g5 ?_
     refine RunS.s0f g5 ?_
     refine RunS.s0f g5 ?_
     refine RunS.s0f g5 ?_
     refine RunS.s0f g5 ?_
     refine RunS.s0f g5 ?_
     refine RunS.s0f g5 ?_
     refine RunS.s0f g5 ?_
     refine rA ?_ (x := pkF g5)
     refine sw_cond (t := 40) rfl (fun hb_ => nomatch hb_) (fun hb_ => ?_)
     have hls : lastIs (spansTo l f k) (stabS l f (k : Int)) = false := by
      by_cases h0 : (spansTo l f k).length = 0
      ·simp [lastIs, h0]
      ·simp_all [lastIs]
     refine sO [(0, _), (1, _), (4, _), (5, _), (6, _), (7, _), (8, _)] [] ?_
     refine sw_reg ?_
     refine rA ?_ (x := tM)
     refine rA ?_ (x := sM)
     refine rA ?_ (x := sM)
     refine rA ?_ (x := tM)
     refine rA ?_ (x := loc_build (qs := [(false, [PV.val _]), (false, [PV.val _]), (false, [PV.sl _ _])]) (cs := [PV.val _, PV.val _, PV.sl _ _]) (by decide) FIdx_z_234 FIdx_zo_234 FIdx_pl_234 (by exact rfl) (by exact (And.intro (by exact ⟨⟩) (And.intro (by exact ⟨⟩) (And.intro (by exact ⟨⟩) True.intro)))) rfl (by exact rfl))
     refine rA ?_ (x := loc_bslice (qs := [(true, [PV.val _, PV.val _, PV.sl _ _])]) (by decide) FIdx_sl_205 FIdx_z_234 (by decide) rfl rfl rfl rfl rfl (by exact Nat.le_of_ble_eq_true rfl) (by exact (And.intro (by exact ⟨⟩) True.intro)) rfl)
     refine rA ?_ (x := loc_append (by decide) FIdx_sl_205 FIdx_z_234 rfl rfl (by decide) rfl (by simp only [List.length_map, List.length_append, List.length_cons, List.length_nil]; omega) (by simp only [List.length_map, List.length_append, List.length_cons, List.length_nil]; omega))
     refine rA ?_ (x := tA)
     refine sO [(0, _), (1, _), (4, _), (5, _), (6, _), (8, _)] [] ?_
     refine sw_reg ?_
     refine rA ?_ (x := sM)
     refine rA ?_ (x := B_add)
     refine rA ?_ (x := sA)
     refine Exists.intro (k + 1) (And.intro (by omega) (And.intro (by omega) (And.intro (And.intro (by exact ⟨rfl, rfl, rfl, ⟨⟩⟩) (by exact ⟨⟩)) (And.intro (by exact And.intro (by first | exact slc_eq (by rw [spansTo, spanNext_no hls, List.map_append, ← hse]; exact rfl) | exact slc_eq (by rw [spansTo, spanNext_yes hls])) (And.intro (by exact rfl) (True.intro))) (by exact ⟨⟩)))))
   ·try simp only [q1, q2, q3, q4, q5, q6, q7, q8, q9] at hb4
    have hend : k = 100 := by omega
    refine sw_exit ?_
    refine sw_seq ?_
    refine sO [(0, _), (1, _), (4, _), (5, _), (6, _)] [] ?_
    refine sw_reg ?_
    refine rA ?_ (x := tM)
    refine rA ?_ (x := tA)
    refine sw_ret ?_
    exact (And.intro (by refine slc_eq ?_; unfold stabIdx; rw [if_pos hok, hend]) True.intro)
theorem spec_FindSpan {p1 : Fl} {l : List Span} {v : Int}  (hs : ∀ s ∈ l, s.Set.length ≤ 1048576) : SCall Tryz.prog 184 [(false, [PV.sl .v (l.map (cSpan p1))]), (false, [PV.val (vI v)])] (resRV [(false, [PV.sl (.own 3 1) ((findSpan l v).map cInt)])]) := by
 refine scall_of (rs := [(false, [PV.sl (.own 3 1) ((findSpan l v).map cInt)])]) Tryz.func184 rfl (Nat.le_of_ble_eq_true rfl) (borA_cons (BorL.cons (PV.bor_sl _) BorL.nil) (borA_cons (BorL.cons (PV.bor_val _) BorL.nil) borA_nil)) ?_
 intro h0 w0 Fz0
 refine sw_len (s := 0) rfl fun hl0 => ?_
 try rw [List.length_map] at hl0
 refine sw_seq ?_
 refine sw_reg ?_
 refine rA ?_ (x := loc_const (.inr rfl) (by decide) (ok_nil (t := 3) (e := 1)))
 refine sw_seq ?_
 refine sw_seq ?_
 refine sO [(0, _), (1, _), (4, _)] [] ?_
 refine sw_reg ?_
 refine rA ?_ (x := kA)
 refine sw_block ?_
 refine sO [(0, _), (1, _), (4, _), (5, _)] [] ?_
 refine sw_loop (l0 := [(0, RV.sv false [PV.sl _ _]), (1, RV.sv false [PV.val _])]) (b0 := []) (fun k : Nat => k ≤ l.length ∧ (l.take k).any (inSpan v) = false) (fun k : Nat => [(5, RV.int (k : Int))]) (fun k : Nat => []) (fun k : Nat => l.length - k) 0 (by exact ⟨by omega, by simp⟩) (by exact ⟨rfl, rfl, ⟨⟩⟩) (by exact ⟨⟩) (by exact And.intro (by exact rfl) (True.intro)) (by exact ⟨⟩) ?_
 rintro k ⟨hk, ha⟩
 refine sw_seq ?_
 refine sw_seq ?_
 refine sw_reg ?_
 refine rA ?_ (x := sM)
 refine rA ?_ (x := vM false [PV.sl .v _])
 refine rA ?_ (x := lN FIdx_sl_205)
 refine rA ?_ (x := B_lss)
 refine sw_cond (t := 9) rfl (fun hb1 => ?_) (fun hb1 => ?_)
 ·try simp only [q1, q2, q3, q4, q5, q6, q7, q8, q9] at hb1
  have hlt : k < l.length := by omega
  refine sw_skip ?_
  refine sw_seq ?_
  refine sw_block ?_
  refine sw_seq ?_
  refine sO [(0, _), (1, _), (5, _)] [] ?_
  refine sw_draw hm_ ?_
  refine dA 0 ?_ (x := sM)
  refine dA 0 ?_ (x := vM false [PV.sl .v _])
  refine dA 0 ?_ (x := sM)
  refine dA 6 ?_ (x := loc_index (by decide) FIdx_sl_205 (by exact ⟨⟩) (by exact rfl) (by exact getm2 (by omega) rfl) (by exact rfl))
  refine dA 14 ?_ (x := loc_efield (by decide) FIdx_fd_234_0 (by exact Nat.le_of_ble_eq_true rfl))
  refine dA 30 ?_ (x := lE [PV.val _] FIdx_ty_3)
  refine dA 0 ?_ (x := vM false [PV.sl .v _])
  refine dA 0 ?_ (x := sM)
  refine dA 192 ?_ (x := loc_index (by decide) FIdx_sl_205 (by exact ⟨⟩) (by exact rfl) (by exact getm2 (by omega) rfl) (by exact rfl))
  refine dA 448 ?_ (x := loc_efield (by decide) FIdx_fd_234_1 (by exact Nat.le_of_ble_eq_true rfl))
  refine dA 960 ?_ (x := lE [PV.val _] FIdx_ty_3)
  refine dA 2047 ?_ (x := cL [(false, [PV.val _]), (false, [PV.val _]), (false, [PV.val _])] [(false, [PV.val _]), (false, [PV.val _]), (false, [PV.val _])] FIdx_c_97 (hs := by exact spec_l1In))
  refine sw_cond (t := 23) rfl (fun hb2 => ?_) (fun hb2 => ?_)
  ·try simp only [q1, q2, q3, q4, q5, q6, q7, q8, q9] at hb2
   have hy : inSpan v l[k] = true := by simpa [inSpan] using hb2
   have hst := hs l[k] (List.getElem_mem hlt)
   refine sw_seq ?_
   refine sO [(0, _), (1, _), (5, _)] [] ?_
   refine sw_reg ?_
   refine rA ?_ (x := loc_bslice (qs := []) (by decide) FIdx_sl_25 FIdx_z_3 (by decide) rfl rfl rfl rfl rfl (by exact Nat.le_of_ble_eq_true rfl) (by exact ⟨⟩) rfl)
   refine rA ?_ (x := vM false [PV.sl .v _])
   refine rA ?_ (x := sM)
   refine rA ?_ (x := loc_index (by decide) FIdx_sl_205 (by exact ⟨⟩) (by exact rfl) (by exact getm2 (by omega) rfl) (by exact rfl))
   refine rA ?_ (x := loc_efield (by decide) FIdx_fd_234_2 (by exact Nat.le_of_ble_eq_true rfl))
   refine rA ?_ (x := lE [PV.sl .v _] FIdx_ty_25)
   refine rA ?_ (x := loc_appendb (by decide) FIdx_sl_25 FIdx_z_3 rfl rfl (by decide) (by first | (intro cs hcs; obtain ⟨x, _, rfl⟩ := List.mem_map.1 hcs; exact rfl) | simp) (by first | (intro cs hcs; obtain ⟨x, _, rfl⟩ := List.mem_map.1 hcs; exact (BorL.cons (PV.bor_val _) BorL.nil)) | simp) (by simp only [List.length_map, List.length_append, List.length_cons, List.length_nil]; omega) (by simp only [List.length_map, List.length_append, List.length_cons, List.length_nil]; omega))
   refine rA ?_ (x := tA)
   refine sw_ret ?_
   exact (And.intro (by refine slc_eq ?_; rw [find_yes hlt ha hy]; exact rfl) True.intro)
  ·try simp only [q1, q2, q3, q4, q5, q6, q7, q8, q9] at hb2
   have hno : inSpan v l[k] = false := by simpa [inSpan] using hb2
   refine sw_skip ?_
   refine sO [(0, _), (1, _), (5, _)] [] ?_
   refine sw_reg ?_
   refine rA ?_ (x := sM)
   refine rA ?_ (x := B_add)
   refine rA ?_ (x := sA)
   refine Exists.intro (k + 1) (And.intro (by exact ⟨by omega, any_succ ha hlt hno⟩) (And.intro (by omega) (And.intro (And.intro (by exact ⟨rfl, rfl, ⟨⟩⟩) (by exact ⟨⟩)) (And.intro (by exact And.intro (by exact rfl) (True.intro)) (by exact ⟨⟩)))))
 ·try simp only [q1, q2, q3, q4, q5, q6, q7, q8, q9] at hb1
  have hend : k = l.length := by omega
  rw [hend, List.take_length] at ha
  refine sw_exit ?_
  refine sw_seq ?_
  refine sO [(0, _), (1, _), (5, _)] [] ?_
  refine sw_reg ?_
  refine rA ?_ (x := loc_bslice (qs := []) (by decide) FIdx_sl_25 FIdx_z_3 (by decide) rfl rfl rfl rfl rfl (by exact Nat.le_of_ble_eq_true rfl) (by exact ⟨⟩) rfl)
  refine rA ?_ (x := tA)
  refine sw_ret ?_
  exact (And.intro (by refine slc_eq ?_; rw [find_no ha]; exact rfl) True.intro)
theorem spec_EqualSpans {p1 p3 : Fl} {x : List Span} {y : List Span}  : SCall Tryz.prog 182 [(false, [PV.sl .v (x.map (cSpan p1))]), (false, [PV.sl .v (y.map (cSpan p3))])] (resRV [(false, [PV.val (.bool (deq x y))])]) := by
 refine scall_of (rs := [(false, [PV.val (.bool (deq x y))])]) Tryz.func182 rfl (Nat.le_of_ble_eq_true rfl) (borA_cons (BorL.cons (PV.bor_sl _) BorL.nil) (borA_cons (BorL.cons (PV.bor_sl _) BorL.nil) borA_nil)) ?_
 intro h0 w0 Fz0
 refine sw_len (s := 0) rfl fun hl0 => ?_
 try rw [List.length_map] at hl0
 refine sw_len (s := 1) rfl fun hl1 => ?_
 try rw [List.length_map] at hl1
 refine sw_seq ?_
 refine sw_reg ?_
 refine rA ?_ (x := kA)
 refine sw_seq ?_
 refine sw_seq ?_
 refine sO [(0, _), (1, _), (4, _)] [] ?_
 refine sw_reg ?_
 refine rA ?_ (x := vM false [PV.sl .v _])
 refine rA ?_ (x := lN FIdx_sl_205)
 refine rA ?_ (x := vM false [PV.sl .v _])
 refine rA ?_ (x := lN FIdx_sl_205)
 refine rA ?_ (x := B_neq)
 refine sw_cond (t := 10) rfl (fun hb1 => ?_) (fun hb1 => ?_)
 ·try simp only [q1, q2, q3, q4, q5, q6, q7, q8, q9] at hb1
  refine sw_seq ?_
  refine sO [(0, _), (1, _), (4, _)] [] ?_
  refine sw_reg ?_
  refine rA ?_ (x := kA)
  refine sw_ret ?_
  exact (And.intro (by refine bool_eq ?_; exact (deq_false (fun e => by subst e; simp at *)).symm) True.intro)
 ·try simp only [q1, q2, q3, q4, q5, q6, q7, q8, q9] at hb1
  have hl : x.length = y.length := by omega
  refine sw_skip ?_
  refine sw_seq ?_
  refine sw_seq ?_
  refine sO [(0, _), (1, _), (4, _)] [] ?_
  refine sw_reg ?_
  refine rA ?_ (x := kA)
  refine sw_block ?_
  refine sO [(0, _), (1, _), (4, _), (5, _)] [] ?_
  refine sw_loop (l0 := [(0, RV.sv false [PV.sl _ _]), (1, RV.sv false [PV.sl _ _])]) (b0 := []) (fun k : Nat => k ≤ x.length ∧ x.take k = y.take k) (fun k : Nat => [(5, RV.int (k : Int))]) (fun k : Nat => []) (fun k : Nat => x.length - k) 0 (by exact ⟨by omega, by simp⟩) (by exact ⟨rfl, rfl, ⟨⟩⟩) (by exact ⟨⟩) (by exact And.intro (by exact rfl) (True.intro)) (by exact ⟨⟩) ?_
  rintro k ⟨hk, ha⟩
  refine sw_seq ?_
  refine sw_seq ?_
  refine sw_reg ?_
  refine rA ?_ (x := sM)
  refine rA ?_ (x := vM false [PV.sl .v _])
  refine rA ?_ (x := lN FIdx_sl_205)
  refine rA ?_ (x := B_lss)
  refine sw_cond (t := 14) rfl (fun hb2 => ?_) (fun hb2 => ?_)
  ·try simp only [q1, q2, q3, q4, q5, q6, q7, q8, q9] at hb2
   have hlt : k < x.length := by omega
   have hlt2 : k < y.length := by omega
   refine sw_skip ?_
   refine sw_seq ?_
   refine sw_block ?_
   refine sw_seq ?_
   refine sO [(0, _), (1, _), (5, _)] [] ?_
   refine sw_draw hm_ ?_
   refine dA 0 ?_ (x := vM false [PV.sl .v _])
   refine dA 0 ?_ (x := sM)
   refine dA 3 ?_ (x := loc_index (by decide) FIdx_sl_205 (by exact ⟨⟩) (by exact rfl) (by exact getm2 (by omega) rfl) (by exact rfl))
   refine dA 7 ?_ (x := loc_efield (by decide) FIdx_fd_234_0 (by exact Nat.le_of_ble_eq_true rfl))
   refine dA 15 ?_ (x := lE [PV.val _] FIdx_ty_3)
   refine dA 0 ?_ (x := vM false [PV.sl .v _])
   refine dA 0 ?_ (x := sM)
   refine dA 96 ?_ (x := loc_index (by decide) FIdx_sl_205 (by exact ⟨⟩) (by exact rfl) (by exact getm2 (by omega) rfl) (by exact rfl))
   refine dA 224 ?_ (x := loc_efield (by decide) FIdx_fd_234_0 (by exact Nat.le_of_ble_eq_true rfl))
   refine dA 480 ?_ (x := lE [PV.val _] FIdx_ty_3)
   refine dA 1023 ?_ (x := B_neq)
   refine dA 2047 ?_ (x := sM)
   refine Run.cases (s := 28) rfl (fun g3 => ?_) (fun g3 => ?_)
   ·have sg3 := g3
    try simp only [q1, q2, q3, q4, q5, q6, q7, q8, q9] at sg3
    refine dT 4095 g3 ?_
    refine dT 4095 g3 ?_
    refine dT 16383 g3 ?_
    refine dT 32767 g3 ?_
    refine dT 65535 g3 ?_
    refine dT 4095 g3 ?_
    refine dT 4095 g3 ?_
    refine dT 397311 g3 ?_
    refine dT 921599 g3 ?_
    refine dT 1970175 g3 ?_
    refine dT 4194303 g3 ?_
    refine dA 8388607 ?_ (x := pkT g3)
    refine dA 16777215 ?_ (x := sM)
    refine Run.cases (s := 41) rfl (fun g4 => ?_) (fun g4 => nomatch g4)
    refine dT 33554431 g4 ?_
    refine dT 33554431 g4 ?_
    refine dT 134217727 g4 ?_
    refine dT 268435455 g4 ?_
    refine dT 536870911 g4 ?_
    refine dT 33554431 g4 ?_
    refine dT 33554431 g4 ?_
    refine dT 3254779903 g4 ?_
    refine dT 7549747199 g4 ?_
    refine dT 16139681791 g4 ?_
    refine dT 34359738367 g4 ?_
    refine dT 68719476735 g4 ?_
    refine dA 137438953471 ?_ (x := pkT g4)
    refine sw_cond (t := 54) rfl (fun hb_ => ?_) (fun hb_ => nomatch hb_)
    refine sw_seq ?_
    refine sO [(0, _), (1, _), (5, _)] [] ?_
    refine sw_reg ?_
    refine rA ?_ (x := kA)
    refine sw_ret ?_
    exact (And.intro (by refine bool_eq ?_; exact (deq_false (eq_no hlt hlt2 (by intro e; simp [e, deq_self] at *))).symm) True.intro)
   ·have sg3 := g3
    try simp only [q1, q2, q3, q4, q5, q6, q7, q8, q9] at sg3
    refine dB 4095 g3 ?_ (x := vM false [PV.sl .v _])
    refine dB 4095 g3 ?_ (x := sM)
    refine dB 16383 g3 ?_ (x := loc_index (by decide) FIdx_sl_205 (by exact ⟨⟩) (by exact rfl) (by exact getm2 (by omega) rfl) (by exact rfl))
    refine dB 32767 g3 ?_ (x := loc_efield (by decide) FIdx_fd_234_1 (by exact Nat.le_of_ble_eq_true rfl))
    refine dB 65535 g3 ?_ (x := lE [PV.val _] FIdx_ty_3)
    refine dB 4095 g3 ?_ (x := vM false [PV.sl .v _])
    refine dB 4095 g3 ?_ (x := sM)
    refine dB 397311 g3 ?_ (x := loc_index (by decide) FIdx_sl_205 (by exact ⟨⟩) (by exact rfl) (by exact getm2 (by omega) rfl) (by exact rfl))
    refine dB 921599 g3 ?_ (x := loc_efield (by decide) FIdx_fd_234_1 (by exact Nat.le_of_ble_eq_true rfl))
    refine dB 1970175 g3 ?_ (x := lE [PV.val _] FIdx_ty_3)
    refine dB 4194303 g3 ?_ (x := B_neq)
    refine dA 8388607 ?_ (x := pkF g3)
    refine dA 16777215 ?_ (x := sM)
    refine Run.cases (s := 41) rfl (fun g6 => ?_) (fun g6 => ?_)
    ·have sg6 := g6
     try simp only [q1, q2, q3, q4, q5, q6, q7, q8, q9] at sg6
     refine dT 33554431 g6 ?_
     refine dT 33554431 g6 ?_
     refine dT 134217727 g6 ?_
     refine dT 268435455 g6 ?_
     refine dT 536870911 g6 ?_
     refine dT 33554431 g6 ?_
     refine dT 33554431 g6 ?_
     refine dT 3254779903 g6 ?_
     refine dT 7549747199 g6 ?_
     refine dT 16139681791 g6 ?_
     refine dT 34359738367 g6 ?_
     refine dT 68719476735 g6 ?_
     refine dA 137438953471 ?_ (x := pkT g6)
     refine sw_cond (t := 54) rfl (fun hb_ => ?_) (fun hb_ => nomatch hb_)
     refine sw_seq ?_
     refine sO [(0, _), (1, _), (5, _)] [] ?_
     refine sw_reg ?_
     refine rA ?_ (x := kA)
     refine sw_ret ?_
     exact (And.intro (by refine bool_eq ?_; exact (deq_false (eq_no hlt hlt2 (by intro e; simp [e, deq_self] at *))).symm) True.intro)
    ·have sg6 := g6
     try simp only [q1, q2, q3, q4, q5, q6, q7, q8, q9] at sg6
     refine dB 33554431 g6 ?_ (x := vM false [PV.sl .v _])
     refine dB 33554431 g6 ?_ (x := sM)
     refine dB 134217727 g6 ?_ (x := loc_index (by decide) FIdx_sl_205 (by exact ⟨⟩) (by exact rfl) (by exact getm2 (by omega) rfl) (by exact rfl))
     refine dB 268435455 g6 ?_ (x := loc_efield (by decide) FIdx_fd_234_2 (by exact Nat.le_of_ble_eq_true rfl))
     refine dB 536870911 g6 ?_ (x := lE [PV.sl .v _] FIdx_ty_25)
     refine dB 33554431 g6 ?_ (x := vM false [PV.sl .v _])
     refine dB 33554431 g6 ?_ (x := sM)
     refine dB 3254779903 g6 ?_ (x := loc_index (by decide) FIdx_sl_205 (by exact ⟨⟩) (by exact rfl) (by exact getm2 (by omega) rfl) (by exact rfl))
     refine dB 7549747199 g6 ?_ (x := loc_efield (by decide) FIdx_fd_234_2 (by exact Nat.le_of_ble_eq_true rfl))
     refine dB 16139681791 g6 ?_ (x := lE [PV.sl .v _] FIdx_ty_25)
     refine dB 34359738367 g6 ?_ (x := cL [(false, [PV.sl _ _]), (false, [PV.sl _ _])] [(false, [PV.sl .v _]), (false, [PV.sl .v _])] FIdx_c_223 (hs := by exact spec_l2Ints))
     refine dB 68719476735 g6 ?_ (x := nT)
     refine dA 137438953471 ?_ (x := pkF g6)
     refine sw_cond (t := 54) rfl (fun hb8 => ?_) (fun hb8 => ?_)
     ·try simp only [q1, q2, q3, q4, q5, q6, q7, q8, q9] at hb8
      refine sw_seq ?_
      refine sO [(0, _), (1, _), (5, _)] [] ?_
      refine sw_reg ?_
      refine rA ?_ (x := kA)
      refine sw_ret ?_
      exact (And.intro (by refine bool_eq ?_; exact (deq_false (eq_no hlt hlt2 (by intro e; simp [e, deq_self] at *))).symm) True.intro)
     ·try simp only [q1, q2, q3, q4, q5, q6, q7, q8, q9] at hb8
      refine sw_skip ?_
      refine sO [(0, _), (1, _), (5, _)] [] ?_
      refine sw_reg ?_
      refine rA ?_ (x := sM)
      refine rA ?_ (x := B_add)
      refine rA ?_ (x := sA)
      refine Exists.intro (k + 1) (And.intro (by exact ⟨by omega, eq_succ ha hlt hlt2 (by rw [ext_Span_iff]; simp_all [deq_iff])⟩) (And.intro (by omega) (And.intro (And.intro (by exact ⟨rfl, rfl, ⟨⟩⟩) (by exact ⟨⟩)) (And.intro (by exact And.intro (by exact rfl) (True.intro)) (by exact ⟨⟩)))))
  ·try simp only [q1, q2, q3, q4, q5, q6, q7, q8, q9] at hb2
   refine sw_exit ?_
   refine sw_seq ?_
   refine sO [(0, _), (1, _), (5, _)] [] ?_
   refine sw_reg ?_
   refine rA ?_ (x := kA)
   refine sw_ret ?_
   exact (And.intro (by refine bool_eq ?_; exact (deq_true (eq_end hl (by rw [show x.length = k by omega]; exact ha))).symm) True.intro)
theorem spec_l6Query {x : Query}  (hb : wtQuery x ≤ 68719476736) : SCall Tryz.prog 139 [(true, [PV.val (vI x.Id), PV.val (vI x.Tenant), PV.sl .v (x.Conds.map cCond), PV.sl .v (x.Out.map cInt)])] (resRV [(true, [PV.val (vI x.Id), PV.val (vI x.Tenant), PV.sl (.own 193 3) (x.Conds.map cCond), PV.sl (.own 3 1) (x.Out.map cInt)])]) := by
 refine scall_of (rs := [(true, [PV.val (vI x.Id), PV.val (vI x.Tenant), PV.sl (.own 193 3) (x.Conds.map cCond), PV.sl (.own 3 1) (x.Out.map cInt)])]) Tryz.func139 rfl (Nat.le_of_ble_eq_true rfl) (borA_cons (BorL.cons (PV.bor_val _) (BorL.cons (PV.bor_val _) (BorL.cons (PV.bor_sl _) (BorL.cons (PV.bor_sl _) BorL.nil)))) borA_nil) ?_
 intro h0 w0 Fz0
 refine sw_slen (s := 0) (j := 2) rfl rfl fun hl0_2 => ?_
 try rw [List.length_map] at hl0_2
 refine sw_slen (s := 0) (j := 3) rfl rfl fun hl0_3 => ?_
 try rw [List.length_map] at hl0_3
 have hbu := hb
 simp only [wtQuery, wtIntS_len, wtInt, wtCondS] at hbu
 refine sw_seq ?_
 refine sw_reg ?_
 refine RunS.step (by exact ⟨rfl, ⟨⟩⟩) (by exact ⟨⟩) (LocG.of rfl (loc_box (ag := true) (cs := [PV.val _, PV.val _, PV.sl _ _, PV.sl _ _]) (by decide) (by exact ⟨⟩))) (free1 (Free.of_ rfl)) ?_
 refine RunS.step (by exact ⟨⟩) (by exact ⟨⟩) (LocG.of rfl (loc_alloc (by decide) FIdx_z_65 FIdx_zo_65)) (free1 (Free.app (Free.of_ rfl) rfl)) ?_
 refine sw_seq ?_
 refine sO [(1, _), (2, _)] [(1, (65, [PV.val _, PV.val _, PV.sl _ _, PV.sl _ _])), (2, (65, [PV.val _, PV.val _, PV.sl _ _, PV.sl _ _]))] ?_
 refine sw_draw hm_ ?_
 refine dA 0 ?_ (x := lF FIdx_fd_65_0)
 refine dA 1 ?_ (x := lD [PV.val _] FIdx_ty_3)
 refine dA 0 ?_ (x := lF FIdx_fd_65_1)
 refine dA 4 ?_ (x := lD [PV.val _] FIdx_ty_3)
 refine dA 0 ?_ (x := loc_bslice (qs := []) (by decide) FIdx_sl_63 FIdx_z_193 (by decide) rfl rfl rfl rfl rfl (by exact Nat.le_of_ble_eq_true rfl) (by exact ⟨⟩) rfl)
 refine dA 0 ?_ (x := lF FIdx_fd_65_2)
 refine dA 32 ?_ (x := lD [PV.sl .v _] FIdx_ty_63)
 refine dA 112 ?_ (x := loc_appendb (by decide) FIdx_sl_63 FIdx_z_193 rfl rfl (by decide) (by first | (intro cs hcs; obtain ⟨x, _, rfl⟩ := List.mem_map.1 hcs; exact rfl) | simp) (by first | (intro cs hcs; obtain ⟨x, _, rfl⟩ := List.mem_map.1 hcs; exact (BorL.cons (PV.bor_val _) (BorL.cons (PV.bor_val _) (BorL.cons (PV.bor_val _) BorL.nil)))) | simp) (by simp only [List.length_map, List.length_append, List.length_cons, List.length_nil]; omega) (by simp only [List.length_map, List.length_append, List.length_cons, List.length_nil]; omega))
 refine dA 0 ?_ (x := loc_bslice (qs := []) (by decide) FIdx_sl_25 FIdx_z_3 (by decide) rfl rfl rfl rfl rfl (by exact Nat.le_of_ble_eq_true rfl) (by exact ⟨⟩) rfl)
 refine dA 0 ?_ (x := lF FIdx_fd_65_3)
 refine dA 512 ?_ (x := lD [PV.sl .v _] FIdx_ty_25)
 refine dA 2032 ?_ (x := loc_appendb (by decide) FIdx_sl_25 FIdx_z_3 rfl rfl (by decide) (by first | (intro cs hcs; obtain ⟨x, _, rfl⟩ := List.mem_map.1 hcs; exact rfl) | simp) (by first | (intro cs hcs; obtain ⟨x, _, rfl⟩ := List.mem_map.1 hcs; exact (BorL.cons (PV.bor_val _) BorL.nil)) | simp) (by simp only [List.length_map, List.length_append, List.length_cons, List.length_nil]; omega) (by simp only [List.length_map, List.length_append, List.length_cons, List.length_nil]; omega))
 refine dA 4095 ?_ (x := loc_build (qs := [(false, [PV.val _]), (false, [PV.val _]), (false, [PV.sl _ _]), (false, [PV.sl _ _])]) (cs := [PV.val _, PV.val _, PV.sl _ _, PV.sl _ _]) (by decide) FIdx_z_65 FIdx_zo_65 FIdx_pl_65 (by exact rfl) (by exact (And.intro (by exact ⟨⟩) (And.intro (by exact ⟨⟩) (And.intro (by exact ⟨⟩) (And.intro (by exact ⟨⟩) True.intro))))) rfl (by exact rfl))
 refine dA 8191 ?_ (x := loc_store (ag := true) (vs := [PV.val _, PV.val _, PV.sl _ _, PV.sl _ _]) FIdx_ty_65 (by exact ⟨⟩) (by exact rfl) (by exact Nat.le_of_ble_eq_true rfl))
 refine sw_ret ?_
 exact (Exists.intro 2 (Exists.intro _ (And.intro (by exact rfl) (And.intro (by exact rfl) (And.intro FIdx_ty_65 (And.intro (fun h => nomatch h) True.intro))))))
theorem spec_l6Queries {p1 p2 : Fl} {x : List Query}  (hb : wtQueryS x ≤ 68719476736) : SCall Tryz.prog 180 [(false, [PV.sl .v (x.map (cQuery p1 p2))])] (resRV [(false, [PV.sl (.own 65 4) (x.map (cQuery (.own 193 3) (.own 3 1)))])]) := by
 refine scall_of (rs := [(false, [PV.sl (.own 65 4) (x.map (cQuery (.own 193 3) (.own 3 1)))])]) Tryz.func180 rfl (Nat.le_of_ble_eq_true rfl) (borA_cons (BorL.cons (PV.bor_sl _) BorL.nil) borA_nil) ?_
 intro h0 w0 Fz0
 refine sw_len (s := 0) rfl fun hl0 => ?_
 try rw [List.length_map] at hl0
 have hbu := hb
 simp only [wtQueryS] at hbu
 refine sw_seq ?_
 refine sw_reg ?_
 refine rA ?_ (x := loc_const (.inr rfl) (by decide) (ok_nil (t := 65) (e := 4)))
 refine sw_seq ?_
 refine sO [(0, _), (2, _)] [] ?_
 refine sw_reg ?_
 refine rA ?_ (x := loc_bslice (qs := []) (by decide) FIdx_sl_89 FIdx_z_65 (by decide) rfl rfl rfl rfl rfl (by exact Nat.le_of_ble_eq_true rfl) (by exact ⟨⟩) rfl)
 refine rA ?_ (x := tA)
 refine sw_seq ?_
 refine sw_seq ?_
 refine sO [(0, _), (2, _), (3, _)] [] ?_
 refine sw_reg ?_
 refine rA ?_ (x := kA)
 refine sw_block ?_
 refine sO [(0, _), (2, _), (3, _), (4, _)] [] ?_
 refine sw_loop (l0 := [(0, RV.sv false [PV.sl _ _]), (2, RV.sv false [PV.sl _ _])]) (b0 := []) (fun k : Nat => k ≤ x.length) (fun k : Nat => [(3, RV.slc (.own 65 4) ((x.take k).map (cQuery (.own 193 3) (.own 3 1)))), (4, RV.int (k : Int))]) (fun k : Nat => []) (fun k : Nat => x.length - k) 0 (by omega) (by exact ⟨rfl, rfl, ⟨⟩⟩) (by exact ⟨⟩) (by exact And.intro (by first | exact rfl | simp) (And.intro (by exact rfl) (True.intro))) (by exact ⟨⟩) ?_
 rintro k hk
 refine sw_seq ?_
 refine sw_seq ?_
 refine sw_reg ?_
 refine rA ?_ (x := sM)
 refine rA ?_ (x := vM false [PV.sl .v _])
 refine rA ?_ (x := lN FIdx_sl_89)
 refine rA ?_ (x := B_lss)
 refine sw_cond (t := 10) rfl (fun hb1 => ?_) (fun hb1 => ?_)
 ·try simp only [q1, q2, q3, q4, q5, q6, q7, q8, q9] at hb1
  have hlt : k < x.length := by omega
  have hwm := wt_mem (f := wtQuery) hlt
  have htl : (x.take k).length = k := by rw [List.length_take]; omega
  refine sw_skip ?_
  refine sw_seq ?_
  refine sw_block ?_
  refine sw_seq ?_
  refine sO [(0, _), (2, _), (3, _), (4, _)] [] ?_
  refine sw_reg ?_
  refine rA ?_ (x := vM false [PV.sl .v _])
  refine rA ?_ (x := sM)
  refine rA ?_ (x := loc_index (by decide) FIdx_sl_89 (by exact ⟨⟩) (by exact rfl) (by exact getm2 (by omega) rfl) (by exact rfl))
  refine rA ?_ (x := lE [PV.val _, PV.val _, PV.sl .v _, PV.sl .v _] FIdx_ty_65)
  refine rA ?_ (x := cL [(true, [PV.val _, PV.val _, PV.sl _ _, PV.sl _ _])] [(true, [PV.val _, PV.val _, PV.sl .v _, PV.sl .v _])] FIdx_c_139 (hs := by exact spec_l6Query (by omega)))
  refine RunS.step (by exact ⟨⟩) (by exact ⟨⟩) (LocG.of rfl (loc_alloc (by decide) FIdx_z_65 FIdx_zo_65)) (free1 (Free.app (Free.app (Free.app (Free.app (Free.app (Free.of_ rfl) rfl) rfl) rfl) rfl) rfl)) ?_
  refine rA ?_ (x := loc_store (ag := true) (vs := [PV.val _, PV.val _, PV.sl _ _, PV.sl _ _]) FIdx_ty_65 (by exact ⟨⟩) (by exact rfl) (by exact Nat.le_of_ble_eq_true rfl))
  refine sO [(0, _), (2, _), (3, _), (4, _), (5, _)] [(5, (65, [PV.val _, PV.val _, PV.sl _ _, PV.sl _ _]))] ?_
  refine sw_reg ?_
  refine rA ?_ (x := tM)
  refine rA ?_ (x := loc_ltake (ms := [PV.val _, PV.val _, PV.sl _ _, PV.sl _ _]) (qs := [PV.val _, PV.val _, PV.sl .v _, PV.sl .v _]) (by decide) FIdx_ty_65 (fun h => nomatch h) (by exact Nat.le_of_ble_eq_true rfl) (by exact rfl) (by exact (ToL.cons (PV.To.refl _) (ToL.cons (PV.To.refl _) (ToL.cons PV.to_none (ToL.cons PV.to_none ToL.nil))))) (by exact (BorL.cons (PV.bor_val _) (BorL.cons (PV.bor_val _) (BorL.cons (PV.bor_sl _) (BorL.cons (PV.bor_sl _) BorL.nil))))))
  refine rA ?_ (x := loc_bslice (qs := [(true, [PV.val _, PV.val _, PV.sl _ _, PV.sl _ _])]) (by decide) FIdx_sl_89 FIdx_z_65 (by decide) rfl rfl rfl rfl rfl (by exact Nat.le_of_ble_eq_true rfl) (by exact (And.intro (by exact ⟨⟩) True.intro)) rfl)
  refine rA ?_ (x := loc_append (by decide) FIdx_sl_89 FIdx_z_65 rfl rfl (by decide) rfl (by simp only [List.length_map, List.length_append, List.length_cons, List.length_nil]; omega) (by simp only [List.length_map, List.length_append, List.length_cons, List.length_nil]; omega))
  refine rA ?_ (x := tA)
  refine sO [(0, _), (2, _), (3, _), (4, _), (5, _)] [(5, (65, [PV.val _, PV.val _, PV.sl _ _, PV.sl _ _]))] ?_
  refine sw_reg ?_
  refine rA ?_ (x := sM)
  refine rA ?_ (x := B_add)
  refine rA ?_ (x := sA)
  refine Exists.intro (k + 1) (And.intro (by omega) (And.intro (by omega) (And.intro (And.intro (by exact ⟨rfl, rfl, ⟨⟩⟩) (by exact ⟨⟩)) (And.intro (by exact And.intro (by exact slc_eq (by rw [tk_succ hlt, List.map_append]; rfl)) (And.intro (by exact rfl) (True.intro))) (by exact ⟨⟩)))))
 ·try simp only [q1, q2, q3, q4, q5, q6, q7, q8, q9] at hb1
  have hend : k = x.length := by omega
  refine sw_exit ?_
  refine sw_seq ?_
  refine sO [(0, _), (2, _), (3, _), (4, _)] [] ?_
  refine sw_reg ?_
  refine rA ?_ (x := tM)
  refine rA ?_ (x := tA)
  refine sw_ret ?_
  exact (And.intro (by refine slc_eq ?_; rw [hend, List.take_length]) True.intro)
end Go.Proofs.YteflgldonmgejaaGreat
