/- What functions of the program compute. No condition. -/
import Derived.Test.YteflgldonmgejaaGreatCIdbProbeWork
import Derived.KernelRfl
set_option linter.unusedVariables false
set_option linter.unusedSimpArgs false
namespace Go.Proofs.YteflgldonmgejaaGreat
open Go Go.RowKit M
set_option maxRecDepth 10000
attribute [local irreducible] PV.Lcl PV.LclR RV.Lcl
theorem FIdi_c_114 : callI Tryz.prog 114 = true := by kernel_rfl
theorem FIdi_c_117 : callI Tryz.prog 117 = true := by kernel_rfl
theorem FIdi_c_134 : callI Tryz.prog 134 = true := by kernel_rfl
theorem FIdi_c_163 : callI Tryz.prog 163 = true := by kernel_rfl
theorem FIdi_c_191 : callI Tryz.prog 191 = true := by kernel_rfl
theorem FIdi_c_195 : callI Tryz.prog 195 = true := by kernel_rfl
theorem FIdi_c_196 : callI Tryz.prog 196 = true := by kernel_rfl
theorem FIdi_c_197 : callI Tryz.prog 197 = true := by kernel_rfl
theorem FIdi_c_198 : callI Tryz.prog 198 = true := by kernel_rfl
theorem FIdi_c_199 : callI Tryz.prog 199 = true := by kernel_rfl
theorem FIdi_c_200 : callI Tryz.prog 200 = true := by kernel_rfl
theorem FIdi_c_210 : callI Tryz.prog 210 = true := by kernel_rfl
theorem FIdi_c_217 : callI Tryz.prog 217 = true := by kernel_rfl
theorem FIdi_c_225 : callI Tryz.prog 225 = true := by kernel_rfl
theorem FIdi_fd_193_0 : fieldI Tryz.prog 193 0 = some 0 := by kernel_rfl
theorem FIdi_fd_193_1 : fieldI Tryz.prog 193 1 = some 1 := by kernel_rfl
theorem FIdi_fd_193_2 : fieldI Tryz.prog 193 2 = some 2 := by kernel_rfl
theorem FIdi_fd_234_0 : fieldI Tryz.prog 234 0 = some 0 := by kernel_rfl
theorem FIdi_fd_234_1 : fieldI Tryz.prog 234 1 = some 1 := by kernel_rfl
theorem FIdi_fd_234_2 : fieldI Tryz.prog 234 2 = some 2 := by kernel_rfl
theorem FIdi_fd_65_0 : fieldI Tryz.prog 65 0 = some 0 := by kernel_rfl
theorem FIdi_fd_65_2 : fieldI Tryz.prog 65 2 = some 2 := by kernel_rfl
theorem FIdi_fd_65_3 : fieldI Tryz.prog 65 3 = some 3 := by kernel_rfl
theorem FIdi_fd_66_1 : fieldI Tryz.prog 66 1 = some 1 := by kernel_rfl
theorem FIdi_fd_92_0 : fieldI Tryz.prog 92 0 = some 0 := by kernel_rfl
theorem FIdi_fd_92_1 : fieldI Tryz.prog 92 1 = some 1 := by kernel_rfl
theorem FIdi_pl_234 : placesI Tryz.prog 234 = some [(0, 1), (1, 1), (2, 1)] := by kernel_rfl
theorem FIdi_pl_92 : placesI Tryz.prog 92 = some [(0, 1), (1, 1)] := by kernel_rfl
theorem FIdi_sl_205 : sliceI Tryz.prog 205 = some (234, 3, 40) := by kernel_rfl
theorem FIdi_sl_25 : sliceI Tryz.prog 25 = some (3, 1, 8) := by kernel_rfl
theorem FIdi_sl_63 : sliceI Tryz.prog 63 = some (193, 3, 24) := by kernel_rfl
theorem FIdi_sl_89 : sliceI Tryz.prog 89 = some (65, 4, 64) := by kernel_rfl
theorem FIdi_sl_90 : sliceI Tryz.prog 90 = some (205, 1, 24) := by kernel_rfl
theorem FIdi_ty_193 : tyI Tryz.prog 193 = some (true, 3) := by kernel_rfl
theorem FIdi_ty_205 : tyI Tryz.prog 205 = some (false, 1) := by kernel_rfl
theorem FIdi_ty_234 : tyI Tryz.prog 234 = some (true, 3) := by kernel_rfl
theorem FIdi_ty_25 : tyI Tryz.prog 25 = some (false, 1) := by kernel_rfl
theorem FIdi_ty_3 : tyI Tryz.prog 3 = some (false, 1) := by kernel_rfl
theorem FIdi_ty_63 : tyI Tryz.prog 63 = some (false, 1) := by kernel_rfl
theorem FIdi_ty_65 : tyI Tryz.prog 65 = some (true, 4) := by kernel_rfl
theorem FIdi_ty_89 : tyI Tryz.prog 89 = some (false, 1) := by kernel_rfl
theorem FIdi_ty_90 : tyI Tryz.prog 90 = some (false, 1) := by kernel_rfl
theorem FIdi_ty_92 : tyI Tryz.prog 92 = some (true, 2) := by kernel_rfl
theorem FIdi_z_193 : zeroI Tryz.prog 193 = some (.agg #[.int .i64 0, .int .i64 0, .int .i64 0]) := by kernel_rfl
theorem FIdi_z_205 : zeroI Tryz.prog 205 = some (.slice none 0 0) := by kernel_rfl
theorem FIdi_z_234 : zeroI Tryz.prog 234 = some (.agg #[.int .i64 0, .int .i64 0, .slice none 0 0]) := by kernel_rfl
theorem FIdi_z_3 : zeroI Tryz.prog 3 = some (.int .i64 0) := by kernel_rfl
theorem FIdi_z_65 : zeroI Tryz.prog 65 = some (.agg #[.int .i64 0, .int .i64 0, .slice none 0 0, .slice none 0 0]) := by kernel_rfl
theorem FIdi_z_92 : zeroI Tryz.prog 92 = some (.agg #[.slice none 0 0, .slice none 0 0]) := by kernel_rfl
theorem FIdi_zo_193 {Fz : FzT} {w : World} : OwnL [PV.val (.int .i64 0), PV.val (.int .i64 0), PV.val (.int .i64 0)] Fz w (Value.cells (.agg #[.int .i64 0, .int .i64 0, .int .i64 0])).toList [] := zo_val rfl (zo_val rfl (zo_val rfl (zo_nil)))
theorem FIdi_zo_234 {Fz : FzT} {w : World} : OwnL [PV.val (.int .i64 0), PV.val (.int .i64 0), PV.sl (.own 3 1) []] Fz w (Value.cells (.agg #[.int .i64 0, .int .i64 0, .slice none 0 0])).toList [] := zo_val rfl (zo_val rfl (zo_sl (zo_nil)))
theorem FIdi_zo_65 {Fz : FzT} {w : World} : OwnL [PV.val (.int .i64 0), PV.val (.int .i64 0), PV.sl (.own 193 3) [], PV.sl (.own 3 1) []] Fz w (Value.cells (.agg #[.int .i64 0, .int .i64 0, .slice none 0 0, .slice none 0 0])).toList [] := zo_val rfl (zo_val rfl (zo_sl (zo_sl (zo_nil))))
theorem FIdi_zo_92 {Fz : FzT} {w : World} : OwnL [PV.sl (.own 65 4) [], PV.sl (.own 205 1) []] Fz w (Value.cells (.agg #[.slice none 0 0, .slice none 0 0])).toList [] := zo_sl (zo_sl (zo_nil))
theorem impl_AreQueries {p1 p2 : Fl} {l : List Query}  : SCall Tryz.prog 195 [(false, [PV.sl .v (l.map (cQuery p1 p2))])] (resRV [(false, [PV.val (.bool (okQueries l))])]) := by
 refine scall_of (rs := [(false, [PV.val (.bool (okQueries l))])]) Tryz.func195 rfl (Nat.le_of_ble_eq_true rfl) (borA_cons (BorL.cons (PV.bor_sl _) BorL.nil) borA_nil) ?_
 intro h0 w0 Fz0
 refine sw_len (s := 0) rfl fun hl0 => ?_
 try rw [List.length_map] at hl0
 refine sw_seq ?_
 refine sw_reg ?_
 refine rA ?_ (x := kA)
 refine sw_seq ?_
 refine sw_seq ?_
 refine sO [(0, _), (2, _)] [] ?_
 refine sw_reg ?_
 refine rA ?_ (x := vM false [PV.sl .v _])
 refine rA ?_ (x := lN FIdi_sl_89)
 refine rA ?_ (x := kM)
 refine sw_block ?_
 refine sO [(0, _), (2, _), (5, _), (6, _), (7, _)] [] ?_
 refine sw_loop (l0 := [(0, RV.sv false [PV.sl _ _]), (5, RV.sv false [PV.sl _ _]), (6, RV.sv false [PV.val _])]) (b0 := []) (fun k : Nat => k ≤ l.length ∧ adjTo q0_ okQuery ltQ l k = true) (fun k : Nat => [(7, RV.int (k : Int))]) (fun k : Nat => []) (fun k : Nat => l.length - k) 0 (by exact ⟨by omega, rfl⟩) (by exact ⟨rfl, rfl, rfl, ⟨⟩⟩) (by exact ⟨⟩) (by exact And.intro (by exact rfl) (True.intro)) (by exact ⟨⟩) ?_
 rintro k ⟨hk, ha⟩
 refine sw_seq ?_
 refine sw_reg ?_
 refine rA ?_ (x := B_lss)
 refine sw_seq ?_
 refine sw_cond (t := 8) rfl (fun hb1 => ?_) (fun hb1 => ?_)
 ·try simp only [q1, q2, q3, q4, q5, q6, q7, q8, q9] at hb1
  have hlt : k < l.length := by omega
  have hgk : l.getD k q0_ = l[k] := getD_at hlt
  have hgp : 0 < k → l.getD (k - 1) q0_ = l[k - 1] := fun h => getD_at (by omega)
  refine sw_skip ?_
  refine sw_seq ?_
  refine sw_block ?_
  refine sw_seq ?_
  refine sO [(0, _), (5, _), (6, _), (7, _)] [] ?_
  refine sw_reg ?_
  refine rA ?_ (x := sM)
  refine rA ?_ (x := loc_index (by decide) FIdi_sl_89 (by exact ⟨⟩) (by exact rfl) (by exact getm2 (by omega) rfl) (by exact rfl))
  refine rA ?_ (x := lE [PV.val _, PV.val _, PV.sl .v _, PV.sl .v _] FIdi_ty_65)
  refine RunS.step (by exact ⟨⟩) (by exact ⟨⟩) (LocG.of rfl (loc_alloc (by decide) FIdi_z_65 FIdi_zo_65)) (free1 (Free.app (Free.app (Free.app (Free.of_ rfl) rfl) rfl) rfl)) ?_
  refine rA ?_ (x := sA)
  refine rA ?_ (x := loc_store (ag := true) (vs := [PV.val _, PV.val _, PV.sl _ _, PV.sl _ _]) FIdi_ty_65 (by exact ⟨⟩) (by exact rfl) (by exact Nat.le_of_ble_eq_true rfl))
  refine sw_seq ?_
  refine sO [(0, _), (3, _), (4, _), (5, _), (6, _), (7, _)] [(4, (65, [PV.val _, PV.val _, PV.sl _ _, PV.sl _ _]))] ?_
  refine sw_draw hm_ ?_
  refine dA 0 ?_ (x := lD [PV.val _, PV.val _, PV.sl .v _, PV.sl .v _] FIdi_ty_65)
  refine dA 1 ?_ (x := cL [(true, [PV.val _, PV.val _, PV.sl _ _, PV.sl _ _])] [(true, [PV.val _, PV.val _, PV.sl .v _, PV.sl .v _])] FIdi_c_117 (hs := by exact impl_IsQuery))
  refine dA 3 ?_ (x := nT)
  refine dA 7 ?_ (x := sM)
  refine Run.cases (s := 15) rfl (fun g2 => ?_) (fun g2 => ?_)
  ·have sg2 := g2
   try simp only [q1, q2, q3, q4, q5, q6, q7, q8, q9] at sg2
   refine dT 15 g2 ?_
   refine dT 31 g2 ?_
   refine dT 63 g2 ?_
   refine dU 127 ?_
   refine dU 127 ?_
   refine dU 383 ?_
   refine dU 1023 ?_
   refine dU 2047 ?_
   refine dU 4095 ?_
   refine dU 127 ?_
   refine dU 8319 ?_
   refine dU 32767 ?_
   refine dT 65535 g2 ?_
   refine dA 131071 ?_ (x := pkT g2)
   refine sw_cond (t := 29) rfl (fun hb_ => ?_) (fun hb_ => nomatch hb_)
   have hbad : adjAll q0_ okQuery ltQ l = false := adj_no hlt (Bool.eq_false_iff.2 fun hx => by
    have hx := adjStep.1 hx
    rw [hgk] at hx
    obtain ⟨hx1, hx2⟩ := hx
    first
    | (simp_all; done)
    | (simp only [decide_eq_true_eq, ltQ] at *; by_cases h0 : k = 0 <;> (try rw [hgp (by omega)] at hx2) <;> omega))
   refine sw_seq ?_
   refine sO [(0, _), (3, _), (4, _), (5, _), (6, _), (7, _)] [(4, _)] ?_
   refine sw_reg ?_
   refine rA ?_ (x := kA)
   refine sw_ret ?_
   exact (And.intro (by refine bool_eq ?_; simp [okQueries, hbad]) True.intro)
  ·have sg2 := g2
   try simp only [q1, q2, q3, q4, q5, q6, q7, q8, q9] at sg2
   refine dB 15 g2 ?_ (x := sM)
   refine dB 31 g2 ?_ (x := B_gtr)
   refine dB 63 g2 ?_ (x := sM)
   refine Run.cases (s := 18) rfl (fun g4 => ?_) (fun g4 => ?_)
   ·have sg4 := g4
    try simp only [q1, q2, q3, q4, q5, q6, q7, q8, q9] at sg4
    refine dB 127 g4 ?_ (x := vM false [PV.sl .v _])
    refine dB 127 g4 ?_ (x := sM)
    refine dB 383 g4 ?_ (x := B_sub)
    refine dB 1023 g4 ?_ (x := loc_index (k := k - 1) (by decide) FIdi_sl_89 (by exact ⟨⟩) (by omega) (by exact getm2 (by omega) rfl) (by exact rfl))
    refine dB 2047 g4 ?_ (x := loc_efield (by decide) FIdi_fd_65_0 (by exact Nat.le_of_ble_eq_true rfl))
    refine dB 4095 g4 ?_ (x := lE [PV.val _] FIdi_ty_3)
    refine dB 127 g4 ?_ (x := lF FIdi_fd_65_0)
    refine dB 8319 g4 ?_ (x := lD [PV.val _] FIdi_ty_3)
    refine dB 32767 g4 ?_ (x := B_geq)
    refine dB 65535 g2 ?_ (x := pkT g4)
    refine dA 131071 ?_ (x := pkF g2)
    refine sw_cond (t := 29) rfl (fun hb5 => ?_) (fun hb5 => ?_)
    ·try simp only [q1, q2, q3, q4, q5, q6, q7, q8, q9] at hb5
     have hbad : adjAll q0_ okQuery ltQ l = false := adj_no hlt (Bool.eq_false_iff.2 fun hx => by
      have hx := adjStep.1 hx
      rw [hgk] at hx
      obtain ⟨hx1, hx2⟩ := hx
      first
      | (simp_all; done)
      | (simp only [decide_eq_true_eq, ltQ] at *; by_cases h0 : k = 0 <;> (try rw [hgp (by omega)] at hx2) <;> omega))
     refine sw_seq ?_
     refine sO [(0, _), (3, _), (4, _), (5, _), (6, _), (7, _)] [(4, _)] ?_
     refine sw_reg ?_
     refine rA ?_ (x := kA)
     refine sw_ret ?_
     exact (And.intro (by refine bool_eq ?_; simp [okQueries, hbad]) True.intro)
    ·try simp only [q1, q2, q3, q4, q5, q6, q7, q8, q9] at hb5
     refine sw_skip ?_
     refine sO [(0, _), (3, _), (4, _), (5, _), (6, _), (7, _)] [(4, _)] ?_
     refine sw_reg ?_
     refine rA ?_ (x := B_add)
     refine rA ?_ (x := sM)
     refine Exists.intro (k + 1) (And.intro (by exact ⟨by omega, by rw [adjTo_succ, ha, Bool.true_and]; refine adjStep.2 ⟨by rw [hgk]; first | assumption | simp_all, ?_⟩; rcases Nat.eq_zero_or_pos k with h0 | h0; (· exact .inl h0); (· right; rw [hgk, hgp h0]; first | (simp only [decide_eq_true_eq, ltQ] at *; omega) | (simp_all; done))⟩) (And.intro (by omega) (And.intro (And.intro (by exact ⟨rfl, rfl, rfl, ⟨⟩⟩) (by exact ⟨⟩)) (And.intro (by exact And.intro (by exact rfl) (True.intro)) (by exact ⟨⟩)))))
   ·have sg4 := g4
    try simp only [q1, q2, q3, q4, q5, q6, q7, q8, q9] at sg4
    refine dF 127 g4 ?_
    refine dF 127 g4 ?_
    refine dF 383 g4 ?_
    refine dF 1023 g4 ?_
    refine dF 2047 g4 ?_
    refine dF 4095 g4 ?_
    refine dF 127 g4 ?_
    refine dF 8319 g4 ?_
    refine dF 32767 g4 ?_
    refine dB 65535 g2 ?_ (x := pkF g4)
    refine dA 131071 ?_ (x := pkF g2)
    refine sw_cond (t := 29) rfl (fun hb_ => nomatch hb_) (fun hb_ => ?_)
    refine sw_skip ?_
    refine sO [(0, _), (3, _), (4, _), (5, _), (6, _), (7, _)] [(4, _)] ?_
    refine sw_reg ?_
    refine rA ?_ (x := B_add)
    refine rA ?_ (x := sM)
    refine Exists.intro (k + 1) (And.intro (by exact ⟨by omega, by rw [adjTo_succ, ha, Bool.true_and]; refine adjStep.2 ⟨by rw [hgk]; first | assumption | simp_all, ?_⟩; rcases Nat.eq_zero_or_pos k with h0 | h0; (· exact .inl h0); (· right; rw [hgk, hgp h0]; first | (simp only [decide_eq_true_eq, ltQ] at *; omega) | (simp_all; done))⟩) (And.intro (by omega) (And.intro (And.intro (by exact ⟨rfl, rfl, rfl, ⟨⟩⟩) (by exact ⟨⟩)) (And.intro (by exact And.intro (by exact rfl) (True.intro)) (by exact ⟨⟩)))))
 ·try simp only [q1, q2, q3, q4, q5, q6, q7, q8, q9] at hb1
  have hend : k = l.length := by omega
  have hall : adjAll q0_ okQuery ltQ l = true := adj_end ha hend
  refine sw_exit ?_
  refine sw_seq ?_
  refine sO [(0, _), (5, _), (6, _), (7, _)] [] ?_
  refine sw_reg ?_
  refine rA ?_ (x := vM false [PV.sl .v _])
  refine rA ?_ (x := lN FIdi_sl_89)
  refine rA ?_ (x := B_leq)
  refine rA ?_ (x := sA)
  refine sw_ret ?_
  exact (And.intro (by refine bool_eq ?_; simp [okQueries, hall]) True.intro)
theorem impl_admits {q : Query} {f : Int} {v : Int}  : SCall Tryz.prog 210 [(true, [PV.val (vI q.Id), PV.val (vI q.Tenant), PV.sl .v (q.Conds.map cCond), PV.sl .v (q.Out.map cInt)]), (false, [PV.val (vI f)]), (false, [PV.val (vI v)])] (resRV [(false, [PV.val (.bool (admitsV q f v))])]) := by
 refine scall_of (rs := [(false, [PV.val (.bool (admitsV q f v))])]) Tryz.func210 rfl (Nat.le_of_ble_eq_true rfl) (borA_cons (BorL.cons (PV.bor_val _) (BorL.cons (PV.bor_val _) (BorL.cons (PV.bor_sl _) (BorL.cons (PV.bor_sl _) BorL.nil)))) (borA_cons (BorL.cons (PV.bor_val _) BorL.nil) (borA_cons (BorL.cons (PV.bor_val _) BorL.nil) borA_nil))) ?_
 intro h0 w0 Fz0
 refine sw_slen (s := 0) (j := 2) rfl rfl fun hl0_2 => ?_
 try rw [List.length_map] at hl0_2
 refine sw_slen (s := 0) (j := 3) rfl rfl fun hl0_3 => ?_
 try rw [List.length_map] at hl0_3
 refine sw_seq ?_
 refine sw_reg ?_
 refine RunS.step (by exact ⟨rfl, ⟨⟩⟩) (by exact ⟨⟩) (LocG.of rfl (loc_box (ag := true) (cs := [PV.val _, PV.val _, PV.sl _ _, PV.sl _ _]) (by decide) (by exact ⟨⟩))) (free1 (Free.of_ rfl)) ?_
 refine rA ?_ (x := kA)
 refine sw_seq ?_
 refine sw_seq ?_
 refine sO [(1, _), (2, _), (3, _), (6, _)] [(3, (65, [PV.val _, PV.val _, PV.sl _ _, PV.sl _ _]))] ?_
 refine sw_reg ?_
 refine rA ?_ (x := lF FIdi_fd_65_2)
 refine rA ?_ (x := lD [PV.sl .v _] FIdi_ty_63)
 refine rA ?_ (x := lN FIdi_sl_63)
 refine rA ?_ (x := kM)
 refine sw_block ?_
 refine sO [(1, _), (2, _), (3, _), (6, _), (10, _), (11, _), (12, _)] [(3, _)] ?_
 refine sw_loop (l0 := [(1, RV.sv false [PV.val _]), (2, RV.sv false [PV.val _]), (3, RV.ptr 3 0), (10, RV.sv false [PV.sl _ _]), (11, RV.sv false [PV.val _])]) (b0 := [(3, (65, [PV.val _, PV.val _, PV.sl _ _, PV.sl _ _]))]) (fun k : Nat => k ≤ q.Conds.length ∧ (q.Conds.take k).all (admC f v) = true) (fun k : Nat => [(12, RV.int (k : Int))]) (fun k : Nat => []) (fun k : Nat => q.Conds.length - k) 0 (by exact ⟨by omega, by simp⟩) (by exact ⟨rfl, rfl, rfl, rfl, rfl, ⟨⟩⟩) (by exact ⟨rfl, ⟨⟩⟩) (by exact And.intro (by exact rfl) (True.intro)) (by exact ⟨⟩) ?_
 rintro k ⟨hk, ha⟩
 refine sw_seq ?_
 refine sw_reg ?_
 refine rA ?_ (x := B_lss)
 refine sw_seq ?_
 refine sw_cond (t := 13) rfl (fun hb1 => ?_) (fun hb1 => ?_)
 ·try simp only [q1, q2, q3, q4, q5, q6, q7, q8, q9] at hb1
  have hlt : k < q.Conds.length := by omega
  refine sw_skip ?_
  refine sw_seq ?_
  refine sw_block ?_
  refine sw_seq ?_
  refine sO [(1, _), (2, _), (3, _), (10, _), (11, _), (12, _)] [(3, (65, [PV.val _, PV.val _, PV.sl _ _, PV.sl _ _]))] ?_
  refine sw_reg ?_
  refine rA ?_ (x := loc_index (by decide) FIdi_sl_63 (by exact ⟨⟩) (by exact rfl) (by exact getm2 (by omega) rfl) (by exact rfl))
  refine rA ?_ (x := lE [PV.val _, PV.val _, PV.val _] FIdi_ty_193)
  refine RunS.step (by exact ⟨⟩) (by exact ⟨⟩) (LocG.of rfl (loc_alloc (by decide) FIdi_z_193 FIdi_zo_193)) (free1 (Free.app (Free.app (Free.of_ rfl) rfl) rfl)) ?_
  refine rA ?_ (x := loc_store (ag := true) (vs := [PV.val _, PV.val _, PV.val _]) FIdi_ty_193 (by exact ⟨⟩) (by exact rfl) (by exact Nat.le_of_ble_eq_true rfl))
  refine sw_seq ?_
  refine sO [(1, _), (2, _), (3, _), (8, _), (10, _), (11, _), (12, _)] [(3, _), (8, (193, [PV.val _, PV.val _, PV.val _]))] ?_
  refine sw_reg ?_
  refine rA ?_ (x := lF FIdi_fd_193_0)
  refine rA ?_ (x := lD [PV.val _] FIdi_ty_3)
  refine rA ?_ (x := sM)
  refine rA ?_ (x := B_eql)
  refine rA ?_ (x := sM)
  refine RunS.cases (s := 20) rfl (fun g2 => ?_) (fun g2 => ?_)
  ·have sg2 := g2
   try simp only [q1, q2, q3, q4, q5, q6, q7, q8, q9] at sg2
   refine rB g2 ?_ (x := sM)
   refine rB g2 ?_ (x := lF FIdi_fd_193_1)
   refine rB g2 ?_ (x := lD [PV.val _] FIdi_ty_3)
   refine rB g2 ?_ (x := lF FIdi_fd_193_2)
   refine rB g2 ?_ (x := lD [PV.val _] FIdi_ty_3)
   refine rB g2 ?_ (x := cL [(false, [PV.val _]), (false, [PV.val _]), (false, [PV.val _])] [(false, [PV.val _]), (false, [PV.val _]), (false, [PV.val _])] FIdi_c_114 (hs := by exact impl_within))
   refine rB g2 ?_ (x := nT)
   refine rA ?_ (x := pkT g2)
   refine sw_cond (t := 28) rfl (fun hb3 => ?_) (fun hb3 => ?_)
   ·try simp only [q1, q2, q3, q4, q5, q6, q7, q8, q9] at hb3
    have hno : admC f v q.Conds[k] = false := by simp_all [admC]
    refine sw_seq ?_
    refine sO [(1, _), (2, _), (3, _), (8, _), (10, _), (11, _), (12, _)] [(3, _), (8, _)] ?_
    refine sw_reg ?_
    refine rA ?_ (x := kA)
    refine sw_ret ?_
    exact (And.intro (by refine bool_eq ?_; simp [admitsV, all_no (P := (admC f v)) hlt hno]) True.intro)
   ·try simp only [q1, q2, q3, q4, q5, q6, q7, q8, q9] at hb3
    have hyes : admC f v q.Conds[k] = true := by simp_all [admC]
    refine sw_skip ?_
    refine sO [(1, _), (2, _), (3, _), (8, _), (10, _), (11, _), (12, _)] [(3, _), (8, _)] ?_
    refine sw_reg ?_
    refine rA ?_ (x := B_add)
    refine rA ?_ (x := sM)
    refine Exists.intro (k + 1) (And.intro (by exact ⟨by omega, all_succ ha hlt hyes⟩) (And.intro (by omega) (And.intro (And.intro (by exact ⟨rfl, rfl, rfl, rfl, rfl, ⟨⟩⟩) (by exact ⟨rfl, ⟨⟩⟩)) (And.intro (by exact And.intro (by exact rfl) (True.intro)) (by exact ⟨⟩)))))
  ·have sg2 := g2
   try simp only [q1, q2, q3, q4, q5, q6, q7, q8, q9] at sg2
   refine RunS.s0f g2 ?_
   refine RunS.s0f g2 ?_
   refine RunS.s0f g2 ?_
   refine RunS.s0f g2 ?_
   refine RunS.s0f g2 ?_
   refine RunS.s0f g2 ?_
   refine RunS.s0f g2 ?_
   refine rA ?_ (x := pkF g2)
   refine sw_cond (t := 28) rfl (fun hb_ => nomatch hb_) (fun hb_ => ?_)
   have hyes : admC f v q.Conds[k] = true := by simp_all [admC]
   refine sw_skip ?_
   refine sO [(1, _), (2, _), (3, _), (8, _), (10, _), (11, _), (12, _)] [(3, _), (8, _)] ?_
   refine sw_reg ?_
   refine rA ?_ (x := B_add)
   refine rA ?_ (x := sM)
   refine Exists.intro (k + 1) (And.intro (by exact ⟨by omega, all_succ ha hlt hyes⟩) (And.intro (by omega) (And.intro (And.intro (by exact ⟨rfl, rfl, rfl, rfl, rfl, ⟨⟩⟩) (by exact ⟨rfl, ⟨⟩⟩)) (And.intro (by exact And.intro (by exact rfl) (True.intro)) (by exact ⟨⟩)))))
 ·try simp only [q1, q2, q3, q4, q5, q6, q7, q8, q9] at hb1
  have hall : q.Conds.all (admC f v) = true := all_end (by rw [show q.Conds.length = k by omega]; exact ha)
  refine sw_exit ?_
  refine sw_seq ?_
  refine sO [(1, _), (2, _), (3, _), (10, _), (11, _), (12, _)] [(3, (65, [PV.val _, PV.val _, PV.sl _ _, PV.sl _ _]))] ?_
  refine sw_reg ?_
  refine rA ?_ (x := kA)
  refine sw_ret ?_
  exact (And.intro (by refine bool_eq ?_; simp [admitsV, hall, *]) True.intro)
theorem impl_stab {p1 p2 : Fl} {l : List Query} {f : Int} {v : Int}  (hb : l.length ≤ 1048576) : SCall Tryz.prog 225 [(false, [PV.sl .v (l.map (cQuery p1 p2))]), (false, [PV.val (vI f)]), (false, [PV.val (vI v)])] (resRV [(false, [PV.sl (.own 3 1) ((stabS l f v).map cInt)])]) := by
 refine scall_of (rs := [(false, [PV.sl (.own 3 1) ((stabS l f v).map cInt)])]) Tryz.func225 rfl (Nat.le_of_ble_eq_true rfl) (borA_cons (BorL.cons (PV.bor_sl _) BorL.nil) (borA_cons (BorL.cons (PV.bor_val _) BorL.nil) (borA_cons (BorL.cons (PV.bor_val _) BorL.nil) borA_nil))) ?_
 intro h0 w0 Fz0
 refine sw_len (s := 0) rfl fun hl0 => ?_
 try rw [List.length_map] at hl0
 refine sw_seq ?_
 refine sw_reg ?_
 refine rA ?_ (x := loc_const (.inr rfl) (by decide) (ok_nil (t := 3) (e := 1)))
 refine sw_seq ?_
 refine sO [(0, _), (1, _), (2, _), (6, _)] [] ?_
 refine sw_reg ?_
 refine rA ?_ (x := loc_bslice (qs := []) (by decide) FIdi_sl_25 FIdi_z_3 (by decide) rfl rfl rfl rfl rfl (by exact Nat.le_of_ble_eq_true rfl) (by exact ⟨⟩) rfl)
 refine rA ?_ (x := tA)
 refine sw_seq ?_
 refine sw_seq ?_
 refine sO [(0, _), (1, _), (2, _), (6, _), (7, _)] [] ?_
 refine sw_reg ?_
 refine rA ?_ (x := vM false [PV.sl .v _])
 refine rA ?_ (x := lN FIdi_sl_89)
 refine rA ?_ (x := kM)
 refine sw_block ?_
 refine sO [(0, _), (1, _), (2, _), (6, _), (7, _), (11, _), (12, _), (13, _)] [] ?_
 refine sw_loop (l0 := [(0, RV.sv false [PV.sl _ _]), (1, RV.sv false [PV.val _]), (2, RV.sv false [PV.val _]), (6, RV.sv false [PV.sl _ _]), (11, RV.sv false [PV.sl _ _]), (12, RV.sv false [PV.val _])]) (b0 := []) (fun k : Nat => k ≤ l.length) (fun k : Nat => [(7, RV.slc (.own 3 1) ((stabS (l.take k) f v).map cInt)), (13, RV.int (k : Int))]) (fun k : Nat => []) (fun k : Nat => l.length - k) 0 (by omega) (by exact ⟨rfl, rfl, rfl, rfl, rfl, rfl, ⟨⟩⟩) (by exact ⟨⟩) (by exact And.intro (by exact rfl) (And.intro (by exact rfl) (True.intro))) (by exact ⟨⟩) ?_
 rintro k hk
 refine sw_seq ?_
 refine sw_reg ?_
 refine rA ?_ (x := B_lss)
 refine sw_seq ?_
 refine sw_cond (t := 14) rfl (fun hb1 => ?_) (fun hb1 => ?_)
 ·try simp only [q1, q2, q3, q4, q5, q6, q7, q8, q9] at hb1
  have hlt : k < l.length := by omega
  have hsl := stabS_len (l.take k) f v
  rw [List.length_take] at hsl
  refine sw_skip ?_
  refine sw_seq ?_
  refine sw_block ?_
  refine sw_seq ?_
  refine sO [(0, _), (1, _), (2, _), (6, _), (7, _), (11, _), (12, _), (13, _)] [] ?_
  refine sw_reg ?_
  refine rA ?_ (x := loc_index (by decide) FIdi_sl_89 (by exact ⟨⟩) (by exact rfl) (by exact getm2 (by omega) rfl) (by exact rfl))
  refine rA ?_ (x := lE [PV.val _, PV.val _, PV.sl .v _, PV.sl .v _] FIdi_ty_65)
  refine RunS.step (by exact ⟨⟩) (by exact ⟨⟩) (LocG.of rfl (loc_alloc (by decide) FIdi_z_65 FIdi_zo_65)) (free1 (Free.app (Free.app (Free.of_ rfl) rfl) rfl)) ?_
  refine rA ?_ (x := loc_store (ag := true) (vs := [PV.val _, PV.val _, PV.sl _ _, PV.sl _ _]) FIdi_ty_65 (by exact ⟨⟩) (by exact rfl) (by exact Nat.le_of_ble_eq_true rfl))
  refine sw_seq ?_
  refine sO [(0, _), (1, _), (2, _), (6, _), (7, _), (9, _), (11, _), (12, _), (13, _)] [(9, (65, [PV.val _, PV.val _, PV.sl _ _, PV.sl _ _]))] ?_
  refine sw_reg ?_
  refine rA ?_ (x := lD [PV.val _, PV.val _, PV.sl .v _, PV.sl .v _] FIdi_ty_65)
  refine rA ?_ (x := sM)
  refine rA ?_ (x := sM)
  refine rA ?_ (x := cL [(true, [PV.val _, PV.val _, PV.sl _ _, PV.sl _ _]), (false, [PV.val _]), (false, [PV.val _])] [(true, [PV.val _, PV.val _, PV.sl .v _, PV.sl .v _]), (false, [PV.val _]), (false, [PV.val _])] FIdi_c_210 (hs := by exact impl_admits))
  refine sw_cond (t := 20) rfl (fun hb2 => ?_) (fun hb2 => ?_)
  ·try simp only [q1, q2, q3, q4, q5, q6, q7, q8, q9] at hb2
   have hc := hb2
   refine sO [(0, _), (1, _), (2, _), (6, _), (7, _), (9, _), (11, _), (12, _), (13, _)] [(9, _)] ?_
   refine sw_reg ?_
   refine rA ?_ (x := tM)
   refine rA ?_ (x := lF FIdi_fd_65_0)
   refine rA ?_ (x := lD [PV.val _] FIdi_ty_3)
   refine rA ?_ (x := loc_bslice (qs := [(false, [PV.val _])]) (by decide) FIdi_sl_25 FIdi_z_3 (by decide) rfl rfl rfl rfl rfl (by exact Nat.le_of_ble_eq_true rfl) (by exact (And.intro (by exact ⟨⟩) True.intro)) rfl)
   refine rA ?_ (x := loc_append (by decide) FIdi_sl_25 FIdi_z_3 rfl rfl (by decide) rfl (by simp only [List.length_map, List.length_append, List.length_cons, List.length_nil]; omega) (by simp only [List.length_map, List.length_append, List.length_cons, List.length_nil]; omega))
   refine rA ?_ (x := tA)
   refine sO [(0, _), (1, _), (2, _), (6, _), (7, _), (9, _), (11, _), (12, _), (13, _)] [(9, _)] ?_
   refine sw_reg ?_
   refine rA ?_ (x := B_add)
   refine rA ?_ (x := sM)
   refine Exists.intro (k + 1) (And.intro (by omega) (And.intro (by omega) (And.intro (And.intro (by exact ⟨rfl, rfl, rfl, rfl, rfl, rfl, ⟨⟩⟩) (by exact ⟨⟩)) (And.intro (by exact And.intro (by first | exact slc_eq (by rw [stabS_yes hlt hc, List.map_append]; rfl) | exact slc_eq (by rw [stabS_no hlt hc])) (And.intro (by exact rfl) (True.intro))) (by exact ⟨⟩)))))
  ·try simp only [q1, q2, q3, q4, q5, q6, q7, q8, q9] at hb2
   have hc := hb2
   refine sw_skip ?_
   refine sO [(0, _), (1, _), (2, _), (6, _), (7, _), (9, _), (11, _), (12, _), (13, _)] [(9, _)] ?_
   refine sw_reg ?_
   refine rA ?_ (x := B_add)
   refine rA ?_ (x := sM)
   refine Exists.intro (k + 1) (And.intro (by omega) (And.intro (by omega) (And.intro (And.intro (by exact ⟨rfl, rfl, rfl, rfl, rfl, rfl, ⟨⟩⟩) (by exact ⟨⟩)) (And.intro (by exact And.intro (by first | exact slc_eq (by rw [stabS_yes hlt hc, List.map_append]; rfl) | exact slc_eq (by rw [stabS_no hlt hc])) (And.intro (by exact rfl) (True.intro))) (by exact ⟨⟩)))))
 ·try simp only [q1, q2, q3, q4, q5, q6, q7, q8, q9] at hb1
  have hend : k = l.length := by omega
  refine sw_exit ?_
  refine sw_seq ?_
  refine sO [(0, _), (1, _), (2, _), (6, _), (7, _), (11, _), (12, _), (13, _)] [] ?_
  refine sw_reg ?_
  refine rA ?_ (x := tM)
  refine rA ?_ (x := tA)
  refine sw_ret ?_
  exact (And.intro (by refine slc_eq ?_; rw [hend, List.take_length]) True.intro)
theorem impl_StabIndex {p1 p2 : Fl} {l : List Query} {f : Int}  : SCall Tryz.prog 197 [(false, [PV.sl .v (l.map (cQuery p1 p2))]), (false, [PV.val (vI f)])] (resRV [(false, [PV.sl (.own 234 3) ((stabIdx l f).map (cSpan (.own 3 1)))])]) := by
 refine scall_lo (largs := fun L => [(false, [PV.sl (.lo L) (l.map (cQuery (.lo L) (.lo L)))]), (false, [PV.val (vI f)])]) (rs := [(false, [PV.sl (.own 234 3) ((stabIdx l f).map (cSpan (.own 3 1)))])]) Tryz.func197 rfl (Nat.le_of_ble_eq_true rfl) (fun L => by exact (And.intro (And.intro rfl (ToBL.cons (PV.tob_map (fun _ => Nat.le_of_ble_eq_true rfl) (fun _ => (ToBL.cons PV.tob_refl (ToBL.cons PV.tob_refl (ToBL.cons (PV.tob_map (fun _ => Nat.le_of_ble_eq_true rfl) (fun _ => (ToBL.cons PV.tob_refl (ToBL.cons PV.tob_refl (ToBL.cons PV.tob_refl ToBL.nil))))) (ToBL.cons (PV.tob_map (fun _ => Nat.le_of_ble_eq_true rfl) (fun _ => (ToBL.cons PV.tob_refl ToBL.nil))) ToBL.nil)))))) ToBL.nil)) (And.intro (And.intro rfl (ToBL.cons PV.tob_refl ToBL.nil)) True.intro))) (fun L => by exact (borA_cons (BorL.cons (PV.bor_lo _ _) BorL.nil) (borA_cons (BorL.cons (PV.bor_val _) BorL.nil) borA_nil))) ?_
 intro w0 Fz0
 refine sw_len (s := 0) rfl fun hl0 => ?_
 try rw [List.length_map] at hl0
 refine sw_seq ?_
 refine sw_reg ?_
 refine rA ?_ (x := loc_const (.inr rfl) (by decide) (ok_nil (t := 234) (e := 3)))
 refine sw_seq ?_
 refine sO [(0, _), (1, _), (4, _)] [] ?_
 refine sw_reg ?_
 refine rA ?_ (x := loc_bslice (qs := []) (by decide) FIdi_sl_205 FIdi_z_234 (by decide) rfl rfl rfl rfl rfl (by exact Nat.le_of_ble_eq_true rfl) (by exact ⟨⟩) rfl)
 refine rA ?_ (x := tA)
 refine sw_seq ?_
 refine sw_seq ?_
 refine sO [(0, _), (1, _), (4, _), (5, _)] [] ?_
 refine sw_reg ?_
 refine rA ?_ (x := vM false [PV.sl (.lo _) _])
 refine rA ?_ (x := cL [(false, [PV.sl (.lo _) _])] [(false, [PV.sl .v _])] FIdi_c_195 (hs := by exact impl_AreQueries))
 refine rA ?_ (x := nT)
 refine rA ?_ (x := sM)
 refine RunS.cases (s := 13) rfl (fun g1 => ?_) (fun g1 => ?_)
 ·have sg1 := g1
  try simp only [q1, q2, q3, q4, q5, q6, q7, q8, q9] at sg1
  refine RunS.s0t g1 ?_
  refine RunS.s0t g1 ?_
  refine RunS.s0t g1 ?_
  refine rA ?_ (x := pkT g1)
  refine sw_cond (t := 17) rfl (fun hb_ => ?_) (fun hb_ => nomatch hb_)
  have hok : (okQueries l && inB f 0 2) = false := by simp_all
  refine sw_seq ?_
  refine sO [(0, _), (1, _), (4, _), (5, _)] [] ?_
  refine sw_reg ?_
  refine rA ?_ (x := tM)
  refine rA ?_ (x := tA)
  refine sw_ret ?_
  exact (And.intro (by refine slc_eq ?_; unfold stabIdx; rw [if_neg (by rw [hok]; simp)]; rfl) True.intro)
 ·have sg1 := g1
  try simp only [q1, q2, q3, q4, q5, q6, q7, q8, q9] at sg1
  refine rB g1 ?_ (x := sM)
  refine rB g1 ?_ (x := cL [(false, [PV.val _])] [(false, [PV.val _])] FIdi_c_191 (hs := by exact impl_isField))
  refine rB g1 ?_ (x := nT)
  refine rA ?_ (x := pkF g1)
  refine sw_cond (t := 17) rfl (fun hb3 => ?_) (fun hb3 => ?_)
  ·try simp only [q1, q2, q3, q4, q5, q6, q7, q8, q9] at hb3
   have hok : (okQueries l && inB f 0 2) = false := by simp_all
   refine sw_seq ?_
   refine sO [(0, _), (1, _), (4, _), (5, _)] [] ?_
   refine sw_reg ?_
   refine rA ?_ (x := tM)
   refine rA ?_ (x := tA)
   refine sw_ret ?_
   exact (And.intro (by refine slc_eq ?_; unfold stabIdx; rw [if_neg (by rw [hok]; simp)]; rfl) True.intro)
  ·try simp only [q1, q2, q3, q4, q5, q6, q7, q8, q9] at hb3
   have hok : (okQueries l && inB f 0 2) = true := by simp_all
   obtain ⟨hq, hf⟩ := Bool.and_eq_true_iff.1 hok
   have hq2 := okQs hq
   refine sw_skip ?_
   refine sw_seq ?_
   refine sw_seq ?_
   refine sO [(0, _), (1, _), (4, _), (5, _)] [] ?_
   refine sw_reg ?_
   refine rA ?_ (x := kA)
   refine sw_block ?_
   refine sO [(0, _), (1, _), (4, _), (5, _), (6, _)] [] ?_
   refine sw_loop (l0 := [(0, RV.sv false [PV.sl (.lo _) _]), (1, RV.sv false [PV.val _]), (4, RV.sv false [PV.sl _ _])]) (b0 := []) (fun k : Nat => k ≤ 100) (fun k : Nat => [(5, RV.slc (.own 234 3) ((spansTo l f k).map (cSpan (.own 3 1)))), (6, RV.int (k : Int))]) (fun k : Nat => []) (fun k : Nat => 100 - k) 0 (by omega) (by exact ⟨rfl, rfl, rfl, ⟨⟩⟩) (by exact ⟨⟩) (by exact And.intro (by exact rfl) (And.intro (by exact rfl) (True.intro))) (by exact ⟨⟩) ?_
   rintro k hk
   refine sw_seq ?_
   refine sw_seq ?_
   refine sw_reg ?_
   refine rA ?_ (x := sM)
   refine rA ?_ (x := B_leq)
   refine sw_cond (t := 20) rfl (fun hb4 => ?_) (fun hb4 => ?_)
   ·try simp only [q1, q2, q3, q4, q5, q6, q7, q8, q9] at hb4
    have hlt : k < 100 := by omega
    have hsl := spans_len l f k
    have hss := stabS_len l f (k : Int)
    refine sw_skip ?_
    refine sw_seq ?_
    refine sw_block ?_
    refine sw_seq ?_
    refine sO [(0, _), (1, _), (4, _), (5, _), (6, _)] [] ?_
    refine sw_reg ?_
    refine rA ?_ (x := vM false [PV.sl (.lo _) _])
    refine rA ?_ (x := sM)
    refine rA ?_ (x := sM)
    refine rA ?_ (x := cL [(false, [PV.sl (.lo _) _]), (false, [PV.val _]), (false, [PV.val _])] [(false, [PV.sl .v _]), (false, [PV.val _]), (false, [PV.val _])] FIdi_c_225 (hs := by exact (impl_stab (l := l) (f := f) (v := (k : Int)) (by omega))))
    refine rA ?_ (x := tA)
    refine sw_seq ?_
    refine sO [(0, _), (1, _), (4, _), (5, _), (6, _), (7, _)] [] ?_
    refine sw_reg ?_
    refine rA ?_ (x := vM false [PV.sl .v _])
    refine rA ?_ (x := lN FIdi_sl_205)
    refine rA ?_ (x := sA)
    refine sw_seq ?_
    refine sO [(0, _), (1, _), (4, _), (5, _), (6, _), (7, _), (8, _)] [] ?_
    refine sw_reg ?_
    refine rA ?_ (x := sM)
    refine rA ?_ (x := B_gtr)
    refine rA ?_ (x := sM)
    refine RunS.cases (s := 31) rfl (fun g5 => ?_) (fun g5 => ?_)
    ·have sg5 := g5
     try simp only [q1, q2, q3, q4, q5, q6, q7, q8, q9] at sg5
     refine rB g5 ?_ (x := vM false [PV.sl .v _])
     refine rB g5 ?_ (x := sM)
     refine rB g5 ?_ (x := B_sub)
     refine rB g5 ?_ (x := loc_index (k := (spansTo l f k).length - 1) (by decide) FIdi_sl_205 (by exact ⟨⟩) (by omega) (by exact getm2 (by omega) (by rw [gDt_ (d := sp0) (by omega)])) (by exact rfl))
     refine rB g5 ?_ (x := loc_efield (by decide) FIdi_fd_234_2 (by exact Nat.le_of_ble_eq_true rfl))
     refine rB g5 ?_ (x := lE [PV.sl .v _] FIdi_ty_25)
     refine rB g5 ?_ (x := vM false [PV.sl .v _])
     refine rB g5 ?_ (x := cL [(false, [PV.sl _ _]), (false, [PV.sl _ _])] [(false, [PV.sl .v _]), (false, [PV.sl .v _])] FIdi_c_217 (hs := by exact impl_sameInts))
     refine rA ?_ (x := pkT g5)
     refine sw_cond (t := 40) rfl (fun hb6 => ?_) (fun hb6 => ?_)
     ·try simp only [q1, q2, q3, q4, q5, q6, q7, q8, q9] at hb6
      have hls : lastIs (spansTo l f k) (stabS l f (k : Int)) = true := lastIs_yes (by omega) (by simpa using hb6)
      have hl1 : (spansTo l f k).length - 1 < (spansTo l f k).length := by omega
      refine sO [(0, _), (1, _), (4, _), (5, _), (6, _), (7, _), (8, _)] [] ?_
      refine sw_thawS (s := 5) (D := 900) (G := 2900) (E := 234) (e := 3) (L := (Lw w0.heap.size)) (es := ((spansTo l f k)).map (cSpan (.own 3 1))) (by exact rfl) (map_ne hl1) (by exact rfl) (by exact rfl) rfl (by exact rfl) (fun x hx => hx) (by exact (And.intro (.inr (RV.lcl_sv (LclC.cons (PV.lcl_lo (LclRC.map fun x => (LclRC.cons PV.lclr_val (LclRC.cons PV.lclr_val (LclRC.cons (PV.lclr_lo (LclRC.map fun x => (LclRC.cons PV.lclr_val (LclRC.cons PV.lclr_val (LclRC.cons PV.lclr_val LclRC.nil))))) (LclRC.cons (PV.lclr_lo (LclRC.map fun x => (LclRC.cons PV.lclr_val LclRC.nil))) LclRC.nil)))))) LclC.nil))) (And.intro (.inr (RV.lcl_sv (LclC.cons PV.lcl_val LclC.nil))) (And.intro (.inr (RV.lcl_sv (LclC.cons (PV.lcl_own (by first | exact (LclC.map fun x => (LclC.cons PV.lcl_val (LclC.cons PV.lcl_val (LclC.cons (PV.lcl_own (LclC.map fun x => (LclC.cons PV.lcl_val LclC.nil))) LclC.nil)))) | exact (fun cs h => nomatch h))) LclC.nil))) (And.intro (.inl rfl) (And.intro (.inr (RV.lcl_sv (LclC.cons PV.lcl_val LclC.nil))) (And.intro (.inr (RV.lcl_sv (LclC.cons (PV.lcl_own (by first | exact (LclC.map fun x => (LclC.cons PV.lcl_val LclC.nil)) | exact (fun cs h => nomatch h))) LclC.nil))) (And.intro (.inr (RV.lcl_sv (LclC.cons PV.lcl_val LclC.nil))) True.intro)))))))) (by exact ⟨⟩) (LclC.map fun x => (LclC.cons PV.lcl_val (LclC.cons PV.lcl_val (LclC.cons (PV.lcl_own (LclC.map fun x => (LclC.cons PV.lcl_val LclC.nil))) LclC.nil)))) fun uu900 cp900 jk900 hlD900 hcp900 hjk900 => ?_
      rw [List.length_map] at hlD900 hcp900 hjk900
      refine sw_boxEq (d := 900) (by exact rfl) (at_split (k := ((spansTo l f k).length - 1)) hl1) ?_
      have hA900 := at_len (f := (cSpan (.own 3 1))) (e := 3) (xs := (spansTo l f k)) (k := ((spansTo l f k).length - 1)) (fun _ => rfl) (Nat.le_of_lt hl1)
      refine sO [(0, _), (1, _), (4, _), (5, _), (6, _), (7, _), (8, _), (2900, _)] [(900, (234, _ ++ ([PV.val _, PV.val _, PV.sl _ _] ++ _)))] ?_
      refine sw_reg ?_
      refine rA ?_ (x := vM false [PV.val _])
      refine rA ?_ (x := sM)
      refine rA ?_ (x := B_sub)
      refine rA ?_ (x := sM)
      refine rA ?_ (x := loc_gidx (k := ((spansTo l f k).length - 1)) (G := 2900) (by decide) FIdi_sl_205 (by exact ⟨⟩) (by omega) (by first | (rw [List.length_map]; exact hl1) | exact hl1))
      refine rA ?_ (x := lF FIdi_fd_234_1)
      refine rA ?_ (x := loc_storeM (o := 1) (ag := false) (vs := [PV.val _]) (by omega) FIdi_ty_3 (by exact ⟨⟩) (by exact rfl) (by exact Nat.le_of_ble_eq_true rfl))
      refine sw_boxEq (d := 900) (by exact rfl) (at_join (⟨((spansTo l f k).getD ((spansTo l f k).length - 1) sp0).From, (k : Int), ((spansTo l f k).getD ((spansTo l f k).length - 1) sp0).Set⟩) hl1 (by rw [gDt_ (d := sp0) hl1]; exact rfl)) ?_
      refine sw_frzS (s := 5) (D := 900) (G := 2900) (e := 3) (es := (((spansTo l f k)).set ((spansTo l f k).length - 1) (⟨((spansTo l f k).getD ((spansTo l f k).length - 1) sp0).From, (k : Int), ((spansTo l f k).getD ((spansTo l f k).length - 1) sp0).Set⟩)).map (cSpan (.own 3 1))) (by exact rfl) (by exact rfl) (by exact rfl) rfl (by decide) (by rw [List.length_map, List.length_set, List.length_map]) (by intro c hc; obtain ⟨y, _, rfl⟩ := List.mem_map.1 hc; exact rfl) (by rw [List.length_map]; exact hjk900) ?_
      refine sO [(0, _), (1, _), (4, _), (5, _), (6, _), (7, _), (8, _)] [] ?_
      refine sw_reg ?_
      refine rA ?_ (x := sM)
      refine rA ?_ (x := B_add)
      refine rA ?_ (x := sA)
      refine Exists.intro (k + 1) (And.intro (by omega) (And.intro (by omega) (And.intro (And.intro (by exact ⟨rfl, rfl, rfl, ⟨⟩⟩) (by exact ⟨⟩)) (And.intro (by exact And.intro (by first | exact slc_eq (by rw [spansTo, spanNext_no hls, List.map_append]; exact rfl) | exact slc_eq (by rw [spansTo, spanNext_yes hls])) (And.intro (by exact rfl) (True.intro))) (by exact ⟨⟩)))))
     ·try simp only [q1, q2, q3, q4, q5, q6, q7, q8, q9] at hb6
      have hls : lastIs (spansTo l f k) (stabS l f (k : Int)) = false := by
       by_cases h0 : (spansTo l f k).length = 0
       ·simp [lastIs, h0]
       ·simp_all [lastIs]
      refine sO [(0, _), (1, _), (4, _), (5, _), (6, _), (7, _), (8, _)] [] ?_
      refine sw_reg ?_
      refine rA ?_ (x := tM)
      refine rA ?_ (x := sM)
      refine rA ?_ (x := sM)
      refine rA ?_ (x := tM)
      refine rA ?_ (x := loc_build (qs := [(false, [PV.val _]), (false, [PV.val _]), (false, [PV.sl _ _])]) (cs := [PV.val _, PV.val _, PV.sl _ _]) (by decide) FIdi_z_234 FIdi_zo_234 FIdi_pl_234 (by exact rfl) (by exact (And.intro (by exact ⟨⟩) (And.intro (by exact ⟨⟩) (And.intro (by exact ⟨⟩) True.intro)))) rfl (by exact rfl))
      refine rA ?_ (x := loc_bslice (qs := [(true, [PV.val _, PV.val _, PV.sl _ _])]) (by decide) FIdi_sl_205 FIdi_z_234 (by decide) rfl rfl rfl rfl rfl (by exact Nat.le_of_ble_eq_true rfl) (by exact (And.intro (by exact ⟨⟩) True.intro)) rfl)
      refine rA ?_ (x := loc_append (by decide) FIdi_sl_205 FIdi_z_234 rfl rfl (by decide) rfl (by simp only [List.length_map, List.length_append, List.length_cons, List.length_nil]; omega) (by simp only [List.length_map, List.length_append, List.length_cons, List.length_nil]; omega))
      refine rA ?_ (x := tA)
      refine sO [(0, _), (1, _), (4, _), (5, _), (6, _), (8, _)] [] ?_
      refine sw_reg ?_
      refine rA ?_ (x := sM)
      refine rA ?_ (x := B_add)
      refine rA ?_ (x := sA)
      refine Exists.intro (k + 1) (And.intro (by omega) (And.intro (by omega) (And.intro (And.intro (by exact ⟨rfl, rfl, rfl, ⟨⟩⟩) (by exact ⟨⟩)) (And.intro (by exact And.intro (by first | exact slc_eq (by rw [spansTo, spanNext_no hls, List.map_append]; exact rfl) | exact slc_eq (by rw [spansTo, spanNext_yes hls])) (And.intro (by exact rfl) (True.intro))) (by exact ⟨⟩)))))
    ·have sg5 := g5
     try simp only [q1, q2, q3, q4, q5, q6, q7, q8, q9] at sg5
     refine RunS.s0f g5 ?_
     refine RunS.s0f g5 ?_
     refine RunS.s0f g5 ?_
     refine RunS.s0f g5 ?_
     refine RunS.s0f g5 ?_
     refine RunS.s0f g5 ?_
     refine RunS.s0f g5 ?_
     refine RunS.s0f g5 ?_
     refine rA ?_ (x := pkF g5)
     refine sw_cond (t := 40) rfl (fun hb_ => nomatch hb_) (fun hb_ => ?_)
     have hls : lastIs (spansTo l f k) (stabS l f (k : Int)) = false := by
      by_cases h0 : (spansTo l f k).length = 0
      ·simp [lastIs, h0]
      ·simp_all [lastIs]
     refine sO [(0, _), (1, _), (4, _), (5, _), (6, _), (7, _), (8, _)] [] ?_
     refine sw_reg ?_
     refine rA ?_ (x := tM)
     refine rA ?_ (x := sM)
     refine rA ?_ (x := sM)
     refine rA ?_ (x := tM)
     refine rA ?_ (x := loc_build (qs := [(false, [PV.val _]), (false, [PV.val _]), (false, [PV.sl _ _])]) (cs := [PV.val _, PV.val _, PV.sl _ _]) (by decide) FIdi_z_234 FIdi_zo_234 FIdi_pl_234 (by exact rfl) (by exact (And.intro (by exact ⟨⟩) (And.intro (by exact ⟨⟩) (And.intro (by exact ⟨⟩) True.intro)))) rfl (by exact rfl))
     refine rA ?_ (x := loc_bslice (qs := [(true, [PV.val _, PV.val _, PV.sl _ _])]) (by decide) FIdi_sl_205 FIdi_z_234 (by decide) rfl rfl rfl rfl rfl (by exact Nat.le_of_ble_eq_true rfl) (by exact (And.intro (by exact ⟨⟩) True.intro)) rfl)
     refine rA ?_ (x := loc_append (by decide) FIdi_sl_205 FIdi_z_234 rfl rfl (by decide) rfl (by simp only [List.length_map, List.length_append, List.length_cons, List.length_nil]; omega) (by simp only [List.length_map, List.length_append, List.length_cons, List.length_nil]; omega))
     refine rA ?_ (x := tA)
     refine sO [(0, _), (1, _), (4, _), (5, _), (6, _), (8, _)] [] ?_
     refine sw_reg ?_
     refine rA ?_ (x := sM)
     refine rA ?_ (x := B_add)
     refine rA ?_ (x := sA)
     refine Exists.intro (k + 1) (And.intro (by omega) (And.intro (by omega) (And.intro (And.intro (by exact ⟨rfl, rfl, rfl, ⟨⟩⟩) (by exact ⟨⟩)) (And.intro (by exact And.intro (by first | exact slc_eq (by rw [spansTo, spanNext_no hls, List.map_append]; exact rfl) | exact slc_eq (by rw [spansTo, spanNext_yes hls])) (And.intro (by exact rfl) (True.intro))) (by exact ⟨⟩)))))
   ·try simp only [q1, q2, q3, q4, q5, q6, q7, q8, q9] at hb4
    have hend : k = 100 := by omega
    refine sw_exit ?_
    refine sw_seq ?_
    refine sO [(0, _), (1, _), (4, _), (5, _), (6, _)] [] ?_
    refine sw_reg ?_
    refine rA ?_ (x := tM)
    refine rA ?_ (x := tA)
    refine sw_ret ?_
    exact (And.intro (by refine slc_eq ?_; unfold stabIdx; rw [if_pos hok, hend]) True.intro)
theorem impl_FindSpan {p1 : Fl} {l : List Span} {v : Int}  (hs : ∀ s ∈ l, s.Set.length ≤ 1048576) : SCall Tryz.prog 199 [(false, [PV.sl .v (l.map (cSpan p1))]), (false, [PV.val (vI v)])] (resRV [(false, [PV.sl (.own 3 1) ((findSpan l v).map cInt)])]) := by
 refine scall_of (rs := [(false, [PV.sl (.own 3 1) ((findSpan l v).map cInt)])]) Tryz.func199 rfl (Nat.le_of_ble_eq_true rfl) (borA_cons (BorL.cons (PV.bor_sl _) BorL.nil) (borA_cons (BorL.cons (PV.bor_val _) BorL.nil) borA_nil)) ?_
 intro h0 w0 Fz0
 refine sw_len (s := 0) rfl fun hl0 => ?_
 try rw [List.length_map] at hl0
 refine sw_seq ?_
 refine sw_reg ?_
 refine rA ?_ (x := loc_const (.inr rfl) (by decide) (ok_nil (t := 3) (e := 1)))
 refine sw_seq ?_
 refine sw_seq ?_
 refine sO [(0, _), (1, _), (4, _)] [] ?_
 refine sw_reg ?_
 refine rA ?_ (x := vM false [PV.sl .v _])
 refine rA ?_ (x := lN FIdi_sl_205)
 refine rA ?_ (x := kM)
 refine sw_block ?_
 refine sO [(0, _), (1, _), (4, _), (7, _), (8, _), (9, _)] [] ?_
 refine sw_loop (l0 := [(0, RV.sv false [PV.sl _ _]), (1, RV.sv false [PV.val _]), (7, RV.sv false [PV.sl _ _]), (8, RV.sv false [PV.val _])]) (b0 := []) (fun k : Nat => k ≤ l.length ∧ (l.take k).any (inSpan v) = false) (fun k : Nat => [(9, RV.int (k : Int))]) (fun k : Nat => []) (fun k : Nat => l.length - k) 0 (by exact ⟨by omega, by simp⟩) (by exact ⟨rfl, rfl, rfl, rfl, ⟨⟩⟩) (by exact ⟨⟩) (by exact And.intro (by exact rfl) (True.intro)) (by exact ⟨⟩) ?_
 rintro k ⟨hk, ha⟩
 refine sw_seq ?_
 refine sw_reg ?_
 refine rA ?_ (x := B_lss)
 refine sw_seq ?_
 refine sw_cond (t := 10) rfl (fun hb1 => ?_) (fun hb1 => ?_)
 ·try simp only [q1, q2, q3, q4, q5, q6, q7, q8, q9] at hb1
  have hlt : k < l.length := by omega
  refine sw_skip ?_
  refine sw_seq ?_
  refine sw_block ?_
  refine sw_seq ?_
  refine sO [(0, _), (1, _), (7, _), (8, _), (9, _)] [] ?_
  refine sw_reg ?_
  refine rA ?_ (x := loc_index (by decide) FIdi_sl_205 (by exact ⟨⟩) (by exact rfl) (by exact getm2 (by omega) rfl) (by exact rfl))
  refine rA ?_ (x := lE [PV.val _, PV.val _, PV.sl .v _] FIdi_ty_234)
  refine RunS.step (by exact ⟨⟩) (by exact ⟨⟩) (LocG.of rfl (loc_alloc (by decide) FIdi_z_234 FIdi_zo_234)) (free1 (Free.app (Free.app (Free.of_ rfl) rfl) rfl)) ?_
  refine rA ?_ (x := loc_store (ag := true) (vs := [PV.val _, PV.val _, PV.sl _ _]) FIdi_ty_234 (by exact ⟨⟩) (by exact rfl) (by exact Nat.le_of_ble_eq_true rfl))
  refine sw_seq ?_
  refine sO [(0, _), (1, _), (6, _), (7, _), (8, _), (9, _)] [(6, (234, [PV.val _, PV.val _, PV.sl _ _]))] ?_
  refine sw_reg ?_
  refine rA ?_ (x := sM)
  refine rA ?_ (x := lF FIdi_fd_234_0)
  refine rA ?_ (x := lD [PV.val _] FIdi_ty_3)
  refine rA ?_ (x := lF FIdi_fd_234_1)
  refine rA ?_ (x := lD [PV.val _] FIdi_ty_3)
  refine rA ?_ (x := cL [(false, [PV.val _]), (false, [PV.val _]), (false, [PV.val _])] [(false, [PV.val _]), (false, [PV.val _]), (false, [PV.val _])] FIdi_c_114 (hs := by exact impl_within))
  refine sw_cond (t := 18) rfl (fun hb2 => ?_) (fun hb2 => ?_)
  ·try simp only [q1, q2, q3, q4, q5, q6, q7, q8, q9] at hb2
   have hy : inSpan v l[k] = true := by simpa [inSpan] using hb2
   have hst := hs l[k] (List.getElem_mem hlt)
   refine sw_seq ?_
   refine sO [(0, _), (1, _), (6, _), (7, _), (8, _), (9, _)] [(6, _)] ?_
   refine sw_reg ?_
   refine rA ?_ (x := lF FIdi_fd_234_2)
   refine rA ?_ (x := lD [PV.sl .v _] FIdi_ty_25)
   refine rA ?_ (x := cL [(false, [PV.sl _ _])] [(false, [PV.sl .v _])] FIdi_c_134 (hs := by exact impl_copyInts (by omega)))
   refine rA ?_ (x := tA)
   refine sw_ret ?_
   exact (And.intro (by refine slc_eq ?_; rw [find_yes hlt ha hy]) True.intro)
  ·try simp only [q1, q2, q3, q4, q5, q6, q7, q8, q9] at hb2
   have hno : inSpan v l[k] = false := by simpa [inSpan] using hb2
   refine sw_skip ?_
   refine sO [(0, _), (1, _), (6, _), (7, _), (8, _), (9, _)] [(6, _)] ?_
   refine sw_reg ?_
   refine rA ?_ (x := B_add)
   refine rA ?_ (x := sM)
   refine Exists.intro (k + 1) (And.intro (by exact ⟨by omega, any_succ ha hlt hno⟩) (And.intro (by omega) (And.intro (And.intro (by exact ⟨rfl, rfl, rfl, rfl, ⟨⟩⟩) (by exact ⟨⟩)) (And.intro (by exact And.intro (by exact rfl) (True.intro)) (by exact ⟨⟩)))))
 ·try simp only [q1, q2, q3, q4, q5, q6, q7, q8, q9] at hb1
  have hend : k = l.length := by omega
  rw [hend, List.take_length] at ha
  refine sw_exit ?_
  refine sw_seq ?_
  refine sO [(0, _), (1, _), (7, _), (8, _), (9, _)] [] ?_
  refine sw_reg ?_
  refine rA ?_ (x := loc_const (.inr rfl) (by decide) (ok_nil (t := 3) (e := 1)))
  refine sw_ret ?_
  exact (And.intro (by refine slc_eq ?_; rw [find_no ha]; exact rfl) True.intro)
theorem impl_EqualSpans {p1 p3 : Fl} {x : List Span} {y : List Span}  : SCall Tryz.prog 198 [(false, [PV.sl .v (x.map (cSpan p1))]), (false, [PV.sl .v (y.map (cSpan p3))])] (resRV [(false, [PV.val (.bool (deq x y))])]) := by
 refine scall_of (rs := [(false, [PV.val (.bool (deq x y))])]) Tryz.func198 rfl (Nat.le_of_ble_eq_true rfl) (borA_cons (BorL.cons (PV.bor_sl _) BorL.nil) (borA_cons (BorL.cons (PV.bor_sl _) BorL.nil) borA_nil)) ?_
 intro h0 w0 Fz0
 refine sw_len (s := 0) rfl fun hl0 => ?_
 try rw [List.length_map] at hl0
 refine sw_len (s := 1) rfl fun hl1 => ?_
 try rw [List.length_map] at hl1
 refine sw_seq ?_
 refine sw_reg ?_
 refine rA ?_ (x := kA)
 refine sw_seq ?_
 refine sw_seq ?_
 refine sO [(0, _), (1, _), (4, _)] [] ?_
 refine sw_reg ?_
 refine rA ?_ (x := vM false [PV.sl .v _])
 refine rA ?_ (x := lN FIdi_sl_205)
 refine rA ?_ (x := vM false [PV.sl .v _])
 refine rA ?_ (x := lN FIdi_sl_205)
 refine rA ?_ (x := B_neq)
 refine sw_cond (t := 11) rfl (fun hb1 => ?_) (fun hb1 => ?_)
 ·try simp only [q1, q2, q3, q4, q5, q6, q7, q8, q9] at hb1
  refine sw_seq ?_
  refine sO [(0, _), (1, _), (4, _)] [] ?_
  refine sw_reg ?_
  refine rA ?_ (x := kA)
  refine sw_ret ?_
  exact (And.intro (by refine bool_eq ?_; exact (deq_false (fun e => by subst e; simp at *)).symm) True.intro)
 ·try simp only [q1, q2, q3, q4, q5, q6, q7, q8, q9] at hb1
  have hl : x.length = y.length := by omega
  refine sw_skip ?_
  refine sw_seq ?_
  refine sw_seq ?_
  refine sO [(0, _), (1, _), (4, _)] [] ?_
  refine sw_reg ?_
  refine rA ?_ (x := vM false [PV.sl .v _])
  refine rA ?_ (x := lN FIdi_sl_205)
  refine rA ?_ (x := kM)
  refine sw_block ?_
  refine sO [(0, _), (1, _), (4, _), (12, _), (13, _), (14, _)] [] ?_
  refine sw_loop (l0 := [(0, RV.sv false [PV.sl _ _]), (1, RV.sv false [PV.sl _ _]), (12, RV.sv false [PV.sl _ _]), (13, RV.sv false [PV.val _])]) (b0 := []) (fun k : Nat => k ≤ x.length ∧ x.take k = y.take k) (fun k : Nat => [(14, RV.int (k : Int))]) (fun k : Nat => []) (fun k : Nat => x.length - k) 0 (by exact ⟨by omega, by simp⟩) (by exact ⟨rfl, rfl, rfl, rfl, ⟨⟩⟩) (by exact ⟨⟩) (by exact And.intro (by exact rfl) (True.intro)) (by exact ⟨⟩) ?_
  rintro k ⟨hk, ha⟩
  refine sw_seq ?_
  refine sw_reg ?_
  refine rA ?_ (x := B_lss)
  refine sw_seq ?_
  refine sw_cond (t := 15) rfl (fun hb2 => ?_) (fun hb2 => ?_)
  ·try simp only [q1, q2, q3, q4, q5, q6, q7, q8, q9] at hb2
   have hlt : k < x.length := by omega
   have hlt2 : k < y.length := by omega
   refine sw_skip ?_
   refine sw_seq ?_
   refine sw_block ?_
   refine sw_seq ?_
   refine sO [(0, _), (1, _), (12, _), (13, _), (14, _)] [] ?_
   refine sw_reg ?_
   refine rA ?_ (x := sM)
   refine rA ?_ (x := loc_index (by decide) FIdi_sl_205 (by exact ⟨⟩) (by exact rfl) (by exact getm2 (by omega) rfl) (by exact rfl))
   refine rA ?_ (x := lE [PV.val _, PV.val _, PV.sl .v _] FIdi_ty_234)
   refine RunS.step (by exact ⟨⟩) (by exact ⟨⟩) (LocG.of rfl (loc_alloc (by decide) FIdi_z_234 FIdi_zo_234)) (free1 (Free.app (Free.app (Free.app (Free.of_ rfl) rfl) rfl) rfl)) ?_
   refine rA ?_ (x := sA)
   refine rA ?_ (x := loc_store (ag := true) (vs := [PV.val _, PV.val _, PV.sl _ _]) FIdi_ty_234 (by exact ⟨⟩) (by exact rfl) (by exact Nat.le_of_ble_eq_true rfl))
   refine sw_seq ?_
   refine sO [(0, _), (1, _), (5, _), (6, _), (12, _), (13, _), (14, _)] [(6, (234, [PV.val _, PV.val _, PV.sl _ _]))] ?_
   refine sw_draw hm_ ?_
   refine dA 0 ?_ (x := lF FIdi_fd_234_0)
   refine dA 1 ?_ (x := lD [PV.val _] FIdi_ty_3)
   refine dA 0 ?_ (x := vM false [PV.sl .v _])
   refine dA 0 ?_ (x := sM)
   refine dA 12 ?_ (x := loc_index (by decide) FIdi_sl_205 (by exact ⟨⟩) (by exact rfl) (by exact getm2 (by omega) rfl) (by exact rfl))
   refine dA 28 ?_ (x := loc_efield (by decide) FIdi_fd_234_0 (by exact Nat.le_of_ble_eq_true rfl))
   refine dA 60 ?_ (x := lE [PV.val _] FIdi_ty_3)
   refine dA 127 ?_ (x := B_neq)
   refine dA 255 ?_ (x := sM)
   refine Run.cases (s := 27) rfl (fun g3 => ?_) (fun g3 => ?_)
   ·have sg3 := g3
    try simp only [q1, q2, q3, q4, q5, q6, q7, q8, q9] at sg3
    refine dT 511 g3 ?_
    refine dT 1023 g3 ?_
    refine dT 511 g3 ?_
    refine dT 511 g3 ?_
    refine dT 6655 g3 ?_
    refine dT 14847 g3 ?_
    refine dT 31231 g3 ?_
    refine dT 65535 g3 ?_
    refine dA 131071 ?_ (x := pkT g3)
    refine dA 262143 ?_ (x := sM)
    refine Run.cases (s := 37) rfl (fun g4 => ?_) (fun g4 => nomatch g4)
    refine dT 524287 g4 ?_
    refine dT 1048575 g4 ?_
    refine dT 524287 g4 ?_
    refine dT 524287 g4 ?_
    refine dT 6815743 g4 ?_
    refine dT 15204351 g4 ?_
    refine dT 31981567 g4 ?_
    refine dT 67108863 g4 ?_
    refine dT 134217727 g4 ?_
    refine dA 268435455 ?_ (x := pkT g4)
    refine sw_cond (t := 47) rfl (fun hb_ => ?_) (fun hb_ => nomatch hb_)
    refine sw_seq ?_
    refine sO [(0, _), (1, _), (5, _), (6, _), (12, _), (13, _), (14, _)] [(6, _)] ?_
    refine sw_reg ?_
    refine rA ?_ (x := kA)
    refine sw_ret ?_
    exact (And.intro (by refine bool_eq ?_; exact (deq_false (eq_no hlt hlt2 (by intro e; simp [e, deq_self] at *))).symm) True.intro)
   ·have sg3 := g3
    try simp only [q1, q2, q3, q4, q5, q6, q7, q8, q9] at sg3
    refine dB 511 g3 ?_ (x := lF FIdi_fd_234_1)
    refine dB 1023 g3 ?_ (x := lD [PV.val _] FIdi_ty_3)
    refine dB 511 g3 ?_ (x := vM false [PV.sl .v _])
    refine dB 511 g3 ?_ (x := sM)
    refine dB 6655 g3 ?_ (x := loc_index (by decide) FIdi_sl_205 (by exact ⟨⟩) (by exact rfl) (by exact getm2 (by omega) rfl) (by exact rfl))
    refine dB 14847 g3 ?_ (x := loc_efield (by decide) FIdi_fd_234_1 (by exact Nat.le_of_ble_eq_true rfl))
    refine dB 31231 g3 ?_ (x := lE [PV.val _] FIdi_ty_3)
    refine dB 65535 g3 ?_ (x := B_neq)
    refine dA 131071 ?_ (x := pkF g3)
    refine dA 262143 ?_ (x := sM)
    refine Run.cases (s := 37) rfl (fun g6 => ?_) (fun g6 => ?_)
    ·have sg6 := g6
     try simp only [q1, q2, q3, q4, q5, q6, q7, q8, q9] at sg6
     refine dT 524287 g6 ?_
     refine dT 1048575 g6 ?_
     refine dT 524287 g6 ?_
     refine dT 524287 g6 ?_
     refine dT 6815743 g6 ?_
     refine dT 15204351 g6 ?_
     refine dT 31981567 g6 ?_
     refine dT 67108863 g6 ?_
     refine dT 134217727 g6 ?_
     refine dA 268435455 ?_ (x := pkT g6)
     refine sw_cond (t := 47) rfl (fun hb_ => ?_) (fun hb_ => nomatch hb_)
     refine sw_seq ?_
     refine sO [(0, _), (1, _), (5, _), (6, _), (12, _), (13, _), (14, _)] [(6, _)] ?_
     refine sw_reg ?_
     refine rA ?_ (x := kA)
     refine sw_ret ?_
     exact (And.intro (by refine bool_eq ?_; exact (deq_false (eq_no hlt hlt2 (by intro e; simp [e, deq_self] at *))).symm) True.intro)
    ·have sg6 := g6
     try simp only [q1, q2, q3, q4, q5, q6, q7, q8, q9] at sg6
     refine dB 524287 g6 ?_ (x := lF FIdi_fd_234_2)
     refine dB 1048575 g6 ?_ (x := lD [PV.sl .v _] FIdi_ty_25)
     refine dB 524287 g6 ?_ (x := vM false [PV.sl .v _])
     refine dB 524287 g6 ?_ (x := sM)
     refine dB 6815743 g6 ?_ (x := loc_index (by decide) FIdi_sl_205 (by exact ⟨⟩) (by exact rfl) (by exact getm2 (by omega) rfl) (by exact rfl))
     refine dB 15204351 g6 ?_ (x := loc_efield (by decide) FIdi_fd_234_2 (by exact Nat.le_of_ble_eq_true rfl))
     refine dB 31981567 g6 ?_ (x := lE [PV.sl .v _] FIdi_ty_25)
     refine dB 67108863 g6 ?_ (x := cL [(false, [PV.sl _ _]), (false, [PV.sl _ _])] [(false, [PV.sl .v _]), (false, [PV.sl .v _])] FIdi_c_217 (hs := by exact impl_sameInts))
     refine dB 134217727 g6 ?_ (x := nT)
     refine dA 268435455 ?_ (x := pkF g6)
     refine sw_cond (t := 47) rfl (fun hb8 => ?_) (fun hb8 => ?_)
     ·try simp only [q1, q2, q3, q4, q5, q6, q7, q8, q9] at hb8
      refine sw_seq ?_
      refine sO [(0, _), (1, _), (5, _), (6, _), (12, _), (13, _), (14, _)] [(6, _)] ?_
      refine sw_reg ?_
      refine rA ?_ (x := kA)
      refine sw_ret ?_
      exact (And.intro (by refine bool_eq ?_; exact (deq_false (eq_no hlt hlt2 (by intro e; simp [e, deq_self] at *))).symm) True.intro)
     ·try simp only [q1, q2, q3, q4, q5, q6, q7, q8, q9] at hb8
      refine sw_skip ?_
      refine sO [(0, _), (1, _), (5, _), (6, _), (12, _), (13, _), (14, _)] [(6, _)] ?_
      refine sw_reg ?_
      refine rA ?_ (x := B_add)
      refine rA ?_ (x := sM)
      refine Exists.intro (k + 1) (And.intro (by exact ⟨by omega, eq_succ ha hlt hlt2 (by rw [ext_Span_iff]; simp_all [deq_iff])⟩) (And.intro (by omega) (And.intro (And.intro (by exact ⟨rfl, rfl, rfl, rfl, ⟨⟩⟩) (by exact ⟨⟩)) (And.intro (by exact And.intro (by exact rfl) (True.intro)) (by exact ⟨⟩)))))
  ·try simp only [q1, q2, q3, q4, q5, q6, q7, q8, q9] at hb2
   refine sw_exit ?_
   refine sw_seq ?_
   refine sO [(0, _), (1, _), (12, _), (13, _), (14, _)] [] ?_
   refine sw_reg ?_
   refine rA ?_ (x := kA)
   refine sw_ret ?_
   exact (And.intro (by refine bool_eq ?_; exact (deq_true (eq_end hl (by rw [show x.length = k by omega]; exact ha))).symm) True.intro)
theorem impl_copyQuery {x : Query}  (hb : wtQuery x ≤ 68719476736) : SCall Tryz.prog 163 [(true, [PV.val (vI x.Id), PV.val (vI x.Tenant), PV.sl .v (x.Conds.map cCond), PV.sl .v (x.Out.map cInt)])] (resRV [(true, [PV.val (vI x.Id), PV.val (vI x.Tenant), PV.sl (.own 193 3) (x.Conds.map cCond), PV.sl (.own 3 1) (x.Out.map cInt)])]) := by
 refine scall_of (rs := [(true, [PV.val (vI x.Id), PV.val (vI x.Tenant), PV.sl (.own 193 3) (x.Conds.map cCond), PV.sl (.own 3 1) (x.Out.map cInt)])]) Tryz.func163 rfl (Nat.le_of_ble_eq_true rfl) (borA_cons (BorL.cons (PV.bor_val _) (BorL.cons (PV.bor_val _) (BorL.cons (PV.bor_sl _) (BorL.cons (PV.bor_sl _) BorL.nil)))) borA_nil) ?_
 intro h0 w0 Fz0
 refine sw_slen (s := 0) (j := 2) rfl rfl fun hl0_2 => ?_
 try rw [List.length_map] at hl0_2
 refine sw_slen (s := 0) (j := 3) rfl rfl fun hl0_3 => ?_
 try rw [List.length_map] at hl0_3
 have hbu := hb
 simp only [wtQuery, wtIntS_len, wtInt, wtCondS] at hbu
 refine sw_seq ?_
 refine sw_reg ?_
 refine RunS.step (by exact ⟨rfl, ⟨⟩⟩) (by exact ⟨⟩) (LocG.of rfl (loc_box (ag := true) (cs := [PV.val _, PV.val _, PV.sl _ _, PV.sl _ _]) (by decide) (by exact ⟨⟩))) (free1 (Free.of_ rfl)) ?_
 refine RunS.step (by exact ⟨⟩) (by exact ⟨⟩) (LocG.of rfl (loc_alloc (by decide) FIdi_z_65 FIdi_zo_65)) (free1 (Free.app (Free.of_ rfl) rfl)) ?_
 refine sw_seq ?_
 refine sO [(1, _), (2, _)] [(1, (65, [PV.val _, PV.val _, PV.sl _ _, PV.sl _ _])), (2, (65, [PV.val _, PV.val _, PV.sl _ _, PV.sl _ _]))] ?_
 refine sw_reg ?_
 refine rA ?_ (x := loc_bslice (qs := []) (by decide) FIdi_sl_63 FIdi_z_193 (by decide) rfl rfl rfl rfl rfl (by exact Nat.le_of_ble_eq_true rfl) (by exact ⟨⟩) rfl)
 refine rA ?_ (x := lF FIdi_fd_65_2)
 refine rA ?_ (x := lD [PV.sl .v _] FIdi_ty_63)
 refine rA ?_ (x := loc_appendb (by decide) FIdi_sl_63 FIdi_z_193 rfl rfl (by decide) (by first | (intro cs hcs; obtain ⟨x, _, rfl⟩ := List.mem_map.1 hcs; exact rfl) | simp) (by first | (intro cs hcs; obtain ⟨x, _, rfl⟩ := List.mem_map.1 hcs; exact (BorL.cons (PV.bor_val _) (BorL.cons (PV.bor_val _) (BorL.cons (PV.bor_val _) BorL.nil)))) | simp) (by simp only [List.length_map, List.length_append, List.length_cons, List.length_nil]; omega) (by simp only [List.length_map, List.length_append, List.length_cons, List.length_nil]; omega))
 refine rA ?_ (x := lF FIdi_fd_65_2)
 refine rA ?_ (x := loc_store (ag := false) (vs := [PV.sl _ _]) FIdi_ty_63 (by exact ⟨⟩) (by exact rfl) (by exact Nat.le_of_ble_eq_true rfl))
 refine sw_seq ?_
 refine sO [(1, _), (2, _)] [(1, (65, [PV.val _, PV.val _, PV.sl _ _, PV.sl _ _])), (2, _)] ?_
 refine sw_reg ?_
 refine rA ?_ (x := lF FIdi_fd_65_3)
 refine rA ?_ (x := lD [PV.sl .v _] FIdi_ty_25)
 refine rA ?_ (x := cL [(false, [PV.sl _ _])] [(false, [PV.sl .v _])] FIdi_c_134 (hs := by exact impl_copyInts (by omega)))
 refine rA ?_ (x := lF FIdi_fd_65_3)
 refine rA ?_ (x := loc_store (ag := false) (vs := [PV.sl _ _]) FIdi_ty_25 (by exact ⟨⟩) (by exact rfl) (by exact Nat.le_of_ble_eq_true rfl))
 refine sw_seq ?_
 refine sO [(1, _), (2, _)] [(1, (65, [PV.val _, PV.val _, PV.sl _ _, PV.sl _ _])), (2, _)] ?_
 refine sw_reg ?_
 refine rA ?_ (x := loc_ltake (ms := [PV.val _, PV.val _, PV.sl _ _, PV.sl _ _]) (qs := [PV.val _, PV.val _, PV.sl .v _, PV.sl .v _]) (by decide) FIdi_ty_65 (fun h => nomatch h) (by exact Nat.le_of_ble_eq_true rfl) (by exact rfl) (by exact (ToL.cons (PV.To.refl _) (ToL.cons (PV.To.refl _) (ToL.cons PV.to_none (ToL.cons PV.to_none ToL.nil))))) (by exact (BorL.cons (PV.bor_val _) (BorL.cons (PV.bor_val _) (BorL.cons (PV.bor_sl _) (BorL.cons (PV.bor_sl _) BorL.nil))))))
 refine rA ?_ (x := loc_store (ag := true) (vs := [PV.val _, PV.val _, PV.sl _ _, PV.sl _ _]) FIdi_ty_65 (by exact ⟨⟩) (by exact rfl) (by exact Nat.le_of_ble_eq_true rfl))
 refine sw_ret ?_
 exact (Exists.intro 2 (Exists.intro _ (And.intro (by exact rfl) (And.intro (by exact rfl) (And.intro FIdi_ty_65 (And.intro (fun h => nomatch h) True.intro))))))
theorem impl_copyQueries {p1 p2 : Fl} {x : List Query}  (hb : wtQueryS x ≤ 68719476736) : SCall Tryz.prog 196 [(false, [PV.sl .v (x.map (cQuery p1 p2))])] (resRV [(false, [PV.sl (.own 65 4) (x.map (cQuery (.own 193 3) (.own 3 1)))])]) := by
 refine scall_of (rs := [(false, [PV.sl (.own 65 4) (x.map (cQuery (.own 193 3) (.own 3 1)))])]) Tryz.func196 rfl (Nat.le_of_ble_eq_true rfl) (borA_cons (BorL.cons (PV.bor_sl _) BorL.nil) borA_nil) ?_
 intro h0 w0 Fz0
 refine sw_len (s := 0) rfl fun hl0 => ?_
 try rw [List.length_map] at hl0
 have hbu := hb
 simp only [wtQueryS] at hbu
 refine sw_seq ?_
 refine sw_reg ?_
 refine rA ?_ (x := loc_const (.inr rfl) (by decide) (ok_nil (t := 65) (e := 4)))
 refine sw_seq ?_
 refine sO [(0, _), (2, _)] [] ?_
 refine sw_reg ?_
 refine rA ?_ (x := loc_bslice (qs := []) (by decide) FIdi_sl_89 FIdi_z_65 (by decide) rfl rfl rfl rfl rfl (by exact Nat.le_of_ble_eq_true rfl) (by exact ⟨⟩) rfl)
 refine rA ?_ (x := tA)
 refine sw_seq ?_
 refine sw_seq ?_
 refine sO [(0, _), (2, _), (3, _)] [] ?_
 refine sw_reg ?_
 refine rA ?_ (x := vM false [PV.sl .v _])
 refine rA ?_ (x := lN FIdi_sl_89)
 refine rA ?_ (x := kM)
 refine sw_block ?_
 refine sO [(0, _), (2, _), (3, _), (7, _), (8, _), (9, _)] [] ?_
 refine sw_loop (l0 := [(0, RV.sv false [PV.sl _ _]), (2, RV.sv false [PV.sl _ _]), (7, RV.sv false [PV.sl _ _]), (8, RV.sv false [PV.val _])]) (b0 := []) (fun k : Nat => k ≤ x.length) (fun k : Nat => [(3, RV.slc (.own 65 4) ((x.take k).map (cQuery (.own 193 3) (.own 3 1)))), (9, RV.int (k : Int))]) (fun k : Nat => []) (fun k : Nat => x.length - k) 0 (by omega) (by exact ⟨rfl, rfl, rfl, rfl, ⟨⟩⟩) (by exact ⟨⟩) (by exact And.intro (by first | exact rfl | simp) (And.intro (by exact rfl) (True.intro))) (by exact ⟨⟩) ?_
 rintro k hk
 refine sw_seq ?_
 refine sw_reg ?_
 refine rA ?_ (x := B_lss)
 refine sw_seq ?_
 refine sw_cond (t := 10) rfl (fun hb1 => ?_) (fun hb1 => ?_)
 ·try simp only [q1, q2, q3, q4, q5, q6, q7, q8, q9] at hb1
  have hlt : k < x.length := by omega
  have hwm := wt_mem (f := wtQuery) hlt
  have htl : (x.take k).length = k := by rw [List.length_take]; omega
  refine sw_skip ?_
  refine sw_seq ?_
  refine sw_block ?_
  refine sw_seq ?_
  refine sO [(0, _), (2, _), (3, _), (7, _), (8, _), (9, _)] [] ?_
  refine sw_reg ?_
  refine rA ?_ (x := loc_index (by decide) FIdi_sl_89 (by exact ⟨⟩) (by exact rfl) (by exact getm2 (by omega) rfl) (by exact rfl))
  refine rA ?_ (x := lE [PV.val _, PV.val _, PV.sl .v _, PV.sl .v _] FIdi_ty_65)
  refine RunS.step (by exact ⟨⟩) (by exact ⟨⟩) (LocG.of rfl (loc_alloc (by decide) FIdi_z_65 FIdi_zo_65)) (free1 (Free.app (Free.app (Free.of_ rfl) rfl) rfl)) ?_
  refine rA ?_ (x := loc_store (ag := true) (vs := [PV.val _, PV.val _, PV.sl _ _, PV.sl _ _]) FIdi_ty_65 (by exact ⟨⟩) (by exact rfl) (by exact Nat.le_of_ble_eq_true rfl))
  refine sO [(0, _), (2, _), (3, _), (5, _), (7, _), (8, _), (9, _)] [(5, (65, [PV.val _, PV.val _, PV.sl _ _, PV.sl _ _]))] ?_
  refine sw_reg ?_
  refine rA ?_ (x := tM)
  refine rA ?_ (x := lD [PV.val _, PV.val _, PV.sl .v _, PV.sl .v _] FIdi_ty_65)
  refine rA ?_ (x := cL [(true, [PV.val _, PV.val _, PV.sl _ _, PV.sl _ _])] [(true, [PV.val _, PV.val _, PV.sl .v _, PV.sl .v _])] FIdi_c_163 (hs := by exact impl_copyQuery (by omega)))
  refine rA ?_ (x := loc_bslice (qs := [(true, [PV.val _, PV.val _, PV.sl _ _, PV.sl _ _])]) (by decide) FIdi_sl_89 FIdi_z_65 (by decide) rfl rfl rfl rfl rfl (by exact Nat.le_of_ble_eq_true rfl) (by exact (And.intro (by exact ⟨⟩) True.intro)) rfl)
  refine rA ?_ (x := loc_append (by decide) FIdi_sl_89 FIdi_z_65 rfl rfl (by decide) rfl (by simp only [List.length_map, List.length_append, List.length_cons, List.length_nil]; omega) (by simp only [List.length_map, List.length_append, List.length_cons, List.length_nil]; omega))
  refine rA ?_ (x := tA)
  refine sO [(0, _), (2, _), (3, _), (5, _), (7, _), (8, _), (9, _)] [(5, _)] ?_
  refine sw_reg ?_
  refine rA ?_ (x := B_add)
  refine rA ?_ (x := sM)
  refine Exists.intro (k + 1) (And.intro (by omega) (And.intro (by omega) (And.intro (And.intro (by exact ⟨rfl, rfl, rfl, rfl, ⟨⟩⟩) (by exact ⟨⟩)) (And.intro (by exact And.intro (by exact slc_eq (by rw [tk_succ hlt, List.map_append]; rfl)) (And.intro (by exact rfl) (True.intro))) (by exact ⟨⟩)))))
 ·try simp only [q1, q2, q3, q4, q5, q6, q7, q8, q9] at hb1
  have hend : k = x.length := by omega
  refine sw_exit ?_
  refine sw_seq ?_
  refine sO [(0, _), (2, _), (3, _), (7, _), (8, _), (9, _)] [] ?_
  refine sw_reg ?_
  refine rA ?_ (x := tM)
  refine rA ?_ (x := tA)
  refine sw_ret ?_
  exact (And.intro (by refine slc_eq ?_; rw [hend, List.take_length]) True.intro)
theorem impl_BuildIndex {p1 p2 : Fl} {l : List Query}  : SCall Tryz.prog 123 [(false, [PV.sl .v (l.map (cQuery p1 p2))])] (resRV [(true, [PV.sl (.own 65 4) ((buildIdx l).Queries.map (cQuery (.own 193 3) (.own 3 1))), PV.sl (.own 205 1) ((buildIdx l).Fields.map (cSpanS (.own 234 3) (.own 3 1)))])]) := by
 refine scall_of (rs := [(true, [PV.sl (.own 65 4) ((buildIdx l).Queries.map (cQuery (.own 193 3) (.own 3 1))), PV.sl (.own 205 1) ((buildIdx l).Fields.map (cSpanS (.own 234 3) (.own 3 1)))])]) Tryz.func123 rfl (Nat.le_of_ble_eq_true rfl) (borA_cons (BorL.cons (PV.bor_sl _) BorL.nil) borA_nil) ?_
 intro h0 w0 Fz0
 refine sw_len (s := 0) rfl fun hl0 => ?_
 try rw [List.length_map] at hl0
 refine sw_seq ?_
 refine sw_reg ?_
 refine RunS.step (by exact ⟨⟩) (by exact ⟨⟩) (LocG.of rfl (loc_alloc (by decide) FIdi_z_92 FIdi_zo_92)) (free1 (Free.of_ rfl)) ?_
 refine sw_seq ?_
 refine sw_seq ?_
 refine sO [(0, _), (2, _)] [(2, (92, [PV.sl _ _, PV.sl _ _]))] ?_
 refine sw_reg ?_
 refine rA ?_ (x := vM false [PV.sl .v _])
 refine rA ?_ (x := cL [(false, [PV.sl _ _])] [(false, [PV.sl .v _])] FIdi_c_195 (hs := by exact impl_AreQueries))
 refine rA ?_ (x := nT)
 refine sw_cond (t := 7) rfl (fun hb1 => ?_) (fun hb1 => ?_)
 ·try simp only [q1, q2, q3, q4, q5, q6, q7, q8, q9] at hb1
  have hok : okQueries l = false := by simpa using hb1
  refine sw_seq ?_
  refine sO [(0, _), (2, _)] [(2, _)] ?_
  refine sw_reg ?_
  refine rA ?_ (x := loc_build (qs := []) (cs := [PV.sl _ _, PV.sl _ _]) (by decide) FIdi_z_92 FIdi_zo_92 FIdi_pl_92 (by exact rfl) (by exact ⟨⟩) rfl (by exact rfl))
  refine rA ?_ (x := loc_store (ag := true) (vs := [PV.sl _ _, PV.sl _ _]) FIdi_ty_92 (by exact ⟨⟩) (by exact rfl) (by exact Nat.le_of_ble_eq_true rfl))
  refine sw_ret ?_
  exact (Exists.intro 2 (Exists.intro _ (And.intro (by exact rfl) (And.intro (by refine box_eq ?_; rw [build_no hok]; exact rfl) (And.intro FIdi_ty_92 (And.intro (fun h => nomatch h) True.intro))))))
 ·try simp only [q1, q2, q3, q4, q5, q6, q7, q8, q9] at hb1
  have hok : okQueries l = true := by simpa using hb1
  have hqw := okQs_wt hok
  have hql := okQs hok
  refine sw_skip ?_
  refine sw_seq ?_
  refine sO [(0, _), (2, _)] [(2, _)] ?_
  refine sw_reg ?_
  refine rA ?_ (x := vM false [PV.sl .v _])
  refine rA ?_ (x := cL [(false, [PV.sl _ _])] [(false, [PV.sl .v _])] FIdi_c_196 (hs := by exact impl_copyQueries (by omega)))
  refine rA ?_ (x := loc_build (qs := [(false, [PV.sl _ _])]) (cs := [PV.sl _ _, PV.sl _ _]) (by decide) FIdi_z_92 FIdi_zo_92 FIdi_pl_92 (by exact rfl) (by exact (And.intro (by exact ⟨⟩) True.intro)) rfl (by exact rfl))
  refine RunS.step (by exact ⟨⟩) (by exact ⟨⟩) (LocG.of rfl (loc_alloc (by decide) FIdi_z_92 FIdi_zo_92)) (free1 (Free.app (Free.app (Free.app (Free.of_ rfl) rfl) rfl) rfl)) ?_
  refine rA ?_ (x := loc_store (ag := true) (vs := [PV.sl _ _, PV.sl _ _]) FIdi_ty_92 (by exact ⟨⟩) (by exact rfl) (by exact Nat.le_of_ble_eq_true rfl))
  refine sw_seq ?_
  refine sw_seq ?_
  refine sO [(0, _), (2, _), (3, _)] [(2, _), (3, (92, [PV.sl _ _, PV.sl _ _]))] ?_
  refine sw_reg ?_
  refine rA ?_ (x := kA)
  refine sw_block ?_
  refine sO [(0, _), (2, _), (3, _), (4, _)] [(2, _), (3, _)] ?_
  refine sw_loop (l0 := [(0, RV.sv false [PV.sl _ _]), (2, RV.ptr 2 0), (3, RV.ptr 3 0)]) (b0 := [(2, (92, [PV.sl _ _, PV.sl _ _]))]) (fun k : Nat => k ≤ 3) (fun k : Nat => [(4, RV.int (k : Int))]) (fun k : Nat => [(3, (92, (cIndex (.own 65 4) (.own 193 3) (.own 3 1) (.own 205 1) (.own 234 3) (.own 3 1)) ⟨l, fieldsTo l k⟩))]) (fun k : Nat => 3 - k) 0 (by omega) (by exact ⟨rfl, rfl, rfl, ⟨⟩⟩) (by exact ⟨rfl, ⟨⟩⟩) (by exact And.intro (by exact rfl) (True.intro)) (by exact And.intro (by exact rfl) (True.intro)) ?_
  rintro k hk
  refine sw_seq ?_
  refine sw_seq ?_
  refine sw_reg ?_
  refine rA ?_ (x := sM)
  refine rA ?_ (x := B_lss)
  refine sw_cond (t := 13) rfl (fun hb2 => ?_) (fun hb2 => ?_)
  ·try simp only [q1, q2, q3, q4, q5, q6, q7, q8, q9] at hb2
   have hlt : k < 3 := by omega
   have hfl := fieldsTo_len (l := l) (k := k)
   refine sw_skip ?_
   refine sw_seq ?_
   refine sw_block ?_
   refine sO [(0, _), (2, _), (3, _), (4, _)] [(2, (92, [PV.sl _ _, PV.sl _ _])), (3, (92, [PV.sl _ _, PV.sl _ _]))] ?_
   refine sw_draw hm_ ?_
   refine dA 0 ?_ (x := lF FIdi_fd_92_1)
   refine dA 1 ?_ (x := loc_ltake (ms := [PV.sl _ _]) (qs := [PV.sl .v _]) (by decide) FIdi_ty_90 (fun _ => rfl) (by exact Nat.le_of_ble_eq_true rfl) (by exact rfl) (by exact (ToL.cons PV.to_none ToL.nil)) (by exact (BorL.cons (PV.bor_sl _) BorL.nil)))
   refine dA 0 ?_ (x := vM false [PV.sl .v _])
   refine dA 0 ?_ (x := sM)
   refine dA 12 ?_ (x := cL [(false, [PV.sl _ _]), (false, [PV.val _])] [(false, [PV.sl .v _]), (false, [PV.val _])] FIdi_c_197 (hs := by exact impl_StabIndex))
   refine dA 28 ?_ (x := loc_bslice (qs := [(false, [PV.sl _ _])]) (by decide) FIdi_sl_90 FIdi_z_205 (by decide) rfl rfl rfl rfl rfl (by exact Nat.le_of_ble_eq_true rfl) (by exact (And.intro (by exact ⟨⟩) True.intro)) rfl)
   refine dA 63 ?_ (x := loc_append (by decide) FIdi_sl_90 FIdi_z_205 rfl rfl (by decide) rfl (by simp only [List.length_map, List.length_append, List.length_cons, List.length_nil]; omega) (by simp only [List.length_map, List.length_append, List.length_cons, List.length_nil]; omega))
   refine dA 127 ?_ (x := lF FIdi_fd_92_1)
   refine dA 255 ?_ (x := loc_store (ag := false) (vs := [PV.sl _ _]) FIdi_ty_90 (by exact ⟨⟩) (by exact rfl) (by exact Nat.le_of_ble_eq_true rfl))
   refine sO [(0, _), (2, _), (3, _), (4, _)] [(2, _), (3, (92, [PV.sl _ _, PV.sl _ _]))] ?_
   refine sw_reg ?_
   refine rA ?_ (x := sM)
   refine rA ?_ (x := B_add)
   refine rA ?_ (x := sA)
   refine Exists.intro (k + 1) (And.intro (by omega) (And.intro (by omega) (And.intro (And.intro (by exact ⟨rfl, rfl, rfl, ⟨⟩⟩) (by exact ⟨rfl, ⟨⟩⟩)) (And.intro (by exact And.intro (by exact int_eq (by omega)) (True.intro)) (by exact And.intro (by simp only [fieldsTo_succ]; show _ = some (92, (cIndex (.own 65 4) (.own 193 3) (.own 3 1) (.own 205 1) (.own 234 3) (.own 3 1)) (Index.mk l (fieldsTo l k ++ [stabIdx l (k : Int)]))); simp only [cIndex, List.map_append]; exact rfl) (True.intro))))))
  ·try simp only [q1, q2, q3, q4, q5, q6, q7, q8, q9] at hb2
   have hend : k = 3 := by omega
   refine sw_exit ?_
   refine sw_seq ?_
   refine sO [(0, _), (2, _), (3, _), (4, _)] [(2, (92, [PV.sl _ _, PV.sl _ _])), (3, (92, [PV.sl _ _, PV.sl _ _]))] ?_
   refine sw_reg ?_
   refine rA ?_ (x := loc_ltake (ms := [PV.sl _ _, PV.sl _ _]) (qs := [PV.sl .v _, PV.sl .v _]) (by decide) FIdi_ty_92 (fun h => nomatch h) (by exact Nat.le_of_ble_eq_true rfl) (by exact rfl) (by exact (ToL.cons PV.to_none (ToL.cons PV.to_none ToL.nil))) (by exact (BorL.cons (PV.bor_sl _) (BorL.cons (PV.bor_sl _) BorL.nil))))
   refine rA ?_ (x := loc_store (ag := true) (vs := [PV.sl _ _, PV.sl _ _]) FIdi_ty_92 (by exact ⟨⟩) (by exact rfl) (by exact Nat.le_of_ble_eq_true rfl))
   refine sw_ret ?_
   exact (Exists.intro 2 (Exists.intro _ (And.intro (by exact rfl) (And.intro (by refine box_eq ?_; subst hend; rw [build_yes hok]; exact rfl) (And.intro FIdi_ty_92 (And.intro (fun h => nomatch h) True.intro))))))
theorem impl_IsIndex {p1 p2 p4 p5 : Fl} {x : Index}  : SCall Tryz.prog 124 [(true, [PV.sl .v (x.Queries.map (cQuery p1 p2)), PV.sl .v (x.Fields.map (cSpanS p4 p5))])] (resRV [(false, [PV.val (.bool (okIndex x))])]) := by
 refine scall_of (rs := [(false, [PV.val (.bool (okIndex x))])]) Tryz.func124 rfl (Nat.le_of_ble_eq_true rfl) (borA_cons (BorL.cons (PV.bor_sl _) (BorL.cons (PV.bor_sl _) BorL.nil)) borA_nil) ?_
 intro h0 w0 Fz0
 refine sw_slen (s := 0) (j := 0) rfl rfl fun hl0_0 => ?_
 try rw [List.length_map] at hl0_0
 refine sw_slen (s := 0) (j := 1) rfl rfl fun hl0_1 => ?_
 try rw [List.length_map] at hl0_1
 refine sw_seq ?_
 refine sw_reg ?_
 refine RunS.step (by exact ⟨rfl, ⟨⟩⟩) (by exact ⟨⟩) (LocG.of rfl (loc_box (ag := true) (cs := [PV.sl _ _, PV.sl _ _]) (by decide) (by exact ⟨⟩))) (free1 (Free.of_ rfl)) ?_
 refine rA ?_ (x := kA)
 refine sw_seq ?_
 refine sw_seq ?_
 refine sO [(1, _), (2, _)] [(1, (92, [PV.sl _ _, PV.sl _ _]))] ?_
 refine sw_reg ?_
 refine rA ?_ (x := lF FIdi_fd_92_0)
 refine rA ?_ (x := lD [PV.sl .v _] FIdi_ty_89)
 refine rA ?_ (x := cL [(false, [PV.sl _ _])] [(false, [PV.sl .v _])] FIdi_c_195 (hs := by exact impl_AreQueries))
 refine rA ?_ (x := nT)
 refine rA ?_ (x := sM)
 refine RunS.cases (s := 9) rfl (fun g1 => ?_) (fun g1 => ?_)
 ·have sg1 := g1
  try simp only [q1, q2, q3, q4, q5, q6, q7, q8, q9] at sg1
  refine RunS.s0t g1 ?_
  refine RunS.s0t g1 ?_
  refine RunS.s0t g1 ?_
  refine RunS.s0t g1 ?_
  refine rA ?_ (x := pkT g1)
  refine sw_cond (t := 14) rfl (fun hb_ => ?_) (fun hb_ => nomatch hb_)
  have hbad : okIndex x = false := by first | (simp_all [okIndex]; done) | (simp_all [okIndex]; omega)
  refine sw_seq ?_
  refine sO [(1, _), (2, _)] [(1, _)] ?_
  refine sw_reg ?_
  refine rA ?_ (x := kA)
  refine sw_ret ?_
  exact (And.intro (by refine bool_eq ?_; exact hbad.symm) True.intro)
 ·have sg1 := g1
  try simp only [q1, q2, q3, q4, q5, q6, q7, q8, q9] at sg1
  refine rB g1 ?_ (x := lF FIdi_fd_92_1)
  refine rB g1 ?_ (x := lD [PV.sl .v _] FIdi_ty_90)
  refine rB g1 ?_ (x := lN FIdi_sl_90)
  refine rB g1 ?_ (x := B_neq)
  refine rA ?_ (x := pkF g1)
  refine sw_cond (t := 14) rfl (fun hb3 => ?_) (fun hb3 => ?_)
  ·try simp only [q1, q2, q3, q4, q5, q6, q7, q8, q9] at hb3
   have hbad : okIndex x = false := by first | (simp_all [okIndex]; done) | (simp_all [okIndex]; omega)
   refine sw_seq ?_
   refine sO [(1, _), (2, _)] [(1, _)] ?_
   refine sw_reg ?_
   refine rA ?_ (x := kA)
   refine sw_ret ?_
   exact (And.intro (by refine bool_eq ?_; exact hbad.symm) True.intro)
  ·try simp only [q1, q2, q3, q4, q5, q6, q7, q8, q9] at hb3
   have hpr : (okQueries x.Queries && decide (x.Fields.length = 3)) = true := by first | (simp_all; done) | (simp_all; omega)
   have hf3 : x.Fields.length = 3 := of_decide_eq_true (Bool.and_eq_true_iff.1 hpr).2
   refine sw_skip ?_
   refine sw_seq ?_
   refine sw_seq ?_
   refine sO [(1, _), (2, _)] [(1, _)] ?_
   refine sw_reg ?_
   refine rA ?_ (x := lF FIdi_fd_92_1)
   refine rA ?_ (x := lD [PV.sl .v _] FIdi_ty_90)
   refine rA ?_ (x := lN FIdi_sl_90)
   refine rA ?_ (x := kM)
   refine sw_block ?_
   refine sO [(1, _), (2, _), (16, _), (17, _), (18, _)] [(1, _)] ?_
   refine sw_loop (l0 := [(1, RV.ptr 1 0), (16, RV.sv false [PV.sl _ _]), (17, RV.sv false [PV.val _])]) (b0 := [(1, (92, [PV.sl _ _, PV.sl _ _]))]) (fun k : Nat => k ≤ x.Fields.length ∧ idxTo x k = true) (fun k : Nat => [(18, RV.int (k : Int))]) (fun k : Nat => []) (fun k : Nat => x.Fields.length - k) 0 (by exact ⟨by omega, rfl⟩) (by exact ⟨rfl, rfl, rfl, ⟨⟩⟩) (by exact ⟨rfl, ⟨⟩⟩) (by exact And.intro (by exact rfl) (True.intro)) (by exact ⟨⟩) ?_
   rintro k ⟨hk, ha⟩
   refine sw_seq ?_
   refine sw_reg ?_
   refine rA ?_ (x := B_lss)
   refine sw_seq ?_
   refine sw_cond (t := 19) rfl (fun hb4 => ?_) (fun hb4 => ?_)
   ·try simp only [q1, q2, q3, q4, q5, q6, q7, q8, q9] at hb4
    have hlt : k < x.Fields.length := by omega
    have hgk := gDt_ (d := ([] : List Span)) hlt
    refine sw_skip ?_
    refine sw_seq ?_
    refine sw_block ?_
    refine sw_seq ?_
    refine sO [(1, _), (16, _), (17, _), (18, _)] [(1, (92, [PV.sl _ _, PV.sl _ _]))] ?_
    refine sw_reg ?_
    refine rA ?_ (x := sM)
    refine rA ?_ (x := loc_index (by decide) FIdi_sl_90 (by exact ⟨⟩) (by exact rfl) (by exact getm2 (by omega) rfl) (by exact rfl))
    refine rA ?_ (x := lE [PV.sl .v _] FIdi_ty_205)
    refine rA ?_ (x := sA)
    refine rA ?_ (x := vA false [PV.sl .v _])
    refine sw_seq ?_
    refine sO [(1, _), (3, _), (4, _), (16, _), (17, _), (18, _)] [(1, _)] ?_
    refine sw_reg ?_
    refine rA ?_ (x := vM false [PV.sl .v _])
    refine rA ?_ (x := lF FIdi_fd_92_0)
    refine rA ?_ (x := lD [PV.sl .v _] FIdi_ty_89)
    refine rA ?_ (x := sM)
    refine rA ?_ (x := cL [(false, [PV.sl _ _]), (false, [PV.val _])] [(false, [PV.sl .v _]), (false, [PV.val _])] FIdi_c_197 (hs := by exact impl_StabIndex))
    refine rA ?_ (x := cL [(false, [PV.sl _ _]), (false, [PV.sl _ _])] [(false, [PV.sl .v _]), (false, [PV.sl .v _])] FIdi_c_198 (hs := by exact impl_EqualSpans))
    refine rA ?_ (x := nT)
    refine sw_cond (t := 29) rfl (fun hb5 => ?_) (fun hb5 => ?_)
    ·try simp only [q1, q2, q3, q4, q5, q6, q7, q8, q9] at hb5
     have hd : deq (x.Fields.getD k []) (stabIdx x.Queries (k : Int)) = false := by rw [← hgk]; simpa using hb5
     refine sw_seq ?_
     refine sO [(1, _), (3, _), (4, _), (16, _), (17, _), (18, _)] [(1, _)] ?_
     refine sw_reg ?_
     refine rA ?_ (x := kA)
     refine sw_ret ?_
     exact (And.intro (by refine bool_eq ?_; exact (idx_no (by omega) hd).symm) True.intro)
    ·try simp only [q1, q2, q3, q4, q5, q6, q7, q8, q9] at hb5
     have hd : deq (x.Fields.getD k []) (stabIdx x.Queries (k : Int)) = true := by rw [← hgk]; simpa using hb5
     refine sw_skip ?_
     refine sO [(1, _), (3, _), (4, _), (16, _), (17, _), (18, _)] [(1, _)] ?_
     refine sw_reg ?_
     refine rA ?_ (x := B_add)
     refine rA ?_ (x := sM)
     refine Exists.intro (k + 1) (And.intro (by exact ⟨by omega, by rw [idxTo_succ, ha, hd]; rfl⟩) (And.intro (by omega) (And.intro (And.intro (by exact ⟨rfl, rfl, rfl, ⟨⟩⟩) (by exact ⟨rfl, ⟨⟩⟩)) (And.intro (by exact And.intro (by exact rfl) (True.intro)) (by exact ⟨⟩)))))
   ·try simp only [q1, q2, q3, q4, q5, q6, q7, q8, q9] at hb4
    have hend : k = 3 := by omega
    rw [hend] at ha
    refine sw_exit ?_
    refine sw_seq ?_
    refine sO [(1, _), (16, _), (17, _), (18, _)] [(1, (92, [PV.sl _ _, PV.sl _ _]))] ?_
    refine sw_reg ?_
    refine rA ?_ (x := kA)
    refine sw_ret ?_
    exact (And.intro (by refine bool_eq ?_; unfold okIndex; rw [hpr, ha]; rfl) True.intro)
theorem impl_probe {p1 p2 p4 p5 : Fl} {x : Index} {r : Row} {o : List Int}  (hxo : okIndex x = true) (hro : okRow r = true) (hoo : okOrder o = true) : SCall Tryz.prog 126 [(true, [PV.sl .v (x.Queries.map (cQuery p1 p2)), PV.sl .v (x.Fields.map (cSpanS p4 p5))]), (true, [PV.val (vI r.Id), PV.sl .v (r.Values.map cInt)]), (false, [PV.sl .v (o.map cInt)])] (resRV [(false, [PV.sl (.own 3 1) ((probeAll x r o).1.map cInt)]), (false, [PV.val (vI (probeAll x r o).2)])]) := by
 refine scall_of (rs := [(false, [PV.sl (.own 3 1) ((probeAll x r o).1.map cInt)]), (false, [PV.val (vI (probeAll x r o).2)])]) Tryz.func126 rfl (Nat.le_of_ble_eq_true rfl) (borA_cons (BorL.cons (PV.bor_sl _) (BorL.cons (PV.bor_sl _) BorL.nil)) (borA_cons (BorL.cons (PV.bor_val _) (BorL.cons (PV.bor_sl _) BorL.nil)) (borA_cons (BorL.cons (PV.bor_sl _) BorL.nil) borA_nil))) ?_
 intro h0 w0 Fz0
 refine sw_slen (s := 0) (j := 0) rfl rfl fun hl0_0 => ?_
 try rw [List.length_map] at hl0_0
 refine sw_slen (s := 0) (j := 1) rfl rfl fun hl0_1 => ?_
 try rw [List.length_map] at hl0_1
 refine sw_slen (s := 1) (j := 1) rfl rfl fun hl1_1 => ?_
 try rw [List.length_map] at hl1_1
 refine sw_len (s := 2) rfl fun hl2 => ?_
 try rw [List.length_map] at hl2
 have hx := idx_facts hxo
 have hq := okQs hx.1
 have ho := order_facts hoo
 have hrl := rowLen hro
 refine sw_seq ?_
 refine sw_reg ?_
 refine RunS.step (by exact ⟨rfl, ⟨⟩⟩) (by exact ⟨⟩) (LocG.of rfl (loc_box (ag := true) (cs := [PV.sl _ _, PV.sl _ _]) (by decide) (by exact ⟨⟩))) (free1 (Free.of_ rfl)) ?_
 refine RunS.step (by exact ⟨rfl, ⟨⟩⟩) (by exact ⟨⟩) (LocG.of rfl (loc_box (ag := true) (cs := [PV.val _, PV.sl _ _]) (by decide) (by exact ⟨⟩))) (free1 (Free.app (Free.of_ rfl) rfl)) ?_
 refine rA ?_ (x := loc_const (.inr rfl) (by decide) (ok_nil (t := 3) (e := 1)))
 refine rA ?_ (x := kA)
 refine sw_seq ?_
 refine sO [(2, _), (3, _), (4, _), (6, _), (7, _)] [(3, (92, [PV.sl _ _, PV.sl _ _])), (4, (66, [PV.val _, PV.sl _ _]))] ?_
 refine sw_reg ?_
 refine rA ?_ (x := loc_bslice (qs := []) (by decide) FIdi_sl_25 FIdi_z_3 (by decide) rfl rfl rfl rfl rfl (by exact Nat.le_of_ble_eq_true rfl) (by exact ⟨⟩) rfl)
 refine rA ?_ (x := tA)
 refine sw_seq ?_
 refine sw_seq ?_
 refine sO [(2, _), (3, _), (4, _), (6, _), (7, _), (8, _)] [(3, _), (4, _)] ?_
 refine sw_reg ?_
 refine rA ?_ (x := lF FIdi_fd_92_0)
 refine rA ?_ (x := lD [PV.sl .v _] FIdi_ty_89)
 refine rA ?_ (x := lN FIdi_sl_89)
 refine rA ?_ (x := kM)
 refine sw_block ?_
 refine sO [(2, _), (3, _), (4, _), (6, _), (7, _), (8, _), (17, _), (18, _), (19, _)] [(3, _), (4, _)] ?_
 refine sw_loop (l0 := [(2, RV.sv false [PV.sl _ _]), (3, RV.ptr 3 0), (4, RV.ptr 4 0), (6, RV.sv false [PV.sl _ _]), (7, RV.sv false [PV.val _]), (17, RV.sv false [PV.sl _ _]), (18, RV.sv false [PV.val _])]) (b0 := [(3, (92, [PV.sl _ _, PV.sl _ _])), (4, (66, [PV.val _, PV.sl _ _]))]) (fun k : Nat => k ≤ x.Queries.length) (fun k : Nat => [(8, RV.slc (.own 3 1) ((idsQ (x.Queries.take k)).map cInt)), (19, RV.int (k : Int))]) (fun k : Nat => []) (fun k : Nat => x.Queries.length - k) 0 (by omega) (by exact ⟨rfl, rfl, rfl, rfl, rfl, rfl, rfl, ⟨⟩⟩) (by exact ⟨rfl, rfl, ⟨⟩⟩) (by exact And.intro (by exact rfl) (And.intro (by exact rfl) (True.intro))) (by exact ⟨⟩) ?_
 rintro k hk
 refine sw_seq ?_
 refine sw_reg ?_
 refine rA ?_ (x := B_lss)
 refine sw_seq ?_
 refine sw_cond (t := 20) rfl (fun hb1 => ?_) (fun hb1 => ?_)
 ·try simp only [q1, q2, q3, q4, q5, q6, q7, q8, q9] at hb1
  have hltq : k < x.Queries.length := by omega
  have htl : (idsQ (x.Queries.take k)).length = k := by unfold idsQ; rw [List.length_map, List.length_take]; omega
  refine sw_skip ?_
  refine sw_seq ?_
  refine sw_block ?_
  refine sw_seq ?_
  refine sO [(2, _), (3, _), (4, _), (6, _), (7, _), (8, _), (17, _), (18, _), (19, _)] [(3, (92, [PV.sl _ _, PV.sl _ _])), (4, (66, [PV.val _, PV.sl _ _]))] ?_
  refine sw_reg ?_
  refine rA ?_ (x := loc_index (by decide) FIdi_sl_89 (by exact ⟨⟩) (by exact rfl) (by exact getm2 (by omega) rfl) (by exact rfl))
  refine rA ?_ (x := lE [PV.val _, PV.val _, PV.sl .v _, PV.sl .v _] FIdi_ty_65)
  refine RunS.step (by exact ⟨⟩) (by exact ⟨⟩) (LocG.of rfl (loc_alloc (by decide) FIdi_z_65 FIdi_zo_65)) (free1 (Free.app (Free.app (Free.of_ rfl) rfl) rfl)) ?_
  refine rA ?_ (x := loc_store (ag := true) (vs := [PV.val _, PV.val _, PV.sl _ _, PV.sl _ _]) FIdi_ty_65 (by exact ⟨⟩) (by exact rfl) (by exact Nat.le_of_ble_eq_true rfl))
  refine sO [(2, _), (3, _), (4, _), (6, _), (7, _), (8, _), (10, _), (17, _), (18, _), (19, _)] [(3, _), (4, _), (10, (65, [PV.val _, PV.val _, PV.sl _ _, PV.sl _ _]))] ?_
  refine sw_reg ?_
  refine rA ?_ (x := tM)
  refine rA ?_ (x := lF FIdi_fd_65_0)
  refine rA ?_ (x := lD [PV.val _] FIdi_ty_3)
  refine rA ?_ (x := loc_bslice (qs := [(false, [PV.val _])]) (by decide) FIdi_sl_25 FIdi_z_3 (by decide) rfl rfl rfl rfl rfl (by exact Nat.le_of_ble_eq_true rfl) (by exact (And.intro (by exact ⟨⟩) True.intro)) rfl)
  refine rA ?_ (x := loc_append (by decide) FIdi_sl_25 FIdi_z_3 rfl rfl (by decide) rfl (by simp only [List.length_map, List.length_append, List.length_cons, List.length_nil]; omega) (by simp only [List.length_map, List.length_append, List.length_cons, List.length_nil]; omega))
  refine rA ?_ (x := tA)
  refine sO [(2, _), (3, _), (4, _), (6, _), (7, _), (8, _), (10, _), (17, _), (18, _), (19, _)] [(3, _), (4, _), (10, _)] ?_
  refine sw_reg ?_
  refine rA ?_ (x := B_add)
  refine rA ?_ (x := sM)
  refine Exists.intro (k + 1) (And.intro (by omega) (And.intro (by omega) (And.intro (And.intro (by exact ⟨rfl, rfl, rfl, rfl, rfl, rfl, rfl, ⟨⟩⟩) (by exact ⟨rfl, rfl, ⟨⟩⟩)) (And.intro (by exact And.intro (by exact slc_eq (by unfold idsQ; rw [map_take_succ hltq, List.map_append]; rfl)) (And.intro (by exact rfl) (True.intro))) (by exact ⟨⟩)))))
 ·try simp only [q1, q2, q3, q4, q5, q6, q7, q8, q9] at hb1
  have hendq : k = x.Queries.length := by omega
  refine sw_exit ?_
  refine sw_seq ?_
  refine sO [(2, _), (3, _), (4, _), (6, _), (7, _), (8, _), (17, _), (18, _), (19, _)] [(3, (92, [PV.sl _ _, PV.sl _ _])), (4, (66, [PV.val _, PV.sl _ _]))] ?_
  refine sw_reg ?_
  refine rA ?_ (x := kA)
  refine sw_seq ?_
  refine sw_seq ?_
  refine sO [(2, _), (3, _), (4, _), (6, _), (7, _), (8, _), (11, _), (17, _), (18, _), (19, _)] [(3, _), (4, _)] ?_
  refine sw_reg ?_
  refine rA ?_ (x := vM false [PV.sl .v _])
  refine rA ?_ (x := lN FIdi_sl_25)
  refine rA ?_ (x := kM)
  refine sw_block ?_
  refine sO [(2, _), (3, _), (4, _), (6, _), (7, _), (8, _), (11, _), (17, _), (18, _), (19, _), (29, _), (30, _), (31, _)] [(3, _), (4, _)] ?_
  refine sw_loop (l0 := [(2, RV.sv false [PV.sl _ _]), (3, RV.ptr 3 0), (4, RV.ptr 4 0), (6, RV.sv false [PV.sl _ _]), (7, RV.sv false [PV.val _]), (17, RV.sv false [PV.sl _ _]), (18, RV.sv false [PV.val _]), (19, RV.sv false [PV.val _]), (29, RV.sv false [PV.sl _ _]), (30, RV.sv false [PV.val _])]) (b0 := [(3, (92, [PV.sl _ _, PV.sl _ _])), (4, (66, [PV.val _, PV.sl _ _]))]) (fun k : Nat => k ≤ o.length) (fun k : Nat => [(8, RV.slc (.own 3 1) ((probeTo x r o k).1.map cInt)), (11, RV.int (probeTo x r o k).2), (31, RV.int (k : Int))]) (fun k : Nat => []) (fun k : Nat => o.length - k) 0 (by omega) (by exact ⟨rfl, rfl, rfl, rfl, rfl, rfl, rfl, rfl, rfl, rfl, ⟨⟩⟩) (by exact ⟨rfl, rfl, ⟨⟩⟩) (by exact And.intro (by exact slc_eq (by rw [hendq, List.take_length]; rfl)) (And.intro (by exact rfl) (And.intro (by exact rfl) (True.intro)))) (by exact ⟨⟩) ?_
  rintro k hk
  refine sw_seq ?_
  refine sw_reg ?_
  refine rA ?_ (x := B_lss)
  refine sw_seq ?_
  refine sw_cond (t := 32) rfl (fun hb2 => ?_) (fun hb2 => ?_)
  ·try simp only [q1, q2, q3, q4, q5, q6, q7, q8, q9] at hb2
   have hlt : k < o.length := by omega
   have hof := ho.2 o[k] (List.getElem_mem hlt)
   have hff : o[k].toNat < x.Fields.length := by omega
   have hrf : o[k].toNat < r.Values.length := by omega
   have hpl := probe_len hq.1 r o k
   have hxf := hx.2.2 o[k].toNat (by omega)
   have hsi := stabIdx_len x.Queries (o[k].toNat : Int)
   rw [← hxf] at hsi
   have hss : ∀ s ∈ x.Fields.getD o[k].toNat [], s.Set.length ≤ 1048576 := fun s hs => Nat.le_trans (hsi.2 s hs) (by decide)
   have hfl := find_len hsi.2 (atI r.Values o[k])
   refine sw_skip ?_
   refine sw_seq ?_
   refine sw_block ?_
   refine sw_seq ?_
   refine sO [(2, _), (3, _), (4, _), (6, _), (7, _), (8, _), (11, _), (17, _), (18, _), (19, _), (29, _), (30, _), (31, _)] [(3, (92, [PV.sl _ _, PV.sl _ _])), (4, (66, [PV.val _, PV.sl _ _]))] ?_
   refine sw_reg ?_
   refine rA ?_ (x := loc_index (by decide) FIdi_sl_25 (by exact ⟨⟩) (by exact rfl) (by exact getm2 (by omega) rfl) (by exact rfl))
   refine rA ?_ (x := lE [PV.val _] FIdi_ty_3)
   refine rA ?_ (x := sA)
   refine sw_seq ?_
   refine sw_seq ?_
   refine sO [(2, _), (3, _), (4, _), (6, _), (7, _), (8, _), (11, _), (13, _), (17, _), (18, _), (19, _), (29, _), (30, _), (31, _)] [(3, _), (4, _)] ?_
   refine sw_reg ?_
   refine rA ?_ (x := vM false [PV.sl .v _])
   refine rA ?_ (x := lN FIdi_sl_25)
   refine rA ?_ (x := B_eql)
   refine sw_cond (t := 37) rfl (fun hb3 => ?_) (fun hb3 => ?_)
   ·try simp only [q1, q2, q3, q4, q5, q6, q7, q8, q9] at hb3
    have hpe := probe_end (x := x) (r := r) (o := o) (k := k) (.inr (by rw [← List.length_eq_zero_iff]; first | omega | (simp_all; done)))
    refine sw_exit ?_
    refine sw_seq ?_
    refine sO [(2, _), (3, _), (4, _), (6, _), (7, _), (8, _), (11, _), (13, _), (17, _), (18, _), (19, _), (29, _), (30, _), (31, _)] [(3, _), (4, _)] ?_
    refine sw_reg ?_
    refine rA ?_ (x := tM)
    refine rA ?_ (x := sM)
    refine rA ?_ (x := tA)
    refine rA ?_ (x := sA)
    refine sw_ret ?_
    exact (And.intro (by refine slc_eq ?_; rw [hpe]) (And.intro (by refine int_eq ?_; rw [hpe]) True.intro))
   ·try simp only [q1, q2, q3, q4, q5, q6, q7, q8, q9] at hb3
    have hne : (probeTo x r o k).1 ≠ [] := by intro e; simp_all
    have hpe := probeTo_succ (x := x) (r := r) hlt hne
    refine sw_skip ?_
    refine sw_seq ?_
    refine sO [(2, _), (3, _), (4, _), (6, _), (7, _), (8, _), (11, _), (13, _), (17, _), (18, _), (19, _), (29, _), (30, _), (31, _)] [(3, _), (4, _)] ?_
    refine sw_draw hm_ ?_
    refine dA 0 ?_ (x := lF FIdi_fd_92_1)
    refine dA 1 ?_ (x := lD [PV.sl .v _] FIdi_ty_90)
    refine dA 0 ?_ (x := sM)
    refine dA 7 ?_ (x := loc_index (k := o[k].toNat) (by decide) FIdi_sl_90 (by exact ⟨⟩) (by omega) (by exact getm2 hff (by rw [gDt_ (d := ([] : List Span)) hff])) (by exact rfl))
    refine dA 15 ?_ (x := lE [PV.sl .v _] FIdi_ty_205)
    refine dA 0 ?_ (x := lF FIdi_fd_66_1)
    refine dA 32 ?_ (x := lD [PV.sl .v _] FIdi_ty_25)
    refine dA 0 ?_ (x := sM)
    refine dA 224 ?_ (x := loc_index (k := o[k].toNat) (by decide) FIdi_sl_25 (by exact ⟨⟩) (by omega) (by exact getm2 hrf (by rw [gDt_ (d := (0 : Int)) hrf])) (by exact rfl))
    refine dA 480 ?_ (x := lE [PV.val _] FIdi_ty_3)
    refine dA 1023 ?_ (x := cL [(false, [PV.sl _ _]), (false, [PV.val _])] [(false, [PV.sl .v _]), (false, [PV.val _])] FIdi_c_199 (hs := by exact (impl_FindSpan (l := x.Fields.getD o[k].toNat []) (v := atI r.Values o[k]) hss)))
    refine dA 2047 ?_ (x := tA)
    refine sw_seq ?_
    refine sO [(2, _), (3, _), (4, _), (6, _), (7, _), (8, _), (11, _), (13, _), (14, _), (17, _), (18, _), (19, _), (29, _), (30, _), (31, _)] [(3, _), (4, _)] ?_
    refine sw_reg ?_
    refine rA ?_ (x := sM)
    refine rA ?_ (x := vM false [PV.sl .v _])
    refine rA ?_ (x := lN FIdi_sl_25)
    refine rA ?_ (x := vM false [PV.sl .v _])
    refine rA ?_ (x := lN FIdi_sl_25)
    refine rA ?_ (x := loc_min (by decide) (by exact ⟨⟩) (by exact ⟨⟩))
    refine rA ?_ (x := B_add)
    refine rA ?_ (x := B_add)
    refine rA ?_ (x := sA)
    refine sO [(2, _), (3, _), (4, _), (6, _), (7, _), (8, _), (11, _), (13, _), (14, _), (17, _), (18, _), (19, _), (29, _), (30, _), (31, _)] [(3, _), (4, _)] ?_
    refine sw_reg ?_
    refine rA ?_ (x := vM false [PV.sl .v _])
    refine rA ?_ (x := vM false [PV.sl .v _])
    refine rA ?_ (x := cL [(false, [PV.sl _ _]), (false, [PV.sl _ _])] [(false, [PV.sl .v _]), (false, [PV.sl .v _])] FIdi_c_200 (hs := by exact impl_MeetSets))
    refine rA ?_ (x := tA)
    refine sO [(2, _), (3, _), (4, _), (6, _), (7, _), (8, _), (11, _), (13, _), (14, _), (17, _), (18, _), (19, _), (29, _), (30, _), (31, _)] [(3, _), (4, _)] ?_
    refine sw_reg ?_
    refine rA ?_ (x := B_add)
    refine rA ?_ (x := sM)
    refine Exists.intro (k + 1) (And.intro (by omega) (And.intro (by omega) (And.intro (And.intro (by exact ⟨rfl, rfl, rfl, rfl, rfl, rfl, rfl, rfl, rfl, rfl, ⟨⟩⟩) (by exact ⟨rfl, rfl, ⟨⟩⟩)) (And.intro (by exact And.intro (by exact slc_eq (by rw [hpe])) (And.intro (by exact int_eq (by rw [hpe]; dsimp only; omega)) (And.intro (by exact rfl) (True.intro)))) (by exact ⟨⟩)))))
  ·try simp only [q1, q2, q3, q4, q5, q6, q7, q8, q9] at hb2
   have hpe := probe_end (x := x) (r := r) (.inl (show k = o.length by omega))
   refine sw_exit ?_
   refine sw_seq ?_
   refine sO [(2, _), (3, _), (4, _), (6, _), (7, _), (8, _), (11, _), (17, _), (18, _), (19, _), (29, _), (30, _), (31, _)] [(3, (92, [PV.sl _ _, PV.sl _ _])), (4, (66, [PV.val _, PV.sl _ _]))] ?_
   refine sw_reg ?_
   refine rA ?_ (x := tM)
   refine rA ?_ (x := sM)
   refine rA ?_ (x := tA)
   refine rA ?_ (x := sA)
   refine sw_ret ?_
   exact (And.intro (by refine slc_eq ?_; rw [hpe]) (And.intro (by refine int_eq ?_; rw [hpe]) True.intro))
end Go.Proofs.YteflgldonmgejaaGreat
