/- What functions of the program compute. No condition. -/
import Derived.Test.YteflgldonmgejaaGreatDoorCQuerActiveLines
import Derived.Test.YteflgldonmgejaaGreatDoorCStoActiveLines
import Derived.Test.YteflgldonmgejaaGreatDoorCChgActiveLines
import Derived.Test.YteflgldonmgejaaGreatDoorCDe
import Derived.KernelRfl
set_option linter.unusedVariables false
set_option linter.unusedSimpArgs false
namespace Go.Proofs.YteflgldonmgejaaGreatDoor
open Go Go.RowKit M
set_option maxRecDepth 10000
attribute [local irreducible] PV.Lcl PV.LclR RV.Lcl
theorem FEng_c_151 : callI Tryz.prog 151 = true := by kernel_rfl
theorem FEng_c_152 : callI Tryz.prog 152 = true := by kernel_rfl
theorem FEng_c_163 : callI Tryz.prog 163 = true := by kernel_rfl
theorem FEng_c_79 : callI Tryz.prog 79 = true := by kernel_rfl
theorem FEng_c_80 : callI Tryz.prog 80 = true := by kernel_rfl
theorem FEng_c_81 : callI Tryz.prog 81 = true := by kernel_rfl
theorem FEng_c_82 : callI Tryz.prog 82 = true := by kernel_rfl
theorem FEng_c_83 : callI Tryz.prog 83 = true := by kernel_rfl
theorem FEng_c_84 : callI Tryz.prog 84 = true := by kernel_rfl
theorem FEng_c_85 : callI Tryz.prog 85 = true := by kernel_rfl
theorem FEng_c_91 : callI Tryz.prog 91 = true := by kernel_rfl
theorem FEng_c_92 : callI Tryz.prog 92 = true := by kernel_rfl
theorem FEng_c_93 : callI Tryz.prog 93 = true := by kernel_rfl
theorem FEng_c_94 : callI Tryz.prog 94 = true := by kernel_rfl
theorem FEng_c_95 : callI Tryz.prog 95 = true := by kernel_rfl
theorem FEng_c_96 : callI Tryz.prog 96 = true := by kernel_rfl
theorem FEng_c_97 : callI Tryz.prog 97 = true := by kernel_rfl
theorem FEng_fd_132_0 : fieldI Tryz.prog 132 0 = some 0 := by kernel_rfl
theorem FEng_fd_132_1 : fieldI Tryz.prog 132 1 = some 4 := by kernel_rfl
theorem FEng_fd_132_2 : fieldI Tryz.prog 132 2 = some 5 := by kernel_rfl
theorem FEng_fd_132_3 : fieldI Tryz.prog 132 3 = some 6 := by kernel_rfl
theorem FEng_fd_35_0 : fieldI Tryz.prog 35 0 = some 0 := by kernel_rfl
theorem FEng_fd_35_1 : fieldI Tryz.prog 35 1 = some 1 := by kernel_rfl
theorem FEng_fd_40_0 : fieldI Tryz.prog 40 0 = some 0 := by kernel_rfl
theorem FEng_fd_40_1 : fieldI Tryz.prog 40 1 = some 2 := by kernel_rfl
theorem FEng_fd_40_2 : fieldI Tryz.prog 40 2 = some 3 := by kernel_rfl
theorem FEng_fd_40_3 : fieldI Tryz.prog 40 3 = some 4 := by kernel_rfl
theorem FEng_fd_40_4 : fieldI Tryz.prog 40 4 = some 5 := by kernel_rfl
theorem FEng_fd_40_5 : fieldI Tryz.prog 40 5 = some 6 := by kernel_rfl
theorem FEng_fd_40_6 : fieldI Tryz.prog 40 6 = some 7 := by kernel_rfl
theorem FEng_fd_51_0 : fieldI Tryz.prog 51 0 = some 0 := by kernel_rfl
theorem FEng_fd_85_0 : fieldI Tryz.prog 85 0 = some 0 := by kernel_rfl
theorem FEng_fd_85_1 : fieldI Tryz.prog 85 1 = some 4 := by kernel_rfl
theorem FEng_fd_85_2 : fieldI Tryz.prog 85 2 = some 5 := by kernel_rfl
theorem FEng_fd_85_3 : fieldI Tryz.prog 85 3 = some 6 := by kernel_rfl
theorem FEng_fd_85_4 : fieldI Tryz.prog 85 4 = some 7 := by kernel_rfl
theorem FEng_fd_85_5 : fieldI Tryz.prog 85 5 = some 8 := by kernel_rfl
theorem FEng_fd_85_6 : fieldI Tryz.prog 85 6 = some 9 := by kernel_rfl
theorem FEng_sl_25 : sliceI Tryz.prog 25 = some (3, 1, 8) := by kernel_rfl
theorem FEng_sl_33 : sliceI Tryz.prog 33 = some (138, 1, 24) := by kernel_rfl
theorem FEng_sl_36 : sliceI Tryz.prog 36 = some (85, 10, 144) := by kernel_rfl
theorem FEng_sl_37 : sliceI Tryz.prog 37 = some (132, 7, 104) := by kernel_rfl
theorem FEng_sl_38 : sliceI Tryz.prog 38 = some (136, 5, 88) := by kernel_rfl
theorem FEng_ty_132 : tyI Tryz.prog 132 = some (true, 7) := by kernel_rfl
theorem FEng_ty_136 : tyI Tryz.prog 136 = some (true, 5) := by kernel_rfl
theorem FEng_ty_25 : tyI Tryz.prog 25 = some (false, 1) := by kernel_rfl
theorem FEng_ty_3 : tyI Tryz.prog 3 = some (false, 1) := by kernel_rfl
theorem FEng_ty_33 : tyI Tryz.prog 33 = some (false, 1) := by kernel_rfl
theorem FEng_ty_35 : tyI Tryz.prog 35 = some (true, 2) := by kernel_rfl
theorem FEng_ty_36 : tyI Tryz.prog 36 = some (false, 1) := by kernel_rfl
theorem FEng_ty_37 : tyI Tryz.prog 37 = some (false, 1) := by kernel_rfl
theorem FEng_ty_38 : tyI Tryz.prog 38 = some (false, 1) := by kernel_rfl
theorem FEng_ty_40 : tyI Tryz.prog 40 = some (true, 8) := by kernel_rfl
theorem FEng_ty_51 : tyI Tryz.prog 51 = some (true, 4) := by kernel_rfl
theorem FEng_ty_83 : tyI Tryz.prog 83 = some (false, 1) := by kernel_rfl
theorem FEng_ty_85 : tyI Tryz.prog 85 = some (true, 10) := by kernel_rfl
theorem FEng_z_132 : zeroI Tryz.prog 132 = some (.agg #[.int .i64 0, .int .i64 0, .slice none 0 0, .slice none 0 0, .int .i64 0, .int .i64 0, .slice none 0 0]) := by kernel_rfl
theorem FEng_z_136 : zeroI Tryz.prog 136 = some (.agg #[.int .i64 0, .int .i64 0, .slice none 0 0, .slice none 0 0, .slice none 0 0]) := by kernel_rfl
theorem FEng_z_85 : zeroI Tryz.prog 85 = some (.agg #[.int .i64 0, .int .i64 0, .slice none 0 0, .slice none 0 0, .int .i64 0, .slice none 0 0, .int .i64 0, .int .i64 0, .int .i64 0, .slice none 0 0]) := by kernel_rfl
theorem FEng_zo_132 {Fz : FzT} {w : World} : OwnL [PV.val (.int .i64 0), PV.val (.int .i64 0), PV.sl (.own 165 3) [], PV.sl (.own 3 1) [], PV.val (.int .i64 0), PV.val (.int .i64 0), PV.sl (.own 53 2) []] Fz w (Value.cells (.agg #[.int .i64 0, .int .i64 0, .slice none 0 0, .slice none 0 0, .int .i64 0, .int .i64 0, .slice none 0 0])).toList [] := zo_val rfl (zo_val rfl (zo_sl (zo_sl (zo_val rfl (zo_val rfl (zo_sl (zo_nil)))))))
theorem FEng_zo_136 {Fz : FzT} {w : World} : OwnL [PV.val (.int .i64 0), PV.val (.int .i64 0), PV.sl (.own 3 1) [], PV.sl (.own 3 1) [], PV.sl (.own 3 1) []] Fz w (Value.cells (.agg #[.int .i64 0, .int .i64 0, .slice none 0 0, .slice none 0 0, .slice none 0 0])).toList [] := zo_val rfl (zo_val rfl (zo_sl (zo_sl (zo_sl (zo_nil)))))
theorem FEng_zo_85 {Fz : FzT} {w : World} : OwnL [PV.val (.int .i64 0), PV.val (.int .i64 0), PV.sl (.own 165 3) [], PV.sl (.own 3 1) [], PV.val (.int .i64 0), PV.sl (.own 3 1) [], PV.val (.int .i64 0), PV.val (.int .i64 0), PV.val (.int .i64 0), PV.sl (.own 53 2) []] Fz w (Value.cells (.agg #[.int .i64 0, .int .i64 0, .slice none 0 0, .slice none 0 0, .int .i64 0, .slice none 0 0, .int .i64 0, .int .i64 0, .int .i64 0, .slice none 0 0])).toList [] := zo_val rfl (zo_val rfl (zo_sl (zo_sl (zo_val rfl (zo_sl (zo_val rfl (zo_val rfl (zo_val rfl (zo_sl (zo_nil))))))))))
theorem spec_l6Order {o : List Int}  : SCall Tryz.prog 81 [(false, [PV.sl .v (o.map cInt)])] (resRV [(false, [PV.val (.bool (okOrder o))])]) := by
 refine scall_of (rs := [(false, [PV.val (.bool (okOrder o))])]) Tryz.func81 rfl (Nat.le_of_ble_eq_true rfl) (borA_cons (BorL.cons (PV.bor_sl _) BorL.nil) borA_nil) ?_
 intro h0 w0 Fz0
 refine sw_len (s := 0) rfl fun hl0 => ?_
 try rw [List.length_map] at hl0
 refine sw_seq ?_
 refine sw_reg ?_
 refine rA ?_ (x := kA)
 refine sw_seq ?_
 refine sw_seq ?_
 refine sO [(0, _), (2, _)] [] ?_
 refine sw_reg ?_
 refine rA ?_ (x := vM false [PV.sl .v _])
 refine rA ?_ (x := lN FEng_sl_25)
 refine rA ?_ (x := B_neq)
 refine sw_cond (t := 6) rfl (fun hb1 => ?_) (fun hb1 => ?_)
 ·try simp only [q1, q2, q3, q4, q5, q6, q7, q8, q9] at hb1
  have hbad : okOrder o = false := by unfold okOrder; rw [decide_eq_false (by omega)]; rfl
  refine sw_seq ?_
  refine sO [(0, _), (2, _)] [] ?_
  refine sw_reg ?_
  refine rA ?_ (x := kA)
  refine sw_ret ?_
  exact (And.intro (by refine bool_eq ?_; exact hbad.symm) True.intro)
 ·try simp only [q1, q2, q3, q4, q5, q6, q7, q8, q9] at hb1
  have hl3 : o.length = 3 := by omega
  refine sw_skip ?_
  refine sw_seq ?_
  refine sw_seq ?_
  refine sO [(0, _), (2, _)] [] ?_
  refine sw_reg ?_
  refine rA ?_ (x := kA)
  refine sw_block ?_
  refine sO [(0, _), (2, _), (3, _)] [] ?_
  refine sw_loop (l0 := [(0, RV.sv false [PV.sl _ _])]) (b0 := []) (fun k : Nat => k ≤ o.length ∧ ordTo o k = true) (fun k : Nat => [(3, RV.int (k : Int))]) (fun k : Nat => []) (fun k : Nat => o.length - k) 0 (by exact ⟨by omega, rfl⟩) (by exact ⟨rfl, ⟨⟩⟩) (by exact ⟨⟩) (by exact And.intro (by exact rfl) (True.intro)) (by exact ⟨⟩) ?_
  rintro k ⟨hk, ha⟩
  refine sw_seq ?_
  refine sw_seq ?_
  refine sw_reg ?_
  refine rA ?_ (x := sM)
  refine rA ?_ (x := vM false [PV.sl .v _])
  refine rA ?_ (x := lN FEng_sl_25)
  refine rA ?_ (x := B_lss)
  refine sw_cond (t := 10) rfl (fun hb2 => ?_) (fun hb2 => ?_)
  ·try simp only [q1, q2, q3, q4, q5, q6, q7, q8, q9] at hb2
   have hlt : k < o.length := by omega
   have hgk := gDt_ (d := (0 : Int)) hlt
   refine sw_skip ?_
   refine sw_seq ?_
   refine sw_block ?_
   refine sw_seq ?_
   refine sO [(0, _), (3, _)] [] ?_
   refine sw_draw hm_ ?_
   refine dA 0 ?_ (x := vM false [PV.sl .v _])
   refine dA 0 ?_ (x := sM)
   refine dA 3 ?_ (x := loc_index (by decide) FEng_sl_25 (by exact ⟨⟩) (by exact rfl) (by exact getm2 (by omega) rfl) (by exact rfl))
   refine dA 7 ?_ (x := lE [PV.val _] FEng_ty_3)
   refine dA 15 ?_ (x := cL [(false, [PV.val _]), (false, [PV.val _]), (false, [PV.val _])] [(false, [PV.val _]), (false, [PV.val _]), (false, [PV.val _])] FEng_c_80 (hs := by exact spec_l1In))
   refine dA 31 ?_ (x := nT)
   refine dA 63 ?_ (x := sM)
   refine Run.cases (s := 19) rfl (fun g3 => ?_) (fun g3 => ?_)
   ·have sg3 := g3
    try simp only [q1, q2, q3, q4, q5, q6, q7, q8, q9] at sg3
    refine dT 127 g3 ?_
    refine dT 127 g3 ?_
    refine dT 511 g3 ?_
    refine dT 127 g3 ?_
    refine dT 127 g3 ?_
    refine dT 3199 g3 ?_
    refine dT 7295 g3 ?_
    refine dT 16383 g3 ?_
    refine dA 32767 ?_ (x := pkT g3)
    refine sw_cond (t := 28) rfl (fun hb_ => ?_) (fun hb_ => nomatch hb_)
    have hno : (inB (o.getD k 0) 0 2 && !hasI (o.take k) (o.getD k 0)) = false := by rw [← hgk]; simp_all
    refine sw_seq ?_
    refine sO [(0, _), (3, _)] [] ?_
    refine sw_reg ?_
    refine rA ?_ (x := kA)
    refine sw_ret ?_
    exact (And.intro (by refine bool_eq ?_; exact (ord_no hl3 (by omega) hno).symm) True.intro)
   ·have sg3 := g3
    try simp only [q1, q2, q3, q4, q5, q6, q7, q8, q9] at sg3
    refine dB 127 g3 ?_ (x := vM false [PV.sl .v _])
    refine dB 127 g3 ?_ (x := sM)
    refine dB 511 g3 ?_ (x := loc_sliceM (i := 0) (j := k) (ys := (o.take k)) (q := (0 : Int)) (by decide) FEng_sl_25 (by exact rfl) (by exact ⟨⟩) (by omega) (by omega) (by omega) (by omega) (fun _ => rfl) (by simp))
    refine dB 127 g3 ?_ (x := vM false [PV.sl .v _])
    refine dB 127 g3 ?_ (x := sM)
    refine dB 3199 g3 ?_ (x := loc_index (by decide) FEng_sl_25 (by exact ⟨⟩) (by exact rfl) (by exact getm2 (by omega) rfl) (by exact rfl))
    refine dB 7295 g3 ?_ (x := lE [PV.val _] FEng_ty_3)
    refine dB 16383 g3 ?_ (x := cL [(false, [PV.sl _ _]), (false, [PV.val _])] [(false, [PV.sl .v _]), (false, [PV.val _])] FEng_c_151 (hs := by exact spec_HasMember))
    refine dA 32767 ?_ (x := pkF g3)
    refine sw_cond (t := 28) rfl (fun hb5 => ?_) (fun hb5 => ?_)
    ·try simp only [q1, q2, q3, q4, q5, q6, q7, q8, q9] at hb5
     have hno : (inB (o.getD k 0) 0 2 && !hasI (o.take k) (o.getD k 0)) = false := by rw [← hgk]; simp_all
     refine sw_seq ?_
     refine sO [(0, _), (3, _)] [] ?_
     refine sw_reg ?_
     refine rA ?_ (x := kA)
     refine sw_ret ?_
     exact (And.intro (by refine bool_eq ?_; exact (ord_no hl3 (by omega) hno).symm) True.intro)
    ·try simp only [q1, q2, q3, q4, q5, q6, q7, q8, q9] at hb5
     have hyes : (inB (o.getD k 0) 0 2 && !hasI (o.take k) (o.getD k 0)) = true := by rw [← hgk]; simp_all
     refine sw_skip ?_
     refine sO [(0, _), (3, _)] [] ?_
     refine sw_reg ?_
     refine rA ?_ (x := sM)
     refine rA ?_ (x := B_add)
     refine rA ?_ (x := sA)
     refine Exists.intro (k + 1) (And.intro (by exact ⟨by omega, by rw [ordTo_succ, ha, hyes]; rfl⟩) (And.intro (by omega) (And.intro (And.intro (by exact ⟨rfl, ⟨⟩⟩) (by exact ⟨⟩)) (And.intro (by exact And.intro (by exact rfl) (True.intro)) (by exact ⟨⟩)))))
  ·try simp only [q1, q2, q3, q4, q5, q6, q7, q8, q9] at hb2
   have hend : k = 3 := by omega
   rw [hend, ord_eq hl3] at ha
   refine sw_exit ?_
   refine sw_seq ?_
   refine sO [(0, _), (3, _)] [] ?_
   refine sw_reg ?_
   refine rA ?_ (x := kA)
   refine sw_ret ?_
   exact (And.intro (by refine bool_eq ?_; exact ha.symm) True.intro)
theorem impl_isOrder {o : List Int}  : SCall Tryz.prog 93 [(false, [PV.sl .v (o.map cInt)])] (resRV [(false, [PV.val (.bool (okOrder o))])]) := by
 refine scall_of (rs := [(false, [PV.val (.bool (okOrder o))])]) Tryz.func93 rfl (Nat.le_of_ble_eq_true rfl) (borA_cons (BorL.cons (PV.bor_sl _) BorL.nil) borA_nil) ?_
 intro h0 w0 Fz0
 refine sw_len (s := 0) rfl fun hl0 => ?_
 try rw [List.length_map] at hl0
 refine sw_seq ?_
 refine sw_reg ?_
 refine rA ?_ (x := kA)
 refine sw_seq ?_
 refine sw_seq ?_
 refine sO [(0, _), (2, _)] [] ?_
 refine sw_reg ?_
 refine rA ?_ (x := kA)
 refine sw_block ?_
 refine sO [(0, _), (2, _), (3, _)] [] ?_
 refine sw_loop (l0 := [(0, RV.sv false [PV.sl _ _])]) (b0 := []) (fun k : Nat => k ≤ 3 ∧ okOrdTo o k = true) (fun k : Nat => [(3, RV.int (k : Int))]) (fun k : Nat => []) (fun k : Nat => 3 - k) 0 (by exact ⟨by omega, rfl⟩) (by exact ⟨rfl, ⟨⟩⟩) (by exact ⟨⟩) (by exact And.intro (by exact rfl) (True.intro)) (by exact ⟨⟩) ?_
 rintro k ⟨hk, ha⟩
 refine sw_seq ?_
 refine sw_seq ?_
 refine sw_reg ?_
 refine rA ?_ (x := sM)
 refine rA ?_ (x := B_lss)
 refine sw_cond (t := 5) rfl (fun hb1 => ?_) (fun hb1 => ?_)
 ·try simp only [q1, q2, q3, q4, q5, q6, q7, q8, q9] at hb1
  have hlt : k < 3 := by omega
  refine sw_skip ?_
  refine sw_seq ?_
  refine sw_block ?_
  refine sw_seq ?_
  refine sO [(0, _), (3, _)] [] ?_
  refine sw_reg ?_
  refine rA ?_ (x := vM false [PV.sl .v _])
  refine rA ?_ (x := sM)
  refine rA ?_ (x := cL [(false, [PV.sl _ _]), (false, [PV.val _])] [(false, [PV.sl .v _]), (false, [PV.val _])] FEng_c_163 (hs := by exact impl_hasInt))
  refine rA ?_ (x := nT)
  refine sw_cond (t := 11) rfl (fun hb2 => ?_) (fun hb2 => ?_)
  ·try simp only [q1, q2, q3, q4, q5, q6, q7, q8, q9] at hb2
   have hno : hasI o (k : Int) = false := by simpa using hb2
   refine sw_seq ?_
   refine sO [(0, _), (3, _)] [] ?_
   refine sw_reg ?_
   refine rA ?_ (x := kA)
   refine sw_ret ?_
   exact (And.intro (by refine bool_eq ?_; exact (okOrd_no hlt hno).symm) True.intro)
  ·try simp only [q1, q2, q3, q4, q5, q6, q7, q8, q9] at hb2
   have hyes : hasI o (k : Int) = true := by simpa using hb2
   refine sw_skip ?_
   refine sO [(0, _), (3, _)] [] ?_
   refine sw_reg ?_
   refine rA ?_ (x := sM)
   refine rA ?_ (x := B_add)
   refine rA ?_ (x := sA)
   refine Exists.intro (k + 1) (And.intro (by exact ⟨by omega, by rw [okOrdTo_succ, ha, hyes]; rfl⟩) (And.intro (by omega) (And.intro (And.intro (by exact ⟨rfl, ⟨⟩⟩) (by exact ⟨⟩)) (And.intro (by exact And.intro (by exact int_eq (by omega)) (True.intro)) (by exact ⟨⟩)))))
 ·try simp only [q1, q2, q3, q4, q5, q6, q7, q8, q9] at hb1
  have hend : k = 3 := by omega
  rw [hend] at ha
  refine sw_exit ?_
  refine sw_seq ?_
  refine sO [(0, _), (3, _)] [] ?_
  refine sw_reg ?_
  refine rA ?_ (x := vM false [PV.sl .v _])
  refine rA ?_ (x := lN FEng_sl_25)
  refine rA ?_ (x := B_eql)
  refine rA ?_ (x := sA)
  refine sw_ret ?_
  exact (And.intro (by refine bool_eq ?_; rw [← okOrd_eq, ha, Bool.true_and]; first | rfl | (rw [decide_eq_decide]; omega) | (rw [Bool.eq_iff_iff]; simp; omega) | (rw [Bool.eq_iff_iff]; simp)) True.intro)
theorem impl_activeOk {p1 p2 p7 : Fl} {s : Store} {a : Active}  : SCall Tryz.prog 94 [(true, [PV.sl .v (s.Segments.map (cVersionS p1 p2)), PV.val (vI s.Now)]), (true, [PV.val (vI a.Query.Id), PV.val (vI a.Query.Tenant), PV.sl .v (a.Query.Conds.map cCond), PV.sl .v (a.Query.Out.map cInt), PV.val (vI a.Time), PV.sl .v (a.Todo.map cInt), PV.val (vI a.Age), PV.val (vI a.Sent), PV.val (vI a.Cap), PV.sl .v (a.Rows.map (cRow p7))])] (resRV [(false, [PV.val (.bool (okActive s a))])]) := by
 refine scall_of (rs := [(false, [PV.val (.bool (okActive s a))])]) Tryz.func94 rfl (Nat.le_of_ble_eq_true rfl) (borA_cons (BorL.cons (PV.bor_sl _) (BorL.cons (PV.bor_val _) BorL.nil)) (borA_cons (BorL.cons (PV.bor_val _) (BorL.cons (PV.bor_val _) (BorL.cons (PV.bor_sl _) (BorL.cons (PV.bor_sl _) (BorL.cons (PV.bor_val _) (BorL.cons (PV.bor_sl _) (BorL.cons (PV.bor_val _) (BorL.cons (PV.bor_val _) (BorL.cons (PV.bor_val _) (BorL.cons (PV.bor_sl _) BorL.nil)))))))))) borA_nil)) ?_
 intro h0 w0 Fz0
 refine sw_slen (s := 0) (j := 0) rfl rfl fun hl0_0 => ?_
 try rw [List.length_map] at hl0_0
 refine sw_slen (s := 1) (j := 2) rfl rfl fun hl1_2 => ?_
 try rw [List.length_map] at hl1_2
 refine sw_slen (s := 1) (j := 3) rfl rfl fun hl1_3 => ?_
 try rw [List.length_map] at hl1_3
 refine sw_slen (s := 1) (j := 5) rfl rfl fun hl1_5 => ?_
 try rw [List.length_map] at hl1_5
 refine sw_slen (s := 1) (j := 9) rfl rfl fun hl1_9 => ?_
 try rw [List.length_map] at hl1_9
 refine sw_seq ?_
 refine sw_reg ?_
 refine RunS.step (by exact ⟨rfl, ⟨⟩⟩) (by exact ⟨⟩) (LocG.of rfl (loc_box (ag := true) (cs := [PV.sl _ _, PV.val _]) (by decide) (by exact ⟨⟩))) (free1 (Free.of_ rfl)) ?_
 refine RunS.step (by exact ⟨rfl, ⟨⟩⟩) (by exact ⟨⟩) (LocG.of rfl (loc_box (ag := true) (cs := [PV.val _, PV.val _, PV.sl _ _, PV.sl _ _, PV.val _, PV.sl _ _, PV.val _, PV.val _, PV.val _, PV.sl _ _]) (by decide) (by exact ⟨⟩))) (free1 (Free.app (Free.of_ rfl) rfl)) ?_
 refine rA ?_ (x := kA)
 refine sw_seq ?_
 refine sw_seq ?_
 refine sO [(2, _), (3, _), (4, _)] [(2, (35, [PV.sl _ _, PV.val _])), (3, (85, [PV.val _, PV.val _, PV.sl _ _, PV.sl _ _, PV.val _, PV.sl _ _, PV.val _, PV.val _, PV.val _, PV.sl _ _]))] ?_
 refine sw_reg ?_
 refine rA ?_ (x := lF FEng_fd_85_2)
 refine rA ?_ (x := lD [PV.sl .v _] FEng_ty_25)
 refine rA ?_ (x := lN FEng_sl_25)
 refine rA ?_ (x := kM)
 refine sw_block ?_
 refine sO [(2, _), (3, _), (4, _), (8, _), (9, _), (10, _)] [(2, _), (3, _)] ?_
 refine sw_loop (l0 := [(2, RV.ptr 2 0), (3, RV.ptr 3 0), (8, RV.sv false [PV.sl _ _]), (9, RV.sv false [PV.val _])]) (b0 := [(2, (35, [PV.sl _ _, PV.val _])), (3, (85, [PV.val _, PV.val _, PV.sl _ _, PV.sl _ _, PV.val _, PV.sl _ _, PV.val _, PV.val _, PV.val _, PV.sl _ _]))]) (fun k : Nat => k ≤ a.Todo.length ∧ adjTo 0 (todoP s.Segments.length) ltI_ a.Todo k = true) (fun k : Nat => [(10, RV.int (k : Int))]) (fun k : Nat => []) (fun k : Nat => a.Todo.length - k) 0 (by exact ⟨by omega, rfl⟩) (by exact ⟨rfl, rfl, rfl, rfl, ⟨⟩⟩) (by exact ⟨rfl, rfl, ⟨⟩⟩) (by exact And.intro (by exact rfl) (True.intro)) (by exact ⟨⟩) ?_
 rintro k ⟨hk, ha⟩
 refine sw_seq ?_
 refine sw_reg ?_
 refine rA ?_ (x := B_lss)
 refine sw_seq ?_
 refine sw_cond (t := 11) rfl (fun hb1 => ?_) (fun hb1 => ?_)
 ·try simp only [q1, q2, q3, q4, q5, q6, q7, q8, q9] at hb1
  have hlt : k < a.Todo.length := by omega
  have hgk : a.Todo.getD k 0 = a.Todo[k] := getD_at hlt
  have hgp : 0 < k → a.Todo.getD (k - 1) 0 = a.Todo[k - 1] := fun h => getD_at (by omega)
  refine sw_skip ?_
  refine sw_seq ?_
  refine sw_block ?_
  refine sw_seq ?_
  refine sO [(2, _), (3, _), (8, _), (9, _), (10, _)] [(2, (35, [PV.sl _ _, PV.val _])), (3, (85, [PV.val _, PV.val _, PV.sl _ _, PV.sl _ _, PV.val _, PV.sl _ _, PV.val _, PV.val _, PV.val _, PV.sl _ _]))] ?_
  refine sw_reg ?_
  refine rA ?_ (x := sM)
  refine rA ?_ (x := loc_index (by decide) FEng_sl_25 (by exact ⟨⟩) (by exact rfl) (by exact getm2 (by omega) rfl) (by exact rfl))
  refine rA ?_ (x := lE [PV.val _] FEng_ty_3)
  refine rA ?_ (x := sA)
  refine rA ?_ (x := sA)
  refine sw_seq ?_
  refine sO [(2, _), (3, _), (5, _), (6, _), (8, _), (9, _), (10, _)] [(2, _), (3, _)] ?_
  refine sw_reg ?_
  refine rA ?_ (x := sM)
  refine rA ?_ (x := lF FEng_fd_35_0)
  refine rA ?_ (x := lD [PV.sl .v _] FEng_ty_33)
  refine rA ?_ (x := lN FEng_sl_33)
  refine rA ?_ (x := B_sub)
  refine rA ?_ (x := cL [(false, [PV.val _]), (false, [PV.val _]), (false, [PV.val _])] [(false, [PV.val _]), (false, [PV.val _]), (false, [PV.val _])] FEng_c_92 (hs := by exact impl_within))
  refine rA ?_ (x := nT)
  refine rA ?_ (x := sM)
  refine RunS.cases (s := 22) rfl (fun g2 => ?_) (fun g2 => ?_)
  ·have sg2 := g2
   try simp only [q1, q2, q3, q4, q5, q6, q7, q8, q9] at sg2
   refine RunS.s0t g2 ?_
   refine RunS.s0t g2 ?_
   refine RunS.s0t g2 ?_
   refine RunS.su ?_
   refine RunS.su ?_
   refine RunS.su ?_
   refine RunS.su ?_
   refine RunS.su ?_
   refine RunS.su ?_
   refine RunS.su ?_
   refine RunS.su ?_
   refine RunS.s0t g2 ?_
   refine rA ?_ (x := pkT g2)
   refine sw_cond (t := 35) rfl (fun hb_ => ?_) (fun hb_ => nomatch hb_)
   have hbad : adjAll 0 (todoP s.Segments.length) ltI_ a.Todo = false := adj_no hlt (Bool.eq_false_iff.2 fun hx => by
    have hx := adjStep.1 hx
    rw [hgk] at hx
    obtain ⟨hx1, hx2⟩ := hx
    first
    | (simp_all; done)
    | (simp only [decide_eq_true_eq, ltI_, todoP, inB, Bool.and_eq_true, Bool.and_eq_false_iff, decide_eq_false_iff_not] at *; by_cases h0 : k = 0 <;> (try rw [hgp (by omega)] at hx2) <;> omega))
   refine sw_seq ?_
   refine sO [(2, _), (3, _), (5, _), (6, _), (8, _), (9, _), (10, _)] [(2, _), (3, _)] ?_
   refine sw_reg ?_
   refine rA ?_ (x := kA)
   refine sw_ret ?_
   exact (And.intro (by refine bool_eq ?_; simp [okActive, okTodo, hbad]) True.intro)
  ·have sg2 := g2
   try simp only [q1, q2, q3, q4, q5, q6, q7, q8, q9] at sg2
   refine rB g2 ?_ (x := sM)
   refine rB g2 ?_ (x := B_gtr)
   refine rB g2 ?_ (x := sM)
   refine RunS.cases (s := 25) rfl (fun g4 => ?_) (fun g4 => ?_)
   ·have sg4 := g4
    try simp only [q1, q2, q3, q4, q5, q6, q7, q8, q9] at sg4
    refine rB g4 ?_ (x := lF FEng_fd_85_2)
    refine rB g4 ?_ (x := lD [PV.sl .v _] FEng_ty_25)
    refine rB g4 ?_ (x := sM)
    refine rB g4 ?_ (x := B_sub)
    refine rB g4 ?_ (x := loc_index (k := k - 1) (by decide) FEng_sl_25 (by exact ⟨⟩) (by omega) (by exact getm2 (by omega) rfl) (by exact rfl))
    refine rB g4 ?_ (x := lE [PV.val _] FEng_ty_3)
    refine rB g4 ?_ (x := sM)
    refine rB g4 ?_ (x := B_geq)
    refine rB g2 ?_ (x := pkT g4)
    refine rA ?_ (x := pkF g2)
    refine sw_cond (t := 35) rfl (fun hb5 => ?_) (fun hb5 => ?_)
    ·try simp only [q1, q2, q3, q4, q5, q6, q7, q8, q9] at hb5
     have hbad : adjAll 0 (todoP s.Segments.length) ltI_ a.Todo = false := adj_no hlt (Bool.eq_false_iff.2 fun hx => by
      have hx := adjStep.1 hx
      rw [hgk] at hx
      obtain ⟨hx1, hx2⟩ := hx
      first
      | (simp_all; done)
      | (simp only [decide_eq_true_eq, ltI_, todoP, inB, Bool.and_eq_true, Bool.and_eq_false_iff, decide_eq_false_iff_not] at *; by_cases h0 : k = 0 <;> (try rw [hgp (by omega)] at hx2) <;> omega))
     refine sw_seq ?_
     refine sO [(2, _), (3, _), (5, _), (6, _), (8, _), (9, _), (10, _)] [(2, _), (3, _)] ?_
     refine sw_reg ?_
     refine rA ?_ (x := kA)
     refine sw_ret ?_
     exact (And.intro (by refine bool_eq ?_; simp [okActive, okTodo, hbad]) True.intro)
    ·try simp only [q1, q2, q3, q4, q5, q6, q7, q8, q9] at hb5
     refine sw_skip ?_
     refine sO [(2, _), (3, _), (5, _), (6, _), (8, _), (9, _), (10, _)] [(2, _), (3, _)] ?_
     refine sw_reg ?_
     refine rA ?_ (x := B_add)
     refine rA ?_ (x := sM)
     refine Exists.intro (k + 1) (And.intro (by exact ⟨by omega, by rw [adjTo_succ, ha, Bool.true_and]; refine adjStep.2 ⟨by rw [hgk]; first | assumption | simp_all, ?_⟩; rcases Nat.eq_zero_or_pos k with h0 | h0; (· exact .inl h0); (· right; rw [hgk, hgp h0]; first | (simp only [decide_eq_true_eq, ltI_, todoP, inB, Bool.and_eq_true, Bool.and_eq_false_iff, decide_eq_false_iff_not] at *; omega) | (simp_all; done))⟩) (And.intro (by omega) (And.intro (And.intro (by exact ⟨rfl, rfl, rfl, rfl, ⟨⟩⟩) (by exact ⟨rfl, rfl, ⟨⟩⟩)) (And.intro (by exact And.intro (by exact rfl) (True.intro)) (by exact ⟨⟩)))))
   ·have sg4 := g4
    try simp only [q1, q2, q3, q4, q5, q6, q7, q8, q9] at sg4
    refine RunS.s0f g4 ?_
    refine RunS.s0f g4 ?_
    refine RunS.s0f g4 ?_
    refine RunS.s0f g4 ?_
    refine RunS.s0f g4 ?_
    refine RunS.s0f g4 ?_
    refine RunS.s0f g4 ?_
    refine RunS.s0f g4 ?_
    refine rB g2 ?_ (x := pkF g4)
    refine rA ?_ (x := pkF g2)
    refine sw_cond (t := 35) rfl (fun hb_ => nomatch hb_) (fun hb_ => ?_)
    refine sw_skip ?_
    refine sO [(2, _), (3, _), (5, _), (6, _), (8, _), (9, _), (10, _)] [(2, _), (3, _)] ?_
    refine sw_reg ?_
    refine rA ?_ (x := B_add)
    refine rA ?_ (x := sM)
    refine Exists.intro (k + 1) (And.intro (by exact ⟨by omega, by rw [adjTo_succ, ha, Bool.true_and]; refine adjStep.2 ⟨by rw [hgk]; first | assumption | simp_all, ?_⟩; rcases Nat.eq_zero_or_pos k with h0 | h0; (· exact .inl h0); (· right; rw [hgk, hgp h0]; first | (simp only [decide_eq_true_eq, ltI_, todoP, inB, Bool.and_eq_true, Bool.and_eq_false_iff, decide_eq_false_iff_not] at *; omega) | (simp_all; done))⟩) (And.intro (by omega) (And.intro (And.intro (by exact ⟨rfl, rfl, rfl, rfl, ⟨⟩⟩) (by exact ⟨rfl, rfl, ⟨⟩⟩)) (And.intro (by exact And.intro (by exact rfl) (True.intro)) (by exact ⟨⟩)))))
 ·try simp only [q1, q2, q3, q4, q5, q6, q7, q8, q9] at hb1
  have hend : k = a.Todo.length := by omega
  have hall : adjAll 0 (todoP s.Segments.length) ltI_ a.Todo = true := adj_end ha hend
  refine sw_exit ?_
  refine sw_seq ?_
  refine sO [(2, _), (3, _), (8, _), (9, _), (10, _)] [(2, (35, [PV.sl _ _, PV.val _])), (3, (85, [PV.val _, PV.val _, PV.sl _ _, PV.sl _ _, PV.val _, PV.sl _ _, PV.val _, PV.val _, PV.val _, PV.sl _ _]))] ?_
  refine sw_reg ?_
  refine rA ?_ (x := lF FEng_fd_85_2)
  refine rA ?_ (x := lD [PV.sl .v _] FEng_ty_25)
  refine rA ?_ (x := lN FEng_sl_25)
  refine rA ?_ (x := B_gtr)
  refine rA ?_ (x := sM)
  refine RunS.cases (s := 41) rfl (fun g7 => ?_) (fun g7 => ?_)
  ·have sg7 := g7
   try simp only [q1, q2, q3, q4, q5, q6, q7, q8, q9] at sg7
   refine rB g7 ?_ (x := lF FEng_fd_85_0)
   refine rB g7 ?_ (x := lD [PV.val _, PV.val _, PV.sl .v _, PV.sl .v _] FEng_ty_51)
   refine rB g7 ?_ (x := cL [(true, [PV.val _, PV.val _, PV.sl _ _, PV.sl _ _])] [(true, [PV.val _, PV.val _, PV.sl .v _, PV.sl .v _])] FEng_c_95 (hs := by exact impl_IsQuery))
   refine rA ?_ (x := pkT g7)
   refine rA ?_ (x := sM)
   refine RunS.cases (s := 46) rfl (fun g8 => ?_) (fun g8 => ?_)
   ·have sg8 := g8
    try simp only [q1, q2, q3, q4, q5, q6, q7, q8, q9] at sg8
    refine rB g8 ?_ (x := lF FEng_fd_85_1)
    refine rB g8 ?_ (x := lD [PV.val _] FEng_ty_3)
    refine rB g8 ?_ (x := lF FEng_fd_35_1)
    refine rB g8 ?_ (x := lD [PV.val _] FEng_ty_3)
    refine rB g8 ?_ (x := cL [(false, [PV.val _]), (false, [PV.val _]), (false, [PV.val _])] [(false, [PV.val _]), (false, [PV.val _]), (false, [PV.val _])] FEng_c_92 (hs := by exact impl_within))
    refine rA ?_ (x := pkT g8)
    refine rA ?_ (x := sM)
    refine RunS.cases (s := 53) rfl (fun g9 => ?_) (fun g9 => ?_)
    ·have sg9 := g9
     try simp only [q1, q2, q3, q4, q5, q6, q7, q8, q9] at sg9
     refine rB g9 ?_ (x := lF FEng_fd_85_3)
     refine rB g9 ?_ (x := lD [PV.val _] FEng_ty_3)
     refine rB g9 ?_ (x := cL [(false, [PV.val _]), (false, [PV.val _]), (false, [PV.val _])] [(false, [PV.val _]), (false, [PV.val _]), (false, [PV.val _])] FEng_c_92 (hs := by exact impl_within))
     refine rA ?_ (x := pkT g9)
     refine rA ?_ (x := sM)
     refine RunS.cases (s := 58) rfl (fun g10 => ?_) (fun g10 => ?_)
     ·have sg10 := g10
      try simp only [q1, q2, q3, q4, q5, q6, q7, q8, q9] at sg10
      refine rB g10 ?_ (x := lF FEng_fd_85_4)
      refine rB g10 ?_ (x := lD [PV.val _] FEng_ty_3)
      refine rB g10 ?_ (x := cL [(false, [PV.val _]), (false, [PV.val _]), (false, [PV.val _])] [(false, [PV.val _]), (false, [PV.val _]), (false, [PV.val _])] FEng_c_92 (hs := by exact impl_within))
      refine rA ?_ (x := pkT g10)
      refine rA ?_ (x := sM)
      refine RunS.cases (s := 63) rfl (fun g11 => ?_) (fun g11 => ?_)
      ·have sg11 := g11
       try simp only [q1, q2, q3, q4, q5, q6, q7, q8, q9] at sg11
       refine rB g11 ?_ (x := lF FEng_fd_85_5)
       refine rB g11 ?_ (x := lD [PV.val _] FEng_ty_3)
       refine rB g11 ?_ (x := cL [(false, [PV.val _]), (false, [PV.val _]), (false, [PV.val _])] [(false, [PV.val _]), (false, [PV.val _]), (false, [PV.val _])] FEng_c_92 (hs := by exact impl_within))
       refine rA ?_ (x := pkT g11)
       refine rA ?_ (x := sM)
       refine RunS.cases (s := 68) rfl (fun g12 => ?_) (fun g12 => ?_)
       ·have sg12 := g12
        try simp only [q1, q2, q3, q4, q5, q6, q7, q8, q9] at sg12
        refine rB g12 ?_ (x := lF FEng_fd_85_6)
        refine rB g12 ?_ (x := lD [PV.sl .v _] FEng_ty_83)
        refine rB g12 ?_ (x := cL [(false, [PV.sl _ _])] [(false, [PV.sl .v _])] FEng_c_96 (hs := by exact impl_resultOk))
        refine rA ?_ (x := pkT g12)
        refine rA ?_ (x := sA)
        refine sw_ret ?_
        exact (And.intro (by refine bool_eq ?_; first | (simp_all [okActive, okTodo]; done) | (simp_all [okActive, okTodo]; rfl) | (simp_all [okActive, okTodo]; omega) | (simp_all [okActive, okTodo]; intros; omega)) True.intro)
       ·have sg12 := g12
        try simp only [q1, q2, q3, q4, q5, q6, q7, q8, q9] at sg12
        refine RunS.s0f g12 ?_
        refine RunS.s0f g12 ?_
        refine RunS.s0f g12 ?_
        refine rA ?_ (x := pkF g12)
        refine rA ?_ (x := sA)
        refine sw_ret ?_
        exact (And.intro (by refine bool_eq ?_; first | (simp_all [okActive, okTodo]; done) | (simp_all [okActive, okTodo]; rfl) | (simp_all [okActive, okTodo]; omega) | (simp_all [okActive, okTodo]; intros; omega)) True.intro)
      ·have sg11 := g11
       try simp only [q1, q2, q3, q4, q5, q6, q7, q8, q9] at sg11
       refine RunS.s0f g11 ?_
       refine RunS.s0f g11 ?_
       refine RunS.s0f g11 ?_
       refine rA ?_ (x := pkF g11)
       refine rA ?_ (x := sM)
       refine RunS.cases (s := 68) rfl (fun g13 => nomatch g13) (fun g13 => ?_)
       refine RunS.s0f g13 ?_
       refine RunS.s0f g13 ?_
       refine RunS.s0f g13 ?_
       refine rA ?_ (x := pkF g13)
       refine rA ?_ (x := sA)
       refine sw_ret ?_
       exact (And.intro (by refine bool_eq ?_; first | (simp_all [okActive, okTodo]; done) | (simp_all [okActive, okTodo]; rfl) | (simp_all [okActive, okTodo]; omega) | (simp_all [okActive, okTodo]; intros; omega)) True.intro)
     ·have sg10 := g10
      try simp only [q1, q2, q3, q4, q5, q6, q7, q8, q9] at sg10
      refine RunS.s0f g10 ?_
      refine RunS.s0f g10 ?_
      refine RunS.s0f g10 ?_
      refine rA ?_ (x := pkF g10)
      refine rA ?_ (x := sM)
      refine RunS.cases (s := 63) rfl (fun g14 => nomatch g14) (fun g14 => ?_)
      refine RunS.s0f g14 ?_
      refine RunS.s0f g14 ?_
      refine RunS.s0f g14 ?_
      refine rA ?_ (x := pkF g14)
      refine rA ?_ (x := sM)
      refine RunS.cases (s := 68) rfl (fun g15 => nomatch g15) (fun g15 => ?_)
      refine RunS.s0f g15 ?_
      refine RunS.s0f g15 ?_
      refine RunS.s0f g15 ?_
      refine rA ?_ (x := pkF g15)
      refine rA ?_ (x := sA)
      refine sw_ret ?_
      exact (And.intro (by refine bool_eq ?_; first | (simp_all [okActive, okTodo]; done) | (simp_all [okActive, okTodo]; rfl) | (simp_all [okActive, okTodo]; omega) | (simp_all [okActive, okTodo]; intros; omega)) True.intro)
    ·have sg9 := g9
     try simp only [q1, q2, q3, q4, q5, q6, q7, q8, q9] at sg9
     refine RunS.s0f g9 ?_
     refine RunS.s0f g9 ?_
     refine RunS.s0f g9 ?_
     refine rA ?_ (x := pkF g9)
     refine rA ?_ (x := sM)
     refine RunS.cases (s := 58) rfl (fun g16 => nomatch g16) (fun g16 => ?_)
     refine RunS.s0f g16 ?_
     refine RunS.s0f g16 ?_
     refine RunS.s0f g16 ?_
     refine rA ?_ (x := pkF g16)
     refine rA ?_ (x := sM)
     refine RunS.cases (s := 63) rfl (fun g17 => nomatch g17) (fun g17 => ?_)
     refine RunS.s0f g17 ?_
     refine RunS.s0f g17 ?_
     refine RunS.s0f g17 ?_
     refine rA ?_ (x := pkF g17)
     refine rA ?_ (x := sM)
     refine RunS.cases (s := 68) rfl (fun g18 => nomatch g18) (fun g18 => ?_)
     refine RunS.s0f g18 ?_
     refine RunS.s0f g18 ?_
     refine RunS.s0f g18 ?_
     refine rA ?_ (x := pkF g18)
     refine rA ?_ (x := sA)
     refine sw_ret ?_
     exact (And.intro (by refine bool_eq ?_; first | (simp_all [okActive, okTodo]; done) | (simp_all [okActive, okTodo]; rfl) | (simp_all [okActive, okTodo]; omega) | (simp_all [okActive, okTodo]; intros; omega)) True.intro)
   ·have sg8 := g8
    try simp only [q1, q2, q3, q4, q5, q6, q7, q8, q9] at sg8
    refine RunS.s0f g8 ?_
    refine RunS.s0f g8 ?_
    refine RunS.s0f g8 ?_
    refine RunS.s0f g8 ?_
    refine RunS.s0f g8 ?_
    refine rA ?_ (x := pkF g8)
    refine rA ?_ (x := sM)
    refine RunS.cases (s := 53) rfl (fun g19 => nomatch g19) (fun g19 => ?_)
    refine RunS.s0f g19 ?_
    refine RunS.s0f g19 ?_
    refine RunS.s0f g19 ?_
    refine rA ?_ (x := pkF g19)
    refine rA ?_ (x := sM)
    refine RunS.cases (s := 58) rfl (fun g20 => nomatch g20) (fun g20 => ?_)
    refine RunS.s0f g20 ?_
    refine RunS.s0f g20 ?_
    refine RunS.s0f g20 ?_
    refine rA ?_ (x := pkF g20)
    refine rA ?_ (x := sM)
    refine RunS.cases (s := 63) rfl (fun g21 => nomatch g21) (fun g21 => ?_)
    refine RunS.s0f g21 ?_
    refine RunS.s0f g21 ?_
    refine RunS.s0f g21 ?_
    refine rA ?_ (x := pkF g21)
    refine rA ?_ (x := sM)
    refine RunS.cases (s := 68) rfl (fun g22 => nomatch g22) (fun g22 => ?_)
    refine RunS.s0f g22 ?_
    refine RunS.s0f g22 ?_
    refine RunS.s0f g22 ?_
    refine rA ?_ (x := pkF g22)
    refine rA ?_ (x := sA)
    refine sw_ret ?_
    exact (And.intro (by refine bool_eq ?_; first | (simp_all [okActive, okTodo]; done) | (simp_all [okActive, okTodo]; rfl) | (simp_all [okActive, okTodo]; omega) | (simp_all [okActive, okTodo]; intros; omega)) True.intro)
  ·have sg7 := g7
   try simp only [q1, q2, q3, q4, q5, q6, q7, q8, q9] at sg7
   refine RunS.s0f g7 ?_
   refine RunS.s0f g7 ?_
   refine RunS.s0f g7 ?_
   refine rA ?_ (x := pkF g7)
   refine rA ?_ (x := sM)
   refine RunS.cases (s := 46) rfl (fun g23 => nomatch g23) (fun g23 => ?_)
   refine RunS.s0f g23 ?_
   refine RunS.s0f g23 ?_
   refine RunS.s0f g23 ?_
   refine RunS.s0f g23 ?_
   refine RunS.s0f g23 ?_
   refine rA ?_ (x := pkF g23)
   refine rA ?_ (x := sM)
   refine RunS.cases (s := 53) rfl (fun g24 => nomatch g24) (fun g24 => ?_)
   refine RunS.s0f g24 ?_
   refine RunS.s0f g24 ?_
   refine RunS.s0f g24 ?_
   refine rA ?_ (x := pkF g24)
   refine rA ?_ (x := sM)
   refine RunS.cases (s := 58) rfl (fun g25 => nomatch g25) (fun g25 => ?_)
   refine RunS.s0f g25 ?_
   refine RunS.s0f g25 ?_
   refine RunS.s0f g25 ?_
   refine rA ?_ (x := pkF g25)
   refine rA ?_ (x := sM)
   refine RunS.cases (s := 63) rfl (fun g26 => nomatch g26) (fun g26 => ?_)
   refine RunS.s0f g26 ?_
   refine RunS.s0f g26 ?_
   refine RunS.s0f g26 ?_
   refine rA ?_ (x := pkF g26)
   refine rA ?_ (x := sM)
   refine RunS.cases (s := 68) rfl (fun g27 => nomatch g27) (fun g27 => ?_)
   refine RunS.s0f g27 ?_
   refine RunS.s0f g27 ?_
   refine RunS.s0f g27 ?_
   refine rA ?_ (x := pkF g27)
   refine rA ?_ (x := sA)
   refine sw_ret ?_
   exact (And.intro (by refine bool_eq ?_; first | (simp_all [okActive, okTodo]; done) | (simp_all [okActive, okTodo]; rfl) | (simp_all [okActive, okTodo]; omega) | (simp_all [okActive, okTodo]; intros; omega)) True.intro)
theorem spec_l9Todo {l : List Int} {n : Int}  (hn : 0 ≤ n ∧ n ≤ 9223372036854775807) : SCall Tryz.prog 152 [(false, [PV.sl .v (l.map cInt)]), (false, [PV.val (vI n)])] (resRV [(false, [PV.val (.bool (okTodo l n))])]) := by
 refine scall_of (rs := [(false, [PV.val (.bool (okTodo l n))])]) Tryz.func152 rfl (Nat.le_of_ble_eq_true rfl) (borA_cons (BorL.cons (PV.bor_sl _) BorL.nil) (borA_cons (BorL.cons (PV.bor_val _) BorL.nil) borA_nil)) ?_
 intro h0 w0 Fz0
 refine sw_len (s := 0) rfl fun hl0 => ?_
 try rw [List.length_map] at hl0
 refine sw_seq ?_
 refine sw_reg ?_
 refine rA ?_ (x := kA)
 refine sw_seq ?_
 refine sw_seq ?_
 refine sO [(0, _), (1, _), (4, _)] [] ?_
 refine sw_reg ?_
 refine rA ?_ (x := kA)
 refine sw_block ?_
 refine sO [(0, _), (1, _), (4, _), (5, _)] [] ?_
 refine sw_loop (l0 := [(0, RV.sv false [PV.sl _ _]), (1, RV.sv false [PV.val _])]) (b0 := []) (fun k : Nat => k ≤ l.length ∧ adjTo 0 (todoP n) ltI_ l k = true) (fun k : Nat => [(5, RV.int (k : Int))]) (fun k : Nat => []) (fun k : Nat => l.length - k) 0 (by exact ⟨by omega, rfl⟩) (by exact ⟨rfl, rfl, ⟨⟩⟩) (by exact ⟨⟩) (by exact And.intro (by exact rfl) (True.intro)) (by exact ⟨⟩) ?_
 rintro k ⟨hk, ha⟩
 refine sw_seq ?_
 refine sw_seq ?_
 refine sw_reg ?_
 refine rA ?_ (x := sM)
 refine rA ?_ (x := vM false [PV.sl .v _])
 refine rA ?_ (x := lN FEng_sl_25)
 refine rA ?_ (x := B_lss)
 refine sw_cond (t := 9) rfl (fun hb1 => ?_) (fun hb1 => ?_)
 ·try simp only [q1, q2, q3, q4, q5, q6, q7, q8, q9] at hb1
  have hlt : k < l.length := by omega
  have hgk : l.getD k 0 = l[k] := getD_at hlt
  have hgp : 0 < k → l.getD (k - 1) 0 = l[k - 1] := fun h => getD_at (by omega)
  refine sw_skip ?_
  refine sw_seq ?_
  refine sw_block ?_
  refine sw_seq ?_
  refine sO [(0, _), (1, _), (5, _)] [] ?_
  refine sw_draw hm_ ?_
  refine dA 0 ?_ (x := vM false [PV.sl .v _])
  refine dA 0 ?_ (x := sM)
  refine dA 3 ?_ (x := loc_index (by decide) FEng_sl_25 (by exact ⟨⟩) (by exact rfl) (by exact getm2 (by omega) rfl) (by exact rfl))
  refine dA 7 ?_ (x := lE [PV.val _] FEng_ty_3)
  refine dA 0 ?_ (x := sM)
  refine dA 16 ?_ (x := B_sub)
  refine dA 63 ?_ (x := cL [(false, [PV.val _]), (false, [PV.val _]), (false, [PV.val _])] [(false, [PV.val _]), (false, [PV.val _]), (false, [PV.val _])] FEng_c_80 (hs := by exact spec_l1In))
  refine dA 127 ?_ (x := nT)
  refine dA 255 ?_ (x := sM)
  refine Run.cases (s := 20) rfl (fun g2 => ?_) (fun g2 => ?_)
  ·have sg2 := g2
   try simp only [q1, q2, q3, q4, q5, q6, q7, q8, q9] at sg2
   refine dT 511 g2 ?_
   refine dT 1023 g2 ?_
   refine dT 2047 g2 ?_
   refine dU 4095 ?_
   refine dU 4095 ?_
   refine dU 16383 ?_
   refine dU 32767 ?_
   refine dU 4095 ?_
   refine dU 4095 ?_
   refine dU 135167 ?_
   refine dU 462847 ?_
   refine dU 987135 ?_
   refine dU 2097151 ?_
   refine dT 4194303 g2 ?_
   refine dA 8388607 ?_ (x := pkT g2)
   refine sw_cond (t := 35) rfl (fun hb_ => ?_) (fun hb_ => nomatch hb_)
   have hbad : adjAll 0 (todoP n) ltI_ l = false := adj_no hlt (Bool.eq_false_iff.2 fun hx => by
    have hx := adjStep.1 hx
    rw [hgk] at hx
    obtain ⟨hx1, hx2⟩ := hx
    first
    | (simp_all; done)
    | (simp only [decide_eq_true_eq, ltI_, todoP, inB, Bool.and_eq_true, Bool.and_eq_false_iff, decide_eq_false_iff_not] at *; by_cases h0 : k = 0 <;> (try rw [hgp (by omega)] at hx2) <;> omega))
   refine sw_seq ?_
   refine sO [(0, _), (1, _), (5, _)] [] ?_
   refine sw_reg ?_
   refine rA ?_ (x := kA)
   refine sw_ret ?_
   exact (And.intro (by refine bool_eq ?_; simp [okTodo, hbad]) True.intro)
  ·have sg2 := g2
   try simp only [q1, q2, q3, q4, q5, q6, q7, q8, q9] at sg2
   refine dB 511 g2 ?_ (x := sM)
   refine dB 1023 g2 ?_ (x := B_gtr)
   refine dB 2047 g2 ?_ (x := sM)
   refine Run.cases (s := 23) rfl (fun g4 => ?_) (fun g4 => ?_)
   ·have sg4 := g4
    try simp only [q1, q2, q3, q4, q5, q6, q7, q8, q9] at sg4
    refine dB 4095 g4 ?_ (x := vM false [PV.sl .v _])
    refine dB 4095 g4 ?_ (x := sM)
    refine dB 16383 g4 ?_ (x := loc_index (by decide) FEng_sl_25 (by exact ⟨⟩) (by exact rfl) (by exact getm2 (by omega) rfl) (by exact rfl))
    refine dB 32767 g4 ?_ (x := lE [PV.val _] FEng_ty_3)
    refine dB 4095 g4 ?_ (x := vM false [PV.sl .v _])
    refine dB 4095 g4 ?_ (x := sM)
    refine dB 135167 g4 ?_ (x := B_sub)
    refine dB 462847 g4 ?_ (x := loc_index (k := k - 1) (by decide) FEng_sl_25 (by exact ⟨⟩) (by omega) (by exact getm2 (by omega) rfl) (by exact rfl))
    refine dB 987135 g4 ?_ (x := lE [PV.val _] FEng_ty_3)
    refine dB 2097151 g4 ?_ (x := B_leq)
    refine dB 4194303 g2 ?_ (x := pkT g4)
    refine dA 8388607 ?_ (x := pkF g2)
    refine sw_cond (t := 35) rfl (fun hb5 => ?_) (fun hb5 => ?_)
    ·try simp only [q1, q2, q3, q4, q5, q6, q7, q8, q9] at hb5
     have hbad : adjAll 0 (todoP n) ltI_ l = false := adj_no hlt (Bool.eq_false_iff.2 fun hx => by
      have hx := adjStep.1 hx
      rw [hgk] at hx
      obtain ⟨hx1, hx2⟩ := hx
      first
      | (simp_all; done)
      | (simp only [decide_eq_true_eq, ltI_, todoP, inB, Bool.and_eq_true, Bool.and_eq_false_iff, decide_eq_false_iff_not] at *; by_cases h0 : k = 0 <;> (try rw [hgp (by omega)] at hx2) <;> omega))
     refine sw_seq ?_
     refine sO [(0, _), (1, _), (5, _)] [] ?_
     refine sw_reg ?_
     refine rA ?_ (x := kA)
     refine sw_ret ?_
     exact (And.intro (by refine bool_eq ?_; simp [okTodo, hbad]) True.intro)
    ·try simp only [q1, q2, q3, q4, q5, q6, q7, q8, q9] at hb5
     refine sw_skip ?_
     refine sO [(0, _), (1, _), (5, _)] [] ?_
     refine sw_reg ?_
     refine rA ?_ (x := sM)
     refine rA ?_ (x := B_add)
     refine rA ?_ (x := sA)
     refine Exists.intro (k + 1) (And.intro (by exact ⟨by omega, by rw [adjTo_succ, ha, Bool.true_and]; refine adjStep.2 ⟨by rw [hgk]; first | assumption | simp_all, ?_⟩; rcases Nat.eq_zero_or_pos k with h0 | h0; (· exact .inl h0); (· right; rw [hgk, hgp h0]; first | (simp only [decide_eq_true_eq, ltI_, todoP, inB, Bool.and_eq_true, Bool.and_eq_false_iff, decide_eq_false_iff_not] at *; omega) | (simp_all; done))⟩) (And.intro (by omega) (And.intro (And.intro (by exact ⟨rfl, rfl, ⟨⟩⟩) (by exact ⟨⟩)) (And.intro (by exact And.intro (by exact rfl) (True.intro)) (by exact ⟨⟩)))))
   ·have sg4 := g4
    try simp only [q1, q2, q3, q4, q5, q6, q7, q8, q9] at sg4
    refine dF 4095 g4 ?_
    refine dF 4095 g4 ?_
    refine dF 16383 g4 ?_
    refine dF 32767 g4 ?_
    refine dF 4095 g4 ?_
    refine dF 4095 g4 ?_
    refine dF 135167 g4 ?_
    refine dF 462847 g4 ?_
    refine dF 987135 g4 ?_
    refine dF 2097151 g4 ?_
    refine dB 4194303 g2 ?_ (x := pkF g4)
    refine dA 8388607 ?_ (x := pkF g2)
    refine sw_cond (t := 35) rfl (fun hb_ => nomatch hb_) (fun hb_ => ?_)
    refine sw_skip ?_
    refine sO [(0, _), (1, _), (5, _)] [] ?_
    refine sw_reg ?_
    refine rA ?_ (x := sM)
    refine rA ?_ (x := B_add)
    refine rA ?_ (x := sA)
    refine Exists.intro (k + 1) (And.intro (by exact ⟨by omega, by rw [adjTo_succ, ha, Bool.true_and]; refine adjStep.2 ⟨by rw [hgk]; first | assumption | simp_all, ?_⟩; rcases Nat.eq_zero_or_pos k with h0 | h0; (· exact .inl h0); (· right; rw [hgk, hgp h0]; first | (simp only [decide_eq_true_eq, ltI_, todoP, inB, Bool.and_eq_true, Bool.and_eq_false_iff, decide_eq_false_iff_not] at *; omega) | (simp_all; done))⟩) (And.intro (by omega) (And.intro (And.intro (by exact ⟨rfl, rfl, ⟨⟩⟩) (by exact ⟨⟩)) (And.intro (by exact And.intro (by exact rfl) (True.intro)) (by exact ⟨⟩)))))
 ·try simp only [q1, q2, q3, q4, q5, q6, q7, q8, q9] at hb1
  have hend : k = l.length := by omega
  have hall : adjAll 0 (todoP n) ltI_ l = true := adj_end ha hend
  refine sw_exit ?_
  refine sw_seq ?_
  refine sO [(0, _), (1, _), (5, _)] [] ?_
  refine sw_reg ?_
  refine rA ?_ (x := vM false [PV.sl .v _])
  refine rA ?_ (x := lN FEng_sl_25)
  refine rA ?_ (x := B_gtr)
  refine rA ?_ (x := sA)
  refine sw_ret ?_
  exact (And.intro (by refine bool_eq ?_; first | (simp_all [okTodo]; done) | (simp_all [okTodo]; rfl) | (simp_all [okTodo]; omega) | (simp_all [okTodo]; intros; omega)) True.intro)
theorem spec_l9Active {p1 p2 p5 p6 p7 p8 p9 p11 p12 p13 p14 p16 p17 p18 p23 : Fl} {e : Engine} {a : Active}  : SCall Tryz.prog 82 [(true, [PV.sl .v (e.Store.Segments.map (cVersionS p1 p2)), PV.val (vI e.Store.Now), PV.val (vI e.Cursor), PV.sl .v (e.Order.map cInt), PV.sl .v (e.Active.map (cActive p5 p6 p7 p8 p9)), PV.sl .v (e.Done.map (cFinished p11 p12 p13 p14)), PV.sl .v (e.Ledger.map (cCharge p16 p17 p18)), PV.val (vI e.Steps)]), (true, [PV.val (vI a.Query.Id), PV.val (vI a.Query.Tenant), PV.sl .v (a.Query.Conds.map cCond), PV.sl .v (a.Query.Out.map cInt), PV.val (vI a.Time), PV.sl .v (a.Todo.map cInt), PV.val (vI a.Age), PV.val (vI a.Sent), PV.val (vI a.Cap), PV.sl .v (a.Rows.map (cRow p23))])] (resRV [(false, [PV.val (.bool (okActive e.Store a))])]) := by
 refine scall_of (rs := [(false, [PV.val (.bool (okActive e.Store a))])]) Tryz.func82 rfl (Nat.le_of_ble_eq_true rfl) (borA_cons (BorL.cons (PV.bor_sl _) (BorL.cons (PV.bor_val _) (BorL.cons (PV.bor_val _) (BorL.cons (PV.bor_sl _) (BorL.cons (PV.bor_sl _) (BorL.cons (PV.bor_sl _) (BorL.cons (PV.bor_sl _) (BorL.cons (PV.bor_val _) BorL.nil)))))))) (borA_cons (BorL.cons (PV.bor_val _) (BorL.cons (PV.bor_val _) (BorL.cons (PV.bor_sl _) (BorL.cons (PV.bor_sl _) (BorL.cons (PV.bor_val _) (BorL.cons (PV.bor_sl _) (BorL.cons (PV.bor_val _) (BorL.cons (PV.bor_val _) (BorL.cons (PV.bor_val _) (BorL.cons (PV.bor_sl _) BorL.nil)))))))))) borA_nil)) ?_
 intro h0 w0 Fz0
 refine sw_slen (s := 0) (j := 0) rfl rfl fun hl0_0 => ?_
 try rw [List.length_map] at hl0_0
 refine sw_slen (s := 0) (j := 3) rfl rfl fun hl0_3 => ?_
 try rw [List.length_map] at hl0_3
 refine sw_slen (s := 0) (j := 4) rfl rfl fun hl0_4 => ?_
 try rw [List.length_map] at hl0_4
 refine sw_slen (s := 0) (j := 5) rfl rfl fun hl0_5 => ?_
 try rw [List.length_map] at hl0_5
 refine sw_slen (s := 0) (j := 6) rfl rfl fun hl0_6 => ?_
 try rw [List.length_map] at hl0_6
 refine sw_slen (s := 1) (j := 2) rfl rfl fun hl1_2 => ?_
 try rw [List.length_map] at hl1_2
 refine sw_slen (s := 1) (j := 3) rfl rfl fun hl1_3 => ?_
 try rw [List.length_map] at hl1_3
 refine sw_slen (s := 1) (j := 5) rfl rfl fun hl1_5 => ?_
 try rw [List.length_map] at hl1_5
 refine sw_slen (s := 1) (j := 9) rfl rfl fun hl1_9 => ?_
 try rw [List.length_map] at hl1_9
 refine sw_seq ?_
 refine sw_reg ?_
 refine RunS.step (by exact ⟨rfl, ⟨⟩⟩) (by exact ⟨⟩) (LocG.of rfl (loc_box (ag := true) (cs := [PV.sl _ _, PV.val _, PV.val _, PV.sl _ _, PV.sl _ _, PV.sl _ _, PV.sl _ _, PV.val _]) (by decide) (by exact ⟨⟩))) (free1 (Free.of_ rfl)) ?_
 refine RunS.step (by exact ⟨rfl, ⟨⟩⟩) (by exact ⟨⟩) (LocG.of rfl (loc_box (ag := true) (cs := [PV.val _, PV.val _, PV.sl _ _, PV.sl _ _, PV.val _, PV.sl _ _, PV.val _, PV.val _, PV.val _, PV.sl _ _]) (by decide) (by exact ⟨⟩))) (free1 (Free.app (Free.of_ rfl) rfl)) ?_
 refine rA ?_ (x := kA)
 refine sw_seq ?_
 refine sO [(2, _), (3, _), (4, _)] [(2, (40, [PV.sl _ _, PV.val _, PV.val _, PV.sl _ _, PV.sl _ _, PV.sl _ _, PV.sl _ _, PV.val _])), (3, (85, [PV.val _, PV.val _, PV.sl _ _, PV.sl _ _, PV.val _, PV.sl _ _, PV.val _, PV.val _, PV.val _, PV.sl _ _]))] ?_
 refine sw_reg ?_
 refine rA ?_ (x := lF FEng_fd_85_0)
 refine rA ?_ (x := lD [PV.val _, PV.val _, PV.sl .v _, PV.sl .v _] FEng_ty_51)
 refine rA ?_ (x := cL [(true, [PV.val _, PV.val _, PV.sl _ _, PV.sl _ _])] [(true, [PV.val _, PV.val _, PV.sl .v _, PV.sl .v _])] FEng_c_83 (hs := by exact spec_IsQuery))
 refine rA ?_ (x := sM)
 refine RunS.cases (s := 8) rfl (fun g1 => ?_) (fun g1 => ?_)
 ·have sg1 := g1
  try simp only [q1, q2, q3, q4, q5, q6, q7, q8, q9] at sg1
  refine rB g1 ?_ (x := lF FEng_fd_85_1)
  refine rB g1 ?_ (x := lD [PV.val _] FEng_ty_3)
  refine rB g1 ?_ (x := lF FEng_fd_40_0)
  refine rB g1 ?_ (x := lF FEng_fd_35_1)
  refine rB g1 ?_ (x := lD [PV.val _] FEng_ty_3)
  refine rB g1 ?_ (x := cL [(false, [PV.val _]), (false, [PV.val _]), (false, [PV.val _])] [(false, [PV.val _]), (false, [PV.val _]), (false, [PV.val _])] FEng_c_80 (hs := by exact spec_l1In))
  refine rA ?_ (x := pkT g1)
  refine rA ?_ (x := sM)
  refine RunS.cases (s := 16) rfl (fun g2 => ?_) (fun g2 => ?_)
  ·have sg2 := g2
   try simp only [q1, q2, q3, q4, q5, q6, q7, q8, q9] at sg2
   refine rB g2 ?_ (x := lF FEng_fd_85_2)
   refine rB g2 ?_ (x := lD [PV.sl .v _] FEng_ty_25)
   refine rB g2 ?_ (x := lF FEng_fd_40_0)
   refine rB g2 ?_ (x := lF FEng_fd_35_0)
   refine rB g2 ?_ (x := lD [PV.sl .v _] FEng_ty_33)
   refine rB g2 ?_ (x := lN FEng_sl_33)
   refine rB g2 ?_ (x := cL [(false, [PV.sl _ _]), (false, [PV.val _])] [(false, [PV.sl .v _]), (false, [PV.val _])] FEng_c_152 (hs := by exact (spec_l9Todo (by omega))))
   refine rA ?_ (x := pkT g2)
   refine rA ?_ (x := sM)
   refine RunS.cases (s := 25) rfl (fun g3 => ?_) (fun g3 => ?_)
   ·have sg3 := g3
    try simp only [q1, q2, q3, q4, q5, q6, q7, q8, q9] at sg3
    refine rB g3 ?_ (x := lF FEng_fd_85_3)
    refine rB g3 ?_ (x := lD [PV.val _] FEng_ty_3)
    refine rB g3 ?_ (x := cL [(false, [PV.val _]), (false, [PV.val _]), (false, [PV.val _])] [(false, [PV.val _]), (false, [PV.val _]), (false, [PV.val _])] FEng_c_80 (hs := by exact spec_l1In))
    refine rA ?_ (x := pkT g3)
    refine rA ?_ (x := sM)
    refine RunS.cases (s := 30) rfl (fun g4 => ?_) (fun g4 => ?_)
    ·have sg4 := g4
     try simp only [q1, q2, q3, q4, q5, q6, q7, q8, q9] at sg4
     refine rB g4 ?_ (x := lF FEng_fd_85_4)
     refine rB g4 ?_ (x := lD [PV.val _] FEng_ty_3)
     refine rB g4 ?_ (x := cL [(false, [PV.val _]), (false, [PV.val _]), (false, [PV.val _])] [(false, [PV.val _]), (false, [PV.val _]), (false, [PV.val _])] FEng_c_80 (hs := by exact spec_l1In))
     refine rA ?_ (x := pkT g4)
     refine rA ?_ (x := sM)
     refine RunS.cases (s := 35) rfl (fun g5 => ?_) (fun g5 => ?_)
     ·have sg5 := g5
      try simp only [q1, q2, q3, q4, q5, q6, q7, q8, q9] at sg5
      refine rB g5 ?_ (x := lF FEng_fd_85_5)
      refine rB g5 ?_ (x := lD [PV.val _] FEng_ty_3)
      refine rB g5 ?_ (x := cL [(false, [PV.val _]), (false, [PV.val _]), (false, [PV.val _])] [(false, [PV.val _]), (false, [PV.val _]), (false, [PV.val _])] FEng_c_80 (hs := by exact spec_l1In))
      refine rA ?_ (x := pkT g5)
      refine rA ?_ (x := sM)
      refine RunS.cases (s := 40) rfl (fun g6 => ?_) (fun g6 => ?_)
      ·have sg6 := g6
       try simp only [q1, q2, q3, q4, q5, q6, q7, q8, q9] at sg6
       refine rB g6 ?_ (x := lF FEng_fd_85_6)
       refine rB g6 ?_ (x := lD [PV.sl .v _] FEng_ty_83)
       refine rB g6 ?_ (x := cL [(false, [PV.sl _ _])] [(false, [PV.sl .v _])] FEng_c_84 (hs := by exact spec_l9List))
       refine rA ?_ (x := pkT g6)
       refine rA ?_ (x := sA)
       refine sw_ret ?_
       exact (And.intro (by refine bool_eq ?_; first | (simp_all [okActive]; done) | (simp_all [okActive]; rfl) | (simp_all [okActive]; omega) | (simp_all [okActive]; intros; omega)) True.intro)
      ·have sg6 := g6
       try simp only [q1, q2, q3, q4, q5, q6, q7, q8, q9] at sg6
       refine RunS.s0f g6 ?_
       refine RunS.s0f g6 ?_
       refine RunS.s0f g6 ?_
       refine rA ?_ (x := pkF g6)
       refine rA ?_ (x := sA)
       refine sw_ret ?_
       exact (And.intro (by refine bool_eq ?_; first | (simp_all [okActive]; done) | (simp_all [okActive]; rfl) | (simp_all [okActive]; omega) | (simp_all [okActive]; intros; omega)) True.intro)
     ·have sg5 := g5
      try simp only [q1, q2, q3, q4, q5, q6, q7, q8, q9] at sg5
      refine RunS.s0f g5 ?_
      refine RunS.s0f g5 ?_
      refine RunS.s0f g5 ?_
      refine rA ?_ (x := pkF g5)
      refine rA ?_ (x := sM)
      refine RunS.cases (s := 40) rfl (fun g7 => nomatch g7) (fun g7 => ?_)
      refine RunS.s0f g7 ?_
      refine RunS.s0f g7 ?_
      refine RunS.s0f g7 ?_
      refine rA ?_ (x := pkF g7)
      refine rA ?_ (x := sA)
      refine sw_ret ?_
      exact (And.intro (by refine bool_eq ?_; first | (simp_all [okActive]; done) | (simp_all [okActive]; rfl) | (simp_all [okActive]; omega) | (simp_all [okActive]; intros; omega)) True.intro)
    ·have sg4 := g4
     try simp only [q1, q2, q3, q4, q5, q6, q7, q8, q9] at sg4
     refine RunS.s0f g4 ?_
     refine RunS.s0f g4 ?_
     refine RunS.s0f g4 ?_
     refine rA ?_ (x := pkF g4)
     refine rA ?_ (x := sM)
     refine RunS.cases (s := 35) rfl (fun g8 => nomatch g8) (fun g8 => ?_)
     refine RunS.s0f g8 ?_
     refine RunS.s0f g8 ?_
     refine RunS.s0f g8 ?_
     refine rA ?_ (x := pkF g8)
     refine rA ?_ (x := sM)
     refine RunS.cases (s := 40) rfl (fun g9 => nomatch g9) (fun g9 => ?_)
     refine RunS.s0f g9 ?_
     refine RunS.s0f g9 ?_
     refine RunS.s0f g9 ?_
     refine rA ?_ (x := pkF g9)
     refine rA ?_ (x := sA)
     refine sw_ret ?_
     exact (And.intro (by refine bool_eq ?_; first | (simp_all [okActive]; done) | (simp_all [okActive]; rfl) | (simp_all [okActive]; omega) | (simp_all [okActive]; intros; omega)) True.intro)
   ·have sg3 := g3
    try simp only [q1, q2, q3, q4, q5, q6, q7, q8, q9] at sg3
    refine RunS.s0f g3 ?_
    refine RunS.s0f g3 ?_
    refine RunS.s0f g3 ?_
    refine rA ?_ (x := pkF g3)
    refine rA ?_ (x := sM)
    refine RunS.cases (s := 30) rfl (fun g10 => nomatch g10) (fun g10 => ?_)
    refine RunS.s0f g10 ?_
    refine RunS.s0f g10 ?_
    refine RunS.s0f g10 ?_
    refine rA ?_ (x := pkF g10)
    refine rA ?_ (x := sM)
    refine RunS.cases (s := 35) rfl (fun g11 => nomatch g11) (fun g11 => ?_)
    refine RunS.s0f g11 ?_
    refine RunS.s0f g11 ?_
    refine RunS.s0f g11 ?_
    refine rA ?_ (x := pkF g11)
    refine rA ?_ (x := sM)
    refine RunS.cases (s := 40) rfl (fun g12 => nomatch g12) (fun g12 => ?_)
    refine RunS.s0f g12 ?_
    refine RunS.s0f g12 ?_
    refine RunS.s0f g12 ?_
    refine rA ?_ (x := pkF g12)
    refine rA ?_ (x := sA)
    refine sw_ret ?_
    exact (And.intro (by refine bool_eq ?_; first | (simp_all [okActive]; done) | (simp_all [okActive]; rfl) | (simp_all [okActive]; omega) | (simp_all [okActive]; intros; omega)) True.intro)
  ·have sg2 := g2
   try simp only [q1, q2, q3, q4, q5, q6, q7, q8, q9] at sg2
   refine RunS.s0f g2 ?_
   refine RunS.s0f g2 ?_
   refine RunS.s0f g2 ?_
   refine RunS.s0f g2 ?_
   refine RunS.s0f g2 ?_
   refine RunS.s0f g2 ?_
   refine RunS.s0f g2 ?_
   refine rA ?_ (x := pkF g2)
   refine rA ?_ (x := sM)
   refine RunS.cases (s := 25) rfl (fun g13 => nomatch g13) (fun g13 => ?_)
   refine RunS.s0f g13 ?_
   refine RunS.s0f g13 ?_
   refine RunS.s0f g13 ?_
   refine rA ?_ (x := pkF g13)
   refine rA ?_ (x := sM)
   refine RunS.cases (s := 30) rfl (fun g14 => nomatch g14) (fun g14 => ?_)
   refine RunS.s0f g14 ?_
   refine RunS.s0f g14 ?_
   refine RunS.s0f g14 ?_
   refine rA ?_ (x := pkF g14)
   refine rA ?_ (x := sM)
   refine RunS.cases (s := 35) rfl (fun g15 => nomatch g15) (fun g15 => ?_)
   refine RunS.s0f g15 ?_
   refine RunS.s0f g15 ?_
   refine RunS.s0f g15 ?_
   refine rA ?_ (x := pkF g15)
   refine rA ?_ (x := sM)
   refine RunS.cases (s := 40) rfl (fun g16 => nomatch g16) (fun g16 => ?_)
   refine RunS.s0f g16 ?_
   refine RunS.s0f g16 ?_
   refine RunS.s0f g16 ?_
   refine rA ?_ (x := pkF g16)
   refine rA ?_ (x := sA)
   refine sw_ret ?_
   exact (And.intro (by refine bool_eq ?_; first | (simp_all [okActive]; done) | (simp_all [okActive]; rfl) | (simp_all [okActive]; omega) | (simp_all [okActive]; intros; omega)) True.intro)
 ·have sg1 := g1
  try simp only [q1, q2, q3, q4, q5, q6, q7, q8, q9] at sg1
  refine RunS.s0f g1 ?_
  refine RunS.s0f g1 ?_
  refine RunS.s0f g1 ?_
  refine RunS.s0f g1 ?_
  refine RunS.s0f g1 ?_
  refine RunS.s0f g1 ?_
  refine rA ?_ (x := pkF g1)
  refine rA ?_ (x := sM)
  refine RunS.cases (s := 16) rfl (fun g17 => nomatch g17) (fun g17 => ?_)
  refine RunS.s0f g17 ?_
  refine RunS.s0f g17 ?_
  refine RunS.s0f g17 ?_
  refine RunS.s0f g17 ?_
  refine RunS.s0f g17 ?_
  refine RunS.s0f g17 ?_
  refine RunS.s0f g17 ?_
  refine rA ?_ (x := pkF g17)
  refine rA ?_ (x := sM)
  refine RunS.cases (s := 25) rfl (fun g18 => nomatch g18) (fun g18 => ?_)
  refine RunS.s0f g18 ?_
  refine RunS.s0f g18 ?_
  refine RunS.s0f g18 ?_
  refine rA ?_ (x := pkF g18)
  refine rA ?_ (x := sM)
  refine RunS.cases (s := 30) rfl (fun g19 => nomatch g19) (fun g19 => ?_)
  refine RunS.s0f g19 ?_
  refine RunS.s0f g19 ?_
  refine RunS.s0f g19 ?_
  refine rA ?_ (x := pkF g19)
  refine rA ?_ (x := sM)
  refine RunS.cases (s := 35) rfl (fun g20 => nomatch g20) (fun g20 => ?_)
  refine RunS.s0f g20 ?_
  refine RunS.s0f g20 ?_
  refine RunS.s0f g20 ?_
  refine rA ?_ (x := pkF g20)
  refine rA ?_ (x := sM)
  refine RunS.cases (s := 40) rfl (fun g21 => nomatch g21) (fun g21 => ?_)
  refine RunS.s0f g21 ?_
  refine RunS.s0f g21 ?_
  refine RunS.s0f g21 ?_
  refine rA ?_ (x := pkF g21)
  refine rA ?_ (x := sA)
  refine sw_ret ?_
  exact (And.intro (by refine bool_eq ?_; first | (simp_all [okActive]; done) | (simp_all [okActive]; rfl) | (simp_all [okActive]; omega) | (simp_all [okActive]; intros; omega)) True.intro)
theorem impl_IsEngine {p1 p2 p5 p6 p7 p8 p9 p11 p12 p13 p14 p16 p17 p18 : Fl} {e : Engine}  (hb : wtEngine e ≤ 68719476736) : SCall Tryz.prog 38 [(true, [PV.sl .v (e.Store.Segments.map (cVersionS p1 p2)), PV.val (vI e.Store.Now), PV.val (vI e.Cursor), PV.sl .v (e.Order.map cInt), PV.sl .v (e.Active.map (cActive p5 p6 p7 p8 p9)), PV.sl .v (e.Done.map (cFinished p11 p12 p13 p14)), PV.sl .v (e.Ledger.map (cCharge p16 p17 p18)), PV.val (vI e.Steps)])] (resRV [(false, [PV.val (.bool (okEngine e))])]) := by
 refine scall_of (rs := [(false, [PV.val (.bool (okEngine e))])]) Tryz.func38 rfl (Nat.le_of_ble_eq_true rfl) (borA_cons (BorL.cons (PV.bor_sl _) (BorL.cons (PV.bor_val _) (BorL.cons (PV.bor_val _) (BorL.cons (PV.bor_sl _) (BorL.cons (PV.bor_sl _) (BorL.cons (PV.bor_sl _) (BorL.cons (PV.bor_sl _) (BorL.cons (PV.bor_val _) BorL.nil)))))))) borA_nil) ?_
 intro h0 w0 Fz0
 refine sw_slen (s := 0) (j := 0) rfl rfl fun hl0_0 => ?_
 try rw [List.length_map] at hl0_0
 refine sw_slen (s := 0) (j := 3) rfl rfl fun hl0_3 => ?_
 try rw [List.length_map] at hl0_3
 refine sw_slen (s := 0) (j := 4) rfl rfl fun hl0_4 => ?_
 try rw [List.length_map] at hl0_4
 refine sw_slen (s := 0) (j := 5) rfl rfl fun hl0_5 => ?_
 try rw [List.length_map] at hl0_5
 refine sw_slen (s := 0) (j := 6) rfl rfl fun hl0_6 => ?_
 try rw [List.length_map] at hl0_6
 have hbu := hb
 simp only [wtEngine] at hbu
 refine sw_seq ?_
 refine sw_reg ?_
 refine RunS.step (by exact ⟨rfl, ⟨⟩⟩) (by exact ⟨⟩) (LocG.of rfl (loc_box (ag := true) (cs := [PV.sl _ _, PV.val _, PV.val _, PV.sl _ _, PV.sl _ _, PV.sl _ _, PV.sl _ _, PV.val _]) (by decide) (by exact ⟨⟩))) (free1 (Free.of_ rfl)) ?_
 refine rA ?_ (x := kA)
 refine sw_seq ?_
 refine sw_seq ?_
 refine sO [(1, _), (2, _)] [(1, (40, [PV.sl _ _, PV.val _, PV.val _, PV.sl _ _, PV.sl _ _, PV.sl _ _, PV.sl _ _, PV.val _]))] ?_
 refine sw_reg ?_
 refine rA ?_ (x := lF FEng_fd_40_0)
 refine rA ?_ (x := lD [PV.sl .v _, PV.val _] FEng_ty_35)
 refine rA ?_ (x := cL [(true, [PV.sl _ _, PV.val _])] [(true, [PV.sl .v _, PV.val _])] FEng_c_91 (hs := by exact impl_IsStore (by omega)))
 refine rA ?_ (x := nT)
 refine rA ?_ (x := sM)
 refine RunS.cases (s := 13) rfl (fun g1 => ?_) (fun g1 => ?_)
 ·have sg1 := g1
  try simp only [q1, q2, q3, q4, q5, q6, q7, q8, q9] at sg1
  refine RunS.s0t g1 ?_
  refine RunS.s0t g1 ?_
  refine RunS.s0t g1 ?_
  refine RunS.s0t g1 ?_
  refine RunS.s0t g1 ?_
  refine RunS.s0t g1 ?_
  refine RunS.s0t g1 ?_
  refine RunS.s0t g1 ?_
  refine RunS.s0t g1 ?_
  refine rA ?_ (x := pkT g1)
  refine rA ?_ (x := sM)
  refine RunS.cases (s := 24) rfl (fun g2 => ?_) (fun g2 => nomatch g2)
  refine RunS.s0t g2 ?_
  refine RunS.s0t g2 ?_
  refine RunS.s0t g2 ?_
  refine RunS.s0t g2 ?_
  refine rA ?_ (x := pkT g2)
  refine rA ?_ (x := sM)
  refine RunS.cases (s := 30) rfl (fun g3 => ?_) (fun g3 => nomatch g3)
  refine RunS.s0t g3 ?_
  refine RunS.s0t g3 ?_
  refine RunS.s0t g3 ?_
  refine RunS.s0t g3 ?_
  refine rA ?_ (x := pkT g3)
  refine sw_cond (t := 35) rfl (fun hb_ => ?_) (fun hb_ => nomatch hb_)
  have hpr : engPre e = false := by first | (simp_all [engPre]; done) | (simp_all [engPre]; omega) | (rw [← Bool.not_eq_true]; intro hc_; simp [engPre] at hc_; simp_all; done) | (rw [← Bool.not_eq_true]; intro hc_; simp [engPre] at hc_; omega)
  have hbad := eng_no1 hpr
  refine sw_seq ?_
  refine sO [(1, _), (2, _)] [(1, _)] ?_
  refine sw_reg ?_
  refine rA ?_ (x := kA)
  refine sw_ret ?_
  exact (And.intro (by refine bool_eq ?_; exact hbad.symm) True.intro)
 ·have sg1 := g1
  try simp only [q1, q2, q3, q4, q5, q6, q7, q8, q9] at sg1
  refine rB g1 ?_ (x := lF FEng_fd_40_1)
  refine rB g1 ?_ (x := lD [PV.val _] FEng_ty_3)
  refine rB g1 ?_ (x := lF FEng_fd_40_0)
  refine rB g1 ?_ (x := lF FEng_fd_35_0)
  refine rB g1 ?_ (x := lD [PV.sl .v _] FEng_ty_33)
  refine rB g1 ?_ (x := lN FEng_sl_33)
  refine rB g1 ?_ (x := B_sub)
  refine rB g1 ?_ (x := cL [(false, [PV.val _]), (false, [PV.val _]), (false, [PV.val _])] [(false, [PV.val _]), (false, [PV.val _]), (false, [PV.val _])] FEng_c_92 (hs := by exact impl_within))
  refine rB g1 ?_ (x := nT)
  refine rA ?_ (x := pkF g1)
  refine rA ?_ (x := sM)
  refine RunS.cases (s := 24) rfl (fun g5 => ?_) (fun g5 => ?_)
  ·have sg5 := g5
   try simp only [q1, q2, q3, q4, q5, q6, q7, q8, q9] at sg5
   refine RunS.s0t g5 ?_
   refine RunS.s0t g5 ?_
   refine RunS.s0t g5 ?_
   refine RunS.s0t g5 ?_
   refine rA ?_ (x := pkT g5)
   refine rA ?_ (x := sM)
   refine RunS.cases (s := 30) rfl (fun g6 => ?_) (fun g6 => nomatch g6)
   refine RunS.s0t g6 ?_
   refine RunS.s0t g6 ?_
   refine RunS.s0t g6 ?_
   refine RunS.s0t g6 ?_
   refine rA ?_ (x := pkT g6)
   refine sw_cond (t := 35) rfl (fun hb_ => ?_) (fun hb_ => nomatch hb_)
   have hpr : engPre e = false := by first | (simp_all [engPre]; done) | (simp_all [engPre]; omega) | (rw [← Bool.not_eq_true]; intro hc_; simp [engPre] at hc_; simp_all; done) | (rw [← Bool.not_eq_true]; intro hc_; simp [engPre] at hc_; omega)
   have hbad := eng_no1 hpr
   refine sw_seq ?_
   refine sO [(1, _), (2, _)] [(1, _)] ?_
   refine sw_reg ?_
   refine rA ?_ (x := kA)
   refine sw_ret ?_
   exact (And.intro (by refine bool_eq ?_; exact hbad.symm) True.intro)
  ·have sg5 := g5
   try simp only [q1, q2, q3, q4, q5, q6, q7, q8, q9] at sg5
   refine rB g5 ?_ (x := lF FEng_fd_40_2)
   refine rB g5 ?_ (x := lD [PV.sl .v _] FEng_ty_25)
   refine rB g5 ?_ (x := cL [(false, [PV.sl _ _])] [(false, [PV.sl .v _])] FEng_c_93 (hs := by exact impl_isOrder))
   refine rB g5 ?_ (x := nT)
   refine rA ?_ (x := pkF g5)
   refine rA ?_ (x := sM)
   refine RunS.cases (s := 30) rfl (fun g8 => ?_) (fun g8 => ?_)
   ·have sg8 := g8
    try simp only [q1, q2, q3, q4, q5, q6, q7, q8, q9] at sg8
    refine RunS.s0t g8 ?_
    refine RunS.s0t g8 ?_
    refine RunS.s0t g8 ?_
    refine RunS.s0t g8 ?_
    refine rA ?_ (x := pkT g8)
    refine sw_cond (t := 35) rfl (fun hb_ => ?_) (fun hb_ => nomatch hb_)
    have hpr : engPre e = false := by first | (simp_all [engPre]; done) | (simp_all [engPre]; omega) | (rw [← Bool.not_eq_true]; intro hc_; simp [engPre] at hc_; simp_all; done) | (rw [← Bool.not_eq_true]; intro hc_; simp [engPre] at hc_; omega)
    have hbad := eng_no1 hpr
    refine sw_seq ?_
    refine sO [(1, _), (2, _)] [(1, _)] ?_
    refine sw_reg ?_
    refine rA ?_ (x := kA)
    refine sw_ret ?_
    exact (And.intro (by refine bool_eq ?_; exact hbad.symm) True.intro)
   ·have sg8 := g8
    try simp only [q1, q2, q3, q4, q5, q6, q7, q8, q9] at sg8
    refine rB g8 ?_ (x := lF FEng_fd_40_6)
    refine rB g8 ?_ (x := lD [PV.val _] FEng_ty_3)
    refine rB g8 ?_ (x := cL [(false, [PV.val _]), (false, [PV.val _]), (false, [PV.val _])] [(false, [PV.val _]), (false, [PV.val _]), (false, [PV.val _])] FEng_c_92 (hs := by exact impl_within))
    refine rB g8 ?_ (x := nT)
    refine rA ?_ (x := pkF g8)
    refine sw_cond (t := 35) rfl (fun hb10 => ?_) (fun hb10 => ?_)
    ·try simp only [q1, q2, q3, q4, q5, q6, q7, q8, q9] at hb10
     have hpr : engPre e = false := by first | (simp_all [engPre]; done) | (simp_all [engPre]; omega) | (rw [← Bool.not_eq_true]; intro hc_; simp [engPre] at hc_; simp_all; done) | (rw [← Bool.not_eq_true]; intro hc_; simp [engPre] at hc_; omega)
     have hbad := eng_no1 hpr
     refine sw_seq ?_
     refine sO [(1, _), (2, _)] [(1, _)] ?_
     refine sw_reg ?_
     refine rA ?_ (x := kA)
     refine sw_ret ?_
     exact (And.intro (by refine bool_eq ?_; exact hbad.symm) True.intro)
    ·try simp only [q1, q2, q3, q4, q5, q6, q7, q8, q9] at hb10
     have hp1 : (okStore e.Store && (inB e.Cursor 0 (e.Store.Segments.length - 1) && (okOrder e.Order && inB e.Steps 0 100000))) = true := by first | (simp_all; done) | (simp_all; omega)
     refine sw_skip ?_
     refine sw_seq ?_
     refine sw_seq ?_
     refine sO [(1, _), (2, _)] [(1, _)] ?_
     refine sw_reg ?_
     refine rA ?_ (x := lF FEng_fd_40_3)
     refine rA ?_ (x := lD [PV.sl .v _] FEng_ty_36)
     refine rA ?_ (x := lN FEng_sl_36)
     refine rA ?_ (x := B_gtr)
     refine rA ?_ (x := sM)
     refine RunS.cases (s := 40) rfl (fun g11 => ?_) (fun g11 => ?_)
     ·have sg11 := g11
      try simp only [q1, q2, q3, q4, q5, q6, q7, q8, q9] at sg11
      refine RunS.s0t g11 ?_
      refine RunS.s0t g11 ?_
      refine RunS.s0t g11 ?_
      refine RunS.s0t g11 ?_
      refine rA ?_ (x := pkT g11)
      refine rA ?_ (x := sM)
      refine RunS.cases (s := 46) rfl (fun g12 => ?_) (fun g12 => nomatch g12)
      refine RunS.s0t g12 ?_
      refine RunS.s0t g12 ?_
      refine RunS.s0t g12 ?_
      refine RunS.s0t g12 ?_
      refine rA ?_ (x := pkT g12)
      refine sw_cond (t := 51) rfl (fun hb_ => ?_) (fun hb_ => nomatch hb_)
      have hpr : engPre e = false := by unfold engPre; rw [hp1]; first | (simp_all; done) | (simp_all; omega)
      have hbad := eng_no1 hpr
      refine sw_seq ?_
      refine sO [(1, _), (2, _)] [(1, _)] ?_
      refine sw_reg ?_
      refine rA ?_ (x := kA)
      refine sw_ret ?_
      exact (And.intro (by refine bool_eq ?_; exact hbad.symm) True.intro)
     ·have sg11 := g11
      try simp only [q1, q2, q3, q4, q5, q6, q7, q8, q9] at sg11
      refine rB g11 ?_ (x := lF FEng_fd_40_4)
      refine rB g11 ?_ (x := lD [PV.sl .v _] FEng_ty_37)
      refine rB g11 ?_ (x := lN FEng_sl_37)
      refine rB g11 ?_ (x := B_gtr)
      refine rA ?_ (x := pkF g11)
      refine rA ?_ (x := sM)
      refine RunS.cases (s := 46) rfl (fun g14 => ?_) (fun g14 => ?_)
      ·have sg14 := g14
       try simp only [q1, q2, q3, q4, q5, q6, q7, q8, q9] at sg14
       refine RunS.s0t g14 ?_
       refine RunS.s0t g14 ?_
       refine RunS.s0t g14 ?_
       refine RunS.s0t g14 ?_
       refine rA ?_ (x := pkT g14)
       refine sw_cond (t := 51) rfl (fun hb_ => ?_) (fun hb_ => nomatch hb_)
       have hpr : engPre e = false := by unfold engPre; rw [hp1]; first | (simp_all; done) | (simp_all; omega)
       have hbad := eng_no1 hpr
       refine sw_seq ?_
       refine sO [(1, _), (2, _)] [(1, _)] ?_
       refine sw_reg ?_
       refine rA ?_ (x := kA)
       refine sw_ret ?_
       exact (And.intro (by refine bool_eq ?_; exact hbad.symm) True.intro)
      ·have sg14 := g14
       try simp only [q1, q2, q3, q4, q5, q6, q7, q8, q9] at sg14
       refine rB g14 ?_ (x := lF FEng_fd_40_5)
       refine rB g14 ?_ (x := lD [PV.sl .v _] FEng_ty_38)
       refine rB g14 ?_ (x := lN FEng_sl_38)
       refine rB g14 ?_ (x := B_gtr)
       refine rA ?_ (x := pkF g14)
       refine sw_cond (t := 51) rfl (fun hb16 => ?_) (fun hb16 => ?_)
       ·try simp only [q1, q2, q3, q4, q5, q6, q7, q8, q9] at hb16
        have hpr : engPre e = false := by unfold engPre; rw [hp1]; first | (simp_all; done) | (simp_all; omega)
        have hbad := eng_no1 hpr
        refine sw_seq ?_
        refine sO [(1, _), (2, _)] [(1, _)] ?_
        refine sw_reg ?_
        refine rA ?_ (x := kA)
        refine sw_ret ?_
        exact (And.intro (by refine bool_eq ?_; exact hbad.symm) True.intro)
       ·try simp only [q1, q2, q3, q4, q5, q6, q7, q8, q9] at hb16
        have hpr : engPre e = true := by unfold engPre; rw [hp1]; first | (simp_all; done) | (simp_all; omega)
        refine sw_skip ?_
        refine sw_seq ?_
        refine sw_seq ?_
        refine sO [(1, _), (2, _)] [(1, _)] ?_
        refine sw_reg ?_
        refine rA ?_ (x := lF FEng_fd_40_3)
        refine rA ?_ (x := lD [PV.sl .v _] FEng_ty_36)
        refine rA ?_ (x := lN FEng_sl_36)
        refine rA ?_ (x := kM)
        refine sw_block ?_
        refine sO [(1, _), (2, _), (53, _), (54, _), (55, _)] [(1, _)] ?_
        refine sw_loop (l0 := [(1, RV.ptr 1 0), (53, RV.sv false [PV.sl _ _]), (54, RV.sv false [PV.val _])]) (b0 := [(1, (40, [PV.sl _ _, PV.val _, PV.val _, PV.sl _ _, PV.sl _ _, PV.sl _ _, PV.sl _ _, PV.val _]))]) (fun k : Nat => k ≤ e.Active.length ∧ adjTo a0_ (okActive e.Store) ltA e.Active k = true) (fun k : Nat => [(55, RV.int (k : Int))]) (fun k : Nat => []) (fun k : Nat => e.Active.length - k) 0 (by exact ⟨by omega, rfl⟩) (by exact ⟨rfl, rfl, rfl, ⟨⟩⟩) (by exact ⟨rfl, ⟨⟩⟩) (by exact And.intro (by exact rfl) (True.intro)) (by exact ⟨⟩) ?_
        rintro k ⟨hk, ha⟩
        refine sw_seq ?_
        refine sw_reg ?_
        refine rA ?_ (x := B_lss)
        refine sw_seq ?_
        refine sw_cond (t := 56) rfl (fun hb17 => ?_) (fun hb17 => ?_)
        ·try simp only [q1, q2, q3, q4, q5, q6, q7, q8, q9] at hb17
         have hlt : k < e.Active.length := by omega
         have hgk : e.Active.getD k a0_ = e.Active[k] := getD_at hlt
         have hgp : 0 < k → e.Active.getD (k - 1) a0_ = e.Active[k - 1] := fun h => getD_at (by omega)
         refine sw_skip ?_
         refine sw_seq ?_
         refine sw_block ?_
         refine sw_seq ?_
         refine sO [(1, _), (53, _), (54, _), (55, _)] [(1, (40, [PV.sl _ _, PV.val _, PV.val _, PV.sl _ _, PV.sl _ _, PV.sl _ _, PV.sl _ _, PV.val _]))] ?_
         refine sw_reg ?_
         refine rA ?_ (x := sM)
         refine rA ?_ (x := loc_index (by decide) FEng_sl_36 (by exact ⟨⟩) (by exact rfl) (by exact getm2 (by omega) rfl) (by exact rfl))
         refine rA ?_ (x := lE [PV.val _, PV.val _, PV.sl .v _, PV.sl .v _, PV.val _, PV.sl .v _, PV.val _, PV.val _, PV.val _, PV.sl .v _] FEng_ty_85)
         refine RunS.step (by exact ⟨⟩) (by exact ⟨⟩) (LocG.of rfl (loc_alloc (by decide) FEng_z_85 FEng_zo_85)) (free1 (Free.app (Free.app (Free.app (Free.of_ rfl) rfl) rfl) rfl)) ?_
         refine rA ?_ (x := sA)
         refine rA ?_ (x := loc_store (ag := true) (vs := [PV.val _, PV.val _, PV.sl _ _, PV.sl _ _, PV.val _, PV.sl _ _, PV.val _, PV.val _, PV.val _, PV.sl _ _]) FEng_ty_85 (by exact ⟨⟩) (by exact rfl) (by exact Nat.le_of_ble_eq_true rfl))
         refine sw_seq ?_
         refine sO [(1, _), (3, _), (4, _), (53, _), (54, _), (55, _)] [(1, _), (4, (85, [PV.val _, PV.val _, PV.sl _ _, PV.sl _ _, PV.val _, PV.sl _ _, PV.val _, PV.val _, PV.val _, PV.sl _ _]))] ?_
         refine sw_draw hm_ ?_
         refine dA 0 ?_ (x := lF FEng_fd_40_0)
         refine dA 1 ?_ (x := lD [PV.sl .v _, PV.val _] FEng_ty_35)
         refine dA 0 ?_ (x := lD [PV.val _, PV.val _, PV.sl .v _, PV.sl .v _, PV.val _, PV.sl .v _, PV.val _, PV.val _, PV.val _, PV.sl .v _] FEng_ty_85)
         refine dA 7 ?_ (x := cL [(true, [PV.sl _ _, PV.val _]), (true, [PV.val _, PV.val _, PV.sl _ _, PV.sl _ _, PV.val _, PV.sl _ _, PV.val _, PV.val _, PV.val _, PV.sl _ _])] [(true, [PV.sl .v _, PV.val _]), (true, [PV.val _, PV.val _, PV.sl .v _, PV.sl .v _, PV.val _, PV.sl .v _, PV.val _, PV.val _, PV.val _, PV.sl .v _])] FEng_c_94 (hs := by exact impl_activeOk))
         refine dA 15 ?_ (x := nT)
         refine dA 31 ?_ (x := sM)
         refine Run.cases (s := 65) rfl (fun g18 => ?_) (fun g18 => ?_)
         ·have sg18 := g18
          try simp only [q1, q2, q3, q4, q5, q6, q7, q8, q9] at sg18
          refine dT 63 g18 ?_
          refine dT 127 g18 ?_
          refine dT 255 g18 ?_
          refine dU 511 ?_
          refine dU 1023 ?_
          refine dU 511 ?_
          refine dU 2559 ?_
          refine dU 8191 ?_
          refine dU 16383 ?_
          refine dU 32767 ?_
          refine dU 65535 ?_
          refine dU 511 ?_
          refine dU 131583 ?_
          refine dU 393727 ?_
          refine dU 1048575 ?_
          refine dT 2097151 g18 ?_
          refine dA 4194303 ?_ (x := pkT g18)
          refine sw_cond (t := 82) rfl (fun hb_ => ?_) (fun hb_ => nomatch hb_)
          have hbad : adjAll a0_ (okActive e.Store) ltA e.Active = false := adj_no hlt (Bool.eq_false_iff.2 fun hx => by
           have hx := adjStep.1 hx
           rw [hgk] at hx
           obtain ⟨hx1, hx2⟩ := hx
           first
           | (simp_all; done)
           | (simp only [decide_eq_true_eq, ltA] at *; by_cases h0 : k = 0 <;> (try rw [hgp (by omega)] at hx2) <;> omega))
          have hbad2 := eng_no2 hbad
          refine sw_seq ?_
          refine sO [(1, _), (3, _), (4, _), (53, _), (54, _), (55, _)] [(1, _), (4, _)] ?_
          refine sw_reg ?_
          refine rA ?_ (x := kA)
          refine sw_ret ?_
          exact (And.intro (by refine bool_eq ?_; exact hbad2.symm) True.intro)
         ·have sg18 := g18
          try simp only [q1, q2, q3, q4, q5, q6, q7, q8, q9] at sg18
          refine dB 63 g18 ?_ (x := sM)
          refine dB 127 g18 ?_ (x := B_gtr)
          refine dB 255 g18 ?_ (x := sM)
          refine Run.cases (s := 68) rfl (fun g20 => ?_) (fun g20 => ?_)
          ·have sg20 := g20
           try simp only [q1, q2, q3, q4, q5, q6, q7, q8, q9] at sg20
           refine dB 511 g20 ?_ (x := lF FEng_fd_40_3)
           refine dB 1023 g20 ?_ (x := lD [PV.sl .v _] FEng_ty_36)
           refine dB 511 g20 ?_ (x := sM)
           refine dB 2559 g20 ?_ (x := B_sub)
           refine dB 8191 g20 ?_ (x := loc_index (k := k - 1) (by decide) FEng_sl_36 (by exact ⟨⟩) (by omega) (by exact getm2 (by omega) rfl) (by exact rfl))
           refine dB 16383 g20 ?_ (x := loc_efield (by decide) FEng_fd_85_0 (by exact Nat.le_of_ble_eq_true rfl))
           refine dB 32767 g20 ?_ (x := loc_efield (by decide) FEng_fd_51_0 (by exact Nat.le_of_ble_eq_true rfl))
           refine dB 65535 g20 ?_ (x := lE [PV.val _] FEng_ty_3)
           refine dB 511 g20 ?_ (x := lF FEng_fd_85_0)
           refine dB 131583 g20 ?_ (x := lF FEng_fd_51_0)
           refine dB 393727 g20 ?_ (x := lD [PV.val _] FEng_ty_3)
           refine dB 1048575 g20 ?_ (x := B_geq)
           refine dB 2097151 g18 ?_ (x := pkT g20)
           refine dA 4194303 ?_ (x := pkF g18)
           refine sw_cond (t := 82) rfl (fun hb21 => ?_) (fun hb21 => ?_)
           ·try simp only [q1, q2, q3, q4, q5, q6, q7, q8, q9] at hb21
            have hbad : adjAll a0_ (okActive e.Store) ltA e.Active = false := adj_no hlt (Bool.eq_false_iff.2 fun hx => by
             have hx := adjStep.1 hx
             rw [hgk] at hx
             obtain ⟨hx1, hx2⟩ := hx
             first
             | (simp_all; done)
             | (simp only [decide_eq_true_eq, ltA] at *; by_cases h0 : k = 0 <;> (try rw [hgp (by omega)] at hx2) <;> omega))
            have hbad2 := eng_no2 hbad
            refine sw_seq ?_
            refine sO [(1, _), (3, _), (4, _), (53, _), (54, _), (55, _)] [(1, _), (4, _)] ?_
            refine sw_reg ?_
            refine rA ?_ (x := kA)
            refine sw_ret ?_
            exact (And.intro (by refine bool_eq ?_; exact hbad2.symm) True.intro)
           ·try simp only [q1, q2, q3, q4, q5, q6, q7, q8, q9] at hb21
            refine sw_skip ?_
            refine sO [(1, _), (3, _), (4, _), (53, _), (54, _), (55, _)] [(1, _), (4, _)] ?_
            refine sw_reg ?_
            refine rA ?_ (x := B_add)
            refine rA ?_ (x := sM)
            refine Exists.intro (k + 1) (And.intro (by exact ⟨by omega, by rw [adjTo_succ, ha, Bool.true_and]; refine adjStep.2 ⟨by rw [hgk]; first | assumption | simp_all, ?_⟩; rcases Nat.eq_zero_or_pos k with h0 | h0; (· exact .inl h0); (· right; rw [hgk, hgp h0]; first | (simp only [decide_eq_true_eq, ltA] at *; omega) | (simp_all; done))⟩) (And.intro (by omega) (And.intro (And.intro (by exact ⟨rfl, rfl, rfl, ⟨⟩⟩) (by exact ⟨rfl, ⟨⟩⟩)) (And.intro (by exact And.intro (by exact rfl) (True.intro)) (by exact ⟨⟩)))))
          ·have sg20 := g20
           try simp only [q1, q2, q3, q4, q5, q6, q7, q8, q9] at sg20
           refine dF 511 g20 ?_
           refine dF 1023 g20 ?_
           refine dF 511 g20 ?_
           refine dF 2559 g20 ?_
           refine dF 8191 g20 ?_
           refine dF 16383 g20 ?_
           refine dF 32767 g20 ?_
           refine dF 65535 g20 ?_
           refine dF 511 g20 ?_
           refine dF 131583 g20 ?_
           refine dF 393727 g20 ?_
           refine dF 1048575 g20 ?_
           refine dB 2097151 g18 ?_ (x := pkF g20)
           refine dA 4194303 ?_ (x := pkF g18)
           refine sw_cond (t := 82) rfl (fun hb_ => nomatch hb_) (fun hb_ => ?_)
           refine sw_skip ?_
           refine sO [(1, _), (3, _), (4, _), (53, _), (54, _), (55, _)] [(1, _), (4, _)] ?_
           refine sw_reg ?_
           refine rA ?_ (x := B_add)
           refine rA ?_ (x := sM)
           refine Exists.intro (k + 1) (And.intro (by exact ⟨by omega, by rw [adjTo_succ, ha, Bool.true_and]; refine adjStep.2 ⟨by rw [hgk]; first | assumption | simp_all, ?_⟩; rcases Nat.eq_zero_or_pos k with h0 | h0; (· exact .inl h0); (· right; rw [hgk, hgp h0]; first | (simp only [decide_eq_true_eq, ltA] at *; omega) | (simp_all; done))⟩) (And.intro (by omega) (And.intro (And.intro (by exact ⟨rfl, rfl, rfl, ⟨⟩⟩) (by exact ⟨rfl, ⟨⟩⟩)) (And.intro (by exact And.intro (by exact rfl) (True.intro)) (by exact ⟨⟩)))))
        ·try simp only [q1, q2, q3, q4, q5, q6, q7, q8, q9] at hb17
         have hend : k = e.Active.length := by omega
         have hall : adjAll a0_ (okActive e.Store) ltA e.Active = true := adj_end ha hend
         refine sw_exit ?_
         refine sw_seq ?_
         refine sw_seq ?_
         refine sO [(1, _), (53, _), (54, _), (55, _)] [(1, (40, [PV.sl _ _, PV.val _, PV.val _, PV.sl _ _, PV.sl _ _, PV.sl _ _, PV.sl _ _, PV.val _]))] ?_
         refine sw_reg ?_
         refine rA ?_ (x := lF FEng_fd_40_4)
         refine rA ?_ (x := lD [PV.sl .v _] FEng_ty_37)
         refine rA ?_ (x := lN FEng_sl_37)
         refine rA ?_ (x := kM)
         refine sw_block ?_
         refine sO [(1, _), (53, _), (54, _), (55, _), (85, _), (86, _), (87, _)] [(1, _)] ?_
         refine sw_loop (l0 := [(1, RV.ptr 1 0), (53, RV.sv false [PV.sl _ _]), (54, RV.sv false [PV.val _]), (55, RV.sv false [PV.val _]), (85, RV.sv false [PV.sl _ _]), (86, RV.sv false [PV.val _])]) (b0 := [(1, (40, [PV.sl _ _, PV.val _, PV.val _, PV.sl _ _, PV.sl _ _, PV.sl _ _, PV.sl _ _, PV.val _]))]) (fun k : Nat => k ≤ e.Done.length ∧ (List.take k e.Done).all (okFin e.Store.Now) = true) (fun k : Nat => [(87, RV.int (k : Int))]) (fun k : Nat => []) (fun k : Nat => e.Done.length - k) 0 (by exact ⟨by omega, rfl⟩) (by exact ⟨rfl, rfl, rfl, rfl, rfl, rfl, ⟨⟩⟩) (by exact ⟨rfl, ⟨⟩⟩) (by exact And.intro (by exact rfl) (True.intro)) (by exact ⟨⟩) ?_
         rintro k ⟨hk, ha⟩
         refine sw_seq ?_
         refine sw_reg ?_
         refine rA ?_ (x := B_lss)
         refine sw_seq ?_
         refine sw_cond (t := 88) rfl (fun hb23 => ?_) (fun hb23 => ?_)
         ·try simp only [q1, q2, q3, q4, q5, q6, q7, q8, q9] at hb23
          have hlt : k < e.Done.length := by omega
          refine sw_skip ?_
          refine sw_seq ?_
          refine sw_block ?_
          refine sw_seq ?_
          refine sO [(1, _), (53, _), (54, _), (55, _), (85, _), (86, _), (87, _)] [(1, (40, [PV.sl _ _, PV.val _, PV.val _, PV.sl _ _, PV.sl _ _, PV.sl _ _, PV.sl _ _, PV.val _]))] ?_
          refine sw_reg ?_
          refine rA ?_ (x := loc_index (by decide) FEng_sl_37 (by exact ⟨⟩) (by exact rfl) (by exact getm2 (by omega) rfl) (by exact rfl))
          refine rA ?_ (x := lE [PV.val _, PV.val _, PV.sl .v _, PV.sl .v _, PV.val _, PV.val _, PV.sl .v _] FEng_ty_132)
          refine RunS.step (by exact ⟨⟩) (by exact ⟨⟩) (LocG.of rfl (loc_alloc (by decide) FEng_z_132 FEng_zo_132)) (free1 (Free.app (Free.app (Free.of_ rfl) rfl) rfl)) ?_
          refine rA ?_ (x := loc_store (ag := true) (vs := [PV.val _, PV.val _, PV.sl _ _, PV.sl _ _, PV.val _, PV.val _, PV.sl _ _]) FEng_ty_132 (by exact ⟨⟩) (by exact rfl) (by exact Nat.le_of_ble_eq_true rfl))
          refine sw_seq ?_
          refine sO [(1, _), (6, _), (53, _), (54, _), (55, _), (85, _), (86, _), (87, _)] [(1, _), (6, (132, [PV.val _, PV.val _, PV.sl _ _, PV.sl _ _, PV.val _, PV.val _, PV.sl _ _]))] ?_
          refine sw_reg ?_
          refine rA ?_ (x := lF FEng_fd_132_0)
          refine rA ?_ (x := lD [PV.val _, PV.val _, PV.sl .v _, PV.sl .v _] FEng_ty_51)
          refine rA ?_ (x := cL [(true, [PV.val _, PV.val _, PV.sl _ _, PV.sl _ _])] [(true, [PV.val _, PV.val _, PV.sl .v _, PV.sl .v _])] FEng_c_95 (hs := by exact impl_IsQuery))
          refine rA ?_ (x := nT)
          refine rA ?_ (x := sM)
          refine RunS.cases (s := 95) rfl (fun g24 => ?_) (fun g24 => ?_)
          ·have sg24 := g24
           try simp only [q1, q2, q3, q4, q5, q6, q7, q8, q9] at sg24
           refine RunS.s0t g24 ?_
           refine RunS.s0t g24 ?_
           refine RunS.s0t g24 ?_
           refine RunS.s0t g24 ?_
           refine RunS.s0t g24 ?_
           refine RunS.s0t g24 ?_
           refine RunS.s0t g24 ?_
           refine rA ?_ (x := pkT g24)
           refine rA ?_ (x := sM)
           refine RunS.cases (s := 104) rfl (fun g25 => ?_) (fun g25 => nomatch g25)
           refine RunS.s0t g25 ?_
           refine RunS.s0t g25 ?_
           refine RunS.s0t g25 ?_
           refine RunS.s0t g25 ?_
           refine rA ?_ (x := pkT g25)
           refine rA ?_ (x := sM)
           refine RunS.cases (s := 110) rfl (fun g26 => ?_) (fun g26 => nomatch g26)
           refine RunS.s0t g26 ?_
           refine RunS.s0t g26 ?_
           refine RunS.s0t g26 ?_
           refine RunS.s0t g26 ?_
           refine rA ?_ (x := pkT g26)
           refine sw_cond (t := 115) rfl (fun hb_ => ?_) (fun hb_ => nomatch hb_)
           have hno : (okFin e.Store.Now) e.Done[k] = false := by first | (simp_all [okFin]; done) | (simp_all [okFin]; omega)
           have hbad2 := eng_no3 (all_no hlt hno)
           refine sw_seq ?_
           refine sO [(1, _), (6, _), (53, _), (54, _), (55, _), (85, _), (86, _), (87, _)] [(1, _), (6, _)] ?_
           refine sw_reg ?_
           refine rA ?_ (x := kA)
           refine sw_ret ?_
           exact (And.intro (by refine bool_eq ?_; exact hbad2.symm) True.intro)
          ·have sg24 := g24
           try simp only [q1, q2, q3, q4, q5, q6, q7, q8, q9] at sg24
           refine rB g24 ?_ (x := lF FEng_fd_132_1)
           refine rB g24 ?_ (x := lD [PV.val _] FEng_ty_3)
           refine rB g24 ?_ (x := lF FEng_fd_40_0)
           refine rB g24 ?_ (x := lF FEng_fd_35_1)
           refine rB g24 ?_ (x := lD [PV.val _] FEng_ty_3)
           refine rB g24 ?_ (x := cL [(false, [PV.val _]), (false, [PV.val _]), (false, [PV.val _])] [(false, [PV.val _]), (false, [PV.val _]), (false, [PV.val _])] FEng_c_92 (hs := by exact impl_within))
           refine rB g24 ?_ (x := nT)
           refine rA ?_ (x := pkF g24)
           refine rA ?_ (x := sM)
           refine RunS.cases (s := 104) rfl (fun g28 => ?_) (fun g28 => ?_)
           ·have sg28 := g28
            try simp only [q1, q2, q3, q4, q5, q6, q7, q8, q9] at sg28
            refine RunS.s0t g28 ?_
            refine RunS.s0t g28 ?_
            refine RunS.s0t g28 ?_
            refine RunS.s0t g28 ?_
            refine rA ?_ (x := pkT g28)
            refine rA ?_ (x := sM)
            refine RunS.cases (s := 110) rfl (fun g29 => ?_) (fun g29 => nomatch g29)
            refine RunS.s0t g29 ?_
            refine RunS.s0t g29 ?_
            refine RunS.s0t g29 ?_
            refine RunS.s0t g29 ?_
            refine rA ?_ (x := pkT g29)
            refine sw_cond (t := 115) rfl (fun hb_ => ?_) (fun hb_ => nomatch hb_)
            have hno : (okFin e.Store.Now) e.Done[k] = false := by first | (simp_all [okFin]; done) | (simp_all [okFin]; omega)
            have hbad2 := eng_no3 (all_no hlt hno)
            refine sw_seq ?_
            refine sO [(1, _), (6, _), (53, _), (54, _), (55, _), (85, _), (86, _), (87, _)] [(1, _), (6, _)] ?_
            refine sw_reg ?_
            refine rA ?_ (x := kA)
            refine sw_ret ?_
            exact (And.intro (by refine bool_eq ?_; exact hbad2.symm) True.intro)
           ·have sg28 := g28
            try simp only [q1, q2, q3, q4, q5, q6, q7, q8, q9] at sg28
            refine rB g28 ?_ (x := lF FEng_fd_132_2)
            refine rB g28 ?_ (x := lD [PV.val _] FEng_ty_3)
            refine rB g28 ?_ (x := cL [(false, [PV.val _]), (false, [PV.val _]), (false, [PV.val _])] [(false, [PV.val _]), (false, [PV.val _]), (false, [PV.val _])] FEng_c_92 (hs := by exact impl_within))
            refine rB g28 ?_ (x := nT)
            refine rA ?_ (x := pkF g28)
            refine rA ?_ (x := sM)
            refine RunS.cases (s := 110) rfl (fun g31 => ?_) (fun g31 => ?_)
            ·have sg31 := g31
             try simp only [q1, q2, q3, q4, q5, q6, q7, q8, q9] at sg31
             refine RunS.s0t g31 ?_
             refine RunS.s0t g31 ?_
             refine RunS.s0t g31 ?_
             refine RunS.s0t g31 ?_
             refine rA ?_ (x := pkT g31)
             refine sw_cond (t := 115) rfl (fun hb_ => ?_) (fun hb_ => nomatch hb_)
             have hno : (okFin e.Store.Now) e.Done[k] = false := by first | (simp_all [okFin]; done) | (simp_all [okFin]; omega)
             have hbad2 := eng_no3 (all_no hlt hno)
             refine sw_seq ?_
             refine sO [(1, _), (6, _), (53, _), (54, _), (55, _), (85, _), (86, _), (87, _)] [(1, _), (6, _)] ?_
             refine sw_reg ?_
             refine rA ?_ (x := kA)
             refine sw_ret ?_
             exact (And.intro (by refine bool_eq ?_; exact hbad2.symm) True.intro)
            ·have sg31 := g31
             try simp only [q1, q2, q3, q4, q5, q6, q7, q8, q9] at sg31
             refine rB g31 ?_ (x := lF FEng_fd_132_3)
             refine rB g31 ?_ (x := lD [PV.sl .v _] FEng_ty_83)
             refine rB g31 ?_ (x := cL [(false, [PV.sl _ _])] [(false, [PV.sl .v _])] FEng_c_96 (hs := by exact impl_resultOk))
             refine rB g31 ?_ (x := nT)
             refine rA ?_ (x := pkF g31)
             refine sw_cond (t := 115) rfl (fun hb33 => ?_) (fun hb33 => ?_)
             ·try simp only [q1, q2, q3, q4, q5, q6, q7, q8, q9] at hb33
              have hno : (okFin e.Store.Now) e.Done[k] = false := by first | (simp_all [okFin]; done) | (simp_all [okFin]; omega)
              have hbad2 := eng_no3 (all_no hlt hno)
              refine sw_seq ?_
              refine sO [(1, _), (6, _), (53, _), (54, _), (55, _), (85, _), (86, _), (87, _)] [(1, _), (6, _)] ?_
              refine sw_reg ?_
              refine rA ?_ (x := kA)
              refine sw_ret ?_
              exact (And.intro (by refine bool_eq ?_; exact hbad2.symm) True.intro)
             ·try simp only [q1, q2, q3, q4, q5, q6, q7, q8, q9] at hb33
              have hyes : (okFin e.Store.Now) e.Done[k] = true := by first | (simp_all [okFin]; done) | (simp_all [okFin]; omega)
              refine sw_skip ?_
              refine sO [(1, _), (6, _), (53, _), (54, _), (55, _), (85, _), (86, _), (87, _)] [(1, _), (6, _)] ?_
              refine sw_reg ?_
              refine rA ?_ (x := B_add)
              refine rA ?_ (x := sM)
              refine Exists.intro (k + 1) (And.intro (by exact ⟨by omega, all_succ ha hlt hyes⟩) (And.intro (by omega) (And.intro (And.intro (by exact ⟨rfl, rfl, rfl, rfl, rfl, rfl, ⟨⟩⟩) (by exact ⟨rfl, ⟨⟩⟩)) (And.intro (by exact And.intro (by exact rfl) (True.intro)) (by exact ⟨⟩)))))
         ·try simp only [q1, q2, q3, q4, q5, q6, q7, q8, q9] at hb23
          have hfa : e.Done.all (okFin e.Store.Now) = true := all_end (by rw [show e.Done.length = k by omega]; exact ha)
          refine sw_exit ?_
          refine sw_seq ?_
          refine sw_seq ?_
          refine sO [(1, _), (53, _), (54, _), (55, _), (85, _), (86, _), (87, _)] [(1, (40, [PV.sl _ _, PV.val _, PV.val _, PV.sl _ _, PV.sl _ _, PV.sl _ _, PV.sl _ _, PV.val _]))] ?_
          refine sw_reg ?_
          refine rA ?_ (x := lF FEng_fd_40_5)
          refine rA ?_ (x := lD [PV.sl .v _] FEng_ty_38)
          refine rA ?_ (x := lN FEng_sl_38)
          refine rA ?_ (x := kM)
          refine sw_block ?_
          refine sO [(1, _), (53, _), (54, _), (55, _), (85, _), (86, _), (87, _), (118, _), (119, _), (120, _)] [(1, _)] ?_
          refine sw_loop (l0 := [(1, RV.ptr 1 0), (53, RV.sv false [PV.sl _ _]), (54, RV.sv false [PV.val _]), (55, RV.sv false [PV.val _]), (85, RV.sv false [PV.sl _ _]), (86, RV.sv false [PV.val _]), (87, RV.sv false [PV.val _]), (118, RV.sv false [PV.sl _ _]), (119, RV.sv false [PV.val _])]) (b0 := [(1, (40, [PV.sl _ _, PV.val _, PV.val _, PV.sl _ _, PV.sl _ _, PV.sl _ _, PV.sl _ _, PV.val _]))]) (fun k : Nat => k ≤ e.Ledger.length ∧ (List.take k e.Ledger).all okCharge = true) (fun k : Nat => [(120, RV.int (k : Int))]) (fun k : Nat => []) (fun k : Nat => e.Ledger.length - k) 0 (by exact ⟨by omega, rfl⟩) (by exact ⟨rfl, rfl, rfl, rfl, rfl, rfl, rfl, rfl, rfl, ⟨⟩⟩) (by exact ⟨rfl, ⟨⟩⟩) (by exact And.intro (by exact rfl) (True.intro)) (by exact ⟨⟩) ?_
          rintro k ⟨hk, ha⟩
          refine sw_seq ?_
          refine sw_reg ?_
          refine rA ?_ (x := B_lss)
          refine sw_seq ?_
          refine sw_cond (t := 121) rfl (fun hb34 => ?_) (fun hb34 => ?_)
          ·try simp only [q1, q2, q3, q4, q5, q6, q7, q8, q9] at hb34
           have hlt : k < e.Ledger.length := by omega
           refine sw_skip ?_
           refine sw_seq ?_
           refine sw_block ?_
           refine sw_seq ?_
           refine sO [(1, _), (53, _), (54, _), (55, _), (85, _), (86, _), (87, _), (118, _), (119, _), (120, _)] [(1, (40, [PV.sl _ _, PV.val _, PV.val _, PV.sl _ _, PV.sl _ _, PV.sl _ _, PV.sl _ _, PV.val _]))] ?_
           refine sw_reg ?_
           refine rA ?_ (x := loc_index (by decide) FEng_sl_38 (by exact ⟨⟩) (by exact rfl) (by exact getm2 (by omega) rfl) (by exact rfl))
           refine rA ?_ (x := lE [PV.val _, PV.val _, PV.sl .v _, PV.sl .v _, PV.sl .v _] FEng_ty_136)
           refine RunS.step (by exact ⟨⟩) (by exact ⟨⟩) (LocG.of rfl (loc_alloc (by decide) FEng_z_136 FEng_zo_136)) (free1 (Free.app (Free.app (Free.of_ rfl) rfl) rfl)) ?_
           refine rA ?_ (x := loc_store (ag := true) (vs := [PV.val _, PV.val _, PV.sl _ _, PV.sl _ _, PV.sl _ _]) FEng_ty_136 (by exact ⟨⟩) (by exact rfl) (by exact Nat.le_of_ble_eq_true rfl))
           refine sw_seq ?_
           refine sO [(1, _), (8, _), (53, _), (54, _), (55, _), (85, _), (86, _), (87, _), (118, _), (119, _), (120, _)] [(1, _), (8, (136, [PV.val _, PV.val _, PV.sl _ _, PV.sl _ _, PV.sl _ _]))] ?_
           refine sw_reg ?_
           refine rA ?_ (x := lD [PV.val _, PV.val _, PV.sl .v _, PV.sl .v _, PV.sl .v _] FEng_ty_136)
           refine rA ?_ (x := cL [(true, [PV.val _, PV.val _, PV.sl _ _, PV.sl _ _, PV.sl _ _])] [(true, [PV.val _, PV.val _, PV.sl .v _, PV.sl .v _, PV.sl .v _])] FEng_c_97 (hs := by exact impl_IsCharge))
           refine rA ?_ (x := nT)
           refine sw_cond (t := 126) rfl (fun hb35 => ?_) (fun hb35 => ?_)
           ·try simp only [q1, q2, q3, q4, q5, q6, q7, q8, q9] at hb35
            have hno : okCharge e.Ledger[k] = false := by simpa using hb35
            have hbad2 := eng_no4 (all_no hlt hno)
            refine sw_seq ?_
            refine sO [(1, _), (8, _), (53, _), (54, _), (55, _), (85, _), (86, _), (87, _), (118, _), (119, _), (120, _)] [(1, _), (8, _)] ?_
            refine sw_reg ?_
            refine rA ?_ (x := kA)
            refine sw_ret ?_
            exact (And.intro (by refine bool_eq ?_; exact hbad2.symm) True.intro)
           ·try simp only [q1, q2, q3, q4, q5, q6, q7, q8, q9] at hb35
            have hyes : okCharge e.Ledger[k] = true := by simpa using hb35
            refine sw_skip ?_
            refine sO [(1, _), (8, _), (53, _), (54, _), (55, _), (85, _), (86, _), (87, _), (118, _), (119, _), (120, _)] [(1, _), (8, _)] ?_
            refine sw_reg ?_
            refine rA ?_ (x := B_add)
            refine rA ?_ (x := sM)
            refine Exists.intro (k + 1) (And.intro (by exact ⟨by omega, all_succ ha hlt hyes⟩) (And.intro (by omega) (And.intro (And.intro (by exact ⟨rfl, rfl, rfl, rfl, rfl, rfl, rfl, rfl, rfl, ⟨⟩⟩) (by exact ⟨rfl, ⟨⟩⟩)) (And.intro (by exact And.intro (by exact rfl) (True.intro)) (by exact ⟨⟩)))))
          ·try simp only [q1, q2, q3, q4, q5, q6, q7, q8, q9] at hb34
           have hla : e.Ledger.all okCharge = true := all_end (by rw [show e.Ledger.length = k by omega]; exact ha)
           refine sw_exit ?_
           refine sw_seq ?_
           refine sO [(1, _), (53, _), (54, _), (55, _), (85, _), (86, _), (87, _), (118, _), (119, _), (120, _)] [(1, (40, [PV.sl _ _, PV.val _, PV.val _, PV.sl _ _, PV.sl _ _, PV.sl _ _, PV.sl _ _, PV.val _]))] ?_
           refine sw_reg ?_
           refine rA ?_ (x := kA)
           refine sw_ret ?_
           exact (And.intro (by refine bool_eq ?_; exact (eng_yes hpr hall hfa hla).symm) True.intro)
theorem spec_IsEngine {p1 p2 p5 p6 p7 p8 p9 p11 p12 p13 p14 p16 p17 p18 : Fl} {e : Engine}  (hb : wtEngine e ≤ 68719476736) : SCall Tryz.prog 30 [(true, [PV.sl .v (e.Store.Segments.map (cVersionS p1 p2)), PV.val (vI e.Store.Now), PV.val (vI e.Cursor), PV.sl .v (e.Order.map cInt), PV.sl .v (e.Active.map (cActive p5 p6 p7 p8 p9)), PV.sl .v (e.Done.map (cFinished p11 p12 p13 p14)), PV.sl .v (e.Ledger.map (cCharge p16 p17 p18)), PV.val (vI e.Steps)])] (resRV [(false, [PV.val (.bool (okEngine e))])]) := by
 refine scall_of (rs := [(false, [PV.val (.bool (okEngine e))])]) Tryz.func30 rfl (Nat.le_of_ble_eq_true rfl) (borA_cons (BorL.cons (PV.bor_sl _) (BorL.cons (PV.bor_val _) (BorL.cons (PV.bor_val _) (BorL.cons (PV.bor_sl _) (BorL.cons (PV.bor_sl _) (BorL.cons (PV.bor_sl _) (BorL.cons (PV.bor_sl _) (BorL.cons (PV.bor_val _) BorL.nil)))))))) borA_nil) ?_
 intro h0 w0 Fz0
 refine sw_slen (s := 0) (j := 0) rfl rfl fun hl0_0 => ?_
 try rw [List.length_map] at hl0_0
 refine sw_slen (s := 0) (j := 3) rfl rfl fun hl0_3 => ?_
 try rw [List.length_map] at hl0_3
 refine sw_slen (s := 0) (j := 4) rfl rfl fun hl0_4 => ?_
 try rw [List.length_map] at hl0_4
 refine sw_slen (s := 0) (j := 5) rfl rfl fun hl0_5 => ?_
 try rw [List.length_map] at hl0_5
 refine sw_slen (s := 0) (j := 6) rfl rfl fun hl0_6 => ?_
 try rw [List.length_map] at hl0_6
 have hbu := hb
 simp only [wtEngine] at hbu
 refine sw_seq ?_
 refine sw_reg ?_
 refine RunS.step (by exact ⟨rfl, ⟨⟩⟩) (by exact ⟨⟩) (LocG.of rfl (loc_box (ag := true) (cs := [PV.sl _ _, PV.val _, PV.val _, PV.sl _ _, PV.sl _ _, PV.sl _ _, PV.sl _ _, PV.val _]) (by decide) (by exact ⟨⟩))) (free1 (Free.of_ rfl)) ?_
 refine rA ?_ (x := kA)
 refine sw_seq ?_
 refine sw_seq ?_
 refine sO [(1, _), (2, _)] [(1, (40, [PV.sl _ _, PV.val _, PV.val _, PV.sl _ _, PV.sl _ _, PV.sl _ _, PV.sl _ _, PV.val _]))] ?_
 refine sw_reg ?_
 refine rA ?_ (x := lF FEng_fd_40_0)
 refine rA ?_ (x := lD [PV.sl .v _, PV.val _] FEng_ty_35)
 refine rA ?_ (x := cL [(true, [PV.sl _ _, PV.val _])] [(true, [PV.sl .v _, PV.val _])] FEng_c_79 (hs := by exact spec_IsStore (by omega)))
 refine rA ?_ (x := nT)
 refine rA ?_ (x := sM)
 refine RunS.cases (s := 11) rfl (fun g1 => ?_) (fun g1 => ?_)
 ·have sg1 := g1
  try simp only [q1, q2, q3, q4, q5, q6, q7, q8, q9] at sg1
  refine RunS.s0t g1 ?_
  refine RunS.s0t g1 ?_
  refine RunS.s0t g1 ?_
  refine RunS.s0t g1 ?_
  refine RunS.s0t g1 ?_
  refine RunS.s0t g1 ?_
  refine RunS.s0t g1 ?_
  refine RunS.s0t g1 ?_
  refine RunS.s0t g1 ?_
  refine rA ?_ (x := pkT g1)
  refine rA ?_ (x := sM)
  refine RunS.cases (s := 22) rfl (fun g2 => ?_) (fun g2 => nomatch g2)
  refine RunS.s0t g2 ?_
  refine RunS.s0t g2 ?_
  refine RunS.s0t g2 ?_
  refine RunS.s0t g2 ?_
  refine rA ?_ (x := pkT g2)
  refine rA ?_ (x := sM)
  refine RunS.cases (s := 28) rfl (fun g3 => ?_) (fun g3 => nomatch g3)
  refine RunS.s0t g3 ?_
  refine RunS.s0t g3 ?_
  refine RunS.s0t g3 ?_
  refine RunS.s0t g3 ?_
  refine rA ?_ (x := pkT g3)
  refine rA ?_ (x := sM)
  refine RunS.cases (s := 34) rfl (fun g4 => ?_) (fun g4 => nomatch g4)
  refine RunS.s0t g4 ?_
  refine RunS.s0t g4 ?_
  refine RunS.s0t g4 ?_
  refine RunS.s0t g4 ?_
  refine rA ?_ (x := pkT g4)
  refine rA ?_ (x := sM)
  refine RunS.cases (s := 40) rfl (fun g5 => ?_) (fun g5 => nomatch g5)
  refine RunS.s0t g5 ?_
  refine RunS.s0t g5 ?_
  refine RunS.s0t g5 ?_
  refine RunS.s0t g5 ?_
  refine rA ?_ (x := pkT g5)
  refine rA ?_ (x := sM)
  refine RunS.cases (s := 46) rfl (fun g6 => ?_) (fun g6 => nomatch g6)
  refine RunS.s0t g6 ?_
  refine RunS.s0t g6 ?_
  refine RunS.s0t g6 ?_
  refine RunS.s0t g6 ?_
  refine rA ?_ (x := pkT g6)
  refine sw_cond (t := 51) rfl (fun hb_ => ?_) (fun hb_ => nomatch hb_)
  have hpr : engPre e = false := by first | (simp_all [engPre]; done) | (simp_all [engPre]; omega) | (rw [← Bool.not_eq_true]; intro hc_; simp [engPre] at hc_; simp_all; done) | (rw [← Bool.not_eq_true]; intro hc_; simp [engPre] at hc_; omega)
  have hbad := eng_no1 hpr
  refine sw_seq ?_
  refine sO [(1, _), (2, _)] [(1, _)] ?_
  refine sw_reg ?_
  refine rA ?_ (x := kA)
  refine sw_ret ?_
  exact (And.intro (by refine bool_eq ?_; exact hbad.symm) True.intro)
 ·have sg1 := g1
  try simp only [q1, q2, q3, q4, q5, q6, q7, q8, q9] at sg1
  refine rB g1 ?_ (x := lF FEng_fd_40_1)
  refine rB g1 ?_ (x := lD [PV.val _] FEng_ty_3)
  refine rB g1 ?_ (x := lF FEng_fd_40_0)
  refine rB g1 ?_ (x := lF FEng_fd_35_0)
  refine rB g1 ?_ (x := lD [PV.sl .v _] FEng_ty_33)
  refine rB g1 ?_ (x := lN FEng_sl_33)
  refine rB g1 ?_ (x := B_sub)
  refine rB g1 ?_ (x := cL [(false, [PV.val _]), (false, [PV.val _]), (false, [PV.val _])] [(false, [PV.val _]), (false, [PV.val _]), (false, [PV.val _])] FEng_c_80 (hs := by exact spec_l1In))
  refine rB g1 ?_ (x := nT)
  refine rA ?_ (x := pkF g1)
  refine rA ?_ (x := sM)
  refine RunS.cases (s := 22) rfl (fun g8 => ?_) (fun g8 => ?_)
  ·have sg8 := g8
   try simp only [q1, q2, q3, q4, q5, q6, q7, q8, q9] at sg8
   refine RunS.s0t g8 ?_
   refine RunS.s0t g8 ?_
   refine RunS.s0t g8 ?_
   refine RunS.s0t g8 ?_
   refine rA ?_ (x := pkT g8)
   refine rA ?_ (x := sM)
   refine RunS.cases (s := 28) rfl (fun g9 => ?_) (fun g9 => nomatch g9)
   refine RunS.s0t g9 ?_
   refine RunS.s0t g9 ?_
   refine RunS.s0t g9 ?_
   refine RunS.s0t g9 ?_
   refine rA ?_ (x := pkT g9)
   refine rA ?_ (x := sM)
   refine RunS.cases (s := 34) rfl (fun g10 => ?_) (fun g10 => nomatch g10)
   refine RunS.s0t g10 ?_
   refine RunS.s0t g10 ?_
   refine RunS.s0t g10 ?_
   refine RunS.s0t g10 ?_
   refine rA ?_ (x := pkT g10)
   refine rA ?_ (x := sM)
   refine RunS.cases (s := 40) rfl (fun g11 => ?_) (fun g11 => nomatch g11)
   refine RunS.s0t g11 ?_
   refine RunS.s0t g11 ?_
   refine RunS.s0t g11 ?_
   refine RunS.s0t g11 ?_
   refine rA ?_ (x := pkT g11)
   refine rA ?_ (x := sM)
   refine RunS.cases (s := 46) rfl (fun g12 => ?_) (fun g12 => nomatch g12)
   refine RunS.s0t g12 ?_
   refine RunS.s0t g12 ?_
   refine RunS.s0t g12 ?_
   refine RunS.s0t g12 ?_
   refine rA ?_ (x := pkT g12)
   refine sw_cond (t := 51) rfl (fun hb_ => ?_) (fun hb_ => nomatch hb_)
   have hpr : engPre e = false := by first | (simp_all [engPre]; done) | (simp_all [engPre]; omega) | (rw [← Bool.not_eq_true]; intro hc_; simp [engPre] at hc_; simp_all; done) | (rw [← Bool.not_eq_true]; intro hc_; simp [engPre] at hc_; omega)
   have hbad := eng_no1 hpr
   refine sw_seq ?_
   refine sO [(1, _), (2, _)] [(1, _)] ?_
   refine sw_reg ?_
   refine rA ?_ (x := kA)
   refine sw_ret ?_
   exact (And.intro (by refine bool_eq ?_; exact hbad.symm) True.intro)
  ·have sg8 := g8
   try simp only [q1, q2, q3, q4, q5, q6, q7, q8, q9] at sg8
   refine rB g8 ?_ (x := lF FEng_fd_40_2)
   refine rB g8 ?_ (x := lD [PV.sl .v _] FEng_ty_25)
   refine rB g8 ?_ (x := cL [(false, [PV.sl _ _])] [(false, [PV.sl .v _])] FEng_c_81 (hs := by exact spec_l6Order))
   refine rB g8 ?_ (x := nT)
   refine rA ?_ (x := pkF g8)
   refine rA ?_ (x := sM)
   refine RunS.cases (s := 28) rfl (fun g14 => ?_) (fun g14 => ?_)
   ·have sg14 := g14
    try simp only [q1, q2, q3, q4, q5, q6, q7, q8, q9] at sg14
    refine RunS.s0t g14 ?_
    refine RunS.s0t g14 ?_
    refine RunS.s0t g14 ?_
    refine RunS.s0t g14 ?_
    refine rA ?_ (x := pkT g14)
    refine rA ?_ (x := sM)
    refine RunS.cases (s := 34) rfl (fun g15 => ?_) (fun g15 => nomatch g15)
    refine RunS.s0t g15 ?_
    refine RunS.s0t g15 ?_
    refine RunS.s0t g15 ?_
    refine RunS.s0t g15 ?_
    refine rA ?_ (x := pkT g15)
    refine rA ?_ (x := sM)
    refine RunS.cases (s := 40) rfl (fun g16 => ?_) (fun g16 => nomatch g16)
    refine RunS.s0t g16 ?_
    refine RunS.s0t g16 ?_
    refine RunS.s0t g16 ?_
    refine RunS.s0t g16 ?_
    refine rA ?_ (x := pkT g16)
    refine rA ?_ (x := sM)
    refine RunS.cases (s := 46) rfl (fun g17 => ?_) (fun g17 => nomatch g17)
    refine RunS.s0t g17 ?_
    refine RunS.s0t g17 ?_
    refine RunS.s0t g17 ?_
    refine RunS.s0t g17 ?_
    refine rA ?_ (x := pkT g17)
    refine sw_cond (t := 51) rfl (fun hb_ => ?_) (fun hb_ => nomatch hb_)
    have hpr : engPre e = false := by first | (simp_all [engPre]; done) | (simp_all [engPre]; omega) | (rw [← Bool.not_eq_true]; intro hc_; simp [engPre] at hc_; simp_all; done) | (rw [← Bool.not_eq_true]; intro hc_; simp [engPre] at hc_; omega)
    have hbad := eng_no1 hpr
    refine sw_seq ?_
    refine sO [(1, _), (2, _)] [(1, _)] ?_
    refine sw_reg ?_
    refine rA ?_ (x := kA)
    refine sw_ret ?_
    exact (And.intro (by refine bool_eq ?_; exact hbad.symm) True.intro)
   ·have sg14 := g14
    try simp only [q1, q2, q3, q4, q5, q6, q7, q8, q9] at sg14
    refine rB g14 ?_ (x := lF FEng_fd_40_3)
    refine rB g14 ?_ (x := lD [PV.sl .v _] FEng_ty_36)
    refine rB g14 ?_ (x := lN FEng_sl_36)
    refine rB g14 ?_ (x := B_gtr)
    refine rA ?_ (x := pkF g14)
    refine rA ?_ (x := sM)
    refine RunS.cases (s := 34) rfl (fun g19 => ?_) (fun g19 => ?_)
    ·have sg19 := g19
     try simp only [q1, q2, q3, q4, q5, q6, q7, q8, q9] at sg19
     refine RunS.s0t g19 ?_
     refine RunS.s0t g19 ?_
     refine RunS.s0t g19 ?_
     refine RunS.s0t g19 ?_
     refine rA ?_ (x := pkT g19)
     refine rA ?_ (x := sM)
     refine RunS.cases (s := 40) rfl (fun g20 => ?_) (fun g20 => nomatch g20)
     refine RunS.s0t g20 ?_
     refine RunS.s0t g20 ?_
     refine RunS.s0t g20 ?_
     refine RunS.s0t g20 ?_
     refine rA ?_ (x := pkT g20)
     refine rA ?_ (x := sM)
     refine RunS.cases (s := 46) rfl (fun g21 => ?_) (fun g21 => nomatch g21)
     refine RunS.s0t g21 ?_
     refine RunS.s0t g21 ?_
     refine RunS.s0t g21 ?_
     refine RunS.s0t g21 ?_
     refine rA ?_ (x := pkT g21)
     refine sw_cond (t := 51) rfl (fun hb_ => ?_) (fun hb_ => nomatch hb_)
     have hpr : engPre e = false := by first | (simp_all [engPre]; done) | (simp_all [engPre]; omega) | (rw [← Bool.not_eq_true]; intro hc_; simp [engPre] at hc_; simp_all; done) | (rw [← Bool.not_eq_true]; intro hc_; simp [engPre] at hc_; omega)
     have hbad := eng_no1 hpr
     refine sw_seq ?_
     refine sO [(1, _), (2, _)] [(1, _)] ?_
     refine sw_reg ?_
     refine rA ?_ (x := kA)
     refine sw_ret ?_
     exact (And.intro (by refine bool_eq ?_; exact hbad.symm) True.intro)
    ·have sg19 := g19
     try simp only [q1, q2, q3, q4, q5, q6, q7, q8, q9] at sg19
     refine rB g19 ?_ (x := lF FEng_fd_40_6)
     refine rB g19 ?_ (x := lD [PV.val _] FEng_ty_3)
     refine rB g19 ?_ (x := cL [(false, [PV.val _]), (false, [PV.val _]), (false, [PV.val _])] [(false, [PV.val _]), (false, [PV.val _]), (false, [PV.val _])] FEng_c_80 (hs := by exact spec_l1In))
     refine rB g19 ?_ (x := nT)
     refine rA ?_ (x := pkF g19)
     refine rA ?_ (x := sM)
     refine RunS.cases (s := 40) rfl (fun g23 => ?_) (fun g23 => ?_)
     ·have sg23 := g23
      try simp only [q1, q2, q3, q4, q5, q6, q7, q8, q9] at sg23
      refine RunS.s0t g23 ?_
      refine RunS.s0t g23 ?_
      refine RunS.s0t g23 ?_
      refine RunS.s0t g23 ?_
      refine rA ?_ (x := pkT g23)
      refine rA ?_ (x := sM)
      refine RunS.cases (s := 46) rfl (fun g24 => ?_) (fun g24 => nomatch g24)
      refine RunS.s0t g24 ?_
      refine RunS.s0t g24 ?_
      refine RunS.s0t g24 ?_
      refine RunS.s0t g24 ?_
      refine rA ?_ (x := pkT g24)
      refine sw_cond (t := 51) rfl (fun hb_ => ?_) (fun hb_ => nomatch hb_)
      have hpr : engPre e = false := by first | (simp_all [engPre]; done) | (simp_all [engPre]; omega) | (rw [← Bool.not_eq_true]; intro hc_; simp [engPre] at hc_; simp_all; done) | (rw [← Bool.not_eq_true]; intro hc_; simp [engPre] at hc_; omega)
      have hbad := eng_no1 hpr
      refine sw_seq ?_
      refine sO [(1, _), (2, _)] [(1, _)] ?_
      refine sw_reg ?_
      refine rA ?_ (x := kA)
      refine sw_ret ?_
      exact (And.intro (by refine bool_eq ?_; exact hbad.symm) True.intro)
     ·have sg23 := g23
      try simp only [q1, q2, q3, q4, q5, q6, q7, q8, q9] at sg23
      refine rB g23 ?_ (x := lF FEng_fd_40_4)
      refine rB g23 ?_ (x := lD [PV.sl .v _] FEng_ty_37)
      refine rB g23 ?_ (x := lN FEng_sl_37)
      refine rB g23 ?_ (x := B_gtr)
      refine rA ?_ (x := pkF g23)
      refine rA ?_ (x := sM)
      refine RunS.cases (s := 46) rfl (fun g26 => ?_) (fun g26 => ?_)
      ·have sg26 := g26
       try simp only [q1, q2, q3, q4, q5, q6, q7, q8, q9] at sg26
       refine RunS.s0t g26 ?_
       refine RunS.s0t g26 ?_
       refine RunS.s0t g26 ?_
       refine RunS.s0t g26 ?_
       refine rA ?_ (x := pkT g26)
       refine sw_cond (t := 51) rfl (fun hb_ => ?_) (fun hb_ => nomatch hb_)
       have hpr : engPre e = false := by first | (simp_all [engPre]; done) | (simp_all [engPre]; omega) | (rw [← Bool.not_eq_true]; intro hc_; simp [engPre] at hc_; simp_all; done) | (rw [← Bool.not_eq_true]; intro hc_; simp [engPre] at hc_; omega)
       have hbad := eng_no1 hpr
       refine sw_seq ?_
       refine sO [(1, _), (2, _)] [(1, _)] ?_
       refine sw_reg ?_
       refine rA ?_ (x := kA)
       refine sw_ret ?_
       exact (And.intro (by refine bool_eq ?_; exact hbad.symm) True.intro)
      ·have sg26 := g26
       try simp only [q1, q2, q3, q4, q5, q6, q7, q8, q9] at sg26
       refine rB g26 ?_ (x := lF FEng_fd_40_5)
       refine rB g26 ?_ (x := lD [PV.sl .v _] FEng_ty_38)
       refine rB g26 ?_ (x := lN FEng_sl_38)
       refine rB g26 ?_ (x := B_gtr)
       refine rA ?_ (x := pkF g26)
       refine sw_cond (t := 51) rfl (fun hb28 => ?_) (fun hb28 => ?_)
       ·try simp only [q1, q2, q3, q4, q5, q6, q7, q8, q9] at hb28
        have hpr : engPre e = false := by first | (simp_all [engPre]; done) | (simp_all [engPre]; omega) | (rw [← Bool.not_eq_true]; intro hc_; simp [engPre] at hc_; simp_all; done) | (rw [← Bool.not_eq_true]; intro hc_; simp [engPre] at hc_; omega)
        have hbad := eng_no1 hpr
        refine sw_seq ?_
        refine sO [(1, _), (2, _)] [(1, _)] ?_
        refine sw_reg ?_
        refine rA ?_ (x := kA)
        refine sw_ret ?_
        exact (And.intro (by refine bool_eq ?_; exact hbad.symm) True.intro)
       ·try simp only [q1, q2, q3, q4, q5, q6, q7, q8, q9] at hb28
        have hpr : engPre e = true := by first | (simp_all [engPre]; done) | (simp_all [engPre]; omega)
        refine sw_skip ?_
        refine sw_seq ?_
        refine sw_seq ?_
        refine sO [(1, _), (2, _)] [(1, _)] ?_
        refine sw_reg ?_
        refine rA ?_ (x := kA)
        refine sw_block ?_
        refine sO [(1, _), (2, _), (3, _)] [(1, _)] ?_
        refine sw_loop (l0 := [(1, RV.ptr 1 0)]) (b0 := [(1, (40, [PV.sl _ _, PV.val _, PV.val _, PV.sl _ _, PV.sl _ _, PV.sl _ _, PV.sl _ _, PV.val _]))]) (fun k : Nat => k ≤ e.Active.length ∧ adjTo a0_ (okActive e.Store) ltA e.Active k = true) (fun k : Nat => [(3, RV.int (k : Int))]) (fun k : Nat => []) (fun k : Nat => e.Active.length - k) 0 (by exact ⟨by omega, rfl⟩) (by exact ⟨rfl, ⟨⟩⟩) (by exact ⟨rfl, ⟨⟩⟩) (by exact And.intro (by exact rfl) (True.intro)) (by exact ⟨⟩) ?_
        rintro k ⟨hk, ha⟩
        refine sw_seq ?_
        refine sw_seq ?_
        refine sw_reg ?_
        refine rA ?_ (x := sM)
        refine rA ?_ (x := lF FEng_fd_40_3)
        refine rA ?_ (x := lD [PV.sl .v _] FEng_ty_36)
        refine rA ?_ (x := lN FEng_sl_36)
        refine rA ?_ (x := B_lss)
        refine sw_cond (t := 56) rfl (fun hb29 => ?_) (fun hb29 => ?_)
        ·try simp only [q1, q2, q3, q4, q5, q6, q7, q8, q9] at hb29
         have hlt : k < e.Active.length := by omega
         have hgk : e.Active.getD k a0_ = e.Active[k] := getD_at hlt
         have hgp : 0 < k → e.Active.getD (k - 1) a0_ = e.Active[k - 1] := fun h => getD_at (by omega)
         refine sw_skip ?_
         refine sw_seq ?_
         refine sw_block ?_
         refine sw_seq ?_
         refine sO [(1, _), (3, _)] [(1, (40, [PV.sl _ _, PV.val _, PV.val _, PV.sl _ _, PV.sl _ _, PV.sl _ _, PV.sl _ _, PV.val _]))] ?_
         refine sw_draw hm_ ?_
         refine dA 0 ?_ (x := lD [PV.sl .v _, PV.val _, PV.val _, PV.sl .v _, PV.sl .v _, PV.sl .v _, PV.sl .v _, PV.val _] FEng_ty_40)
         refine dA 0 ?_ (x := lF FEng_fd_40_3)
         refine dA 2 ?_ (x := lD [PV.sl .v _] FEng_ty_36)
         refine dA 0 ?_ (x := sM)
         refine dA 14 ?_ (x := loc_index (by decide) FEng_sl_36 (by exact ⟨⟩) (by exact rfl) (by exact getm2 (by omega) rfl) (by exact rfl))
         refine dA 30 ?_ (x := lE [PV.val _, PV.val _, PV.sl .v _, PV.sl .v _, PV.val _, PV.sl .v _, PV.val _, PV.val _, PV.val _, PV.sl .v _] FEng_ty_85)
         refine dA 63 ?_ (x := cL [(true, [PV.sl _ _, PV.val _, PV.val _, PV.sl _ _, PV.sl _ _, PV.sl _ _, PV.sl _ _, PV.val _]), (true, [PV.val _, PV.val _, PV.sl _ _, PV.sl _ _, PV.val _, PV.sl _ _, PV.val _, PV.val _, PV.val _, PV.sl _ _])] [(true, [PV.sl .v _, PV.val _, PV.val _, PV.sl .v _, PV.sl .v _, PV.sl .v _, PV.sl .v _, PV.val _]), (true, [PV.val _, PV.val _, PV.sl .v _, PV.sl .v _, PV.val _, PV.sl .v _, PV.val _, PV.val _, PV.val _, PV.sl .v _])] FEng_c_82 (hs := by exact spec_l9Active))
         refine dA 127 ?_ (x := nT)
         refine dA 255 ?_ (x := sM)
         refine Run.cases (s := 67) rfl (fun g30 => ?_) (fun g30 => ?_)
         ·have sg30 := g30
          try simp only [q1, q2, q3, q4, q5, q6, q7, q8, q9] at sg30
          refine dT 511 g30 ?_
          refine dT 1023 g30 ?_
          refine dT 2047 g30 ?_
          refine dU 4095 ?_
          refine dU 8191 ?_
          refine dU 4095 ?_
          refine dU 32767 ?_
          refine dU 65535 ?_
          refine dU 131071 ?_
          refine dU 262143 ?_
          refine dU 4095 ?_
          refine dU 528383 ?_
          refine dU 4095 ?_
          refine dU 2101247 ?_
          refine dU 7868415 ?_
          refine dU 16257023 ?_
          refine dU 33034239 ?_
          refine dU 66588671 ?_
          refine dU 134217727 ?_
          refine dT 268435455 g30 ?_
          refine dA 536870911 ?_ (x := pkT g30)
          refine sw_cond (t := 88) rfl (fun hb_ => ?_) (fun hb_ => nomatch hb_)
          have hbad : adjAll a0_ (okActive e.Store) ltA e.Active = false := adj_no hlt (Bool.eq_false_iff.2 fun hx => by
           have hx := adjStep.1 hx
           rw [hgk] at hx
           obtain ⟨hx1, hx2⟩ := hx
           first
           | (simp_all; done)
           | (simp only [decide_eq_true_eq, ltA] at *; by_cases h0 : k = 0 <;> (try rw [hgp (by omega)] at hx2) <;> omega))
          have hbad2 := eng_no2 hbad
          refine sw_seq ?_
          refine sO [(1, _), (3, _)] [(1, _)] ?_
          refine sw_reg ?_
          refine rA ?_ (x := kA)
          refine sw_ret ?_
          exact (And.intro (by refine bool_eq ?_; exact hbad2.symm) True.intro)
         ·have sg30 := g30
          try simp only [q1, q2, q3, q4, q5, q6, q7, q8, q9] at sg30
          refine dB 511 g30 ?_ (x := sM)
          refine dB 1023 g30 ?_ (x := B_gtr)
          refine dB 2047 g30 ?_ (x := sM)
          refine Run.cases (s := 70) rfl (fun g32 => ?_) (fun g32 => ?_)
          ·have sg32 := g32
           try simp only [q1, q2, q3, q4, q5, q6, q7, q8, q9] at sg32
           refine dB 4095 g32 ?_ (x := lF FEng_fd_40_3)
           refine dB 8191 g32 ?_ (x := lD [PV.sl .v _] FEng_ty_36)
           refine dB 4095 g32 ?_ (x := sM)
           refine dB 32767 g32 ?_ (x := loc_index (by decide) FEng_sl_36 (by exact ⟨⟩) (by exact rfl) (by exact getm2 (by omega) rfl) (by exact rfl))
           refine dB 65535 g32 ?_ (x := loc_efield (by decide) FEng_fd_85_0 (by exact Nat.le_of_ble_eq_true rfl))
           refine dB 131071 g32 ?_ (x := loc_efield (by decide) FEng_fd_51_0 (by exact Nat.le_of_ble_eq_true rfl))
           refine dB 262143 g32 ?_ (x := lE [PV.val _] FEng_ty_3)
           refine dB 4095 g32 ?_ (x := lF FEng_fd_40_3)
           refine dB 528383 g32 ?_ (x := lD [PV.sl .v _] FEng_ty_36)
           refine dB 4095 g32 ?_ (x := sM)
           refine dB 2101247 g32 ?_ (x := B_sub)
           refine dB 7868415 g32 ?_ (x := loc_index (k := k - 1) (by decide) FEng_sl_36 (by exact ⟨⟩) (by omega) (by exact getm2 (by omega) rfl) (by exact rfl))
           refine dB 16257023 g32 ?_ (x := loc_efield (by decide) FEng_fd_85_0 (by exact Nat.le_of_ble_eq_true rfl))
           refine dB 33034239 g32 ?_ (x := loc_efield (by decide) FEng_fd_51_0 (by exact Nat.le_of_ble_eq_true rfl))
           refine dB 66588671 g32 ?_ (x := lE [PV.val _] FEng_ty_3)
           refine dB 134217727 g32 ?_ (x := B_leq)
           refine dB 268435455 g30 ?_ (x := pkT g32)
           refine dA 536870911 ?_ (x := pkF g30)
           refine sw_cond (t := 88) rfl (fun hb33 => ?_) (fun hb33 => ?_)
           ·try simp only [q1, q2, q3, q4, q5, q6, q7, q8, q9] at hb33
            have hbad : adjAll a0_ (okActive e.Store) ltA e.Active = false := adj_no hlt (Bool.eq_false_iff.2 fun hx => by
             have hx := adjStep.1 hx
             rw [hgk] at hx
             obtain ⟨hx1, hx2⟩ := hx
             first
             | (simp_all; done)
             | (simp only [decide_eq_true_eq, ltA] at *; by_cases h0 : k = 0 <;> (try rw [hgp (by omega)] at hx2) <;> omega))
            have hbad2 := eng_no2 hbad
            refine sw_seq ?_
            refine sO [(1, _), (3, _)] [(1, _)] ?_
            refine sw_reg ?_
            refine rA ?_ (x := kA)
            refine sw_ret ?_
            exact (And.intro (by refine bool_eq ?_; exact hbad2.symm) True.intro)
           ·try simp only [q1, q2, q3, q4, q5, q6, q7, q8, q9] at hb33
            refine sw_skip ?_
            refine sO [(1, _), (3, _)] [(1, _)] ?_
            refine sw_reg ?_
            refine rA ?_ (x := sM)
            refine rA ?_ (x := B_add)
            refine rA ?_ (x := sA)
            refine Exists.intro (k + 1) (And.intro (by exact ⟨by omega, by rw [adjTo_succ, ha, Bool.true_and]; refine adjStep.2 ⟨by rw [hgk]; first | assumption | simp_all, ?_⟩; rcases Nat.eq_zero_or_pos k with h0 | h0; (· exact .inl h0); (· right; rw [hgk, hgp h0]; first | (simp only [decide_eq_true_eq, ltA] at *; omega) | (simp_all; done))⟩) (And.intro (by omega) (And.intro (And.intro (by exact ⟨rfl, ⟨⟩⟩) (by exact ⟨rfl, ⟨⟩⟩)) (And.intro (by exact And.intro (by exact rfl) (True.intro)) (by exact ⟨⟩)))))
          ·have sg32 := g32
           try simp only [q1, q2, q3, q4, q5, q6, q7, q8, q9] at sg32
           refine dF 4095 g32 ?_
           refine dF 8191 g32 ?_
           refine dF 4095 g32 ?_
           refine dF 32767 g32 ?_
           refine dF 65535 g32 ?_
           refine dF 131071 g32 ?_
           refine dF 262143 g32 ?_
           refine dF 4095 g32 ?_
           refine dF 528383 g32 ?_
           refine dF 4095 g32 ?_
           refine dF 2101247 g32 ?_
           refine dF 7868415 g32 ?_
           refine dF 16257023 g32 ?_
           refine dF 33034239 g32 ?_
           refine dF 66588671 g32 ?_
           refine dF 134217727 g32 ?_
           refine dB 268435455 g30 ?_ (x := pkF g32)
           refine dA 536870911 ?_ (x := pkF g30)
           refine sw_cond (t := 88) rfl (fun hb_ => nomatch hb_) (fun hb_ => ?_)
           refine sw_skip ?_
           refine sO [(1, _), (3, _)] [(1, _)] ?_
           refine sw_reg ?_
           refine rA ?_ (x := sM)
           refine rA ?_ (x := B_add)
           refine rA ?_ (x := sA)
           refine Exists.intro (k + 1) (And.intro (by exact ⟨by omega, by rw [adjTo_succ, ha, Bool.true_and]; refine adjStep.2 ⟨by rw [hgk]; first | assumption | simp_all, ?_⟩; rcases Nat.eq_zero_or_pos k with h0 | h0; (· exact .inl h0); (· right; rw [hgk, hgp h0]; first | (simp only [decide_eq_true_eq, ltA] at *; omega) | (simp_all; done))⟩) (And.intro (by omega) (And.intro (And.intro (by exact ⟨rfl, ⟨⟩⟩) (by exact ⟨rfl, ⟨⟩⟩)) (And.intro (by exact And.intro (by exact rfl) (True.intro)) (by exact ⟨⟩)))))
        ·try simp only [q1, q2, q3, q4, q5, q6, q7, q8, q9] at hb29
         have hend : k = e.Active.length := by omega
         have hall : adjAll a0_ (okActive e.Store) ltA e.Active = true := adj_end ha hend
         refine sw_exit ?_
         refine sw_seq ?_
         refine sw_seq ?_
         refine sO [(1, _), (3, _)] [(1, (40, [PV.sl _ _, PV.val _, PV.val _, PV.sl _ _, PV.sl _ _, PV.sl _ _, PV.sl _ _, PV.val _]))] ?_
         refine sw_reg ?_
         refine rA ?_ (x := kA)
         refine sw_block ?_
         refine sO [(1, _), (3, _), (4, _)] [(1, _)] ?_
         refine sw_loop (l0 := [(1, RV.ptr 1 0), (3, RV.sv false [PV.val _])]) (b0 := [(1, (40, [PV.sl _ _, PV.val _, PV.val _, PV.sl _ _, PV.sl _ _, PV.sl _ _, PV.sl _ _, PV.val _]))]) (fun k : Nat => k ≤ e.Done.length ∧ (List.take k e.Done).all (okFin e.Store.Now) = true) (fun k : Nat => [(4, RV.int (k : Int))]) (fun k : Nat => []) (fun k : Nat => e.Done.length - k) 0 (by exact ⟨by omega, rfl⟩) (by exact ⟨rfl, rfl, ⟨⟩⟩) (by exact ⟨rfl, ⟨⟩⟩) (by exact And.intro (by exact rfl) (True.intro)) (by exact ⟨⟩) ?_
         rintro k ⟨hk, ha⟩
         refine sw_seq ?_
         refine sw_seq ?_
         refine sw_reg ?_
         refine rA ?_ (x := sM)
         refine rA ?_ (x := lF FEng_fd_40_4)
         refine rA ?_ (x := lD [PV.sl .v _] FEng_ty_37)
         refine rA ?_ (x := lN FEng_sl_37)
         refine rA ?_ (x := B_lss)
         refine sw_cond (t := 93) rfl (fun hb35 => ?_) (fun hb35 => ?_)
         ·try simp only [q1, q2, q3, q4, q5, q6, q7, q8, q9] at hb35
          have hlt : k < e.Done.length := by omega
          refine sw_skip ?_
          refine sw_seq ?_
          refine sw_block ?_
          refine sw_seq ?_
          refine sO [(1, _), (3, _), (4, _)] [(1, (40, [PV.sl _ _, PV.val _, PV.val _, PV.sl _ _, PV.sl _ _, PV.sl _ _, PV.sl _ _, PV.val _]))] ?_
          refine sw_reg ?_
          refine rA ?_ (x := lF FEng_fd_40_4)
          refine rA ?_ (x := lD [PV.sl .v _] FEng_ty_37)
          refine rA ?_ (x := sM)
          refine rA ?_ (x := loc_index (by decide) FEng_sl_37 (by exact ⟨⟩) (by exact rfl) (by exact getm2 (by omega) rfl) (by exact rfl))
          refine rA ?_ (x := lE [PV.val _, PV.val _, PV.sl .v _, PV.sl .v _, PV.val _, PV.val _, PV.sl .v _] FEng_ty_132)
          refine RunS.step (by exact ⟨⟩) (by exact ⟨⟩) (LocG.of rfl (loc_alloc (by decide) FEng_z_132 FEng_zo_132)) (free1 (Free.app (Free.app (Free.app (Free.app (Free.app (Free.of_ rfl) rfl) rfl) rfl) rfl) rfl)) ?_
          refine rA ?_ (x := loc_store (ag := true) (vs := [PV.val _, PV.val _, PV.sl _ _, PV.sl _ _, PV.val _, PV.val _, PV.sl _ _]) FEng_ty_132 (by exact ⟨⟩) (by exact rfl) (by exact Nat.le_of_ble_eq_true rfl))
          refine sw_seq ?_
          refine sO [(1, _), (3, _), (4, _), (5, _)] [(1, _), (5, (132, [PV.val _, PV.val _, PV.sl _ _, PV.sl _ _, PV.val _, PV.val _, PV.sl _ _]))] ?_
          refine sw_reg ?_
          refine rA ?_ (x := lF FEng_fd_132_0)
          refine rA ?_ (x := lD [PV.val _, PV.val _, PV.sl .v _, PV.sl .v _] FEng_ty_51)
          refine rA ?_ (x := cL [(true, [PV.val _, PV.val _, PV.sl _ _, PV.sl _ _])] [(true, [PV.val _, PV.val _, PV.sl .v _, PV.sl .v _])] FEng_c_83 (hs := by exact spec_IsQuery))
          refine rA ?_ (x := nT)
          refine rA ?_ (x := sM)
          refine RunS.cases (s := 105) rfl (fun g36 => ?_) (fun g36 => ?_)
          ·have sg36 := g36
           try simp only [q1, q2, q3, q4, q5, q6, q7, q8, q9] at sg36
           refine RunS.s0t g36 ?_
           refine RunS.s0t g36 ?_
           refine RunS.s0t g36 ?_
           refine RunS.s0t g36 ?_
           refine RunS.s0t g36 ?_
           refine RunS.s0t g36 ?_
           refine RunS.s0t g36 ?_
           refine rA ?_ (x := pkT g36)
           refine rA ?_ (x := sM)
           refine RunS.cases (s := 114) rfl (fun g37 => ?_) (fun g37 => nomatch g37)
           refine RunS.s0t g37 ?_
           refine RunS.s0t g37 ?_
           refine RunS.s0t g37 ?_
           refine RunS.s0t g37 ?_
           refine rA ?_ (x := pkT g37)
           refine rA ?_ (x := sM)
           refine RunS.cases (s := 120) rfl (fun g38 => ?_) (fun g38 => nomatch g38)
           refine RunS.s0t g38 ?_
           refine RunS.s0t g38 ?_
           refine RunS.s0t g38 ?_
           refine RunS.s0t g38 ?_
           refine rA ?_ (x := pkT g38)
           refine sw_cond (t := 125) rfl (fun hb_ => ?_) (fun hb_ => nomatch hb_)
           have hno : (okFin e.Store.Now) e.Done[k] = false := by first | (simp_all [okFin]; done) | (simp_all [okFin]; omega)
           have hbad2 := eng_no3 (all_no hlt hno)
           refine sw_seq ?_
           refine sO [(1, _), (3, _), (4, _), (5, _)] [(1, _), (5, _)] ?_
           refine sw_reg ?_
           refine rA ?_ (x := kA)
           refine sw_ret ?_
           exact (And.intro (by refine bool_eq ?_; exact hbad2.symm) True.intro)
          ·have sg36 := g36
           try simp only [q1, q2, q3, q4, q5, q6, q7, q8, q9] at sg36
           refine rB g36 ?_ (x := lF FEng_fd_132_1)
           refine rB g36 ?_ (x := lD [PV.val _] FEng_ty_3)
           refine rB g36 ?_ (x := lF FEng_fd_40_0)
           refine rB g36 ?_ (x := lF FEng_fd_35_1)
           refine rB g36 ?_ (x := lD [PV.val _] FEng_ty_3)
           refine rB g36 ?_ (x := cL [(false, [PV.val _]), (false, [PV.val _]), (false, [PV.val _])] [(false, [PV.val _]), (false, [PV.val _]), (false, [PV.val _])] FEng_c_80 (hs := by exact spec_l1In))
           refine rB g36 ?_ (x := nT)
           refine rA ?_ (x := pkF g36)
           refine rA ?_ (x := sM)
           refine RunS.cases (s := 114) rfl (fun g40 => ?_) (fun g40 => ?_)
           ·have sg40 := g40
            try simp only [q1, q2, q3, q4, q5, q6, q7, q8, q9] at sg40
            refine RunS.s0t g40 ?_
            refine RunS.s0t g40 ?_
            refine RunS.s0t g40 ?_
            refine RunS.s0t g40 ?_
            refine rA ?_ (x := pkT g40)
            refine rA ?_ (x := sM)
            refine RunS.cases (s := 120) rfl (fun g41 => ?_) (fun g41 => nomatch g41)
            refine RunS.s0t g41 ?_
            refine RunS.s0t g41 ?_
            refine RunS.s0t g41 ?_
            refine RunS.s0t g41 ?_
            refine rA ?_ (x := pkT g41)
            refine sw_cond (t := 125) rfl (fun hb_ => ?_) (fun hb_ => nomatch hb_)
            have hno : (okFin e.Store.Now) e.Done[k] = false := by first | (simp_all [okFin]; done) | (simp_all [okFin]; omega)
            have hbad2 := eng_no3 (all_no hlt hno)
            refine sw_seq ?_
            refine sO [(1, _), (3, _), (4, _), (5, _)] [(1, _), (5, _)] ?_
            refine sw_reg ?_
            refine rA ?_ (x := kA)
            refine sw_ret ?_
            exact (And.intro (by refine bool_eq ?_; exact hbad2.symm) True.intro)
           ·have sg40 := g40
            try simp only [q1, q2, q3, q4, q5, q6, q7, q8, q9] at sg40
            refine rB g40 ?_ (x := lF FEng_fd_132_2)
            refine rB g40 ?_ (x := lD [PV.val _] FEng_ty_3)
            refine rB g40 ?_ (x := cL [(false, [PV.val _]), (false, [PV.val _]), (false, [PV.val _])] [(false, [PV.val _]), (false, [PV.val _]), (false, [PV.val _])] FEng_c_80 (hs := by exact spec_l1In))
            refine rB g40 ?_ (x := nT)
            refine rA ?_ (x := pkF g40)
            refine rA ?_ (x := sM)
            refine RunS.cases (s := 120) rfl (fun g43 => ?_) (fun g43 => ?_)
            ·have sg43 := g43
             try simp only [q1, q2, q3, q4, q5, q6, q7, q8, q9] at sg43
             refine RunS.s0t g43 ?_
             refine RunS.s0t g43 ?_
             refine RunS.s0t g43 ?_
             refine RunS.s0t g43 ?_
             refine rA ?_ (x := pkT g43)
             refine sw_cond (t := 125) rfl (fun hb_ => ?_) (fun hb_ => nomatch hb_)
             have hno : (okFin e.Store.Now) e.Done[k] = false := by first | (simp_all [okFin]; done) | (simp_all [okFin]; omega)
             have hbad2 := eng_no3 (all_no hlt hno)
             refine sw_seq ?_
             refine sO [(1, _), (3, _), (4, _), (5, _)] [(1, _), (5, _)] ?_
             refine sw_reg ?_
             refine rA ?_ (x := kA)
             refine sw_ret ?_
             exact (And.intro (by refine bool_eq ?_; exact hbad2.symm) True.intro)
            ·have sg43 := g43
             try simp only [q1, q2, q3, q4, q5, q6, q7, q8, q9] at sg43
             refine rB g43 ?_ (x := lF FEng_fd_132_3)
             refine rB g43 ?_ (x := lD [PV.sl .v _] FEng_ty_83)
             refine rB g43 ?_ (x := cL [(false, [PV.sl _ _])] [(false, [PV.sl .v _])] FEng_c_84 (hs := by exact spec_l9List))
             refine rB g43 ?_ (x := nT)
             refine rA ?_ (x := pkF g43)
             refine sw_cond (t := 125) rfl (fun hb45 => ?_) (fun hb45 => ?_)
             ·try simp only [q1, q2, q3, q4, q5, q6, q7, q8, q9] at hb45
              have hno : (okFin e.Store.Now) e.Done[k] = false := by first | (simp_all [okFin]; done) | (simp_all [okFin]; omega)
              have hbad2 := eng_no3 (all_no hlt hno)
              refine sw_seq ?_
              refine sO [(1, _), (3, _), (4, _), (5, _)] [(1, _), (5, _)] ?_
              refine sw_reg ?_
              refine rA ?_ (x := kA)
              refine sw_ret ?_
              exact (And.intro (by refine bool_eq ?_; exact hbad2.symm) True.intro)
             ·try simp only [q1, q2, q3, q4, q5, q6, q7, q8, q9] at hb45
              have hyes : (okFin e.Store.Now) e.Done[k] = true := by first | (simp_all [okFin]; done) | (simp_all [okFin]; omega)
              refine sw_skip ?_
              refine sO [(1, _), (3, _), (4, _), (5, _)] [(1, _), (5, _)] ?_
              refine sw_reg ?_
              refine rA ?_ (x := sM)
              refine rA ?_ (x := B_add)
              refine rA ?_ (x := sA)
              refine Exists.intro (k + 1) (And.intro (by exact ⟨by omega, all_succ ha hlt hyes⟩) (And.intro (by omega) (And.intro (And.intro (by exact ⟨rfl, rfl, ⟨⟩⟩) (by exact ⟨rfl, ⟨⟩⟩)) (And.intro (by exact And.intro (by exact rfl) (True.intro)) (by exact ⟨⟩)))))
         ·try simp only [q1, q2, q3, q4, q5, q6, q7, q8, q9] at hb35
          have hfa : e.Done.all (okFin e.Store.Now) = true := all_end (by rw [show e.Done.length = k by omega]; exact ha)
          refine sw_exit ?_
          refine sw_seq ?_
          refine sw_seq ?_
          refine sO [(1, _), (3, _), (4, _)] [(1, (40, [PV.sl _ _, PV.val _, PV.val _, PV.sl _ _, PV.sl _ _, PV.sl _ _, PV.sl _ _, PV.val _]))] ?_
          refine sw_reg ?_
          refine rA ?_ (x := kA)
          refine sw_block ?_
          refine sO [(1, _), (3, _), (4, _), (6, _)] [(1, _)] ?_
          refine sw_loop (l0 := [(1, RV.ptr 1 0), (3, RV.sv false [PV.val _]), (4, RV.sv false [PV.val _])]) (b0 := [(1, (40, [PV.sl _ _, PV.val _, PV.val _, PV.sl _ _, PV.sl _ _, PV.sl _ _, PV.sl _ _, PV.val _]))]) (fun k : Nat => k ≤ e.Ledger.length ∧ (List.take k e.Ledger).all okCharge = true) (fun k : Nat => [(6, RV.int (k : Int))]) (fun k : Nat => []) (fun k : Nat => e.Ledger.length - k) 0 (by exact ⟨by omega, rfl⟩) (by exact ⟨rfl, rfl, rfl, ⟨⟩⟩) (by exact ⟨rfl, ⟨⟩⟩) (by exact And.intro (by exact rfl) (True.intro)) (by exact ⟨⟩) ?_
          rintro k ⟨hk, ha⟩
          refine sw_seq ?_
          refine sw_seq ?_
          refine sw_reg ?_
          refine rA ?_ (x := sM)
          refine rA ?_ (x := lF FEng_fd_40_5)
          refine rA ?_ (x := lD [PV.sl .v _] FEng_ty_38)
          refine rA ?_ (x := lN FEng_sl_38)
          refine rA ?_ (x := B_lss)
          refine sw_cond (t := 130) rfl (fun hb46 => ?_) (fun hb46 => ?_)
          ·try simp only [q1, q2, q3, q4, q5, q6, q7, q8, q9] at hb46
           have hlt : k < e.Ledger.length := by omega
           refine sw_skip ?_
           refine sw_seq ?_
           refine sw_block ?_
           refine sw_seq ?_
           refine sO [(1, _), (3, _), (4, _), (6, _)] [(1, (40, [PV.sl _ _, PV.val _, PV.val _, PV.sl _ _, PV.sl _ _, PV.sl _ _, PV.sl _ _, PV.val _]))] ?_
           refine sw_reg ?_
           refine rA ?_ (x := lF FEng_fd_40_5)
           refine rA ?_ (x := lD [PV.sl .v _] FEng_ty_38)
           refine rA ?_ (x := sM)
           refine rA ?_ (x := loc_index (by decide) FEng_sl_38 (by exact ⟨⟩) (by exact rfl) (by exact getm2 (by omega) rfl) (by exact rfl))
           refine rA ?_ (x := lE [PV.val _, PV.val _, PV.sl .v _, PV.sl .v _, PV.sl .v _] FEng_ty_136)
           refine rA ?_ (x := cL [(true, [PV.val _, PV.val _, PV.sl _ _, PV.sl _ _, PV.sl _ _])] [(true, [PV.val _, PV.val _, PV.sl .v _, PV.sl .v _, PV.sl .v _])] FEng_c_85 (hs := by exact spec_IsCharge))
           refine rA ?_ (x := nT)
           refine sw_cond (t := 139) rfl (fun hb47 => ?_) (fun hb47 => ?_)
           ·try simp only [q1, q2, q3, q4, q5, q6, q7, q8, q9] at hb47
            have hno : okCharge e.Ledger[k] = false := by simpa using hb47
            have hbad2 := eng_no4 (all_no hlt hno)
            refine sw_seq ?_
            refine sO [(1, _), (3, _), (4, _), (6, _)] [(1, _)] ?_
            refine sw_reg ?_
            refine rA ?_ (x := kA)
            refine sw_ret ?_
            exact (And.intro (by refine bool_eq ?_; exact hbad2.symm) True.intro)
           ·try simp only [q1, q2, q3, q4, q5, q6, q7, q8, q9] at hb47
            have hyes : okCharge e.Ledger[k] = true := by simpa using hb47
            refine sw_skip ?_
            refine sO [(1, _), (3, _), (4, _), (6, _)] [(1, _)] ?_
            refine sw_reg ?_
            refine rA ?_ (x := sM)
            refine rA ?_ (x := B_add)
            refine rA ?_ (x := sA)
            refine Exists.intro (k + 1) (And.intro (by exact ⟨by omega, all_succ ha hlt hyes⟩) (And.intro (by omega) (And.intro (And.intro (by exact ⟨rfl, rfl, rfl, ⟨⟩⟩) (by exact ⟨rfl, ⟨⟩⟩)) (And.intro (by exact And.intro (by exact rfl) (True.intro)) (by exact ⟨⟩)))))
          ·try simp only [q1, q2, q3, q4, q5, q6, q7, q8, q9] at hb46
           have hla : e.Ledger.all okCharge = true := all_end (by rw [show e.Ledger.length = k by omega]; exact ha)
           refine sw_exit ?_
           refine sw_seq ?_
           refine sO [(1, _), (3, _), (4, _), (6, _)] [(1, (40, [PV.sl _ _, PV.val _, PV.val _, PV.sl _ _, PV.sl _ _, PV.sl _ _, PV.sl _ _, PV.val _]))] ?_
           refine sw_reg ?_
           refine rA ?_ (x := kA)
           refine sw_ret ?_
           exact (And.intro (by refine bool_eq ?_; exact (eng_yes hpr hall hfa hla).symm) True.intro)
end Go.Proofs.YteflgldonmgejaaGreatDoor
