/- What functions of the program compute. No condition. -/
import Derived.Test.YtaomckpfgmhapaaCSrtAFnTops
import Derived.Test.YtaomckpfgmhapaaCDg
import Derived.Test.YtaomckpfgmhapaaCSetFnTops
import Derived.KernelRfl
set_option linter.unusedVariables false
set_option linter.unusedSimpArgs false
namespace Go.Proofs.Ytaomckpfgmhapaa
open Go Go.RowKit M
set_option maxRecDepth 10000
attribute [local irreducible] PV.Lcl PV.LclR RV.Lcl
theorem FTop_c_11 : callI Try.prog 11 = true := by kernel_rfl
theorem FTop_c_21 : callI Try.prog 21 = true := by kernel_rfl
theorem FTop_c_22 : callI Try.prog 22 = true := by kernel_rfl
theorem FTop_c_28 : callI Try.prog 28 = true := by kernel_rfl
theorem FTop_c_30 : callI Try.prog 30 = true := by kernel_rfl
theorem FTop_c_34 : callI Try.prog 34 = true := by kernel_rfl
theorem FTop_c_35 : callI Try.prog 35 = true := by kernel_rfl
theorem FTop_c_37 : callI Try.prog 37 = true := by kernel_rfl
theorem FTop_c_38 : callI Try.prog 38 = true := by kernel_rfl
theorem FTop_c_42 : callI Try.prog 42 = true := by kernel_rfl
theorem FTop_c_43 : callI Try.prog 43 = true := by kernel_rfl
theorem FTop_c_44 : callI Try.prog 44 = true := by kernel_rfl
theorem FTop_c_45 : callI Try.prog 45 = true := by kernel_rfl
theorem FTop_fd_35_0 : fieldI Try.prog 35 0 = some 0 := by kernel_rfl
theorem FTop_fd_35_1 : fieldI Try.prog 35 1 = some 2 := by kernel_rfl
theorem FTop_fd_51_0 : fieldI Try.prog 51 0 = some 0 := by kernel_rfl
theorem FTop_fd_51_1 : fieldI Try.prog 51 1 = some 1 := by kernel_rfl
theorem FTop_pl_51 : placesI Try.prog 51 = some [(0, 1), (1, 1)] := by kernel_rfl
theorem FTop_sl_24 : sliceI Try.prog 24 = some (35, 3, 56) := by kernel_rfl
theorem FTop_sl_31 : sliceI Try.prog 31 = some (3, 1, 8) := by kernel_rfl
theorem FTop_sl_39 : sliceI Try.prog 39 = some (33, 2, 32) := by kernel_rfl
theorem FTop_sl_43 : sliceI Try.prog 43 = some (51, 2, 32) := by kernel_rfl
theorem FTop_ty_3 : tyI Try.prog 3 = some (false, 1) := by kernel_rfl
theorem FTop_ty_31 : tyI Try.prog 31 = some (false, 1) := by kernel_rfl
theorem FTop_ty_33 : tyI Try.prog 33 = some (true, 2) := by kernel_rfl
theorem FTop_ty_35 : tyI Try.prog 35 = some (true, 3) := by kernel_rfl
theorem FTop_ty_39 : tyI Try.prog 39 = some (false, 1) := by kernel_rfl
theorem FTop_ty_51 : tyI Try.prog 51 = some (true, 2) := by kernel_rfl
theorem FTop_z_33 : zeroI Try.prog 33 = some (.agg #[.int .i64 0, .slice none 0 0]) := by kernel_rfl
theorem FTop_z_35 : zeroI Try.prog 35 = some (.agg #[.int .i64 0, .slice none 0 0, .slice none 0 0]) := by kernel_rfl
theorem FTop_z_51 : zeroI Try.prog 51 = some (.agg #[.int .i64 0, .slice none 0 0]) := by kernel_rfl
theorem FTop_zo_35 {Fz : FzT} {w : World} : OwnL [PV.val (.int .i64 0), PV.sl (.own 3 1) [], PV.sl (.own 3 1) []] Fz w (Value.cells (.agg #[.int .i64 0, .slice none 0 0, .slice none 0 0])).toList [] := zo_val rfl (zo_sl (zo_sl (zo_nil)))
theorem FTop_zo_51 {Fz : FzT} {w : World} : OwnL [PV.val (.int .i64 0), PV.sl (.own 33 2) []] Fz w (Value.cells (.agg #[.int .i64 0, .slice none 0 0])).toList [] := zo_val rfl (zo_sl (zo_nil))
theorem impl_allFull {p1 p2 : Fl} {l : List Routed} {c : Int}  : SCall Try.prog 44 [(false, [PV.sl .v (l.map (cRouted p1 p2))]), (false, [PV.val (vI c)])] (resRV [(false, [PV.val (.bool (l.all (fun r : Routed => decide (c ≤ (r.Rows.length : Int)))))])]) := by
 refine scall_of (rs := [(false, [PV.val (.bool (l.all (fun r : Routed => decide (c ≤ (r.Rows.length : Int)))))])]) Try.func44 rfl (Nat.le_of_ble_eq_true rfl) (borA_cons (BorL.cons (PV.bor_sl _) BorL.nil) (borA_cons (BorL.cons (PV.bor_val _) BorL.nil) borA_nil)) ?_
 intro h0 w0 Fz0
 refine sw_len (s := 0) rfl fun hl0 => ?_
 try rw [List.length_map] at hl0
 refine sw_seq ?_
 refine sw_reg ?_
 refine rA ?_ (x := kA)
 refine sw_seq ?_
 refine sw_seq ?_
 refine sO [(0, _), (1, _), (4, _)] [] ?_
 refine sw_reg ?_
 refine rA ?_ (x := vM false [PV.sl .v _])
 refine rA ?_ (x := lN FTop_sl_43)
 refine rA ?_ (x := kM)
 refine sw_block ?_
 refine sO [(0, _), (1, _), (4, _), (7, _), (8, _), (9, _)] [] ?_
 refine sw_loop (l0 := [(0, RV.sv false [PV.sl _ _]), (1, RV.sv false [PV.val _]), (7, RV.sv false [PV.sl _ _]), (8, RV.sv false [PV.val _])]) (b0 := []) (fun k : Nat => k ≤ l.length ∧ (l.take k).all (fun r : Routed => decide (c ≤ (r.Rows.length : Int))) = true) (fun k : Nat => [(9, RV.int (k : Int))]) (fun k : Nat => []) (fun k : Nat => l.length - k) 0 (by exact ⟨by omega, by simp⟩) (by exact ⟨rfl, rfl, rfl, rfl, ⟨⟩⟩) (by exact ⟨⟩) (by exact And.intro (by exact rfl) (True.intro)) (by exact ⟨⟩) ?_
 rintro k ⟨hk, ha⟩
 refine sw_seq ?_
 refine sw_reg ?_
 refine rA ?_ (x := B_lss)
 refine sw_seq ?_
 refine sw_cond (t := 10) rfl (fun hb1 => ?_) (fun hb1 => ?_)
 ·try simp only [q1, q2, q3, q4, q5, q6, q7, q8, q9] at hb1
  have hlt : k < l.length := by omega
  refine sw_skip ?_
  refine sw_seq ?_
  refine sw_block ?_
  refine sw_seq ?_
  refine sO [(0, _), (1, _), (7, _), (8, _), (9, _)] [] ?_
  refine sw_reg ?_
  refine rA ?_ (x := loc_index (by decide) FTop_sl_43 (by exact ⟨⟩) (by exact rfl) (by exact getm2 (by omega) rfl) (by exact rfl))
  refine rA ?_ (x := lE [PV.val _, PV.sl .v _] FTop_ty_51)
  refine RunS.step (by exact ⟨⟩) (by exact ⟨⟩) (LocG.of rfl (loc_alloc (by decide) FTop_z_51 FTop_zo_51)) (free1 (Free.app (Free.app (Free.of_ rfl) rfl) rfl)) ?_
  refine rA ?_ (x := loc_store (ag := true) (vs := [PV.val _, PV.sl _ _]) FTop_ty_51 (by exact ⟨⟩) (by exact rfl) (by exact Nat.le_of_ble_eq_true rfl))
  refine sw_seq ?_
  refine sO [(0, _), (1, _), (6, _), (7, _), (8, _), (9, _)] [(6, (51, [PV.val _, PV.sl _ _]))] ?_
  refine sw_reg ?_
  refine rA ?_ (x := lF FTop_fd_51_1)
  refine rA ?_ (x := lD [PV.sl .v _] FTop_ty_39)
  refine rA ?_ (x := lN FTop_sl_39)
  refine rA ?_ (x := sM)
  refine rA ?_ (x := B_lss)
  refine sw_cond (t := 17) rfl (fun hb2 => ?_) (fun hb2 => ?_)
  ·try simp only [q1, q2, q3, q4, q5, q6, q7, q8, q9] at hb2
   have hno : (fun r : Routed => decide (c ≤ (r.Rows.length : Int))) l[k] = false := by have hh := hb2; dsimp only; rw [decide_eq_false_iff_not]; first | omega | (rw [List.length_map] at hh; omega)
   refine sw_seq ?_
   refine sO [(0, _), (1, _), (6, _), (7, _), (8, _), (9, _)] [(6, _)] ?_
   refine sw_reg ?_
   refine rA ?_ (x := kA)
   refine sw_ret ?_
   exact (And.intro (by refine bool_eq ?_; rw [all_no hlt hno]) True.intro)
  ·try simp only [q1, q2, q3, q4, q5, q6, q7, q8, q9] at hb2
   have hyes : (fun r : Routed => decide (c ≤ (r.Rows.length : Int))) l[k] = true := by have hh := hb2; dsimp only; rw [decide_eq_true_eq]; first | omega | (rw [List.length_map] at hh; omega)
   refine sw_skip ?_
   refine sO [(0, _), (1, _), (6, _), (7, _), (8, _), (9, _)] [(6, _)] ?_
   refine sw_reg ?_
   refine rA ?_ (x := B_add)
   refine rA ?_ (x := sM)
   refine Exists.intro (k + 1) (And.intro (by exact ⟨by omega, all_succ ha hlt hyes⟩) (And.intro (by omega) (And.intro (And.intro (by exact ⟨rfl, rfl, rfl, rfl, ⟨⟩⟩) (by exact ⟨⟩)) (And.intro (by exact And.intro (by exact rfl) (True.intro)) (by exact ⟨⟩)))))
 ·try simp only [q1, q2, q3, q4, q5, q6, q7, q8, q9] at hb1
  have hall : l.all (fun r : Routed => decide (c ≤ (r.Rows.length : Int))) = true := all_end (by rw [show l.length = k by omega]; exact ha)
  refine sw_exit ?_
  refine sw_seq ?_
  refine sO [(0, _), (1, _), (7, _), (8, _), (9, _)] [] ?_
  refine sw_reg ?_
  refine rA ?_ (x := kA)
  refine sw_ret ?_
  exact (And.intro (by refine bool_eq ?_; rw [hall]) True.intro)
theorem impl_TopShared {p1 p2 : Fl} {l : List Annotated} {ids : List Int} {f : Int} {c : Int}  (hb : wtAnnotatedS l ≤ 68719476736) (hb2 : ids.length ≤ 68719476736) : SCall Try.prog 17 [(false, [PV.sl .v (l.map (cAnnotated p1 p2))]), (false, [PV.sl .v (ids.map cInt)]), (false, [PV.val (vI f)]), (false, [PV.val (vI c)])] (resRV [(false, [PV.sl (.own 51 2) ((topShared l ids f c).1.map (cRouted (.own 33 2) (.own 3 1)))]), (false, [PV.val (vI (topShared l ids f c).2)])]) := by
 refine scall_lo (largs := fun L => [(false, [PV.sl (.lo L) (l.map (cAnnotated (.lo L) (.lo L)))]), (false, [PV.sl (.lo L) (ids.map cInt)]), (false, [PV.val (vI f)]), (false, [PV.val (vI c)])]) (rs := [(false, [PV.sl (.own 51 2) ((topShared l ids f c).1.map (cRouted (.own 33 2) (.own 3 1)))]), (false, [PV.val (vI (topShared l ids f c).2)])]) Try.func17 rfl (Nat.le_of_ble_eq_true rfl) (fun L => by exact (And.intro (And.intro rfl (ToBL.cons (PV.tob_map (fun _ => Nat.le_of_ble_eq_true rfl) (fun _ => (ToBL.cons PV.tob_refl (ToBL.cons (PV.tob_map (fun _ => Nat.le_of_ble_eq_true rfl) (fun _ => (ToBL.cons PV.tob_refl ToBL.nil))) (ToBL.cons (PV.tob_map (fun _ => Nat.le_of_ble_eq_true rfl) (fun _ => (ToBL.cons PV.tob_refl ToBL.nil))) ToBL.nil))))) ToBL.nil)) (And.intro (And.intro rfl (ToBL.cons (PV.tob_map (fun _ => Nat.le_of_ble_eq_true rfl) (fun _ => (ToBL.cons PV.tob_refl ToBL.nil))) ToBL.nil)) (And.intro (And.intro rfl (ToBL.cons PV.tob_refl ToBL.nil)) (And.intro (And.intro rfl (ToBL.cons PV.tob_refl ToBL.nil)) True.intro))))) (fun L => by exact (borA_cons (BorL.cons (PV.bor_lo _ _) BorL.nil) (borA_cons (BorL.cons (PV.bor_lo _ _) BorL.nil) (borA_cons (BorL.cons (PV.bor_val _) BorL.nil) (borA_cons (BorL.cons (PV.bor_val _) BorL.nil) borA_nil))))) ?_
 intro w0 Fz0
 refine sw_len (s := 0) rfl fun hl0 => ?_
 try rw [List.length_map] at hl0
 refine sw_len (s := 1) rfl fun hl1 => ?_
 try rw [List.length_map] at hl1
 have hbl : l.length ≤ wtAnnotatedS l := Nat.le_add_right _ _
 have hsw := sortF_wt l f
 have hswl : (sortF l f).length ≤ wtAnnotatedS (sortF l f) := Nat.le_add_right _ _
 refine sw_seq ?_
 refine sw_reg ?_
 refine rA ?_ (x := loc_const (.inr rfl) (by decide) (ok_nil (t := 51) (e := 2)))
 refine rA ?_ (x := kA)
 refine sw_seq ?_
 refine sw_seq ?_
 refine sO [(0, _), (1, _), (2, _), (3, _), (8, _), (9, _)] [] ?_
 refine sw_reg ?_
 refine rA ?_ (x := vM false [PV.sl (.lo _) _])
 refine rA ?_ (x := sM)
 refine rA ?_ (x := cL [(false, [PV.sl (.lo _) _]), (false, [PV.val _])] [(false, [PV.sl .v _]), (false, [PV.val _])] FTop_c_28 (hs := by exact impl_annotatedOk))
 refine rA ?_ (x := nT)
 refine rA ?_ (x := sM)
 refine RunS.cases (s := 21) rfl (fun g1 => ?_) (fun g1 => ?_)
 ·have sg1 := g1
  try simp only [q1, q2, q3, q4, q5, q6, q7, q8, q9] at sg1
  refine RunS.s0t g1 ?_
  refine RunS.s0t g1 ?_
  refine RunS.s0t g1 ?_
  refine rA ?_ (x := pkT g1)
  refine rA ?_ (x := sM)
  refine RunS.cases (s := 26) rfl (fun g2 => ?_) (fun g2 => nomatch g2)
  refine RunS.s0t g2 ?_
  refine RunS.s0t g2 ?_
  refine RunS.s0t g2 ?_
  refine rA ?_ (x := pkT g2)
  refine sw_cond (t := 30) rfl (fun hb_ => ?_) (fun hb_ => nomatch hb_)
  have hr := topShared_no (l := l) (ids := ids) (f := f) (k := c) (by intro hh; simp_all)
  refine sw_seq ?_
  refine sO [(0, _), (1, _), (2, _), (3, _), (8, _), (9, _)] [] ?_
  refine sw_reg ?_
  refine rA ?_ (x := loc_const (.inr rfl) (by decide) (ok_nil (t := 51) (e := 2)))
  refine rA ?_ (x := kA)
  refine sw_ret ?_
  exact (And.intro (by refine slc_eq ?_; rw [hr]; try rfl) (And.intro (by refine int_eq ?_; rw [hr]; try rfl) True.intro))
 ·have sg1 := g1
  try simp only [q1, q2, q3, q4, q5, q6, q7, q8, q9] at sg1
  refine rB g1 ?_ (x := vM false [PV.sl (.lo _) _])
  refine rB g1 ?_ (x := cL [(false, [PV.sl (.lo _) _])] [(false, [PV.sl .v _])] FTop_c_42 (hs := by exact impl_IsSet))
  refine rB g1 ?_ (x := nT)
  refine rA ?_ (x := pkF g1)
  refine rA ?_ (x := sM)
  refine RunS.cases (s := 26) rfl (fun g4 => ?_) (fun g4 => ?_)
  ·have sg4 := g4
   try simp only [q1, q2, q3, q4, q5, q6, q7, q8, q9] at sg4
   refine RunS.s0t g4 ?_
   refine RunS.s0t g4 ?_
   refine RunS.s0t g4 ?_
   refine rA ?_ (x := pkT g4)
   refine sw_cond (t := 30) rfl (fun hb_ => ?_) (fun hb_ => nomatch hb_)
   have hr := topShared_no (l := l) (ids := ids) (f := f) (k := c) (by intro hh; simp_all)
   refine sw_seq ?_
   refine sO [(0, _), (1, _), (2, _), (3, _), (8, _), (9, _)] [] ?_
   refine sw_reg ?_
   refine rA ?_ (x := loc_const (.inr rfl) (by decide) (ok_nil (t := 51) (e := 2)))
   refine rA ?_ (x := kA)
   refine sw_ret ?_
   exact (And.intro (by refine slc_eq ?_; rw [hr]; try rfl) (And.intro (by refine int_eq ?_; rw [hr]; try rfl) True.intro))
  ·have sg4 := g4
   try simp only [q1, q2, q3, q4, q5, q6, q7, q8, q9] at sg4
   refine rB g4 ?_ (x := sM)
   refine rB g4 ?_ (x := cL [(false, [PV.val _]), (false, [PV.val _]), (false, [PV.val _])] [(false, [PV.val _]), (false, [PV.val _]), (false, [PV.val _])] FTop_c_43 (hs := by exact impl_within))
   refine rB g4 ?_ (x := nT)
   refine rA ?_ (x := pkF g4)
   refine sw_cond (t := 30) rfl (fun hb6 => ?_) (fun hb6 => ?_)
   ·try simp only [q1, q2, q3, q4, q5, q6, q7, q8, q9] at hb6
    have hr := topShared_no (l := l) (ids := ids) (f := f) (k := c) (by intro hh; simp_all)
    refine sw_seq ?_
    refine sO [(0, _), (1, _), (2, _), (3, _), (8, _), (9, _)] [] ?_
    refine sw_reg ?_
    refine rA ?_ (x := loc_const (.inr rfl) (by decide) (ok_nil (t := 51) (e := 2)))
    refine rA ?_ (x := kA)
    refine sw_ret ?_
    exact (And.intro (by refine slc_eq ?_; rw [hr]; try rfl) (And.intro (by refine int_eq ?_; rw [hr]; try rfl) True.intro))
   ·try simp only [q1, q2, q3, q4, q5, q6, q7, q8, q9] at hb6
    have h3 : annOk l f = true ∧ okSet ids = true ∧ inB c 1 100 = true := by simp_all
    have hr := topShared_ok h3.1 h3.2.1 h3.2.2
    have hcB : 1 ≤ c ∧ c ≤ 100 := by have hh := h3.2.2; simpa [inB] using hh
    have hid := okSet_len2 h3.2.1
    refine sw_skip ?_
    refine sw_seq ?_
    refine sO [(0, _), (1, _), (2, _), (3, _), (8, _), (9, _)] [] ?_
    refine sw_reg ?_
    refine rA ?_ (x := loc_bslice (qs := []) (by decide) FTop_sl_43 FTop_z_51 (by decide) rfl rfl rfl rfl rfl (by exact Nat.le_of_ble_eq_true rfl) (by exact ⟨⟩) rfl)
    refine rA ?_ (x := tA)
    refine sw_seq ?_
    refine sw_seq ?_
    refine sO [(0, _), (1, _), (2, _), (3, _), (8, _), (9, _), (10, _)] [] ?_
    refine sw_reg ?_
    refine rA ?_ (x := vM false [PV.sl (.lo _) _])
    refine rA ?_ (x := lN FTop_sl_31)
    refine rA ?_ (x := kM)
    refine sw_block ?_
    refine sO [(0, _), (1, _), (2, _), (3, _), (8, _), (9, _), (10, _), (32, _), (33, _), (34, _)] [] ?_
    refine sw_loop (l0 := [(0, RV.sv false [PV.sl (.lo _) _]), (1, RV.sv false [PV.sl (.lo _) _]), (2, RV.sv false [PV.val _]), (3, RV.sv false [PV.val _]), (8, RV.sv false [PV.sl _ _]), (9, RV.sv false [PV.val _]), (32, RV.sv false [PV.sl (.lo _) _]), (33, RV.sv false [PV.val _])]) (b0 := []) (fun j : Nat => j ≤ ids.length) (fun j : Nat => [(10, RV.slc (.own 51 2) ((topAt (sortF l f) c.toNat (ids.take j) 0).map (cRouted (.own 33 2) (.own 3 1)))), (34, RV.int (j : Int))]) (fun j : Nat => []) (fun j : Nat => ids.length - j) 0 (by omega) (by exact ⟨rfl, rfl, rfl, rfl, rfl, rfl, rfl, rfl, ⟨⟩⟩) (by exact ⟨⟩) (by exact And.intro (by exact rfl) (And.intro (by exact rfl) (True.intro))) (by exact ⟨⟩) ?_
    rintro j hj
    have htl : (topAt (sortF l f) c.toNat (ids.take j) 0).length = j := by rw [topAt_len, List.length_take]; omega
    refine sw_seq ?_
    refine sw_reg ?_
    refine rA ?_ (x := B_lss)
    refine sw_seq ?_
    refine sw_cond (t := 35) rfl (fun hb7 => ?_) (fun hb7 => ?_)
    ·try simp only [q1, q2, q3, q4, q5, q6, q7, q8, q9] at hb7
     have hlt : j < ids.length := by omega
     refine sw_skip ?_
     refine sw_seq ?_
     refine sw_block ?_
     refine sw_seq ?_
     refine sO [(0, _), (1, _), (2, _), (3, _), (8, _), (9, _), (10, _), (32, _), (33, _), (34, _)] [] ?_
     refine sw_reg ?_
     refine rA ?_ (x := loc_index (by decide) FTop_sl_31 (by exact ⟨⟩) (by exact rfl) (by exact getm2 (by omega) rfl) (by exact rfl))
     refine rA ?_ (x := lE [PV.val _] FTop_ty_3)
     refine rA ?_ (x := sA)
     refine sO [(0, _), (1, _), (2, _), (3, _), (8, _), (9, _), (10, _), (12, _), (32, _), (33, _), (34, _)] [] ?_
     refine sw_reg ?_
     refine rA ?_ (x := tM)
     refine rA ?_ (x := sM)
     refine rA ?_ (x := loc_build (qs := [(false, [PV.val _])]) (cs := [PV.val _, PV.sl _ _]) (by decide) FTop_z_51 FTop_zo_51 FTop_pl_51 (by exact rfl) (by exact (And.intro (by exact ⟨⟩) True.intro)) rfl (by exact rfl))
     refine rA ?_ (x := loc_bslice (qs := [(true, [PV.val _, PV.sl _ _])]) (by decide) FTop_sl_43 FTop_z_51 (by decide) rfl rfl rfl rfl rfl (by exact Nat.le_of_ble_eq_true rfl) (by exact (And.intro (by exact ⟨⟩) True.intro)) rfl)
     refine rA ?_ (x := loc_append (by decide) FTop_sl_43 FTop_z_51 rfl rfl (by decide) rfl (by simp only [List.length_map, List.length_append, List.length_cons, List.length_nil]; omega) (by simp only [List.length_map, List.length_append, List.length_cons, List.length_nil]; omega))
     refine rA ?_ (x := tA)
     refine sO [(0, _), (1, _), (2, _), (3, _), (8, _), (9, _), (10, _), (12, _), (32, _), (33, _), (34, _)] [] ?_
     refine sw_reg ?_
     refine rA ?_ (x := B_add)
     refine rA ?_ (x := sM)
     refine Exists.intro (j + 1) (And.intro (by omega) (And.intro (by omega) (And.intro (And.intro (by exact ⟨rfl, rfl, rfl, rfl, rfl, rfl, rfl, rfl, ⟨⟩⟩) (by exact ⟨⟩)) (And.intro (by exact And.intro (by exact slc_eq (by rw [topAt_snoc hlt, List.map_append]; rfl)) (And.intro (by exact int_eq (by omega)) (True.intro))) (by exact ⟨⟩)))))
    ·try simp only [q1, q2, q3, q4, q5, q6, q7, q8, q9] at hb7
     have hej : j = ids.length := by omega
     refine sw_exit ?_
     refine sw_seq ?_
     refine sO [(0, _), (1, _), (2, _), (3, _), (8, _), (9, _), (10, _), (32, _), (33, _), (34, _)] [] ?_
     refine sw_reg ?_
     refine rA ?_ (x := kA)
     refine sw_seq ?_
     refine sw_seq ?_
     refine sO [(0, _), (1, _), (2, _), (3, _), (8, _), (9, _), (10, _), (13, _), (32, _), (33, _), (34, _)] [] ?_
     refine sw_regL ?_
     refine wA ?_ (x := vM false [PV.sl (.lo _) _])
     refine wA ?_ (x := sM)
     refine wO [(0, _), (1, _), (2, _), (3, _), (8, _), (9, _), (10, _), (13, _), (32, _), (33, _), (34, _), (44, _), (45, _)] [] ?_
     refine swl_lcall (G := 6000) (qs := [(false, [PV.sl (.lo _) _]), (false, [PV.val _])]) (as_ := [(false, [PV.sl .v _]), (false, [PV.val _])]) (fun B => [PV.sl (.lo B) ((sortF l f).map (cAnnotated (.lo B) (.lo B)))]) (by decide) FTop_c_21 (by exact ⟨rfl, rfl, ⟨⟩⟩) (by exact (And.intro (by exact ⟨⟩) (And.intro (by exact ⟨⟩) True.intro))) (by exact (And.intro (LclRC.cons (PV.lclr_lo (LclRC.map fun x => (LclRC.cons PV.lclr_val (LclRC.cons (PV.lclr_lo (LclRC.map fun x => (LclRC.cons PV.lclr_val LclRC.nil))) (LclRC.cons (PV.lclr_lo (LclRC.map fun x => (LclRC.cons PV.lclr_val LclRC.nil))) LclRC.nil))))) LclRC.nil) (And.intro (LclRC.cons PV.lclr_val LclRC.nil) True.intro))) (by exact (And.intro (And.intro rfl (ToL.cons PV.to_none ToL.nil)) (And.intro (And.intro rfl (ToL.cons (PV.To.refl _) ToL.nil)) True.intro))) (by exact (impl_SortByField (by omega))) (fun B => by exact (ToBL.cons (PV.tob_map (fun _ => Nat.le_of_ble_eq_true rfl) (fun _ => (ToBL.cons PV.tob_refl (ToBL.cons (PV.tob_map (fun _ => Nat.le_of_ble_eq_true rfl) (fun _ => (ToBL.cons PV.tob_refl ToBL.nil))) (ToBL.cons (PV.tob_map (fun _ => Nat.le_of_ble_eq_true rfl) (fun _ => (ToBL.cons PV.tob_refl ToBL.nil))) ToBL.nil))))) ToBL.nil)) (fun B => by exact (BorL.cons (PV.bor_lo _ _) BorL.nil)) fun Bl hBl => ?_
     refine wA ?_ (x := lN FTop_sl_24)
     refine wA ?_ (x := kM)
     refine swl_nil ?_
     refine sO [(0, _), (1, _), (2, _), (3, _), (8, _), (9, _), (10, _), (13, _), (32, _), (33, _), (34, _), (46, _), (47, _), (48, _), (6000, _)] [] ?_
     refine sw_fix (B := Bl) 6000 [(2, _), (3, _), (8, _), (9, _), (10, _), (13, _), (33, _), (34, _), (46, _), (47, _), (48, _)] (by exact rfl) (by exact (FixL.cons (by exact rfl) (by exact rfl) FixR.refl (FixL.cons (by exact rfl) (by exact rfl) FixR.refl (FixL.cons (by exact rfl) (by exact rfl) FixR.refl (FixL.cons (by exact rfl) (by exact rfl) FixR.refl (FixL.cons (by exact rfl) (by exact rfl) FixR.refl (FixL.cons (by exact rfl) (by exact rfl) FixR.refl (FixL.cons (by exact rfl) (by exact rfl) FixR.refl (FixL.cons (by exact rfl) (by exact rfl) FixR.refl (FixL.cons (by exact rfl) (by exact rfl) FixR.refl (FixL.cons (by exact rfl) (by exact rfl) FixR.refl (FixL.cons (by exact rfl) (by exact rfl) FixR.refl True.intro)))))))))))) fun w0 Fz0 => ?_
     refine sw_block ?_
     refine sw_loop (l0 := [(2, RV.sv false [PV.val _]), (3, RV.sv false [PV.val _]), (8, RV.sv false [PV.sl _ _]), (9, RV.sv false [PV.val _]), (33, RV.sv false [PV.val _]), (34, RV.sv false [PV.val _]), (46, RV.sv false [PV.sl (.lo _) _]), (47, RV.sv false [PV.val _])]) (b0 := []) (fun n : Nat => n ≤ (sortF l f).length ∧ stopN (topFull (sortF l f) c.toNat ids) ((sortF l f).length - n) n = topN (sortF l f) c.toNat ids) (fun n : Nat => [(10, RV.slc (.own 51 2) ((topAt (sortF l f) c.toNat ids n).map (cRouted (.own 33 2) (.own 3 1)))), (13, RV.int (n : Int)), (48, RV.int (n : Int))]) (fun n : Nat => []) (fun n : Nat => (sortF l f).length - n) 0 (by exact ⟨Nat.zero_le _, rfl⟩) (by exact ⟨rfl, rfl, rfl, rfl, rfl, rfl, rfl, rfl, ⟨⟩⟩) (by exact ⟨⟩) (by exact And.intro (by exact slc_eq (by rw [hej, List.take_length])) (And.intro (by exact rfl) (And.intro (by exact rfl) (True.intro)))) (by exact ⟨⟩) ?_
     rintro n ⟨hn, hst⟩
     have hal : (topAt (sortF l f) c.toNat ids n).length = ids.length := topAt_len
     refine sw_seq ?_
     refine sw_reg ?_
     refine rA ?_ (x := B_lss)
     refine sw_seq ?_
     refine sw_cond (t := 49) rfl (fun hb8 => ?_) (fun hb8 => ?_)
     ·try simp only [q1, q2, q3, q4, q5, q6, q7, q8, q9] at hb8
      have hnS : n < (sortF l f).length := by omega
      have hwm := wt_mem (f := wtAnnotated) hnS
      have hwr : wtRow (sortF l f)[n].Row ≤ wtAnnotated (sortF l f)[n] := by unfold wtAnnotated; omega
      have hwS : (((sortF l f)).map wtAnnotated).sum ≤ wtAnnotatedS (sortF l f) := Nat.le_add_left _ _
      refine sw_skip ?_
      refine sw_seq ?_
      refine sw_block ?_
      refine sw_seq ?_
      refine sO [(2, _), (3, _), (8, _), (9, _), (10, _), (13, _), (33, _), (34, _), (46, _), (47, _), (48, _)] [] ?_
      refine sw_reg ?_
      refine rA ?_ (x := loc_index (k := n) (by decide) FTop_sl_24 (by exact ⟨⟩) (by omega) (by exact getm2 hnS rfl) (by exact rfl))
      refine rA ?_ (x := lE [PV.val _, PV.sl (.lo _) _, PV.sl (.lo _) _] FTop_ty_35)
      refine RunS.step (by exact ⟨⟩) (by exact ⟨⟩) (LocG.of rfl (loc_alloc (by decide) FTop_z_35 FTop_zo_35)) (free1 (Free.app (Free.app (Free.of_ rfl) rfl) rfl)) ?_
      refine rA ?_ (x := loc_store (ag := true) (vs := [PV.val _, PV.sl (.lo _) _, PV.sl (.lo _) _]) FTop_ty_35 (by exact ⟨⟩) (by exact rfl) (by exact Nat.le_of_ble_eq_true rfl))
      refine sw_seq ?_
      refine sw_seq ?_
      refine sO [(2, _), (3, _), (8, _), (9, _), (10, _), (13, _), (15, _), (33, _), (34, _), (46, _), (47, _), (48, _)] [(15, (35, [PV.val _, PV.sl (.lo _) _, PV.sl (.lo _) _]))] ?_
      refine sw_reg ?_
      refine rA ?_ (x := vM false [PV.sl .v _])
      refine rA ?_ (x := sM)
      refine rA ?_ (x := cL [(false, [PV.sl _ _]), (false, [PV.val _])] [(false, [PV.sl .v _]), (false, [PV.val _])] FTop_c_44 (hs := by exact impl_allFull))
      refine sw_cond (t := 54) rfl (fun hb9 => ?_) (fun hb9 => ?_)
      ·try simp only [q1, q2, q3, q4, q5, q6, q7, q8, q9] at hb9
       have hNN : n = topN (sortF l f) c.toNat ids := by have hh := hb9; rw [topFull_of (by omega)] at hh; exact (stopN_yes hh).symm.trans hst
       refine sw_exit ?_
       refine sw_seq ?_
       refine sO [(2, _), (3, _), (8, _), (9, _), (10, _), (13, _), (15, _), (33, _), (34, _), (46, _), (47, _), (48, _)] [(15, _)] ?_
       refine sw_reg ?_
       refine rA ?_ (x := tM)
       refine rA ?_ (x := sM)
       refine rA ?_ (x := tA)
       refine rA ?_ (x := sA)
       refine sw_ret ?_
       exact (And.intro (by refine slc_eq ?_; rw [hr, ← hNN]) (And.intro (by refine int_eq ?_; rw [hr, ← hNN]) True.intro))
      ·try simp only [q1, q2, q3, q4, q5, q6, q7, q8, q9] at hb9
       have hnf : topFull (sortF l f) c.toNat ids n = false := by have hh := hb9; rw [topFull_of (by omega)] at hh; simpa using hh
       refine sw_skip ?_
       refine sw_seq ?_
       refine sO [(2, _), (3, _), (8, _), (9, _), (10, _), (13, _), (15, _), (33, _), (34, _), (46, _), (47, _), (48, _)] [(15, _)] ?_
       refine sw_reg ?_
       refine rA ?_ (x := sM)
       refine rA ?_ (x := B_add)
       refine rA ?_ (x := sA)
       refine sw_seq ?_
       refine sO [(2, _), (3, _), (8, _), (9, _), (10, _), (13, _), (15, _), (33, _), (34, _), (46, _), (47, _), (48, _)] [(15, _)] ?_
       refine sw_reg ?_
       refine rA ?_ (x := vM false [PV.sl .v _])
       refine rA ?_ (x := lN FTop_sl_43)
       refine rA ?_ (x := kM)
       refine sw_block ?_
       refine sO [(2, _), (3, _), (8, _), (9, _), (10, _), (13, _), (15, _), (33, _), (34, _), (46, _), (47, _), (48, _), (58, _), (59, _)] [(15, _)] ?_
       refine sw_loop (l0 := [(2, RV.sv false [PV.val _]), (3, RV.sv false [PV.val _]), (8, RV.sv false [PV.sl _ _]), (9, RV.sv false [PV.val _]), (13, RV.sv false [PV.val _]), (15, RV.ptr 15 0), (33, RV.sv false [PV.val _]), (34, RV.sv false [PV.val _]), (46, RV.sv false [PV.sl (.lo _) _]), (47, RV.sv false [PV.val _]), (48, RV.sv false [PV.val _]), (58, RV.sv false [PV.val _])]) (b0 := [(15, (35, [PV.val _, PV.sl (.lo _) _, PV.sl (.lo _) _]))]) (fun i : Nat => i ≤ ids.length) (fun i : Nat => [(10, RV.slc (.own 51 2) ((topMid (sortF l f) c.toNat ids n i).map (cRouted (.own 33 2) (.own 3 1)))), (59, RV.int (i : Int))]) (fun i : Nat => []) (fun i : Nat => ids.length - i) 0 (by omega) (by exact ⟨rfl, rfl, rfl, rfl, rfl, rfl, rfl, rfl, rfl, rfl, rfl, rfl, ⟨⟩⟩) (by exact ⟨rfl, ⟨⟩⟩) (by exact And.intro (by exact rfl) (And.intro (by exact rfl) (True.intro))) (by exact ⟨⟩) ?_
       rintro i hii
       have hml : (topMid (sortF l f) c.toNat ids n i).length = ids.length := topMid_len
       have hol := openN_le (S := (sortF l f)) (c := c.toNat) (ids := ids.take i) (n := n + 1)
       rw [List.length_take] at hol
       refine sw_seq ?_
       refine sw_reg ?_
       refine rA ?_ (x := B_lss)
       refine sw_seq ?_
       refine sw_cond (t := 60) rfl (fun hb10 => ?_) (fun hb10 => ?_)
       ·try simp only [q1, q2, q3, q4, q5, q6, q7, q8, q9] at hb10
        have hi : i < ids.length := by omega
        have hti : i < (topMid (sortF l f) c.toNat ids n i).length := by rw [topMid_len]; exact hi
        have hrl := topRows_le (S := (sortF l f)) (c := c.toNat) (id := ids[i]) (n := n)
        have hrq : ((topMid (sortF l f) c.toNat ids n i)[i]).Rows.length = (topRows (sortF l f) c.toNat ids[i] n).length := by rw [topMid_at hi]
        refine sw_skip ?_
        refine sw_seq ?_
        refine sw_block ?_
        refine sw_seq ?_
        refine sO [(2, _), (3, _), (8, _), (9, _), (10, _), (13, _), (15, _), (33, _), (34, _), (46, _), (47, _), (48, _), (58, _), (59, _)] [(15, (35, [PV.val _, PV.sl (.lo _) _, PV.sl (.lo _) _]))] ?_
        refine sw_reg ?_
        refine rA ?_ (x := sM)
        refine rA ?_ (x := sA)
        refine sw_seq ?_
        refine sO [(2, _), (3, _), (8, _), (9, _), (10, _), (13, _), (15, _), (16, _), (33, _), (34, _), (46, _), (47, _), (48, _), (58, _), (59, _)] [(15, _)] ?_
        refine sw_draw hm_ ?_
        refine dA 0 ?_ (x := lF FTop_fd_35_1)
        refine dA 1 ?_ (x := lD [PV.sl (.lo _) _] FTop_ty_31)
        refine dA 0 ?_ (x := vM false [PV.sl .v _])
        refine dA 0 ?_ (x := sM)
        refine dA 12 ?_ (x := loc_index (k := i) (by decide) FTop_sl_43 (by exact ⟨⟩) (by omega) (by first | exact getm2 hti (by rw [topMid_at hi]) | exact getm2 (by rw [List.length_set]; exact hti) (by rw [List.getElem_set_self])) (by exact rfl))
        refine dA 28 ?_ (x := loc_efield (by decide) FTop_fd_51_0 (by exact Nat.le_of_ble_eq_true rfl))
        refine dA 60 ?_ (x := lE [PV.val _] FTop_ty_3)
        refine dA 127 ?_ (x := cL [(false, [PV.sl (.lo _) _]), (false, [PV.val _])] [(false, [PV.sl .v _]), (false, [PV.val _])] FTop_c_35 (hs := by exact impl_HasMember))
        refine dA 255 ?_ (x := sM)
        refine Run.cases (s := 70) rfl (fun g11 => ?_) (fun g11 => ?_)
        ·have sg11 := g11
         try simp only [q1, q2, q3, q4, q5, q6, q7, q8, q9] at sg11
         refine dB 511 g11 ?_ (x := vM false [PV.sl .v _])
         refine dB 511 g11 ?_ (x := sM)
         refine dB 2047 g11 ?_ (x := loc_index (k := i) (by decide) FTop_sl_43 (by exact ⟨⟩) (by omega) (by first | exact getm2 hti (by rw [topMid_at hi]) | exact getm2 (by rw [List.length_set]; exact hti) (by rw [List.getElem_set_self])) (by exact rfl))
         refine dB 4095 g11 ?_ (x := loc_efield (by decide) FTop_fd_51_1 (by exact Nat.le_of_ble_eq_true rfl))
         refine dB 8191 g11 ?_ (x := lE [PV.sl .v _] FTop_ty_39)
         refine dB 16383 g11 ?_ (x := lN FTop_sl_39)
         refine dB 511 g11 ?_ (x := sM)
         refine dB 65535 g11 ?_ (x := B_lss)
         refine dA 131071 ?_ (x := pkT g11)
         refine sw_cond (t := 79) rfl (fun hb12 => ?_) (fun hb12 => ?_)
         ·try simp only [q1, q2, q3, q4, q5, q6, q7, q8, q9] at hb12
          have hyy := topRows_yes (c := c.toNat) hnS ‹hasI _ _ = true› (by omega)
          refine sO [(2, _), (3, _), (8, _), (9, _), (10, _), (13, _), (15, _), (16, _), (33, _), (34, _), (46, _), (47, _), (48, _), (58, _), (59, _)] [(15, _)] ?_
          refine sw_thawS (s := 10) (D := 900) (G := 2900) (E := 51) (e := 2) (L := Bl) (es := (topMid (sortF l f) c.toNat ids n i).map (cRouted (.own 33 2) (.own 3 1))) (by exact rfl) (map_ne hti) (by exact rfl) (by exact rfl) rfl (by exact rfl) (fun x hx => hx) (by exact (And.intro (.inr (RV.lcl_sv (LclC.cons PV.lcl_val LclC.nil))) (And.intro (.inr (RV.lcl_sv (LclC.cons PV.lcl_val LclC.nil))) (And.intro (.inr (RV.lcl_sv (LclC.cons (PV.lcl_own (by first | exact (LclC.map fun x => (LclC.cons PV.lcl_val (LclC.cons (PV.lcl_own (LclC.map fun x => (LclC.cons PV.lcl_val (LclC.cons (PV.lcl_own (LclC.map fun x => (LclC.cons PV.lcl_val LclC.nil))) LclC.nil)))) LclC.nil))) | exact (fun cs h => nomatch h))) LclC.nil))) (And.intro (.inr (RV.lcl_sv (LclC.cons PV.lcl_val LclC.nil))) (And.intro (.inl rfl) (And.intro (.inr (RV.lcl_sv (LclC.cons PV.lcl_val LclC.nil))) (And.intro (.inr RV.lcl_ptr) (And.intro (.inr (RV.lcl_sv (LclC.cons PV.lcl_val LclC.nil))) (And.intro (.inr (RV.lcl_sv (LclC.cons PV.lcl_val LclC.nil))) (And.intro (.inr (RV.lcl_sv (LclC.cons PV.lcl_val LclC.nil))) (And.intro (.inr (RV.lcl_sv (LclC.cons (PV.lcl_lo (LclRC.map fun x => (LclRC.cons PV.lclr_val (LclRC.cons (PV.lclr_lo (LclRC.map fun x => (LclRC.cons PV.lclr_val LclRC.nil))) (LclRC.cons (PV.lclr_lo (LclRC.map fun x => (LclRC.cons PV.lclr_val LclRC.nil))) LclRC.nil))))) LclC.nil))) (And.intro (.inr (RV.lcl_sv (LclC.cons PV.lcl_val LclC.nil))) (And.intro (.inr (RV.lcl_sv (LclC.cons PV.lcl_val LclC.nil))) (And.intro (.inr (RV.lcl_sv (LclC.cons PV.lcl_val LclC.nil))) (And.intro (.inr (RV.lcl_sv (LclC.cons PV.lcl_val LclC.nil))) True.intro)))))))))))))))) (by exact (And.intro (LclC.cons PV.lcl_val (LclC.cons (PV.lcl_lo (LclRC.map fun x => (LclRC.cons PV.lclr_val LclRC.nil))) (LclC.cons (PV.lcl_lo (LclRC.map fun x => (LclRC.cons PV.lclr_val LclRC.nil))) LclC.nil))) True.intro)) (LclC.map fun x => (LclC.cons PV.lcl_val (LclC.cons (PV.lcl_own (LclC.map fun x => (LclC.cons PV.lcl_val (LclC.cons (PV.lcl_own (LclC.map fun x => (LclC.cons PV.lcl_val LclC.nil))) LclC.nil)))) LclC.nil))) fun uu900 cp900 jk900 hlD900 hcp900 hjk900 => ?_
          rw [List.length_map] at hlD900 hcp900 hjk900
          refine sw_boxEq (d := 900) (by exact rfl) (at_split (k := i) hti) ?_
          have hA900 := at_len (f := (cRouted (.own 33 2) (.own 3 1))) (e := 2) (xs := topMid (sortF l f) c.toNat ids n i) (k := i) (fun _ => rfl) (Nat.le_of_lt hti)
          refine sO [(2, _), (3, _), (8, _), (9, _), (10, _), (13, _), (15, _), (16, _), (33, _), (34, _), (46, _), (47, _), (48, _), (58, _), (59, _), (2900, _)] [(15, _), (900, (51, _ ++ ([PV.val _, PV.sl _ _] ++ _)))] ?_
          refine sw_draw hm_ ?_
          refine dA 0 ?_ (x := vM false [PV.val _])
          refine dA 0 ?_ (x := sM)
          refine dA 0 ?_ (x := vM false [PV.val _])
          refine dA 0 ?_ (x := sM)
          refine dA 12 ?_ (x := loc_gidx (k := i) (G := 2900) (by decide) FTop_sl_43 (by exact ⟨⟩) (by omega) (by first | (rw [List.length_map]; exact hti) | exact hti))
          refine dA 28 ?_ (x := lF FTop_fd_51_1)
          refine dA 60 ?_ (x := loc_ltakeM (o := 1) (ms := [PV.sl _ _]) (qs := [PV.sl .v _]) (by omega) (by decide) FTop_ty_39 (fun _ => rfl) (by exact Nat.le_of_ble_eq_true rfl) (by exact rfl) (by exact (ToL.cons PV.to_none ToL.nil)) (by exact (BorL.cons (PV.bor_sl _) BorL.nil)))
          refine dA 0 ?_ (x := lF FTop_fd_35_0)
          refine dA 128 ?_ (x := lD [PV.val _, PV.sl (.lo _) _] FTop_ty_33)
          refine dA 384 ?_ (x := cL [(true, [PV.val _, PV.sl (.lo _) _])] [(true, [PV.val _, PV.sl .v _])] FTop_c_45 (hs := by exact impl_copyRow (by omega)))
          refine dA 896 ?_ (x := loc_bslice (qs := [(true, [PV.val _, PV.sl _ _])]) (by decide) FTop_sl_39 FTop_z_33 (by decide) rfl rfl rfl rfl rfl (by exact Nat.le_of_ble_eq_true rfl) (by exact (And.intro (by exact ⟨⟩) True.intro)) rfl)
          refine dA 2044 ?_ (x := loc_append (by decide) FTop_sl_39 FTop_z_33 rfl rfl (by decide) rfl (by simp only [List.length_map, List.length_append, List.length_cons, List.length_nil]; omega) (by simp only [List.length_map, List.length_append, List.length_cons, List.length_nil]; omega))
          refine dA 4095 ?_ (x := loc_gidx (k := i) (G := 2900) (by decide) FTop_sl_43 (by exact ⟨⟩) (by omega) (by first | (rw [List.length_map]; exact hti) | exact hti))
          refine dA 8191 ?_ (x := lF FTop_fd_51_1)
          refine dA 16383 ?_ (x := loc_storeM (o := 1) (ag := false) (vs := [PV.sl _ _]) (by omega) FTop_ty_39 (by exact ⟨⟩) (by exact rfl) (by exact Nat.le_of_ble_eq_true rfl))
          refine sw_boxEq (d := 900) (by exact rfl) (at_join (⟨ids[i], topRows (sortF l f) c.toNat ids[i] (n + 1)⟩) hti (by rw [topMid_at hi, hyy]; simp only [cRouted, cRowS, List.map_append]; exact rfl)) ?_
          refine sw_frzS (s := 10) (D := 900) (G := 2900) (e := 2) (es := ((topMid (sortF l f) c.toNat ids n i).set i (⟨ids[i], topRows (sortF l f) c.toNat ids[i] (n + 1)⟩)).map (cRouted (.own 33 2) (.own 3 1))) (by exact rfl) (by exact rfl) (by exact rfl) rfl (by decide) (by rw [List.length_map, List.length_set, List.length_map]) (by intro c hc; obtain ⟨y, _, rfl⟩ := List.mem_map.1 hc; exact rfl) (by rw [List.length_map]; exact hjk900) ?_
          refine sO [(2, _), (3, _), (8, _), (9, _), (10, _), (13, _), (15, _), (16, _), (33, _), (34, _), (46, _), (47, _), (48, _), (58, _), (59, _)] [(15, _)] ?_
          refine sw_reg ?_
          refine rA ?_ (x := B_add)
          refine rA ?_ (x := sM)
          refine Exists.intro (i + 1) (And.intro (by omega) (And.intro (by omega) (And.intro (And.intro (by exact ⟨rfl, rfl, rfl, rfl, rfl, rfl, rfl, rfl, rfl, rfl, rfl, rfl, ⟨⟩⟩) (by exact ⟨rfl, ⟨⟩⟩)) (And.intro (by exact And.intro (by exact slc_eq (by first | rw [topMid_set hi] | rw [topMid_same hi hnn])) (And.intro (by exact int_eq (by omega)) (True.intro))) (by exact ⟨⟩)))))
         ·try simp only [q1, q2, q3, q4, q5, q6, q7, q8, q9] at hb12
          have hnn := topRows_no (c := c.toNat) (id := ids[i]) hnS (by first | exact .inl ‹hasI _ _ = false› | exact .inr (by omega))
          have hnl : (topRows (sortF l f) c.toNat ids[i] (n + 1)).length = (topRows (sortF l f) c.toNat ids[i] n).length := by rw [hnn]
          refine sw_skip ?_
          refine sO [(2, _), (3, _), (8, _), (9, _), (10, _), (13, _), (15, _), (16, _), (33, _), (34, _), (46, _), (47, _), (48, _), (58, _), (59, _)] [(15, _)] ?_
          refine sw_reg ?_
          refine rA ?_ (x := B_add)
          refine rA ?_ (x := sM)
          refine Exists.intro (i + 1) (And.intro (by omega) (And.intro (by omega) (And.intro (And.intro (by exact ⟨rfl, rfl, rfl, rfl, rfl, rfl, rfl, rfl, rfl, rfl, rfl, rfl, ⟨⟩⟩) (by exact ⟨rfl, ⟨⟩⟩)) (And.intro (by exact And.intro (by exact slc_eq (by first | rw [topMid_set hi] | rw [topMid_same hi hnn])) (And.intro (by exact int_eq (by omega)) (True.intro))) (by exact ⟨⟩)))))
        ·have sg11 := g11
         try simp only [q1, q2, q3, q4, q5, q6, q7, q8, q9] at sg11
         refine dF 511 g11 ?_
         refine dF 511 g11 ?_
         refine dF 2047 g11 ?_
         refine dF 4095 g11 ?_
         refine dF 8191 g11 ?_
         refine dF 16383 g11 ?_
         refine dF 511 g11 ?_
         refine dF 65535 g11 ?_
         refine dA 131071 ?_ (x := pkF g11)
         refine sw_cond (t := 79) rfl (fun hb_ => nomatch hb_) (fun hb_ => ?_)
         have hnn := topRows_no (c := c.toNat) (id := ids[i]) hnS (by first | exact .inl ‹hasI _ _ = false› | exact .inr (by omega))
         have hnl : (topRows (sortF l f) c.toNat ids[i] (n + 1)).length = (topRows (sortF l f) c.toNat ids[i] n).length := by rw [hnn]
         refine sw_skip ?_
         refine sO [(2, _), (3, _), (8, _), (9, _), (10, _), (13, _), (15, _), (16, _), (33, _), (34, _), (46, _), (47, _), (48, _), (58, _), (59, _)] [(15, _)] ?_
         refine sw_reg ?_
         refine rA ?_ (x := B_add)
         refine rA ?_ (x := sM)
         refine Exists.intro (i + 1) (And.intro (by omega) (And.intro (by omega) (And.intro (And.intro (by exact ⟨rfl, rfl, rfl, rfl, rfl, rfl, rfl, rfl, rfl, rfl, rfl, rfl, ⟨⟩⟩) (by exact ⟨rfl, ⟨⟩⟩)) (And.intro (by exact And.intro (by exact slc_eq (by first | rw [topMid_set hi] | rw [topMid_same hi hnn])) (And.intro (by exact int_eq (by omega)) (True.intro))) (by exact ⟨⟩)))))
       ·try simp only [q1, q2, q3, q4, q5, q6, q7, q8, q9] at hb10
        have hei : i = ids.length := by omega
        refine sw_exit ?_
        refine sO [(2, _), (3, _), (8, _), (9, _), (10, _), (13, _), (15, _), (33, _), (34, _), (46, _), (47, _), (48, _), (58, _), (59, _)] [(15, (35, [PV.val _, PV.sl (.lo _) _, PV.sl (.lo _) _]))] ?_
        refine sw_reg ?_
        refine rA ?_ (x := B_add)
        refine rA ?_ (x := sM)
        refine Exists.intro (n + 1) (And.intro (by exact ⟨hnS, (stopN_go hnS hnf).trans hst⟩) (And.intro (by omega) (And.intro (And.intro (by exact ⟨rfl, rfl, rfl, rfl, rfl, rfl, rfl, rfl, ⟨⟩⟩) (by exact ⟨⟩)) (And.intro (by exact And.intro (by exact slc_eq (by first | rfl | rw [topMid_end hei])) (And.intro (by exact int_eq (by omega)) (And.intro (by exact int_eq (by omega)) (True.intro)))) (by exact ⟨⟩)))))
     ·try simp only [q1, q2, q3, q4, q5, q6, q7, q8, q9] at hb8
      have hNN : n = topN (sortF l f) c.toNat ids := (stopN_end (by omega)).symm.trans hst
      refine sw_exit ?_
      refine sw_seq ?_
      refine sO [(2, _), (3, _), (8, _), (9, _), (10, _), (13, _), (33, _), (34, _), (46, _), (47, _), (48, _)] [] ?_
      refine sw_reg ?_
      refine rA ?_ (x := tM)
      refine rA ?_ (x := sM)
      refine rA ?_ (x := tA)
      refine rA ?_ (x := sA)
      refine sw_ret ?_
      exact (And.intro (by refine slc_eq ?_; rw [hr, ← hNN]) (And.intro (by refine int_eq ?_; rw [hr, ← hNN]) True.intro))
theorem spec_TopShared {p1 p2 : Fl} {l : List Annotated} {ids : List Int} {f : Int} {c : Int}  (hb : wtAnnotatedS l ≤ 68719476736) (hb2 : ids.length ≤ 68719476736) : SCall Try.prog 18 [(false, [PV.sl .v (l.map (cAnnotated p1 p2))]), (false, [PV.sl .v (ids.map cInt)]), (false, [PV.val (vI f)]), (false, [PV.val (vI c)])] (resRV [(false, [PV.sl (.own 51 2) ((topShared l ids f c).1.map (cRouted (.own 33 2) (.own 3 1)))]), (false, [PV.val (vI (topShared l ids f c).2)])]) := by
 refine scall_lo (largs := fun L => [(false, [PV.sl (.lo L) (l.map (cAnnotated (.lo L) (.lo L)))]), (false, [PV.sl (.lo L) (ids.map cInt)]), (false, [PV.val (vI f)]), (false, [PV.val (vI c)])]) (rs := [(false, [PV.sl (.own 51 2) ((topShared l ids f c).1.map (cRouted (.own 33 2) (.own 3 1)))]), (false, [PV.val (vI (topShared l ids f c).2)])]) Try.func18 rfl (Nat.le_of_ble_eq_true rfl) (fun L => by exact (And.intro (And.intro rfl (ToBL.cons (PV.tob_map (fun _ => Nat.le_of_ble_eq_true rfl) (fun _ => (ToBL.cons PV.tob_refl (ToBL.cons (PV.tob_map (fun _ => Nat.le_of_ble_eq_true rfl) (fun _ => (ToBL.cons PV.tob_refl ToBL.nil))) (ToBL.cons (PV.tob_map (fun _ => Nat.le_of_ble_eq_true rfl) (fun _ => (ToBL.cons PV.tob_refl ToBL.nil))) ToBL.nil))))) ToBL.nil)) (And.intro (And.intro rfl (ToBL.cons (PV.tob_map (fun _ => Nat.le_of_ble_eq_true rfl) (fun _ => (ToBL.cons PV.tob_refl ToBL.nil))) ToBL.nil)) (And.intro (And.intro rfl (ToBL.cons PV.tob_refl ToBL.nil)) (And.intro (And.intro rfl (ToBL.cons PV.tob_refl ToBL.nil)) True.intro))))) (fun L => by exact (borA_cons (BorL.cons (PV.bor_lo _ _) BorL.nil) (borA_cons (BorL.cons (PV.bor_lo _ _) BorL.nil) (borA_cons (BorL.cons (PV.bor_val _) BorL.nil) (borA_cons (BorL.cons (PV.bor_val _) BorL.nil) borA_nil))))) ?_
 intro w0 Fz0
 refine sw_len (s := 0) rfl fun hl0 => ?_
 try rw [List.length_map] at hl0
 refine sw_len (s := 1) rfl fun hl1 => ?_
 try rw [List.length_map] at hl1
 have hbl : l.length ≤ wtAnnotatedS l := Nat.le_add_right _ _
 have hsw := sortF_wt l f
 have hswl : (sortF l f).length ≤ wtAnnotatedS (sortF l f) := Nat.le_add_right _ _
 refine sw_seq ?_
 refine sw_reg ?_
 refine rA ?_ (x := loc_const (.inr rfl) (by decide) (ok_nil (t := 51) (e := 2)))
 refine rA ?_ (x := kA)
 refine sw_seq ?_
 refine sO [(0, _), (1, _), (2, _), (3, _), (8, _), (9, _)] [] ?_
 refine sw_reg ?_
 refine rA ?_ (x := loc_bslice (qs := []) (by decide) FTop_sl_43 FTop_z_51 (by decide) rfl rfl rfl rfl rfl (by exact Nat.le_of_ble_eq_true rfl) (by exact ⟨⟩) rfl)
 refine rA ?_ (x := tA)
 refine sw_seq ?_
 refine sw_seq ?_
 refine sO [(0, _), (1, _), (2, _), (3, _), (8, _), (9, _), (10, _)] [] ?_
 refine sw_reg ?_
 refine rA ?_ (x := vM false [PV.sl (.lo _) _])
 refine rA ?_ (x := sM)
 refine rA ?_ (x := cL [(false, [PV.sl (.lo _) _]), (false, [PV.val _])] [(false, [PV.sl .v _]), (false, [PV.val _])] FTop_c_30 (hs := by exact spec_l15Fine))
 refine rA ?_ (x := nT)
 refine rA ?_ (x := sM)
 refine RunS.cases (s := 21) rfl (fun g1 => ?_) (fun g1 => ?_)
 ·have sg1 := g1
  try simp only [q1, q2, q3, q4, q5, q6, q7, q8, q9] at sg1
  refine RunS.s0t g1 ?_
  refine RunS.s0t g1 ?_
  refine RunS.s0t g1 ?_
  refine rA ?_ (x := pkT g1)
  refine rA ?_ (x := sM)
  refine RunS.cases (s := 26) rfl (fun g2 => ?_) (fun g2 => nomatch g2)
  refine RunS.s0t g2 ?_
  refine RunS.s0t g2 ?_
  refine RunS.s0t g2 ?_
  refine rA ?_ (x := pkT g2)
  refine sw_cond (t := 30) rfl (fun hb_ => ?_) (fun hb_ => nomatch hb_)
  have hr := topShared_no (l := l) (ids := ids) (f := f) (k := c) (by intro hh; simp_all)
  refine sw_seq ?_
  refine sO [(0, _), (1, _), (2, _), (3, _), (8, _), (9, _), (10, _)] [] ?_
  refine sw_reg ?_
  refine rA ?_ (x := tM)
  refine rA ?_ (x := tA)
  refine rA ?_ (x := kA)
  refine sw_ret ?_
  exact (And.intro (by refine slc_eq ?_; rw [hr]; try rfl) (And.intro (by refine int_eq ?_; rw [hr]; try rfl) True.intro))
 ·have sg1 := g1
  try simp only [q1, q2, q3, q4, q5, q6, q7, q8, q9] at sg1
  refine rB g1 ?_ (x := vM false [PV.sl (.lo _) _])
  refine rB g1 ?_ (x := cL [(false, [PV.sl (.lo _) _])] [(false, [PV.sl .v _])] FTop_c_11 (hs := by exact spec_IsSet))
  refine rB g1 ?_ (x := nT)
  refine rA ?_ (x := pkF g1)
  refine rA ?_ (x := sM)
  refine RunS.cases (s := 26) rfl (fun g4 => ?_) (fun g4 => ?_)
  ·have sg4 := g4
   try simp only [q1, q2, q3, q4, q5, q6, q7, q8, q9] at sg4
   refine RunS.s0t g4 ?_
   refine RunS.s0t g4 ?_
   refine RunS.s0t g4 ?_
   refine rA ?_ (x := pkT g4)
   refine sw_cond (t := 30) rfl (fun hb_ => ?_) (fun hb_ => nomatch hb_)
   have hr := topShared_no (l := l) (ids := ids) (f := f) (k := c) (by intro hh; simp_all)
   refine sw_seq ?_
   refine sO [(0, _), (1, _), (2, _), (3, _), (8, _), (9, _), (10, _)] [] ?_
   refine sw_reg ?_
   refine rA ?_ (x := tM)
   refine rA ?_ (x := tA)
   refine rA ?_ (x := kA)
   refine sw_ret ?_
   exact (And.intro (by refine slc_eq ?_; rw [hr]; try rfl) (And.intro (by refine int_eq ?_; rw [hr]; try rfl) True.intro))
  ·have sg4 := g4
   try simp only [q1, q2, q3, q4, q5, q6, q7, q8, q9] at sg4
   refine rB g4 ?_ (x := sM)
   refine rB g4 ?_ (x := cL [(false, [PV.val _]), (false, [PV.val _]), (false, [PV.val _])] [(false, [PV.val _]), (false, [PV.val _]), (false, [PV.val _])] FTop_c_34 (hs := by exact spec_l1In))
   refine rB g4 ?_ (x := nT)
   refine rA ?_ (x := pkF g4)
   refine sw_cond (t := 30) rfl (fun hb6 => ?_) (fun hb6 => ?_)
   ·try simp only [q1, q2, q3, q4, q5, q6, q7, q8, q9] at hb6
    have hr := topShared_no (l := l) (ids := ids) (f := f) (k := c) (by intro hh; simp_all)
    refine sw_seq ?_
    refine sO [(0, _), (1, _), (2, _), (3, _), (8, _), (9, _), (10, _)] [] ?_
    refine sw_reg ?_
    refine rA ?_ (x := tM)
    refine rA ?_ (x := tA)
    refine rA ?_ (x := kA)
    refine sw_ret ?_
    exact (And.intro (by refine slc_eq ?_; rw [hr]; try rfl) (And.intro (by refine int_eq ?_; rw [hr]; try rfl) True.intro))
   ·try simp only [q1, q2, q3, q4, q5, q6, q7, q8, q9] at hb6
    have h3 : annOk l f = true ∧ okSet ids = true ∧ inB c 1 100 = true := by simp_all
    have hr := topShared_ok h3.1 h3.2.1 h3.2.2
    have hcB : 1 ≤ c ∧ c ≤ 100 := by have hh := h3.2.2; simpa [inB] using hh
    have hid := okSet_len2 h3.2.1
    refine sw_skip ?_
    refine sw_seq ?_
    refine sw_seq ?_
    refine sO [(0, _), (1, _), (2, _), (3, _), (8, _), (9, _), (10, _)] [] ?_
    refine sw_reg ?_
    refine rA ?_ (x := kA)
    refine sw_block ?_
    refine sO [(0, _), (1, _), (2, _), (3, _), (8, _), (9, _), (10, _), (11, _)] [] ?_
    refine sw_loop (l0 := [(0, RV.sv false [PV.sl (.lo _) _]), (1, RV.sv false [PV.sl (.lo _) _]), (2, RV.sv false [PV.val _]), (3, RV.sv false [PV.val _]), (8, RV.sv false [PV.sl _ _]), (9, RV.sv false [PV.val _])]) (b0 := []) (fun j : Nat => j ≤ ids.length) (fun j : Nat => [(10, RV.slc (.own 51 2) ((topAt (sortF l f) c.toNat (ids.take j) 0).map (cRouted (.own 33 2) (.own 3 1)))), (11, RV.int (j : Int))]) (fun j : Nat => []) (fun j : Nat => ids.length - j) 0 (by omega) (by exact ⟨rfl, rfl, rfl, rfl, rfl, rfl, ⟨⟩⟩) (by exact ⟨⟩) (by exact And.intro (by exact rfl) (And.intro (by exact rfl) (True.intro))) (by exact ⟨⟩) ?_
    rintro j hj
    have htl : (topAt (sortF l f) c.toNat (ids.take j) 0).length = j := by rw [topAt_len, List.length_take]; omega
    refine sw_seq ?_
    refine sw_seq ?_
    refine sw_reg ?_
    refine rA ?_ (x := sM)
    refine rA ?_ (x := vM false [PV.sl (.lo _) _])
    refine rA ?_ (x := lN FTop_sl_31)
    refine rA ?_ (x := B_lss)
    refine sw_cond (t := 35) rfl (fun hb7 => ?_) (fun hb7 => ?_)
    ·try simp only [q1, q2, q3, q4, q5, q6, q7, q8, q9] at hb7
     have hlt : j < ids.length := by omega
     refine sw_skip ?_
     refine sw_seq ?_
     refine sw_block ?_
     refine sO [(0, _), (1, _), (2, _), (3, _), (8, _), (9, _), (10, _), (11, _)] [] ?_
     refine sw_reg ?_
     refine rA ?_ (x := tM)
     refine rA ?_ (x := vM false [PV.sl (.lo _) _])
     refine rA ?_ (x := sM)
     refine rA ?_ (x := loc_index (by decide) FTop_sl_31 (by exact ⟨⟩) (by exact rfl) (by exact getm2 (by omega) rfl) (by exact rfl))
     refine rA ?_ (x := lE [PV.val _] FTop_ty_3)
     refine rA ?_ (x := loc_bslice (qs := []) (by decide) FTop_sl_39 FTop_z_33 (by decide) rfl rfl rfl rfl rfl (by exact Nat.le_of_ble_eq_true rfl) (by exact ⟨⟩) rfl)
     refine rA ?_ (x := loc_build (qs := [(false, [PV.val _]), (false, [PV.sl _ _])]) (cs := [PV.val _, PV.sl _ _]) (by decide) FTop_z_51 FTop_zo_51 FTop_pl_51 (by exact rfl) (by exact (And.intro (by exact ⟨⟩) (And.intro (by exact ⟨⟩) True.intro))) rfl (by exact rfl))
     refine rA ?_ (x := loc_bslice (qs := [(true, [PV.val _, PV.sl _ _])]) (by decide) FTop_sl_43 FTop_z_51 (by decide) rfl rfl rfl rfl rfl (by exact Nat.le_of_ble_eq_true rfl) (by exact (And.intro (by exact ⟨⟩) True.intro)) rfl)
     refine rA ?_ (x := loc_append (by decide) FTop_sl_43 FTop_z_51 rfl rfl (by decide) rfl (by simp only [List.length_map, List.length_append, List.length_cons, List.length_nil]; omega) (by simp only [List.length_map, List.length_append, List.length_cons, List.length_nil]; omega))
     refine rA ?_ (x := tA)
     refine sO [(0, _), (1, _), (2, _), (3, _), (8, _), (9, _), (10, _), (11, _)] [] ?_
     refine sw_reg ?_
     refine rA ?_ (x := sM)
     refine rA ?_ (x := B_add)
     refine rA ?_ (x := sA)
     refine Exists.intro (j + 1) (And.intro (by omega) (And.intro (by omega) (And.intro (And.intro (by exact ⟨rfl, rfl, rfl, rfl, rfl, rfl, ⟨⟩⟩) (by exact ⟨⟩)) (And.intro (by exact And.intro (by exact slc_eq (by rw [topAt_snoc hlt, List.map_append]; rfl)) (And.intro (by exact int_eq (by omega)) (True.intro))) (by exact ⟨⟩)))))
    ·try simp only [q1, q2, q3, q4, q5, q6, q7, q8, q9] at hb7
     have hej : j = ids.length := by omega
     refine sw_exit ?_
     refine sw_seq ?_
     refine sO [(0, _), (1, _), (2, _), (3, _), (8, _), (9, _), (10, _), (11, _)] [] ?_
     refine sw_regL ?_
     refine wA ?_ (x := vM false [PV.sl (.lo _) _])
     refine wA ?_ (x := sM)
     refine wO [(0, _), (1, _), (2, _), (3, _), (8, _), (9, _), (10, _), (11, _), (47, _), (48, _)] [] ?_
     refine swl_lcall (G := 6000) (qs := [(false, [PV.sl (.lo _) _]), (false, [PV.val _])]) (as_ := [(false, [PV.sl .v _]), (false, [PV.val _])]) (fun B => [PV.sl (.lo B) ((sortF l f).map (cAnnotated (.lo B) (.lo B)))]) (by decide) FTop_c_22 (by exact ⟨rfl, rfl, ⟨⟩⟩) (by exact (And.intro (by exact ⟨⟩) (And.intro (by exact ⟨⟩) True.intro))) (by exact (And.intro (LclRC.cons (PV.lclr_lo (LclRC.map fun x => (LclRC.cons PV.lclr_val (LclRC.cons (PV.lclr_lo (LclRC.map fun x => (LclRC.cons PV.lclr_val LclRC.nil))) (LclRC.cons (PV.lclr_lo (LclRC.map fun x => (LclRC.cons PV.lclr_val LclRC.nil))) LclRC.nil))))) LclRC.nil) (And.intro (LclRC.cons PV.lclr_val LclRC.nil) True.intro))) (by exact (And.intro (And.intro rfl (ToL.cons PV.to_none ToL.nil)) (And.intro (And.intro rfl (ToL.cons (PV.To.refl _) ToL.nil)) True.intro))) (by exact (spec_SortByField (by omega))) (fun B => by exact (ToBL.cons (PV.tob_map (fun _ => Nat.le_of_ble_eq_true rfl) (fun _ => (ToBL.cons PV.tob_refl (ToBL.cons (PV.tob_map (fun _ => Nat.le_of_ble_eq_true rfl) (fun _ => (ToBL.cons PV.tob_refl ToBL.nil))) (ToBL.cons (PV.tob_map (fun _ => Nat.le_of_ble_eq_true rfl) (fun _ => (ToBL.cons PV.tob_refl ToBL.nil))) ToBL.nil))))) ToBL.nil)) (fun B => by exact (BorL.cons (PV.bor_lo _ _) BorL.nil)) fun Bl hBl => ?_
     refine wA ?_ (x := vA false [PV.sl (.lo _) _])
     refine swl_nil ?_
     refine sw_seq ?_
     refine sO [(0, _), (1, _), (2, _), (3, _), (8, _), (9, _), (10, _), (11, _), (12, _), (6000, _)] [] ?_
     refine sw_reg ?_
     refine rA ?_ (x := kA)
     refine sw_seq ?_
     refine sO [(0, _), (1, _), (2, _), (3, _), (8, _), (9, _), (10, _), (11, _), (12, _), (13, _), (6000, _)] [] ?_
     refine sw_reg ?_
     refine rA ?_ (x := vM false [PV.sl (.lo _) _])
     refine rA ?_ (x := lN FTop_sl_31)
     refine rA ?_ (x := sA)
     refine sw_seq ?_
     refine sO [(0, _), (1, _), (2, _), (3, _), (8, _), (9, _), (10, _), (11, _), (12, _), (13, _), (14, _), (6000, _)] [] ?_
     refine sw_fix (B := Bl) 6000 [(2, _), (3, _), (8, _), (9, _), (10, _), (11, _), (12, _), (13, _), (14, _)] (by exact rfl) (by exact (FixL.cons (by exact rfl) (by exact rfl) FixR.refl (FixL.cons (by exact rfl) (by exact rfl) FixR.refl (FixL.cons (by exact rfl) (by exact rfl) FixR.refl (FixL.cons (by exact rfl) (by exact rfl) FixR.refl (FixL.cons (by exact rfl) (by exact rfl) FixR.refl (FixL.cons (by exact rfl) (by exact rfl) FixR.refl (FixL.cons (by exact rfl) (by exact rfl) FixR.refl (FixL.cons (by exact rfl) (by exact rfl) FixR.refl (FixL.cons (by exact rfl) (by exact rfl) FixR.refl True.intro)))))))))) fun w0 Fz0 => ?_
     refine sw_block ?_
     refine sw_loop (l0 := [(2, RV.sv false [PV.val _]), (3, RV.sv false [PV.val _]), (8, RV.sv false [PV.sl _ _]), (9, RV.sv false [PV.val _]), (11, RV.sv false [PV.val _]), (12, RV.sv false [PV.sl (.lo _) _])]) (b0 := []) (fun n : Nat => n ≤ (sortF l f).length ∧ stopN (topFull (sortF l f) c.toNat ids) ((sortF l f).length - n) n = topN (sortF l f) c.toNat ids) (fun n : Nat => [(10, RV.slc (.own 51 2) ((topAt (sortF l f) c.toNat ids n).map (cRouted (.own 33 2) (.own 3 1)))), (13, RV.int (n : Int)), (14, RV.int (openN (sortF l f) c.toNat ids n : Nat))]) (fun n : Nat => []) (fun n : Nat => (sortF l f).length - n) 0 (by exact ⟨Nat.zero_le _, rfl⟩) (by exact ⟨rfl, rfl, rfl, rfl, rfl, rfl, ⟨⟩⟩) (by exact ⟨⟩) (by exact And.intro (by exact slc_eq (by rw [hej, List.take_length])) (And.intro (by exact rfl) (And.intro (by exact int_eq (by rw [openN_zero (by omega)])) (True.intro)))) (by exact ⟨⟩) ?_
     rintro n ⟨hn, hst⟩
     have hal : (topAt (sortF l f) c.toNat ids n).length = ids.length := topAt_len
     refine sw_seq ?_
     refine sw_seq ?_
     refine sw_reg ?_
     refine rA ?_ (x := sM)
     refine rA ?_ (x := vM false [PV.sl (.lo _) _])
     refine rA ?_ (x := lN FTop_sl_24)
     refine rA ?_ (x := B_lss)
     refine rA ?_ (x := sM)
     refine RunS.cases (s := 56) rfl (fun g8 => ?_) (fun g8 => ?_)
     ·have sg8 := g8
      try simp only [q1, q2, q3, q4, q5, q6, q7, q8, q9] at sg8
      refine rB g8 ?_ (x := sM)
      refine rB g8 ?_ (x := B_gtr)
      refine rA ?_ (x := pkT g8)
      refine sw_cond (t := 59) rfl (fun hb9 => ?_) (fun hb9 => ?_)
      ·try simp only [q1, q2, q3, q4, q5, q6, q7, q8, q9] at hb9
       have hnS : n < (sortF l f).length := by omega
       have hnf := open_of_full (S := (sortF l f)) (c := c.toNat) (ids := ids) (n := n) (by omega)
       have hwm := wt_mem (f := wtAnnotated) hnS
       have hwr : wtRow (sortF l f)[n].Row ≤ wtAnnotated (sortF l f)[n] := by unfold wtAnnotated; omega
       have hwS : (((sortF l f)).map wtAnnotated).sum ≤ wtAnnotatedS (sortF l f) := Nat.le_add_left _ _
       refine sw_skip ?_
       refine sw_block ?_
       refine sw_seq ?_
       refine sO [(2, _), (3, _), (8, _), (9, _), (10, _), (11, _), (12, _), (13, _), (14, _)] [] ?_
       refine sw_reg ?_
       refine rA ?_ (x := kA)
       refine sw_seq ?_
       refine sw_seq ?_
       refine sO [(2, _), (3, _), (8, _), (9, _), (10, _), (11, _), (12, _), (13, _), (14, _)] [] ?_
       refine sw_reg ?_
       refine rA ?_ (x := kA)
       refine sw_block ?_
       refine sO [(2, _), (3, _), (8, _), (9, _), (10, _), (11, _), (12, _), (13, _), (14, _), (15, _)] [] ?_
       refine sw_loop (l0 := [(2, RV.sv false [PV.val _]), (3, RV.sv false [PV.val _]), (8, RV.sv false [PV.sl _ _]), (9, RV.sv false [PV.val _]), (11, RV.sv false [PV.val _]), (12, RV.sv false [PV.sl (.lo _) _]), (13, RV.sv false [PV.val _])]) (b0 := []) (fun i : Nat => i ≤ ids.length) (fun i : Nat => [(10, RV.slc (.own 51 2) ((topMid (sortF l f) c.toNat ids n i).map (cRouted (.own 33 2) (.own 3 1)))), (14, RV.int (openN (sortF l f) c.toNat (ids.take i) (n + 1) : Nat)), (15, RV.int (i : Int))]) (fun i : Nat => []) (fun i : Nat => ids.length - i) 0 (by omega) (by exact ⟨rfl, rfl, rfl, rfl, rfl, rfl, rfl, ⟨⟩⟩) (by exact ⟨⟩) (by exact And.intro (by exact rfl) (And.intro (by exact rfl) (And.intro (by exact rfl) (True.intro)))) (by exact ⟨⟩) ?_
       rintro i hii
       have hml : (topMid (sortF l f) c.toNat ids n i).length = ids.length := topMid_len
       have hol := openN_le (S := (sortF l f)) (c := c.toNat) (ids := ids.take i) (n := n + 1)
       rw [List.length_take] at hol
       refine sw_seq ?_
       refine sw_seq ?_
       refine sw_reg ?_
       refine rA ?_ (x := sM)
       refine rA ?_ (x := vM false [PV.sl .v _])
       refine rA ?_ (x := lN FTop_sl_43)
       refine rA ?_ (x := B_lss)
       refine sw_cond (t := 63) rfl (fun hb10 => ?_) (fun hb10 => ?_)
       ·try simp only [q1, q2, q3, q4, q5, q6, q7, q8, q9] at hb10
        have hi : i < ids.length := by omega
        have hti : i < (topMid (sortF l f) c.toNat ids n i).length := by rw [topMid_len]; exact hi
        have hrl := topRows_le (S := (sortF l f)) (c := c.toNat) (id := ids[i]) (n := n)
        have hrq : ((topMid (sortF l f) c.toNat ids n i)[i]).Rows.length = (topRows (sortF l f) c.toNat ids[i] n).length := by rw [topMid_at hi]
        refine sw_skip ?_
        refine sw_seq ?_
        refine sw_block ?_
        refine sw_seq ?_
        refine sw_seq ?_
        refine sO [(2, _), (3, _), (8, _), (9, _), (10, _), (11, _), (12, _), (13, _), (14, _), (15, _)] [] ?_
        refine sw_draw hm_ ?_
        refine dA 0 ?_ (x := vM false [PV.sl .v _])
        refine dA 0 ?_ (x := sM)
        refine dA 3 ?_ (x := loc_index (k := i) (by decide) FTop_sl_43 (by exact ⟨⟩) (by omega) (by first | exact getm2 hti (by rw [topMid_at hi]) | exact getm2 (by rw [List.length_set]; exact hti) (by rw [List.getElem_set_self])) (by exact rfl))
        refine dA 7 ?_ (x := loc_efield (by decide) FTop_fd_51_1 (by exact Nat.le_of_ble_eq_true rfl))
        refine dA 15 ?_ (x := lE [PV.sl .v _] FTop_ty_39)
        refine dA 31 ?_ (x := lN FTop_sl_39)
        refine dA 0 ?_ (x := sM)
        refine dA 127 ?_ (x := B_lss)
        refine dA 255 ?_ (x := sM)
        refine Run.cases (s := 74) rfl (fun g11 => ?_) (fun g11 => ?_)
        ·have sg11 := g11
         try simp only [q1, q2, q3, q4, q5, q6, q7, q8, q9] at sg11
         refine dB 511 g11 ?_ (x := vM false [PV.sl (.lo _) _])
         refine dB 511 g11 ?_ (x := sM)
         refine dB 2047 g11 ?_ (x := loc_index (k := n) (by decide) FTop_sl_24 (by exact ⟨⟩) (by omega) (by exact getm2 hnS rfl) (by exact rfl))
         refine dB 4095 g11 ?_ (x := loc_efield (by decide) FTop_fd_35_1 (by exact Nat.le_of_ble_eq_true rfl))
         refine dB 8191 g11 ?_ (x := lE [PV.sl (.lo _) _] FTop_ty_31)
         refine dB 511 g11 ?_ (x := vM false [PV.sl .v _])
         refine dB 511 g11 ?_ (x := sM)
         refine dB 49663 g11 ?_ (x := loc_index (k := i) (by decide) FTop_sl_43 (by exact ⟨⟩) (by omega) (by first | exact getm2 hti (by rw [topMid_at hi]) | exact getm2 (by rw [List.length_set]; exact hti) (by rw [List.getElem_set_self])) (by exact rfl))
         refine dB 115199 g11 ?_ (x := loc_efield (by decide) FTop_fd_51_0 (by exact Nat.le_of_ble_eq_true rfl))
         refine dB 246271 g11 ?_ (x := lE [PV.val _] FTop_ty_3)
         refine dB 524287 g11 ?_ (x := cL [(false, [PV.sl (.lo _) _]), (false, [PV.val _])] [(false, [PV.sl .v _]), (false, [PV.val _])] FTop_c_37 (hs := by exact spec_HasMember))
         refine dA 1048575 ?_ (x := pkT g11)
         refine sw_cond (t := 86) rfl (fun hb12 => ?_) (fun hb12 => ?_)
         ·try simp only [q1, q2, q3, q4, q5, q6, q7, q8, q9] at hb12
          have hyy := topRows_yes (c := c.toNat) hnS ‹hasI _ _ = true› (by omega)
          refine sO [(2, _), (3, _), (8, _), (9, _), (10, _), (11, _), (12, _), (13, _), (14, _), (15, _)] [] ?_
          refine sw_thawS (s := 10) (D := 900) (G := 2900) (E := 51) (e := 2) (L := Bl) (es := (topMid (sortF l f) c.toNat ids n i).map (cRouted (.own 33 2) (.own 3 1))) (by exact rfl) (map_ne hti) (by exact rfl) (by exact rfl) rfl (by exact rfl) (fun x hx => hx) (by exact (And.intro (.inr (RV.lcl_sv (LclC.cons PV.lcl_val LclC.nil))) (And.intro (.inr (RV.lcl_sv (LclC.cons PV.lcl_val LclC.nil))) (And.intro (.inr (RV.lcl_sv (LclC.cons (PV.lcl_own (by first | exact (LclC.map fun x => (LclC.cons PV.lcl_val (LclC.cons (PV.lcl_own (LclC.map fun x => (LclC.cons PV.lcl_val (LclC.cons (PV.lcl_own (LclC.map fun x => (LclC.cons PV.lcl_val LclC.nil))) LclC.nil)))) LclC.nil))) | exact (fun cs h => nomatch h))) LclC.nil))) (And.intro (.inr (RV.lcl_sv (LclC.cons PV.lcl_val LclC.nil))) (And.intro (.inl rfl) (And.intro (.inr (RV.lcl_sv (LclC.cons PV.lcl_val LclC.nil))) (And.intro (.inr (RV.lcl_sv (LclC.cons (PV.lcl_lo (LclRC.map fun x => (LclRC.cons PV.lclr_val (LclRC.cons (PV.lclr_lo (LclRC.map fun x => (LclRC.cons PV.lclr_val LclRC.nil))) (LclRC.cons (PV.lclr_lo (LclRC.map fun x => (LclRC.cons PV.lclr_val LclRC.nil))) LclRC.nil))))) LclC.nil))) (And.intro (.inr (RV.lcl_sv (LclC.cons PV.lcl_val LclC.nil))) (And.intro (.inr (RV.lcl_sv (LclC.cons PV.lcl_val LclC.nil))) (And.intro (.inr (RV.lcl_sv (LclC.cons PV.lcl_val LclC.nil))) True.intro))))))))))) (by exact ⟨⟩) (LclC.map fun x => (LclC.cons PV.lcl_val (LclC.cons (PV.lcl_own (LclC.map fun x => (LclC.cons PV.lcl_val (LclC.cons (PV.lcl_own (LclC.map fun x => (LclC.cons PV.lcl_val LclC.nil))) LclC.nil)))) LclC.nil))) fun uu900 cp900 jk900 hlD900 hcp900 hjk900 => ?_
          rw [List.length_map] at hlD900 hcp900 hjk900
          refine sw_boxEq (d := 900) (by exact rfl) (at_split (k := i) hti) ?_
          have hA900 := at_len (f := (cRouted (.own 33 2) (.own 3 1))) (e := 2) (xs := topMid (sortF l f) c.toNat ids n i) (k := i) (fun _ => rfl) (Nat.le_of_lt hti)
          refine sO [(2, _), (3, _), (8, _), (9, _), (10, _), (11, _), (12, _), (13, _), (14, _), (15, _), (2900, _)] [(900, (51, _ ++ ([PV.val _, PV.sl _ _] ++ _)))] ?_
          refine sw_draw hm_ ?_
          refine dA 0 ?_ (x := vM false [PV.val _])
          refine dA 0 ?_ (x := sM)
          refine dA 0 ?_ (x := vM false [PV.val _])
          refine dA 0 ?_ (x := sM)
          refine dA 12 ?_ (x := loc_gidx (k := i) (G := 2900) (by decide) FTop_sl_43 (by exact ⟨⟩) (by omega) (by first | (rw [List.length_map]; exact hti) | exact hti))
          refine dA 28 ?_ (x := lF FTop_fd_51_1)
          refine dA 60 ?_ (x := loc_ltakeM (o := 1) (ms := [PV.sl _ _]) (qs := [PV.sl .v _]) (by omega) (by decide) FTop_ty_39 (fun _ => rfl) (by exact Nat.le_of_ble_eq_true rfl) (by exact rfl) (by exact (ToL.cons PV.to_none ToL.nil)) (by exact (BorL.cons (PV.bor_sl _) BorL.nil)))
          refine dA 0 ?_ (x := vM false [PV.sl (.lo _) _])
          refine dA 0 ?_ (x := sM)
          refine dA 384 ?_ (x := loc_index (k := n) (by decide) FTop_sl_24 (by exact ⟨⟩) (by omega) (by exact getm2 hnS rfl) (by exact rfl))
          refine dA 896 ?_ (x := loc_efield (by decide) FTop_fd_35_0 (by exact Nat.le_of_ble_eq_true rfl))
          refine dA 1920 ?_ (x := lE [PV.val _, PV.sl (.lo _) _] FTop_ty_33)
          refine dA 3968 ?_ (x := cL [(true, [PV.val _, PV.sl (.lo _) _])] [(true, [PV.val _, PV.sl .v _])] FTop_c_38 (hs := by exact spec_l3Copy (by omega)))
          refine dA 8064 ?_ (x := loc_bslice (qs := [(true, [PV.val _, PV.sl _ _])]) (by decide) FTop_sl_39 FTop_z_33 (by decide) rfl rfl rfl rfl rfl (by exact Nat.le_of_ble_eq_true rfl) (by exact (And.intro (by exact ⟨⟩) True.intro)) rfl)
          refine dA 16380 ?_ (x := loc_append (by decide) FTop_sl_39 FTop_z_33 rfl rfl (by decide) rfl (by simp only [List.length_map, List.length_append, List.length_cons, List.length_nil]; omega) (by simp only [List.length_map, List.length_append, List.length_cons, List.length_nil]; omega))
          refine dA 32767 ?_ (x := loc_gidx (k := i) (G := 2900) (by decide) FTop_sl_43 (by exact ⟨⟩) (by omega) (by first | (rw [List.length_map]; exact hti) | exact hti))
          refine dA 65535 ?_ (x := lF FTop_fd_51_1)
          refine dA 131071 ?_ (x := loc_storeM (o := 1) (ag := false) (vs := [PV.sl _ _]) (by omega) FTop_ty_39 (by exact ⟨⟩) (by exact rfl) (by exact Nat.le_of_ble_eq_true rfl))
          refine sw_boxEq (d := 900) (by exact rfl) (at_join (⟨ids[i], topRows (sortF l f) c.toNat ids[i] (n + 1)⟩) hti (by rw [topMid_at hi, hyy]; simp only [cRouted, cRowS, List.map_append]; exact rfl)) ?_
          refine sw_frzS (s := 10) (D := 900) (G := 2900) (e := 2) (es := ((topMid (sortF l f) c.toNat ids n i).set i (⟨ids[i], topRows (sortF l f) c.toNat ids[i] (n + 1)⟩)).map (cRouted (.own 33 2) (.own 3 1))) (by exact rfl) (by exact rfl) (by exact rfl) rfl (by decide) (by rw [List.length_map, List.length_set, List.length_map]) (by intro c hc; obtain ⟨y, _, rfl⟩ := List.mem_map.1 hc; exact rfl) (by rw [List.length_map]; exact hjk900) ?_
          refine sw_seq ?_
          refine sO [(2, _), (3, _), (8, _), (9, _), (10, _), (11, _), (12, _), (13, _), (14, _), (15, _)] [] ?_
          refine sw_reg ?_
          refine rA ?_ (x := vM false [PV.sl .v _])
          refine rA ?_ (x := sM)
          refine rA ?_ (x := loc_index (k := i) (by decide) FTop_sl_43 (by exact ⟨⟩) (by omega) (by first | exact getm2 hti (by rw [topMid_at hi]) | exact getm2 (by rw [List.length_set]; exact hti) (by rw [List.getElem_set_self])) (by exact rfl))
          refine rA ?_ (x := loc_efield (by decide) FTop_fd_51_1 (by exact Nat.le_of_ble_eq_true rfl))
          refine rA ?_ (x := lE [PV.sl .v _] FTop_ty_39)
          refine rA ?_ (x := lN FTop_sl_39)
          refine rA ?_ (x := sM)
          refine rA ?_ (x := B_lss)
          refine sw_cond (t := 111) rfl (fun hb13 => ?_) (fun hb13 => ?_)
          ·try simp only [q1, q2, q3, q4, q5, q6, q7, q8, q9] at hb13
           refine sO [(2, _), (3, _), (8, _), (9, _), (10, _), (11, _), (12, _), (13, _), (14, _), (15, _)] [] ?_
           refine sw_reg ?_
           refine rA ?_ (x := sM)
           refine rA ?_ (x := B_add)
           refine rA ?_ (x := sA)
           refine sO [(2, _), (3, _), (8, _), (9, _), (10, _), (11, _), (12, _), (13, _), (14, _), (15, _)] [] ?_
           refine sw_reg ?_
           refine rA ?_ (x := sM)
           refine rA ?_ (x := B_add)
           refine rA ?_ (x := sA)
           refine Exists.intro (i + 1) (And.intro (by omega) (And.intro (by omega) (And.intro (And.intro (by exact ⟨rfl, rfl, rfl, rfl, rfl, rfl, rfl, ⟨⟩⟩) (by exact ⟨⟩)) (And.intro (by exact And.intro (by exact slc_eq (by first | rw [topMid_set hi] | rw [topMid_same hi hnn])) (And.intro (by exact int_eq (by first | (rw [openN_yes hi (by omega)]; omega) | rw [openN_no hi (by omega)])) (And.intro (by exact int_eq (by omega)) (True.intro)))) (by exact ⟨⟩)))))
          ·try simp only [q1, q2, q3, q4, q5, q6, q7, q8, q9] at hb13
           refine sw_skip ?_
           refine sO [(2, _), (3, _), (8, _), (9, _), (10, _), (11, _), (12, _), (13, _), (14, _), (15, _)] [] ?_
           refine sw_reg ?_
           refine rA ?_ (x := sM)
           refine rA ?_ (x := B_add)
           refine rA ?_ (x := sA)
           refine Exists.intro (i + 1) (And.intro (by omega) (And.intro (by omega) (And.intro (And.intro (by exact ⟨rfl, rfl, rfl, rfl, rfl, rfl, rfl, ⟨⟩⟩) (by exact ⟨⟩)) (And.intro (by exact And.intro (by exact slc_eq (by first | rw [topMid_set hi] | rw [topMid_same hi hnn])) (And.intro (by exact int_eq (by first | (rw [openN_yes hi (by omega)]; omega) | rw [openN_no hi (by omega)])) (And.intro (by exact int_eq (by omega)) (True.intro)))) (by exact ⟨⟩)))))
         ·try simp only [q1, q2, q3, q4, q5, q6, q7, q8, q9] at hb12
          have hnn := topRows_no (c := c.toNat) (id := ids[i]) hnS (by first | exact .inl ‹hasI _ _ = false› | exact .inr (by omega))
          have hnl : (topRows (sortF l f) c.toNat ids[i] (n + 1)).length = (topRows (sortF l f) c.toNat ids[i] n).length := by rw [hnn]
          refine sw_skip ?_
          refine sw_seq ?_
          refine sO [(2, _), (3, _), (8, _), (9, _), (10, _), (11, _), (12, _), (13, _), (14, _), (15, _)] [] ?_
          refine sw_reg ?_
          refine rA ?_ (x := vM false [PV.sl .v _])
          refine rA ?_ (x := sM)
          refine rA ?_ (x := loc_index (k := i) (by decide) FTop_sl_43 (by exact ⟨⟩) (by omega) (by first | exact getm2 hti (by rw [topMid_at hi]) | exact getm2 (by rw [List.length_set]; exact hti) (by rw [List.getElem_set_self])) (by exact rfl))
          refine rA ?_ (x := loc_efield (by decide) FTop_fd_51_1 (by exact Nat.le_of_ble_eq_true rfl))
          refine rA ?_ (x := lE [PV.sl .v _] FTop_ty_39)
          refine rA ?_ (x := lN FTop_sl_39)
          refine rA ?_ (x := sM)
          refine rA ?_ (x := B_lss)
          refine sw_cond (t := 111) rfl (fun hb14 => ?_) (fun hb14 => ?_)
          ·try simp only [q1, q2, q3, q4, q5, q6, q7, q8, q9] at hb14
           refine sO [(2, _), (3, _), (8, _), (9, _), (10, _), (11, _), (12, _), (13, _), (14, _), (15, _)] [] ?_
           refine sw_reg ?_
           refine rA ?_ (x := sM)
           refine rA ?_ (x := B_add)
           refine rA ?_ (x := sA)
           refine sO [(2, _), (3, _), (8, _), (9, _), (10, _), (11, _), (12, _), (13, _), (14, _), (15, _)] [] ?_
           refine sw_reg ?_
           refine rA ?_ (x := sM)
           refine rA ?_ (x := B_add)
           refine rA ?_ (x := sA)
           refine Exists.intro (i + 1) (And.intro (by omega) (And.intro (by omega) (And.intro (And.intro (by exact ⟨rfl, rfl, rfl, rfl, rfl, rfl, rfl, ⟨⟩⟩) (by exact ⟨⟩)) (And.intro (by exact And.intro (by exact slc_eq (by first | rw [topMid_set hi] | rw [topMid_same hi hnn])) (And.intro (by exact int_eq (by first | (rw [openN_yes hi (by omega)]; omega) | rw [openN_no hi (by omega)])) (And.intro (by exact int_eq (by omega)) (True.intro)))) (by exact ⟨⟩)))))
          ·try simp only [q1, q2, q3, q4, q5, q6, q7, q8, q9] at hb14
           refine sw_skip ?_
           refine sO [(2, _), (3, _), (8, _), (9, _), (10, _), (11, _), (12, _), (13, _), (14, _), (15, _)] [] ?_
           refine sw_reg ?_
           refine rA ?_ (x := sM)
           refine rA ?_ (x := B_add)
           refine rA ?_ (x := sA)
           refine Exists.intro (i + 1) (And.intro (by omega) (And.intro (by omega) (And.intro (And.intro (by exact ⟨rfl, rfl, rfl, rfl, rfl, rfl, rfl, ⟨⟩⟩) (by exact ⟨⟩)) (And.intro (by exact And.intro (by exact slc_eq (by first | rw [topMid_set hi] | rw [topMid_same hi hnn])) (And.intro (by exact int_eq (by first | (rw [openN_yes hi (by omega)]; omega) | rw [openN_no hi (by omega)])) (And.intro (by exact int_eq (by omega)) (True.intro)))) (by exact ⟨⟩)))))
        ·have sg11 := g11
         try simp only [q1, q2, q3, q4, q5, q6, q7, q8, q9] at sg11
         refine dF 511 g11 ?_
         refine dF 511 g11 ?_
         refine dF 2047 g11 ?_
         refine dF 4095 g11 ?_
         refine dF 8191 g11 ?_
         refine dF 511 g11 ?_
         refine dF 511 g11 ?_
         refine dF 49663 g11 ?_
         refine dF 115199 g11 ?_
         refine dF 246271 g11 ?_
         refine dF 524287 g11 ?_
         refine dA 1048575 ?_ (x := pkF g11)
         refine sw_cond (t := 86) rfl (fun hb_ => nomatch hb_) (fun hb_ => ?_)
         have hnn := topRows_no (c := c.toNat) (id := ids[i]) hnS (by first | exact .inl ‹hasI _ _ = false› | exact .inr (by omega))
         have hnl : (topRows (sortF l f) c.toNat ids[i] (n + 1)).length = (topRows (sortF l f) c.toNat ids[i] n).length := by rw [hnn]
         refine sw_skip ?_
         refine sw_seq ?_
         refine sO [(2, _), (3, _), (8, _), (9, _), (10, _), (11, _), (12, _), (13, _), (14, _), (15, _)] [] ?_
         refine sw_reg ?_
         refine rA ?_ (x := vM false [PV.sl .v _])
         refine rA ?_ (x := sM)
         refine rA ?_ (x := loc_index (k := i) (by decide) FTop_sl_43 (by exact ⟨⟩) (by omega) (by first | exact getm2 hti (by rw [topMid_at hi]) | exact getm2 (by rw [List.length_set]; exact hti) (by rw [List.getElem_set_self])) (by exact rfl))
         refine rA ?_ (x := loc_efield (by decide) FTop_fd_51_1 (by exact Nat.le_of_ble_eq_true rfl))
         refine rA ?_ (x := lE [PV.sl .v _] FTop_ty_39)
         refine rA ?_ (x := lN FTop_sl_39)
         refine rA ?_ (x := sM)
         refine rA ?_ (x := B_lss)
         refine sw_cond (t := 111) rfl (fun hb16 => ?_) (fun hb16 => ?_)
         ·try simp only [q1, q2, q3, q4, q5, q6, q7, q8, q9] at hb16
          refine sO [(2, _), (3, _), (8, _), (9, _), (10, _), (11, _), (12, _), (13, _), (14, _), (15, _)] [] ?_
          refine sw_reg ?_
          refine rA ?_ (x := sM)
          refine rA ?_ (x := B_add)
          refine rA ?_ (x := sA)
          refine sO [(2, _), (3, _), (8, _), (9, _), (10, _), (11, _), (12, _), (13, _), (14, _), (15, _)] [] ?_
          refine sw_reg ?_
          refine rA ?_ (x := sM)
          refine rA ?_ (x := B_add)
          refine rA ?_ (x := sA)
          refine Exists.intro (i + 1) (And.intro (by omega) (And.intro (by omega) (And.intro (And.intro (by exact ⟨rfl, rfl, rfl, rfl, rfl, rfl, rfl, ⟨⟩⟩) (by exact ⟨⟩)) (And.intro (by exact And.intro (by exact slc_eq (by first | rw [topMid_set hi] | rw [topMid_same hi hnn])) (And.intro (by exact int_eq (by first | (rw [openN_yes hi (by omega)]; omega) | rw [openN_no hi (by omega)])) (And.intro (by exact int_eq (by omega)) (True.intro)))) (by exact ⟨⟩)))))
         ·try simp only [q1, q2, q3, q4, q5, q6, q7, q8, q9] at hb16
          refine sw_skip ?_
          refine sO [(2, _), (3, _), (8, _), (9, _), (10, _), (11, _), (12, _), (13, _), (14, _), (15, _)] [] ?_
          refine sw_reg ?_
          refine rA ?_ (x := sM)
          refine rA ?_ (x := B_add)
          refine rA ?_ (x := sA)
          refine Exists.intro (i + 1) (And.intro (by omega) (And.intro (by omega) (And.intro (And.intro (by exact ⟨rfl, rfl, rfl, rfl, rfl, rfl, rfl, ⟨⟩⟩) (by exact ⟨⟩)) (And.intro (by exact And.intro (by exact slc_eq (by first | rw [topMid_set hi] | rw [topMid_same hi hnn])) (And.intro (by exact int_eq (by first | (rw [openN_yes hi (by omega)]; omega) | rw [openN_no hi (by omega)])) (And.intro (by exact int_eq (by omega)) (True.intro)))) (by exact ⟨⟩)))))
       ·try simp only [q1, q2, q3, q4, q5, q6, q7, q8, q9] at hb10
        have hei : i = ids.length := by omega
        refine sw_exit ?_
        refine sO [(2, _), (3, _), (8, _), (9, _), (10, _), (11, _), (12, _), (13, _), (14, _), (15, _)] [] ?_
        refine sw_reg ?_
        refine rA ?_ (x := sM)
        refine rA ?_ (x := B_add)
        refine rA ?_ (x := sA)
        refine Exists.intro (n + 1) (And.intro (by exact ⟨hnS, (stopN_go hnS hnf).trans hst⟩) (And.intro (by omega) (And.intro (And.intro (by exact ⟨rfl, rfl, rfl, rfl, rfl, rfl, ⟨⟩⟩) (by exact ⟨⟩)) (And.intro (by exact And.intro (by exact slc_eq (by first | rfl | rw [topMid_end hei])) (And.intro (by exact int_eq (by omega)) (And.intro (by exact int_eq (by rw [openN_all hei])) (True.intro)))) (by exact ⟨⟩)))))
      ·try simp only [q1, q2, q3, q4, q5, q6, q7, q8, q9] at hb9
       have hNN : n = topN (sortF l f) c.toNat ids := by
        first
        | exact (stopN_end (by omega)).symm.trans hst
        | exact (stopN_yes (full_of_open (by omega))).symm.trans hst
       refine sw_exit ?_
       refine sw_seq ?_
       refine sO [(2, _), (3, _), (8, _), (9, _), (10, _), (11, _), (12, _), (13, _), (14, _)] [] ?_
       refine sw_reg ?_
       refine rA ?_ (x := tM)
       refine rA ?_ (x := sM)
       refine rA ?_ (x := tA)
       refine rA ?_ (x := sA)
       refine sw_ret ?_
       exact (And.intro (by refine slc_eq ?_; rw [hr, ← hNN]) (And.intro (by refine int_eq ?_; rw [hr, ← hNN]) True.intro))
     ·have sg8 := g8
      try simp only [q1, q2, q3, q4, q5, q6, q7, q8, q9] at sg8
      refine RunS.s0f g8 ?_
      refine RunS.s0f g8 ?_
      refine rA ?_ (x := pkF g8)
      refine sw_cond (t := 59) rfl (fun hb_ => nomatch hb_) (fun hb_ => ?_)
      have hNN : n = topN (sortF l f) c.toNat ids := by
       first
       | exact (stopN_end (by omega)).symm.trans hst
       | exact (stopN_yes (full_of_open (by omega))).symm.trans hst
      refine sw_exit ?_
      refine sw_seq ?_
      refine sO [(2, _), (3, _), (8, _), (9, _), (10, _), (11, _), (12, _), (13, _), (14, _)] [] ?_
      refine sw_reg ?_
      refine rA ?_ (x := tM)
      refine rA ?_ (x := sM)
      refine rA ?_ (x := tA)
      refine rA ?_ (x := sA)
      refine sw_ret ?_
      exact (And.intro (by refine slc_eq ?_; rw [hr, ← hNN]) (And.intro (by refine int_eq ?_; rw [hr, ← hNN]) True.intro))
end Go.Proofs.Ytaomckpfgmhapaa
