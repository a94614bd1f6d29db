/- What functions of the program compute. No condition. -/
import Derived.Test.YtloipjaiceifbaaCSrtATopAlone
import Derived.Test.YtloipjaiceifbaaCDg
import Derived.Test.YtloipjaiceifbaaCSetTopAlone
import Derived.KernelRfl
set_option linter.unusedVariables false
set_option linter.unusedSimpArgs false
namespace Go.Proofs.Ytloipjaiceifbaa
open Go Go.RowKit M
set_option maxRecDepth 10000
attribute [local irreducible] PV.Lcl PV.LclR RV.Lcl
theorem FTop_c_11 : callI Try.prog 11 = true := by kernel_rfl
theorem FTop_c_54 : callI Try.prog 54 = true := by kernel_rfl
theorem FTop_c_71 : callI Try.prog 71 = true := by kernel_rfl
theorem FTop_c_72 : callI Try.prog 72 = true := by kernel_rfl
theorem FTop_c_73 : callI Try.prog 73 = true := by kernel_rfl
theorem FTop_c_74 : callI Try.prog 74 = true := by kernel_rfl
theorem FTop_fd_89_0 : fieldI Try.prog 89 0 = some 0 := by kernel_rfl
theorem FTop_fd_89_1 : fieldI Try.prog 89 1 = some 2 := by kernel_rfl
theorem FTop_fd_99_0 : fieldI Try.prog 99 0 = some 0 := by kernel_rfl
theorem FTop_fd_99_1 : fieldI Try.prog 99 1 = some 1 := by kernel_rfl
theorem FTop_pl_99 : placesI Try.prog 99 = some [(0, 1), (1, 1)] := by kernel_rfl
theorem FTop_sl_24 : sliceI Try.prog 24 = some (89, 3, 56) := by kernel_rfl
theorem FTop_sl_32 : sliceI Try.prog 32 = some (87, 2, 32) := by kernel_rfl
theorem FTop_sl_38 : sliceI Try.prog 38 = some (3, 1, 8) := by kernel_rfl
theorem FTop_sl_39 : sliceI Try.prog 39 = some (99, 2, 32) := by kernel_rfl
theorem FTop_ty_3 : tyI Try.prog 3 = some (false, 1) := by kernel_rfl
theorem FTop_ty_32 : tyI Try.prog 32 = some (false, 1) := by kernel_rfl
theorem FTop_ty_38 : tyI Try.prog 38 = some (false, 1) := by kernel_rfl
theorem FTop_ty_87 : tyI Try.prog 87 = some (true, 2) := by kernel_rfl
theorem FTop_z_87 : zeroI Try.prog 87 = some (.agg #[.int .i64 0, .slice none 0 0]) := by kernel_rfl
theorem FTop_z_99 : zeroI Try.prog 99 = some (.agg #[.int .i64 0, .slice none 0 0]) := by kernel_rfl
theorem FTop_zo_99 {Fz : FzT} {w : World} : OwnL [PV.val (.int .i64 0), PV.sl (.own 87 2) []] Fz w (Value.cells (.agg #[.int .i64 0, .slice none 0 0])).toList [] := zo_val rfl (zo_sl (zo_nil))
theorem spec_TopShared {p1 p2 : Fl} {l : List Annotated} {ids : List Int} {f : Int} {c : Int}  (hb : wtAnnotatedS l ≤ 68719476736) (hb2 : ids.length ≤ 68719476736) : SCall Try.prog 24 [(false, [PV.sl .v (l.map (cAnnotated p1 p2))]), (false, [PV.sl .v (ids.map cInt)]), (false, [PV.val (vI f)]), (false, [PV.val (vI c)])] (resRV [(false, [PV.sl (.own 99 2) ((topShared l ids f c).1.map (cRouted (.own 87 2) (.own 3 1)))]), (false, [PV.val (vI (topShared l ids f c).2)])]) := by
 refine scall_lo (largs := fun L => [(false, [PV.sl (.lo L) (l.map (cAnnotated (.lo L) (.lo L)))]), (false, [PV.sl (.lo L) (ids.map cInt)]), (false, [PV.val (vI f)]), (false, [PV.val (vI c)])]) (rs := [(false, [PV.sl (.own 99 2) ((topShared l ids f c).1.map (cRouted (.own 87 2) (.own 3 1)))]), (false, [PV.val (vI (topShared l ids f c).2)])]) Try.func24 rfl (Nat.le_of_ble_eq_true rfl) (fun L => by exact (And.intro (And.intro rfl (ToBL.cons (PV.tob_map (fun _ => Nat.le_of_ble_eq_true rfl) (fun _ => (ToBL.cons PV.tob_refl (ToBL.cons (PV.tob_map (fun _ => Nat.le_of_ble_eq_true rfl) (fun _ => (ToBL.cons PV.tob_refl ToBL.nil))) (ToBL.cons (PV.tob_map (fun _ => Nat.le_of_ble_eq_true rfl) (fun _ => (ToBL.cons PV.tob_refl ToBL.nil))) ToBL.nil))))) ToBL.nil)) (And.intro (And.intro rfl (ToBL.cons (PV.tob_map (fun _ => Nat.le_of_ble_eq_true rfl) (fun _ => (ToBL.cons PV.tob_refl ToBL.nil))) ToBL.nil)) (And.intro (And.intro rfl (ToBL.cons PV.tob_refl ToBL.nil)) (And.intro (And.intro rfl (ToBL.cons PV.tob_refl ToBL.nil)) True.intro))))) (fun L => by exact (borA_cons (BorL.cons (PV.bor_lo _ _) BorL.nil) (borA_cons (BorL.cons (PV.bor_lo _ _) BorL.nil) (borA_cons (BorL.cons (PV.bor_val _) BorL.nil) (borA_cons (BorL.cons (PV.bor_val _) BorL.nil) borA_nil))))) ?_
 intro w0 Fz0
 refine sw_len (s := 0) rfl fun hl0 => ?_
 try rw [List.length_map] at hl0
 refine sw_len (s := 1) rfl fun hl1 => ?_
 try rw [List.length_map] at hl1
 have hbl : l.length ≤ wtAnnotatedS l := Nat.le_add_right _ _
 have hsw := sortF_wt l f
 have hswl : (sortF l f).length ≤ wtAnnotatedS (sortF l f) := Nat.le_add_right _ _
 refine sw_seq ?_
 refine sw_reg ?_
 refine rA ?_ (x := loc_const (.inr rfl) (by decide) (ok_nil (t := 99) (e := 2)))
 refine rA ?_ (x := kA)
 refine sw_seq ?_
 refine sO [(0, _), (1, _), (2, _), (3, _), (8, _), (9, _)] [] ?_
 refine sw_reg ?_
 refine rA ?_ (x := loc_bslice (qs := []) (by decide) FTop_sl_39 FTop_z_99 (by decide) rfl rfl rfl rfl rfl (by exact Nat.le_of_ble_eq_true rfl) (by exact ⟨⟩) rfl)
 refine rA ?_ (x := tA)
 refine sw_seq ?_
 refine sw_seq ?_
 refine sO [(0, _), (1, _), (2, _), (3, _), (8, _), (9, _), (10, _)] [] ?_
 refine sw_reg ?_
 refine rA ?_ (x := vM false [PV.sl (.lo _) _])
 refine rA ?_ (x := sM)
 refine rA ?_ (x := cL [(false, [PV.sl (.lo _) _]), (false, [PV.val _])] [(false, [PV.sl .v _]), (false, [PV.val _])] FTop_c_54 (hs := by exact spec_l15Fine))
 refine rA ?_ (x := nT)
 refine rA ?_ (x := sM)
 refine RunS.cases (s := 21) rfl (fun g1 => ?_) (fun g1 => ?_)
 ·have sg1 := g1
  try simp only [q1, q2, q3, q4, q5, q6, q7, q8, q9] at sg1
  refine RunS.s0t g1 ?_
  refine RunS.s0t g1 ?_
  refine RunS.s0t g1 ?_
  refine rA ?_ (x := pkT g1)
  refine rA ?_ (x := sM)
  refine RunS.cases (s := 26) rfl (fun g2 => ?_) (fun g2 => nomatch g2)
  refine RunS.s0t g2 ?_
  refine RunS.s0t g2 ?_
  refine RunS.s0t g2 ?_
  refine rA ?_ (x := pkT g2)
  refine sw_cond (t := 30) rfl (fun hb_ => ?_) (fun hb_ => nomatch hb_)
  have hr := topShared_no (l := l) (ids := ids) (f := f) (k := c) (by intro hh; simp_all)
  refine sw_seq ?_
  refine sO [(0, _), (1, _), (2, _), (3, _), (8, _), (9, _), (10, _)] [] ?_
  refine sw_reg ?_
  refine rA ?_ (x := tM)
  refine rA ?_ (x := tA)
  refine rA ?_ (x := kA)
  refine sw_ret ?_
  exact (And.intro (by refine slc_eq ?_; rw [hr]; try rfl) (And.intro (by refine int_eq ?_; rw [hr]; try rfl) True.intro))
 ·have sg1 := g1
  try simp only [q1, q2, q3, q4, q5, q6, q7, q8, q9] at sg1
  refine rB g1 ?_ (x := vM false [PV.sl (.lo _) _])
  refine rB g1 ?_ (x := cL [(false, [PV.sl (.lo _) _])] [(false, [PV.sl .v _])] FTop_c_71 (hs := by exact spec_IsSet))
  refine rB g1 ?_ (x := nT)
  refine rA ?_ (x := pkF g1)
  refine rA ?_ (x := sM)
  refine RunS.cases (s := 26) rfl (fun g4 => ?_) (fun g4 => ?_)
  ·have sg4 := g4
   try simp only [q1, q2, q3, q4, q5, q6, q7, q8, q9] at sg4
   refine RunS.s0t g4 ?_
   refine RunS.s0t g4 ?_
   refine RunS.s0t g4 ?_
   refine rA ?_ (x := pkT g4)
   refine sw_cond (t := 30) rfl (fun hb_ => ?_) (fun hb_ => nomatch hb_)
   have hr := topShared_no (l := l) (ids := ids) (f := f) (k := c) (by intro hh; simp_all)
   refine sw_seq ?_
   refine sO [(0, _), (1, _), (2, _), (3, _), (8, _), (9, _), (10, _)] [] ?_
   refine sw_reg ?_
   refine rA ?_ (x := tM)
   refine rA ?_ (x := tA)
   refine rA ?_ (x := kA)
   refine sw_ret ?_
   exact (And.intro (by refine slc_eq ?_; rw [hr]; try rfl) (And.intro (by refine int_eq ?_; rw [hr]; try rfl) True.intro))
  ·have sg4 := g4
   try simp only [q1, q2, q3, q4, q5, q6, q7, q8, q9] at sg4
   refine rB g4 ?_ (x := sM)
   refine rB g4 ?_ (x := cL [(false, [PV.val _]), (false, [PV.val _]), (false, [PV.val _])] [(false, [PV.val _]), (false, [PV.val _]), (false, [PV.val _])] FTop_c_72 (hs := by exact spec_l1In))
   refine rB g4 ?_ (x := nT)
   refine rA ?_ (x := pkF g4)
   refine sw_cond (t := 30) rfl (fun hb6 => ?_) (fun hb6 => ?_)
   ·try simp only [q1, q2, q3, q4, q5, q6, q7, q8, q9] at hb6
    have hr := topShared_no (l := l) (ids := ids) (f := f) (k := c) (by intro hh; simp_all)
    refine sw_seq ?_
    refine sO [(0, _), (1, _), (2, _), (3, _), (8, _), (9, _), (10, _)] [] ?_
    refine sw_reg ?_
    refine rA ?_ (x := tM)
    refine rA ?_ (x := tA)
    refine rA ?_ (x := kA)
    refine sw_ret ?_
    exact (And.intro (by refine slc_eq ?_; rw [hr]; try rfl) (And.intro (by refine int_eq ?_; rw [hr]; try rfl) True.intro))
   ·try simp only [q1, q2, q3, q4, q5, q6, q7, q8, q9] at hb6
    have h3 : annOk l f = true ∧ okSet ids = true ∧ inB c 1 100 = true := by simp_all
    have hr := topShared_ok h3.1 h3.2.1 h3.2.2
    have hcB : 1 ≤ c ∧ c ≤ 100 := by have hh := h3.2.2; simpa [inB] using hh
    have hid := okSet_len h3.2.1
    refine sw_skip ?_
    refine sw_seq ?_
    refine sw_seq ?_
    refine sO [(0, _), (1, _), (2, _), (3, _), (8, _), (9, _), (10, _)] [] ?_
    refine sw_reg ?_
    refine rA ?_ (x := kA)
    refine sw_block ?_
    refine sO [(0, _), (1, _), (2, _), (3, _), (8, _), (9, _), (10, _), (11, _)] [] ?_
    refine sw_loop (l0 := [(0, RV.sv false [PV.sl (.lo _) _]), (1, RV.sv false [PV.sl (.lo _) _]), (2, RV.sv false [PV.val _]), (3, RV.sv false [PV.val _]), (8, RV.sv false [PV.sl _ _]), (9, RV.sv false [PV.val _])]) (b0 := []) (fun j : Nat => j ≤ ids.length) (fun j : Nat => [(10, RV.slc (.own 99 2) ((topAt (sortF l f) c.toNat (ids.take j) 0).map (cRouted (.own 87 2) (.own 3 1)))), (11, RV.int (j : Int))]) (fun j : Nat => []) (fun j : Nat => ids.length - j) 0 (by omega) (by exact ⟨rfl, rfl, rfl, rfl, rfl, rfl, ⟨⟩⟩) (by exact ⟨⟩) (by exact And.intro (by exact rfl) (And.intro (by exact rfl) (True.intro))) (by exact ⟨⟩) ?_
    rintro j hj
    have htl : (topAt (sortF l f) c.toNat (ids.take j) 0).length = j := by rw [topAt_len, List.length_take]; omega
    refine sw_seq ?_
    refine sw_seq ?_
    refine sw_reg ?_
    refine rA ?_ (x := sM)
    refine rA ?_ (x := vM false [PV.sl (.lo _) _])
    refine rA ?_ (x := lN FTop_sl_38)
    refine rA ?_ (x := B_lss)
    refine sw_cond (t := 35) rfl (fun hb7 => ?_) (fun hb7 => ?_)
    ·try simp only [q1, q2, q3, q4, q5, q6, q7, q8, q9] at hb7
     have hlt : j < ids.length := by omega
     refine sw_skip ?_
     refine sw_seq ?_
     refine sw_block ?_
     refine sO [(0, _), (1, _), (2, _), (3, _), (8, _), (9, _), (10, _), (11, _)] [] ?_
     refine sw_reg ?_
     refine rA ?_ (x := tM)
     refine rA ?_ (x := vM false [PV.sl (.lo _) _])
     refine rA ?_ (x := sM)
     refine rA ?_ (x := loc_index (by decide) FTop_sl_38 (by exact ⟨⟩) (by exact rfl) (by exact getm2 (by omega) rfl) (by exact rfl))
     refine rA ?_ (x := lE [PV.val _] FTop_ty_3)
     refine rA ?_ (x := loc_bslice (qs := []) (by decide) FTop_sl_32 FTop_z_87 (by decide) rfl rfl rfl rfl rfl (by exact Nat.le_of_ble_eq_true rfl) (by exact ⟨⟩) rfl)
     refine rA ?_ (x := loc_build (qs := [(false, [PV.val _]), (false, [PV.sl _ _])]) (cs := [PV.val _, PV.sl _ _]) (by decide) FTop_z_99 FTop_zo_99 FTop_pl_99 (by exact rfl) (by exact (And.intro (by exact ⟨⟩) (And.intro (by exact ⟨⟩) True.intro))) rfl (by exact rfl))
     refine rA ?_ (x := loc_bslice (qs := [(true, [PV.val _, PV.sl _ _])]) (by decide) FTop_sl_39 FTop_z_99 (by decide) rfl rfl rfl rfl rfl (by exact Nat.le_of_ble_eq_true rfl) (by exact (And.intro (by exact ⟨⟩) True.intro)) rfl)
     refine rA ?_ (x := loc_append (by decide) FTop_sl_39 FTop_z_99 rfl rfl (by decide) rfl (by simp only [List.length_map, List.length_append, List.length_cons, List.length_nil]; omega) (by simp only [List.length_map, List.length_append, List.length_cons, List.length_nil]; omega))
     refine rA ?_ (x := tA)
     refine sO [(0, _), (1, _), (2, _), (3, _), (8, _), (9, _), (10, _), (11, _)] [] ?_
     refine sw_reg ?_
     refine rA ?_ (x := sM)
     refine rA ?_ (x := B_add)
     refine rA ?_ (x := sA)
     refine Exists.intro (j + 1) (And.intro (by omega) (And.intro (by omega) (And.intro (And.intro (by exact ⟨rfl, rfl, rfl, rfl, rfl, rfl, ⟨⟩⟩) (by exact ⟨⟩)) (And.intro (by exact And.intro (by exact slc_eq (by rw [topAt_snoc hlt, List.map_append]; rfl)) (And.intro (by exact int_eq (by omega)) (True.intro))) (by exact ⟨⟩)))))
    ·try simp only [q1, q2, q3, q4, q5, q6, q7, q8, q9] at hb7
     have hej : j = ids.length := by omega
     refine sw_exit ?_
     refine sw_seq ?_
     refine sO [(0, _), (1, _), (2, _), (3, _), (8, _), (9, _), (10, _), (11, _)] [] ?_
     refine sw_regL ?_
     refine wA ?_ (x := vM false [PV.sl (.lo _) _])
     refine wA ?_ (x := sM)
     refine wO [(0, _), (1, _), (2, _), (3, _), (8, _), (9, _), (10, _), (11, _), (47, _), (48, _)] [] ?_
     refine swl_lcall (G := 6000) (qs := [(false, [PV.sl (.lo _) _]), (false, [PV.val _])]) (as_ := [(false, [PV.sl .v _]), (false, [PV.val _])]) (fun B => [PV.sl (.lo B) ((sortF l f).map (cAnnotated (.lo B) (.lo B)))]) (by decide) FTop_c_11 (by exact ⟨rfl, rfl, ⟨⟩⟩) (by exact (And.intro (by exact ⟨⟩) (And.intro (by exact ⟨⟩) True.intro))) (by exact (And.intro (LclRC.cons (PV.lclr_lo (LclRC.map fun x => (LclRC.cons PV.lclr_val (LclRC.cons (PV.lclr_lo (LclRC.map fun x => (LclRC.cons PV.lclr_val LclRC.nil))) (LclRC.cons (PV.lclr_lo (LclRC.map fun x => (LclRC.cons PV.lclr_val LclRC.nil))) LclRC.nil))))) LclRC.nil) (And.intro (LclRC.cons PV.lclr_val LclRC.nil) True.intro))) (by exact (And.intro (And.intro rfl (ToL.cons PV.to_none ToL.nil)) (And.intro (And.intro rfl (ToL.cons (PV.To.refl _) ToL.nil)) True.intro))) (by exact (spec_SortByField (by omega))) (fun B => by exact (ToBL.cons (PV.tob_map (fun _ => Nat.le_of_ble_eq_true rfl) (fun _ => (ToBL.cons PV.tob_refl (ToBL.cons (PV.tob_map (fun _ => Nat.le_of_ble_eq_true rfl) (fun _ => (ToBL.cons PV.tob_refl ToBL.nil))) (ToBL.cons (PV.tob_map (fun _ => Nat.le_of_ble_eq_true rfl) (fun _ => (ToBL.cons PV.tob_refl ToBL.nil))) ToBL.nil))))) ToBL.nil)) (fun B => by exact (BorL.cons (PV.bor_lo _ _) BorL.nil)) fun Bl hBl => ?_
     refine wA ?_ (x := vA false [PV.sl (.lo _) _])
     refine swl_nil ?_
     refine sw_seq ?_
     refine sO [(0, _), (1, _), (2, _), (3, _), (8, _), (9, _), (10, _), (11, _), (12, _), (6000, _)] [] ?_
     refine sw_reg ?_
     refine rA ?_ (x := kA)
     refine sw_seq ?_
     refine sO [(0, _), (1, _), (2, _), (3, _), (8, _), (9, _), (10, _), (11, _), (12, _), (13, _), (6000, _)] [] ?_
     refine sw_reg ?_
     refine rA ?_ (x := vM false [PV.sl (.lo _) _])
     refine rA ?_ (x := lN FTop_sl_38)
     refine rA ?_ (x := sA)
     refine sw_seq ?_
     refine sO [(0, _), (1, _), (2, _), (3, _), (8, _), (9, _), (10, _), (11, _), (12, _), (13, _), (14, _), (6000, _)] [] ?_
     refine sw_fix (B := Bl) 6000 [(2, _), (3, _), (8, _), (9, _), (10, _), (11, _), (12, _), (13, _), (14, _)] (by exact rfl) (by exact (FixL.cons (by exact rfl) (by exact rfl) FixR.refl (FixL.cons (by exact rfl) (by exact rfl) FixR.refl (FixL.cons (by exact rfl) (by exact rfl) FixR.refl (FixL.cons (by exact rfl) (by exact rfl) FixR.refl (FixL.cons (by exact rfl) (by exact rfl) FixR.refl (FixL.cons (by exact rfl) (by exact rfl) FixR.refl (FixL.cons (by exact rfl) (by exact rfl) FixR.refl (FixL.cons (by exact rfl) (by exact rfl) FixR.refl (FixL.cons (by exact rfl) (by exact rfl) FixR.refl True.intro)))))))))) fun w0 Fz0 => ?_
     refine sw_block ?_
     refine sw_loop (l0 := [(2, RV.sv false [PV.val _]), (3, RV.sv false [PV.val _]), (8, RV.sv false [PV.sl _ _]), (9, RV.sv false [PV.val _]), (11, RV.sv false [PV.val _]), (12, RV.sv false [PV.sl (.lo _) _])]) (b0 := []) (fun n : Nat => n ≤ (sortF l f).length ∧ stopN (topFull (sortF l f) c.toNat ids) ((sortF l f).length - n) n = topN (sortF l f) c.toNat ids) (fun n : Nat => [(10, RV.slc (.own 99 2) ((topAt (sortF l f) c.toNat ids n).map (cRouted (.own 87 2) (.own 3 1)))), (13, RV.int (n : Int)), (14, RV.int (openN (sortF l f) c.toNat ids n : Nat))]) (fun n : Nat => []) (fun n : Nat => (sortF l f).length - n) 0 (by exact ⟨Nat.zero_le _, rfl⟩) (by exact ⟨rfl, rfl, rfl, rfl, rfl, rfl, ⟨⟩⟩) (by exact ⟨⟩) (by exact And.intro (by exact slc_eq (by rw [hej, List.take_length])) (And.intro (by exact rfl) (And.intro (by exact int_eq (by rw [openN_zero (by omega)])) (True.intro)))) (by exact ⟨⟩) ?_
     rintro n ⟨hn, hst⟩
     have hal : (topAt (sortF l f) c.toNat ids n).length = ids.length := topAt_len
     refine sw_seq ?_
     refine sw_seq ?_
     refine sw_reg ?_
     refine rA ?_ (x := sM)
     refine rA ?_ (x := vM false [PV.sl (.lo _) _])
     refine rA ?_ (x := lN FTop_sl_24)
     refine rA ?_ (x := B_lss)
     refine rA ?_ (x := sM)
     refine RunS.cases (s := 56) rfl (fun g8 => ?_) (fun g8 => ?_)
     ·have sg8 := g8
      try simp only [q1, q2, q3, q4, q5, q6, q7, q8, q9] at sg8
      refine rB g8 ?_ (x := sM)
      refine rB g8 ?_ (x := B_gtr)
      refine rA ?_ (x := pkT g8)
      refine sw_cond (t := 59) rfl (fun hb9 => ?_) (fun hb9 => ?_)
      ·try simp only [q1, q2, q3, q4, q5, q6, q7, q8, q9] at hb9
       have hnS : n < (sortF l f).length := by omega
       have hnf := open_of_full (S := (sortF l f)) (c := c.toNat) (ids := ids) (n := n) (by omega)
       have hwm := wt_mem (f := wtAnnotated) hnS
       have hwr : wtRow (sortF l f)[n].Row ≤ wtAnnotated (sortF l f)[n] := by unfold wtAnnotated; omega
       have hwS : (((sortF l f)).map wtAnnotated).sum ≤ wtAnnotatedS (sortF l f) := Nat.le_add_left _ _
       refine sw_skip ?_
       refine sw_block ?_
       refine sw_seq ?_
       refine sO [(2, _), (3, _), (8, _), (9, _), (10, _), (11, _), (12, _), (13, _), (14, _)] [] ?_
       refine sw_reg ?_
       refine rA ?_ (x := kA)
       refine sw_seq ?_
       refine sw_seq ?_
       refine sO [(2, _), (3, _), (8, _), (9, _), (10, _), (11, _), (12, _), (13, _), (14, _)] [] ?_
       refine sw_reg ?_
       refine rA ?_ (x := kA)
       refine sw_block ?_
       refine sO [(2, _), (3, _), (8, _), (9, _), (10, _), (11, _), (12, _), (13, _), (14, _), (15, _)] [] ?_
       refine sw_loop (l0 := [(2, RV.sv false [PV.val _]), (3, RV.sv false [PV.val _]), (8, RV.sv false [PV.sl _ _]), (9, RV.sv false [PV.val _]), (11, RV.sv false [PV.val _]), (12, RV.sv false [PV.sl (.lo _) _]), (13, RV.sv false [PV.val _])]) (b0 := []) (fun i : Nat => i ≤ ids.length) (fun i : Nat => [(10, RV.slc (.own 99 2) ((topMid (sortF l f) c.toNat ids n i).map (cRouted (.own 87 2) (.own 3 1)))), (14, RV.int (openN (sortF l f) c.toNat (ids.take i) (n + 1) : Nat)), (15, RV.int (i : Int))]) (fun i : Nat => []) (fun i : Nat => ids.length - i) 0 (by omega) (by exact ⟨rfl, rfl, rfl, rfl, rfl, rfl, rfl, ⟨⟩⟩) (by exact ⟨⟩) (by exact And.intro (by exact rfl) (And.intro (by exact rfl) (And.intro (by exact rfl) (True.intro)))) (by exact ⟨⟩) ?_
       rintro i hii
       have hml : (topMid (sortF l f) c.toNat ids n i).length = ids.length := topMid_len
       have hol := openN_le (S := (sortF l f)) (c := c.toNat) (ids := ids.take i) (n := n + 1)
       rw [List.length_take] at hol
       refine sw_seq ?_
       refine sw_seq ?_
       refine sw_reg ?_
       refine rA ?_ (x := sM)
       refine rA ?_ (x := vM false [PV.sl .v _])
       refine rA ?_ (x := lN FTop_sl_39)
       refine rA ?_ (x := B_lss)
       refine sw_cond (t := 63) rfl (fun hb10 => ?_) (fun hb10 => ?_)
       ·try simp only [q1, q2, q3, q4, q5, q6, q7, q8, q9] at hb10
        have hi : i < ids.length := by omega
        have hti : i < (topMid (sortF l f) c.toNat ids n i).length := by rw [topMid_len]; exact hi
        have hrl := topRows_le (S := (sortF l f)) (c := c.toNat) (id := ids[i]) (n := n)
        have hrq : ((topMid (sortF l f) c.toNat ids n i)[i]).Rows.length = (topRows (sortF l f) c.toNat ids[i] n).length := by rw [topMid_at hi]
        refine sw_skip ?_
        refine sw_seq ?_
        refine sw_block ?_
        refine sw_seq ?_
        refine sw_seq ?_
        refine sO [(2, _), (3, _), (8, _), (9, _), (10, _), (11, _), (12, _), (13, _), (14, _), (15, _)] [] ?_
        refine sw_draw hm_ ?_
        refine dA 0 ?_ (x := vM false [PV.sl .v _])
        refine dA 0 ?_ (x := sM)
        refine dA 3 ?_ (x := loc_index (k := i) (by decide) FTop_sl_39 (by exact ⟨⟩) (by omega) (by first | exact getm2 hti (by rw [topMid_at hi]) | exact getm2 (by rw [List.length_set]; exact hti) (by rw [List.getElem_set_self])) (by exact rfl))
        refine dA 7 ?_ (x := loc_efield (by decide) FTop_fd_99_1 (by exact Nat.le_of_ble_eq_true rfl))
        refine dA 15 ?_ (x := lE [PV.sl .v _] FTop_ty_32)
        refine dA 31 ?_ (x := lN FTop_sl_32)
        refine dA 0 ?_ (x := sM)
        refine dA 127 ?_ (x := B_lss)
        refine dA 255 ?_ (x := sM)
        refine Run.cases (s := 74) rfl (fun g11 => ?_) (fun g11 => ?_)
        ·have sg11 := g11
         try simp only [q1, q2, q3, q4, q5, q6, q7, q8, q9] at sg11
         refine dB 511 g11 ?_ (x := vM false [PV.sl (.lo _) _])
         refine dB 511 g11 ?_ (x := sM)
         refine dB 2047 g11 ?_ (x := loc_index (k := n) (by decide) FTop_sl_24 (by exact ⟨⟩) (by omega) (by exact getm2 hnS rfl) (by exact rfl))
         refine dB 4095 g11 ?_ (x := loc_efield (by decide) FTop_fd_89_1 (by exact Nat.le_of_ble_eq_true rfl))
         refine dB 8191 g11 ?_ (x := lE [PV.sl (.lo _) _] FTop_ty_38)
         refine dB 511 g11 ?_ (x := vM false [PV.sl .v _])
         refine dB 511 g11 ?_ (x := sM)
         refine dB 49663 g11 ?_ (x := loc_index (k := i) (by decide) FTop_sl_39 (by exact ⟨⟩) (by omega) (by first | exact getm2 hti (by rw [topMid_at hi]) | exact getm2 (by rw [List.length_set]; exact hti) (by rw [List.getElem_set_self])) (by exact rfl))
         refine dB 115199 g11 ?_ (x := loc_efield (by decide) FTop_fd_99_0 (by exact Nat.le_of_ble_eq_true rfl))
         refine dB 246271 g11 ?_ (x := lE [PV.val _] FTop_ty_3)
         refine dB 524287 g11 ?_ (x := cL [(false, [PV.sl (.lo _) _]), (false, [PV.val _])] [(false, [PV.sl .v _]), (false, [PV.val _])] FTop_c_73 (hs := by exact spec_HasMember))
         refine dA 1048575 ?_ (x := pkT g11)
         refine sw_cond (t := 86) rfl (fun hb12 => ?_) (fun hb12 => ?_)
         ·try simp only [q1, q2, q3, q4, q5, q6, q7, q8, q9] at hb12
          have hyy := topRows_yes (c := c.toNat) hnS ‹hasI _ _ = true› (by omega)
          refine sO [(2, _), (3, _), (8, _), (9, _), (10, _), (11, _), (12, _), (13, _), (14, _), (15, _)] [] ?_
          refine sw_thawS (s := 10) (D := 900) (G := 2900) (E := 99) (e := 2) (L := Bl) (es := (topMid (sortF l f) c.toNat ids n i).map (cRouted (.own 87 2) (.own 3 1))) (by exact rfl) (map_ne hti) (by exact rfl) (by exact rfl) rfl (by exact rfl) (fun x hx => hx) (by exact (And.intro (.inr (RV.lcl_sv (LclC.cons PV.lcl_val LclC.nil))) (And.intro (.inr (RV.lcl_sv (LclC.cons PV.lcl_val LclC.nil))) (And.intro (.inr (RV.lcl_sv (LclC.cons (PV.lcl_own (by first | exact (LclC.map fun x => (LclC.cons PV.lcl_val (LclC.cons (PV.lcl_own (LclC.map fun x => (LclC.cons PV.lcl_val (LclC.cons (PV.lcl_own (LclC.map fun x => (LclC.cons PV.lcl_val LclC.nil))) LclC.nil)))) LclC.nil))) | exact (fun cs h => nomatch h))) LclC.nil))) (And.intro (.inr (RV.lcl_sv (LclC.cons PV.lcl_val LclC.nil))) (And.intro (.inl rfl) (And.intro (.inr (RV.lcl_sv (LclC.cons PV.lcl_val LclC.nil))) (And.intro (.inr (RV.lcl_sv (LclC.cons (PV.lcl_lo (LclRC.map fun x => (LclRC.cons PV.lclr_val (LclRC.cons (PV.lclr_lo (LclRC.map fun x => (LclRC.cons PV.lclr_val LclRC.nil))) (LclRC.cons (PV.lclr_lo (LclRC.map fun x => (LclRC.cons PV.lclr_val LclRC.nil))) LclRC.nil))))) LclC.nil))) (And.intro (.inr (RV.lcl_sv (LclC.cons PV.lcl_val LclC.nil))) (And.intro (.inr (RV.lcl_sv (LclC.cons PV.lcl_val LclC.nil))) (And.intro (.inr (RV.lcl_sv (LclC.cons PV.lcl_val LclC.nil))) True.intro))))))))))) (by exact ⟨⟩) (LclC.map fun x => (LclC.cons PV.lcl_val (LclC.cons (PV.lcl_own (LclC.map fun x => (LclC.cons PV.lcl_val (LclC.cons (PV.lcl_own (LclC.map fun x => (LclC.cons PV.lcl_val LclC.nil))) LclC.nil)))) LclC.nil))) fun uu900 cp900 jk900 hlD900 hcp900 hjk900 => ?_
          rw [List.length_map] at hlD900 hcp900 hjk900
          refine sw_boxEq (d := 900) (by exact rfl) (at_split (k := i) hti) ?_
          have hA900 := at_len (f := (cRouted (.own 87 2) (.own 3 1))) (e := 2) (xs := topMid (sortF l f) c.toNat ids n i) (k := i) (fun _ => rfl) (Nat.le_of_lt hti)
          refine sO [(2, _), (3, _), (8, _), (9, _), (10, _), (11, _), (12, _), (13, _), (14, _), (15, _), (2900, _)] [(900, (99, _ ++ ([PV.val _, PV.sl _ _] ++ _)))] ?_
          refine sw_draw hm_ ?_
          refine dA 0 ?_ (x := vM false [PV.val _])
          refine dA 0 ?_ (x := sM)
          refine dA 0 ?_ (x := vM false [PV.val _])
          refine dA 0 ?_ (x := sM)
          refine dA 12 ?_ (x := loc_gidx (k := i) (G := 2900) (by decide) FTop_sl_39 (by exact ⟨⟩) (by omega) (by first | (rw [List.length_map]; exact hti) | exact hti))
          refine dA 28 ?_ (x := lF FTop_fd_99_1)
          refine dA 60 ?_ (x := loc_ltakeM (o := 1) (ms := [PV.sl _ _]) (qs := [PV.sl .v _]) (by omega) (by decide) FTop_ty_32 (fun _ => rfl) (by exact Nat.le_of_ble_eq_true rfl) (by exact rfl) (by exact (ToL.cons PV.to_none ToL.nil)) (by exact (BorL.cons (PV.bor_sl _) BorL.nil)))
          refine dA 0 ?_ (x := vM false [PV.sl (.lo _) _])
          refine dA 0 ?_ (x := sM)
          refine dA 384 ?_ (x := loc_index (k := n) (by decide) FTop_sl_24 (by exact ⟨⟩) (by omega) (by exact getm2 hnS rfl) (by exact rfl))
          refine dA 896 ?_ (x := loc_efield (by decide) FTop_fd_89_0 (by exact Nat.le_of_ble_eq_true rfl))
          refine dA 1920 ?_ (x := lE [PV.val _, PV.sl (.lo _) _] FTop_ty_87)
          refine dA 3968 ?_ (x := cL [(true, [PV.val _, PV.sl (.lo _) _])] [(true, [PV.val _, PV.sl .v _])] FTop_c_74 (hs := by exact spec_l3Copy (by omega)))
          refine dA 8064 ?_ (x := loc_bslice (qs := [(true, [PV.val _, PV.sl _ _])]) (by decide) FTop_sl_32 FTop_z_87 (by decide) rfl rfl rfl rfl rfl (by exact Nat.le_of_ble_eq_true rfl) (by exact (And.intro (by exact ⟨⟩) True.intro)) rfl)
          refine dA 16380 ?_ (x := loc_append (by decide) FTop_sl_32 FTop_z_87 rfl rfl (by decide) rfl (by simp only [List.length_map, List.length_append, List.length_cons, List.length_nil]; omega) (by simp only [List.length_map, List.length_append, List.length_cons, List.length_nil]; omega))
          refine dA 32767 ?_ (x := loc_gidx (k := i) (G := 2900) (by decide) FTop_sl_39 (by exact ⟨⟩) (by omega) (by first | (rw [List.length_map]; exact hti) | exact hti))
          refine dA 65535 ?_ (x := lF FTop_fd_99_1)
          refine dA 131071 ?_ (x := loc_storeM (o := 1) (ag := false) (vs := [PV.sl _ _]) (by omega) FTop_ty_32 (by exact ⟨⟩) (by exact rfl) (by exact Nat.le_of_ble_eq_true rfl))
          refine sw_boxEq (d := 900) (by exact rfl) (at_join (⟨ids[i], topRows (sortF l f) c.toNat ids[i] (n + 1)⟩) hti (by rw [topMid_at hi, hyy]; simp only [cRouted, cRowS, List.map_append]; exact rfl)) ?_
          refine sw_frzS (s := 10) (D := 900) (G := 2900) (e := 2) (es := ((topMid (sortF l f) c.toNat ids n i).set i (⟨ids[i], topRows (sortF l f) c.toNat ids[i] (n + 1)⟩)).map (cRouted (.own 87 2) (.own 3 1))) (by exact rfl) (by exact rfl) (by exact rfl) rfl (by decide) (by rw [List.length_map, List.length_set, List.length_map]) (by intro c hc; obtain ⟨y, _, rfl⟩ := List.mem_map.1 hc; exact rfl) (by rw [List.length_map]; exact hjk900) ?_
          refine sw_seq ?_
          refine sO [(2, _), (3, _), (8, _), (9, _), (10, _), (11, _), (12, _), (13, _), (14, _), (15, _)] [] ?_
          refine sw_reg ?_
          refine rA ?_ (x := vM false [PV.sl .v _])
          refine rA ?_ (x := sM)
          refine rA ?_ (x := loc_index (k := i) (by decide) FTop_sl_39 (by exact ⟨⟩) (by omega) (by first | exact getm2 hti (by rw [topMid_at hi]) | exact getm2 (by rw [List.length_set]; exact hti) (by rw [List.getElem_set_self])) (by exact rfl))
          refine rA ?_ (x := loc_efield (by decide) FTop_fd_99_1 (by exact Nat.le_of_ble_eq_true rfl))
          refine rA ?_ (x := lE [PV.sl .v _] FTop_ty_32)
          refine rA ?_ (x := lN FTop_sl_32)
          refine rA ?_ (x := sM)
          refine rA ?_ (x := B_lss)
          refine sw_cond (t := 111) rfl (fun hb13 => ?_) (fun hb13 => ?_)
          ·try simp only [q1, q2, q3, q4, q5, q6, q7, q8, q9] at hb13
           refine sO [(2, _), (3, _), (8, _), (9, _), (10, _), (11, _), (12, _), (13, _), (14, _), (15, _)] [] ?_
           refine sw_reg ?_
           refine rA ?_ (x := sM)
           refine rA ?_ (x := B_add)
           refine rA ?_ (x := sA)
           refine sO [(2, _), (3, _), (8, _), (9, _), (10, _), (11, _), (12, _), (13, _), (14, _), (15, _)] [] ?_
           refine sw_reg ?_
           refine rA ?_ (x := sM)
           refine rA ?_ (x := B_add)
           refine rA ?_ (x := sA)
           refine Exists.intro (i + 1) (And.intro (by omega) (And.intro (by omega) (And.intro (And.intro (by exact ⟨rfl, rfl, rfl, rfl, rfl, rfl, rfl, ⟨⟩⟩) (by exact ⟨⟩)) (And.intro (by exact And.intro (by exact slc_eq (by first | rw [topMid_set hi] | rw [topMid_same hi hnn])) (And.intro (by exact int_eq (by first | (rw [openN_yes hi (by omega)]; omega) | rw [openN_no hi (by omega)])) (And.intro (by exact int_eq (by omega)) (True.intro)))) (by exact ⟨⟩)))))
          ·try simp only [q1, q2, q3, q4, q5, q6, q7, q8, q9] at hb13
           refine sw_skip ?_
           refine sO [(2, _), (3, _), (8, _), (9, _), (10, _), (11, _), (12, _), (13, _), (14, _), (15, _)] [] ?_
           refine sw_reg ?_
           refine rA ?_ (x := sM)
           refine rA ?_ (x := B_add)
           refine rA ?_ (x := sA)
           refine Exists.intro (i + 1) (And.intro (by omega) (And.intro (by omega) (And.intro (And.intro (by exact ⟨rfl, rfl, rfl, rfl, rfl, rfl, rfl, ⟨⟩⟩) (by exact ⟨⟩)) (And.intro (by exact And.intro (by exact slc_eq (by first | rw [topMid_set hi] | rw [topMid_same hi hnn])) (And.intro (by exact int_eq (by first | (rw [openN_yes hi (by omega)]; omega) | rw [openN_no hi (by omega)])) (And.intro (by exact int_eq (by omega)) (True.intro)))) (by exact ⟨⟩)))))
         ·try simp only [q1, q2, q3, q4, q5, q6, q7, q8, q9] at hb12
          have hnn := topRows_no (c := c.toNat) (id := ids[i]) hnS (by first | exact .inl ‹hasI _ _ = false› | exact .inr (by omega))
          have hnl : (topRows (sortF l f) c.toNat ids[i] (n + 1)).length = (topRows (sortF l f) c.toNat ids[i] n).length := by rw [hnn]
          refine sw_skip ?_
          refine sw_seq ?_
          refine sO [(2, _), (3, _), (8, _), (9, _), (10, _), (11, _), (12, _), (13, _), (14, _), (15, _)] [] ?_
          refine sw_reg ?_
          refine rA ?_ (x := vM false [PV.sl .v _])
          refine rA ?_ (x := sM)
          refine rA ?_ (x := loc_index (k := i) (by decide) FTop_sl_39 (by exact ⟨⟩) (by omega) (by first | exact getm2 hti (by rw [topMid_at hi]) | exact getm2 (by rw [List.length_set]; exact hti) (by rw [List.getElem_set_self])) (by exact rfl))
          refine rA ?_ (x := loc_efield (by decide) FTop_fd_99_1 (by exact Nat.le_of_ble_eq_true rfl))
          refine rA ?_ (x := lE [PV.sl .v _] FTop_ty_32)
          refine rA ?_ (x := lN FTop_sl_32)
          refine rA ?_ (x := sM)
          refine rA ?_ (x := B_lss)
          refine sw_cond (t := 111) rfl (fun hb14 => ?_) (fun hb14 => ?_)
          ·try simp only [q1, q2, q3, q4, q5, q6, q7, q8, q9] at hb14
           refine sO [(2, _), (3, _), (8, _), (9, _), (10, _), (11, _), (12, _), (13, _), (14, _), (15, _)] [] ?_
           refine sw_reg ?_
           refine rA ?_ (x := sM)
           refine rA ?_ (x := B_add)
           refine rA ?_ (x := sA)
           refine sO [(2, _), (3, _), (8, _), (9, _), (10, _), (11, _), (12, _), (13, _), (14, _), (15, _)] [] ?_
           refine sw_reg ?_
           refine rA ?_ (x := sM)
           refine rA ?_ (x := B_add)
           refine rA ?_ (x := sA)
           refine Exists.intro (i + 1) (And.intro (by omega) (And.intro (by omega) (And.intro (And.intro (by exact ⟨rfl, rfl, rfl, rfl, rfl, rfl, rfl, ⟨⟩⟩) (by exact ⟨⟩)) (And.intro (by exact And.intro (by exact slc_eq (by first | rw [topMid_set hi] | rw [topMid_same hi hnn])) (And.intro (by exact int_eq (by first | (rw [openN_yes hi (by omega)]; omega) | rw [openN_no hi (by omega)])) (And.intro (by exact int_eq (by omega)) (True.intro)))) (by exact ⟨⟩)))))
          ·try simp only [q1, q2, q3, q4, q5, q6, q7, q8, q9] at hb14
           refine sw_skip ?_
           refine sO [(2, _), (3, _), (8, _), (9, _), (10, _), (11, _), (12, _), (13, _), (14, _), (15, _)] [] ?_
           refine sw_reg ?_
           refine rA ?_ (x := sM)
           refine rA ?_ (x := B_add)
           refine rA ?_ (x := sA)
           refine Exists.intro (i + 1) (And.intro (by omega) (And.intro (by omega) (And.intro (And.intro (by exact ⟨rfl, rfl, rfl, rfl, rfl, rfl, rfl, ⟨⟩⟩) (by exact ⟨⟩)) (And.intro (by exact And.intro (by exact slc_eq (by first | rw [topMid_set hi] | rw [topMid_same hi hnn])) (And.intro (by exact int_eq (by first | (rw [openN_yes hi (by omega)]; omega) | rw [openN_no hi (by omega)])) (And.intro (by exact int_eq (by omega)) (True.intro)))) (by exact ⟨⟩)))))
        ·have sg11 := g11
         try simp only [q1, q2, q3, q4, q5, q6, q7, q8, q9] at sg11
         refine dF 511 g11 ?_
         refine dF 511 g11 ?_
         refine dF 2047 g11 ?_
         refine dF 4095 g11 ?_
         refine dF 8191 g11 ?_
         refine dF 511 g11 ?_
         refine dF 511 g11 ?_
         refine dF 49663 g11 ?_
         refine dF 115199 g11 ?_
         refine dF 246271 g11 ?_
         refine dF 524287 g11 ?_
         refine dA 1048575 ?_ (x := pkF g11)
         refine sw_cond (t := 86) rfl (fun hb_ => nomatch hb_) (fun hb_ => ?_)
         have hnn := topRows_no (c := c.toNat) (id := ids[i]) hnS (by first | exact .inl ‹hasI _ _ = false› | exact .inr (by omega))
         have hnl : (topRows (sortF l f) c.toNat ids[i] (n + 1)).length = (topRows (sortF l f) c.toNat ids[i] n).length := by rw [hnn]
         refine sw_skip ?_
         refine sw_seq ?_
         refine sO [(2, _), (3, _), (8, _), (9, _), (10, _), (11, _), (12, _), (13, _), (14, _), (15, _)] [] ?_
         refine sw_reg ?_
         refine rA ?_ (x := vM false [PV.sl .v _])
         refine rA ?_ (x := sM)
         refine rA ?_ (x := loc_index (k := i) (by decide) FTop_sl_39 (by exact ⟨⟩) (by omega) (by first | exact getm2 hti (by rw [topMid_at hi]) | exact getm2 (by rw [List.length_set]; exact hti) (by rw [List.getElem_set_self])) (by exact rfl))
         refine rA ?_ (x := loc_efield (by decide) FTop_fd_99_1 (by exact Nat.le_of_ble_eq_true rfl))
         refine rA ?_ (x := lE [PV.sl .v _] FTop_ty_32)
         refine rA ?_ (x := lN FTop_sl_32)
         refine rA ?_ (x := sM)
         refine rA ?_ (x := B_lss)
         refine sw_cond (t := 111) rfl (fun hb16 => ?_) (fun hb16 => ?_)
         ·try simp only [q1, q2, q3, q4, q5, q6, q7, q8, q9] at hb16
          refine sO [(2, _), (3, _), (8, _), (9, _), (10, _), (11, _), (12, _), (13, _), (14, _), (15, _)] [] ?_
          refine sw_reg ?_
          refine rA ?_ (x := sM)
          refine rA ?_ (x := B_add)
          refine rA ?_ (x := sA)
          refine sO [(2, _), (3, _), (8, _), (9, _), (10, _), (11, _), (12, _), (13, _), (14, _), (15, _)] [] ?_
          refine sw_reg ?_
          refine rA ?_ (x := sM)
          refine rA ?_ (x := B_add)
          refine rA ?_ (x := sA)
          refine Exists.intro (i + 1) (And.intro (by omega) (And.intro (by omega) (And.intro (And.intro (by exact ⟨rfl, rfl, rfl, rfl, rfl, rfl, rfl, ⟨⟩⟩) (by exact ⟨⟩)) (And.intro (by exact And.intro (by exact slc_eq (by first | rw [topMid_set hi] | rw [topMid_same hi hnn])) (And.intro (by exact int_eq (by first | (rw [openN_yes hi (by omega)]; omega) | rw [openN_no hi (by omega)])) (And.intro (by exact int_eq (by omega)) (True.intro)))) (by exact ⟨⟩)))))
         ·try simp only [q1, q2, q3, q4, q5, q6, q7, q8, q9] at hb16
          refine sw_skip ?_
          refine sO [(2, _), (3, _), (8, _), (9, _), (10, _), (11, _), (12, _), (13, _), (14, _), (15, _)] [] ?_
          refine sw_reg ?_
          refine rA ?_ (x := sM)
          refine rA ?_ (x := B_add)
          refine rA ?_ (x := sA)
          refine Exists.intro (i + 1) (And.intro (by omega) (And.intro (by omega) (And.intro (And.intro (by exact ⟨rfl, rfl, rfl, rfl, rfl, rfl, rfl, ⟨⟩⟩) (by exact ⟨⟩)) (And.intro (by exact And.intro (by exact slc_eq (by first | rw [topMid_set hi] | rw [topMid_same hi hnn])) (And.intro (by exact int_eq (by first | (rw [openN_yes hi (by omega)]; omega) | rw [openN_no hi (by omega)])) (And.intro (by exact int_eq (by omega)) (True.intro)))) (by exact ⟨⟩)))))
       ·try simp only [q1, q2, q3, q4, q5, q6, q7, q8, q9] at hb10
        have hei : i = ids.length := by omega
        refine sw_exit ?_
        refine sO [(2, _), (3, _), (8, _), (9, _), (10, _), (11, _), (12, _), (13, _), (14, _), (15, _)] [] ?_
        refine sw_reg ?_
        refine rA ?_ (x := sM)
        refine rA ?_ (x := B_add)
        refine rA ?_ (x := sA)
        refine Exists.intro (n + 1) (And.intro (by exact ⟨hnS, (stopN_go hnS hnf).trans hst⟩) (And.intro (by omega) (And.intro (And.intro (by exact ⟨rfl, rfl, rfl, rfl, rfl, rfl, ⟨⟩⟩) (by exact ⟨⟩)) (And.intro (by exact And.intro (by exact slc_eq (by first | rfl | rw [topMid_end hei])) (And.intro (by exact int_eq (by omega)) (And.intro (by exact int_eq (by rw [openN_all hei])) (True.intro)))) (by exact ⟨⟩)))))
      ·try simp only [q1, q2, q3, q4, q5, q6, q7, q8, q9] at hb9
       have hNN : n = topN (sortF l f) c.toNat ids := by
        first
        | exact (stopN_end (by omega)).symm.trans hst
        | exact (stopN_yes (full_of_open (by omega))).symm.trans hst
       refine sw_exit ?_
       refine sw_seq ?_
       refine sO [(2, _), (3, _), (8, _), (9, _), (10, _), (11, _), (12, _), (13, _), (14, _)] [] ?_
       refine sw_reg ?_
       refine rA ?_ (x := tM)
       refine rA ?_ (x := sM)
       refine rA ?_ (x := tA)
       refine rA ?_ (x := sA)
       refine sw_ret ?_
       exact (And.intro (by refine slc_eq ?_; rw [hr, ← hNN]) (And.intro (by refine int_eq ?_; rw [hr, ← hNN]) True.intro))
     ·have sg8 := g8
      try simp only [q1, q2, q3, q4, q5, q6, q7, q8, q9] at sg8
      refine RunS.s0f g8 ?_
      refine RunS.s0f g8 ?_
      refine rA ?_ (x := pkF g8)
      refine sw_cond (t := 59) rfl (fun hb_ => nomatch hb_) (fun hb_ => ?_)
      have hNN : n = topN (sortF l f) c.toNat ids := by
       first
       | exact (stopN_end (by omega)).symm.trans hst
       | exact (stopN_yes (full_of_open (by omega))).symm.trans hst
      refine sw_exit ?_
      refine sw_seq ?_
      refine sO [(2, _), (3, _), (8, _), (9, _), (10, _), (11, _), (12, _), (13, _), (14, _)] [] ?_
      refine sw_reg ?_
      refine rA ?_ (x := tM)
      refine rA ?_ (x := sM)
      refine rA ?_ (x := tA)
      refine rA ?_ (x := sA)
      refine sw_ret ?_
      exact (And.intro (by refine slc_eq ?_; rw [hr, ← hNN]) (And.intro (by refine int_eq ?_; rw [hr, ← hNN]) True.intro))
end Go.Proofs.Ytloipjaiceifbaa
