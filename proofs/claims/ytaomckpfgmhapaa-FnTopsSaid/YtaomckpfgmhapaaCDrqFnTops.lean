/- What functions of the program compute. No condition. -/
import Derived.Test.YtaomckpfgmhapaaCDrzFnTops
import Derived.Test.YtaomckpfgmhapaaCDq
import Derived.Test.YtaomckpfgmhapaaCIdbFnTops
import Derived.KernelRfl
set_option linter.unusedVariables false
set_option linter.unusedSimpArgs false
namespace Go.Proofs.Ytaomckpfgmhapaa
open Go Go.RowKit M
set_option maxRecDepth 10000
attribute [local irreducible] PV.Lcl PV.LclR RV.Lcl
attribute [local irreducible] belowC byteC
theorem FDrq_c_40 : callI Try.prog 40 = true := by kernel_rfl
theorem FDrq_c_55 : callI Try.prog 55 = true := by kernel_rfl
theorem FDrq_c_69 : callI Try.prog 69 = true := by kernel_rfl
theorem FDrq_c_70 : callI Try.prog 70 = true := by kernel_rfl
theorem FDrq_c_74 : callI Try.prog 74 = true := by kernel_rfl
theorem FDrq_c_75 : callI Try.prog 75 = true := by kernel_rfl
theorem FDrq_c_76 : callI Try.prog 76 = true := by kernel_rfl
theorem FDrq_c_77 : callI Try.prog 77 = true := by kernel_rfl
theorem FDrq_pl_35 : placesI Try.prog 35 = some [(0, 2), (2, 1)] := by kernel_rfl
theorem FDrq_sl_24 : sliceI Try.prog 24 = some (35, 3, 56) := by kernel_rfl
theorem FDrq_z_35 : zeroI Try.prog 35 = some (.agg #[.int .i64 0, .slice none 0 0, .slice none 0 0]) := by kernel_rfl
theorem FDrq_zo_35 {Fz : FzT} {w : World} : OwnL [PV.val (.int .i64 0), PV.sl (.own 3 1) [], PV.sl (.own 3 1) []] Fz w (Value.cells (.agg #[.int .i64 0, .slice none 0 0, .slice none 0 0])).toList [] := zo_val rfl (zo_sl (zo_sl (zo_nil)))
theorem x_l13Draw {o : Fl} {c : Cur} (hbo : ∀ es, (PV.sl o es).Bor)  : XCall Try.prog 69 88 (cCur o c) (cCur o (d13R c).2) [] (resRV [(false, [PV.sl .v ((d13Q c).1.map (cQuery (.own 117 3) (.own 3 1)))]), (false, [PV.sl .v ((d13R c).1.map (cRow (.own 3 1)))]), (false, [PV.sl (.own 35 3) ((d13A c).map (cAnnotated (.own 3 1) (.own 3 1)))])]) := by
 refine xcall_of (rs := [(false, [PV.sl .v ((d13Q c).1.map (cQuery (.own 117 3) (.own 3 1)))]), (false, [PV.sl .v ((d13R c).1.map (cRow (.own 3 1)))]), (false, [PV.sl (.own 35 3) ((d13A c).map (cAnnotated (.own 3 1) (.own 3 1)))])]) Try.func69 rfl (Nat.le_of_ble_eq_true rfl) (Nat.le_of_ble_eq_true rfl) ?_
 intro g_ h0 w0 Fz0
 have hqw := quesC_wt c (most := 5) (by decide)
 have hrw := rowsC_wt (quesC c 5).2 (most := 8) (by decide)
 have haw := d13A_wt c
 refine sw_seq ?_
 refine sw_reg ?_
 refine rA ?_ (x := loc_const (.inr rfl) (by decide) (ok_nil (t := 108) (e := 4)))
 refine rA ?_ (x := loc_const (.inr rfl) (by decide) (ok_nil (t := 33) (e := 2)))
 refine rA ?_ (x := loc_const (.inr rfl) (by decide) (ok_nil (t := 35) (e := 3)))
 refine sw_seq ?_
 refine sO [(0, _), (2, _), (3, _), (4, _), (5000, _)] [(0, (88, [PV.sl o _, PV.val _, PV.val _]))] ?_
 refine sw_reg ?_
 refine rA ?_ (x := cM Cp.ptr)
 refine rA ?_ (x := loc_xcall0 (bx := 0) (qs := [(false, [PV.val _])]) (as_ := [(false, [PV.val _])]) (by decide) FDrq_c_74 rfl (by exact (And.intro (ok_sc rfl) True.intro)) (by exact (And.intro (And.intro rfl (ToL.cons (PV.To.refl _) ToL.nil)) True.intro)) (by exact (BorL.cons (hbo _) (BorL.cons (PV.bor_val _) (BorL.cons (PV.bor_val _) BorL.nil)))) (by exact (borA_cons (BorL.cons (PV.bor_val _) BorL.nil) borA_nil)) (by exact (x_l4Queries hbo (by omega))))
 refine rA ?_ (x := tA)
 refine sw_seq ?_
 refine sO [(0, _), (2, _), (3, _), (4, _), (5, _), (5000, _)] [(0, _)] ?_
 refine sw_reg ?_
 refine rA ?_ (x := cM Cp.ptr)
 refine rA ?_ (x := loc_xcall0 (bx := 0) (qs := [(false, [PV.val _])]) (as_ := [(false, [PV.val _])]) (by decide) FDrq_c_75 rfl (by exact (And.intro (ok_sc rfl) True.intro)) (by exact (And.intro (And.intro rfl (ToL.cons (PV.To.refl _) ToL.nil)) True.intro)) (by exact (BorL.cons (hbo _) (BorL.cons (PV.bor_val _) (BorL.cons (PV.bor_val _) BorL.nil)))) (by exact (borA_cons (BorL.cons (PV.bor_val _) BorL.nil) borA_nil)) (by exact (x_l3Rows hbo (by omega))))
 refine rA ?_ (x := tA)
 refine sw_seq ?_
 refine sO [(0, _), (2, _), (3, _), (4, _), (5, _), (6, _), (5000, _)] [(0, _)] ?_
 refine sw_reg ?_
 refine rA ?_ (x := vM false [PV.sl .v _])
 refine rA ?_ (x := vM false [PV.sl .v _])
 refine rA ?_ (x := vM false [PV.sl .v _])
 refine rA ?_ (x := cL [(false, [PV.sl _ _])] [(false, [PV.sl .v _])] FDrq_c_77 (hs := by exact spec_BuildIndex))
 refine rA ?_ (x := vM false [PV.sl .v _])
 refine rA ?_ (x := cL [(true, [PV.sl _ _, PV.sl _ _]), (false, [PV.sl _ _])] [(true, [PV.sl .v _, PV.sl .v _]), (false, [PV.sl .v _])] FDrq_c_76 (hs := by exact spec_AnnotateRows (by omega)))
 refine rA ?_ (x := vA false [PV.sl .v _])
 refine rA ?_ (x := vA false [PV.sl .v _])
 refine rA ?_ (x := tA)
 refine sw_ret ?_
 exact ⟨(by exact rfl), rfl, (And.intro (by exact rfl) (And.intro (by exact rfl) (And.intro (by exact rfl) True.intro)))⟩
theorem x_l13Any {c : Cur}  : XCall Try.prog 57 88 (cCur .v c) (cCur .v (any13C c).2) [] (resRV [(false, [PV.sl (.own 35 3) ((any13C c).1.map (cAnnotated (.own 3 1) (.own 3 1)))])]) := by
 refine xcall_of (rs := [(false, [PV.sl (.own 35 3) ((any13C c).1.map (cAnnotated (.own 3 1) (.own 3 1)))])]) Try.func57 rfl (Nat.le_of_ble_eq_true rfl) (Nat.le_of_ble_eq_true rfl) ?_
 intro g_ h0 w0 Fz0
 have haw := d13A_wt c
 have hAl : (d13A c).length ≤ wtAnnotatedS (d13A c) := Nat.le_add_right _ _
 have hyw := anyC_wt (any13B c).2
 have hsl := anySetC_len (anyC (any13B c).2).2
 refine sw_seq ?_
 refine sw_reg ?_
 refine rA ?_ (x := loc_const (.inr rfl) (by decide) (ok_nil (t := 35) (e := 3)))
 refine sw_seq ?_
 refine sO [(0, _), (2, _), (5000, _)] [(0, (88, [PV.sl _ _, PV.val _, PV.val _]))] ?_
 refine sw_reg ?_
 refine rA ?_ (x := cM Cp.ptr)
 refine rA ?_ (x := loc_xcall0 (bx := 0) (qs := []) (as_ := []) (by decide) FDrq_c_69 rfl (by exact ⟨⟩) (by exact ⟨⟩) (by exact (BorL.cons (PV.bor_sl _) (BorL.cons (PV.bor_val _) (BorL.cons (PV.bor_val _) BorL.nil)))) (by exact borA_nil) (by exact (x_l13Draw (fun es => PV.bor_sl es))))
 refine rA ?_ (x := tM)
 refine rA ?_ (x := loc_extract (cs := [PV.sl _ _]) (qs := [PV.sl .v _]) (by decide) (by exact rfl) (by exact (ToL.cons PV.to_none ToL.nil)) (by exact (BorL.cons (PV.bor_sl _) BorL.nil)))
 refine rA ?_ (x := loc_extract (cs := [PV.sl _ _]) (qs := [PV.sl .v _]) (by decide) (by exact rfl) (by exact (ToL.cons PV.to_none ToL.nil)) (by exact (BorL.cons (PV.bor_sl _) BorL.nil)))
 refine rA ?_ (x := loc_extract (cs := [PV.sl _ _]) (qs := [PV.sl .v _]) (by decide) (by exact rfl) (by exact (ToL.cons PV.to_none ToL.nil)) (by exact (BorL.cons (PV.bor_sl _) BorL.nil)))
 refine rA ?_ (x := vA false [PV.sl .v _])
 refine rA ?_ (x := vA false [PV.sl .v _])
 refine rA ?_ (x := tA)
 refine sw_seq ?_
 refine sw_seq ?_
 refine sO [(0, _), (2, _), (3, _), (4, _), (5, _), (5000, _)] [(0, _)] ?_
 refine sw_reg ?_
 refine rA ?_ (x := cM Cp.ptr)
 refine rA ?_ (x := loc_xcall0 (bx := 0) (qs := [(false, [PV.val _])]) (as_ := [(false, [PV.val _])]) (by decide) FDrq_c_55 rfl (by exact (And.intro (ok_sc rfl) True.intro)) (by exact (And.intro (And.intro rfl (ToL.cons (PV.To.refl _) ToL.nil)) True.intro)) (by exact (BorL.cons (PV.bor_sl _) (BorL.cons (PV.bor_val _) (BorL.cons (PV.bor_val _) BorL.nil)))) (by exact (borA_cons (BorL.cons (PV.bor_val _) BorL.nil) borA_nil)) (by exact (x_l1Once (fun es => PV.bor_sl es) (by omega))))
 refine sw_cond (t := 13) rfl (fun hb1 => ?_) (fun hb1 => ?_)
 ·try simp only [q1, q2, q3, q4, q5, q6, q7, q8, q9] at hb1
  have hr := any13_0 (c := c) (by simpa using hb1)
  refine sO [(0, _), (2, _), (3, _), (4, _), (5, _), (5000, _)] [(0, _)] ?_
  refine sw_reg ?_
  refine rA ?_ (x := tM)
  refine rA ?_ (x := cM Cp.ptr)
  refine rA ?_ (x := loc_xcall0 (bx := 0) (qs := []) (as_ := []) (by decide) FDrq_c_70 rfl (by exact ⟨⟩) (by exact ⟨⟩) (by exact (BorL.cons (PV.bor_sl _) (BorL.cons (PV.bor_val _) (BorL.cons (PV.bor_val _) BorL.nil)))) (by exact borA_nil) (by exact x_l3Any))
  refine rA ?_ (x := cM Cp.ptr)
  refine rA ?_ (x := loc_xcall0 (bx := 0) (qs := []) (as_ := []) (by decide) FDrq_c_40 rfl (by exact ⟨⟩) (by exact ⟨⟩) (by exact (BorL.cons (PV.bor_sl _) (BorL.cons (PV.bor_val _) (BorL.cons (PV.bor_val _) BorL.nil)))) (by exact borA_nil) (by exact (x_l2Any (fun es => PV.bor_sl es))))
  refine rA ?_ (x := loc_build (qs := [(true, [PV.val _, PV.sl _ _]), (false, [PV.sl _ _])]) (cs := [PV.val _, PV.sl _ _, PV.sl _ _]) (by decide) FDrq_z_35 FDrq_zo_35 FDrq_pl_35 (by exact rfl) (by exact (And.intro (by exact ⟨⟩) (And.intro (by exact ⟨⟩) True.intro))) rfl (by exact rfl))
  refine rA ?_ (x := loc_bslice (qs := [(true, [PV.val _, PV.sl _ _, PV.sl _ _])]) (by decide) FDrq_sl_24 FDrq_z_35 (by decide) rfl rfl rfl rfl rfl (by exact Nat.le_of_ble_eq_true rfl) (by exact (And.intro (by exact ⟨⟩) True.intro)) rfl)
  refine rA ?_ (x := loc_append (by decide) FDrq_sl_24 FDrq_z_35 rfl rfl (by decide) rfl (by simp only [List.length_map, List.length_append, List.length_cons, List.length_nil]; omega) (by simp only [List.length_map, List.length_append, List.length_cons, List.length_nil]; omega))
  refine rA ?_ (x := tA)
  refine sw_seq ?_
  refine sO [(0, _), (2, _), (3, _), (4, _), (5, _), (5000, _)] [(0, _)] ?_
  refine sw_reg ?_
  refine rA ?_ (x := tM)
  refine rA ?_ (x := tA)
  refine sw_ret ?_
  exact ⟨(by rw [hr]; exact rfl), rfl, (And.intro (by refine slc_eq ?_; rw [hr]; try first | exact rfl | (simp only [List.map_append]; exact rfl)) True.intro)⟩
 ·try simp only [q1, q2, q3, q4, q5, q6, q7, q8, q9] at hb1
  have hr := any13_1 (c := c) (by simpa using hb1)
  refine sw_skip ?_
  refine sw_seq ?_
  refine sO [(0, _), (2, _), (3, _), (4, _), (5, _), (5000, _)] [(0, _)] ?_
  refine sw_reg ?_
  refine rA ?_ (x := tM)
  refine rA ?_ (x := tA)
  refine sw_ret ?_
  exact ⟨(by rw [hr]; exact rfl), rfl, (And.intro (by refine slc_eq ?_; rw [hr]; try first | exact rfl | (simp only [List.map_append]; exact rfl)) True.intro)⟩
end Go.Proofs.Ytaomckpfgmhapaa
