/- What functions of the program compute. No condition. -/
import Derived.Test.YtdoabhihpclliaaCDrwFnReceptions
import Derived.Test.YtdoabhihpclliaaCDx
import Derived.Test.YtdoabhihpclliaaCSendFnReceptions
import Derived.KernelRfl
set_option linter.unusedVariables false
set_option linter.unusedSimpArgs false
namespace Go.Proofs.Ytdoabhihpclliaa
open Go Go.RowKit M
set_option maxRecDepth 10000
attribute [local irreducible] PV.Lcl PV.LclR RV.Lcl
attribute [local irreducible] belowC byteC
theorem FDrx_c_12 : callI Try.prog 12 = true := by kernel_rfl
theorem FDrx_c_19 : callI Try.prog 19 = true := by kernel_rfl
theorem FDrx_c_20 : callI Try.prog 20 = true := by kernel_rfl
theorem FDrx_c_21 : callI Try.prog 21 = true := by kernel_rfl
theorem FDrx_c_22 : callI Try.prog 22 = true := by kernel_rfl
theorem FDrx_c_37 : callI Try.prog 37 = true := by kernel_rfl
theorem FDrx_c_40 : callI Try.prog 40 = true := by kernel_rfl
theorem FDrx_c_41 : callI Try.prog 41 = true := by kernel_rfl
theorem FDrx_fd_26_0 : fieldI Try.prog 26 0 = some 0 := by kernel_rfl
theorem FDrx_fd_36_1 : fieldI Try.prog 36 1 = some 1 := by kernel_rfl
theorem FDrx_fd_36_2 : fieldI Try.prog 36 2 = some 2 := by kernel_rfl
theorem FDrx_pl_26 : placesI Try.prog 26 = some [(0, 1), (1, 1)] := by kernel_rfl
theorem FDrx_sl_27 : sliceI Try.prog 27 = some (3, 1, 8) := by kernel_rfl
theorem FDrx_ty_26 : tyI Try.prog 26 = some (true, 2) := by kernel_rfl
theorem FDrx_ty_29 : tyI Try.prog 29 = some (true, 2) := by kernel_rfl
theorem FDrx_ty_3 : tyI Try.prog 3 = some (false, 1) := by kernel_rfl
theorem FDrx_ty_36 : tyI Try.prog 36 = some (true, 3) := by kernel_rfl
theorem FDrx_z_26 : zeroI Try.prog 26 = some (.agg #[.int .i64 0, .slice none 0 0]) := by kernel_rfl
theorem FDrx_z_29 : zeroI Try.prog 29 = some (.agg #[.int .i64 0, .slice none 0 0]) := by kernel_rfl
theorem FDrx_z_3 : zeroI Try.prog 3 = some (.int .i64 0) := by kernel_rfl
theorem FDrx_z_36 : zeroI Try.prog 36 = some (.agg #[.slice none 0 0, .int .i64 0, .int .i64 0]) := by kernel_rfl
theorem FDrx_zo_26 {Fz : FzT} {w : World} : OwnL [PV.val (.int .i64 0), PV.sl (.own 29 2) []] Fz w (Value.cells (.agg #[.int .i64 0, .slice none 0 0])).toList [] := zo_val rfl (zo_sl (zo_nil))
theorem FDrx_zo_29 {Fz : FzT} {w : World} : OwnL [PV.val (.int .i64 0), PV.sl (.own 3 1) []] Fz w (Value.cells (.agg #[.int .i64 0, .slice none 0 0])).toList [] := zo_val rfl (zo_sl (zo_nil))
theorem FDrx_zo_36 {Fz : FzT} {w : World} : OwnL [PV.sl (.own 29 2) [], PV.val (.int .i64 0), PV.val (.int .i64 0)] Fz w (Value.cells (.agg #[.slice none 0 0, .int .i64 0, .int .i64 0])).toList [] := zo_sl (zo_val rfl (zo_val rfl (zo_nil)))
theorem x_l17Pair {c : Cur}  : XCall Try.prog 20 65 (cCur .v c) (cCur .v (pairC c).2) [] (resRV [(true, [PV.sl (.own 29 2) ((pairC c).1.1.Rows.map (cRow (.own 3 1))), PV.val (vI (pairC c).1.1.Acked), PV.val (vI (pairC c).1.1.Tries)]), (true, [PV.val (vI (pairC c).1.2.Next), PV.sl (.own 29 2) ((pairC c).1.2.Rows.map (cRow (.own 3 1)))])]) := by
 refine xcall_of (rs := [(true, [PV.sl (.own 29 2) ((pairC c).1.1.Rows.map (cRow (.own 3 1))), PV.val (vI (pairC c).1.1.Acked), PV.val (vI (pairC c).1.1.Tries)]), (true, [PV.val (vI (pairC c).1.2.Next), PV.sl (.own 29 2) ((pairC c).1.2.Rows.map (cRow (.own 3 1)))])]) Try.func20 rfl (Nat.le_of_ble_eq_true rfl) (Nat.le_of_ble_eq_true rfl) ?_
 intro g_ h0 w0 Fz0
 have h1 := rowsC_wt c (most := 5) (by decide)
 have h2 := newBox_wt (rowsC c 5).1
 have h3 := belowC_ge (rowsC c 5).2 6
 have h4 := belowC_lt (rowsC c 5).2 (n := 6) (by decide)
 have hw7 : wtClient ⟨0, []⟩ = 0 := by simp [wtClient, wtRowS, wtInt]
 have hb7 := belowC_ge (belowC (pairR c).c 12).2 7
 have hb8 := belowC_lt (belowC (pairR c).c 12).2 (n := 7) (by decide)
 refine sw_seq ?_
 refine sw_reg ?_
 refine RunS.step (by exact ⟨⟩) (by exact ⟨⟩) (LocG.of rfl (loc_alloc (by decide) FDrx_z_36 FDrx_zo_36)) (free1 (Free.of_ rfl)) ?_
 refine RunS.step (by exact ⟨⟩) (by exact ⟨⟩) (LocG.of rfl (loc_alloc (by decide) FDrx_z_26 FDrx_zo_26)) (free1 (Free.app (Free.of_ rfl) rfl)) ?_
 refine sw_seq ?_
 refine sO [(0, _), (2, _), (3, _), (5000, _)] [(0, (65, [PV.sl _ _, PV.val _, PV.val _])), (2, (36, [PV.sl _ _, PV.val _, PV.val _])), (3, (26, [PV.val _, PV.sl _ _]))] ?_
 refine sw_reg ?_
 refine rA ?_ (x := cM Cp.ptr)
 refine rA ?_ (x := loc_xcall0 (bx := 0) (qs := [(false, [PV.val _])]) (as_ := [(false, [PV.val _])]) (by decide) FDrx_c_40 rfl (by exact (And.intro (ok_sc rfl) True.intro)) (by exact (And.intro (And.intro rfl (ToL.cons (PV.To.refl _) ToL.nil)) True.intro)) (by exact (BorL.cons (PV.bor_sl _) (BorL.cons (PV.bor_val _) (BorL.cons (PV.bor_val _) BorL.nil)))) (by exact (borA_cons (BorL.cons (PV.bor_val _) BorL.nil) borA_nil)) (by exact (x_l3Rows (fun es => PV.bor_sl es) (by omega))))
 refine rA ?_ (x := cL [(false, [PV.sl _ _])] [(false, [PV.sl .v _])] FDrx_c_37 (hs := by exact spec_NewOutbox (by omega)))
 refine rA ?_ (x := tM)
 refine rA ?_ (x := loc_extract (cs := [PV.sl _ _, PV.val _, PV.val _]) (qs := [PV.sl .v _, PV.val _, PV.val _]) (by decide) (by exact rfl) (by exact (ToL.cons PV.to_none (ToL.cons (PV.To.refl _) (ToL.cons (PV.To.refl _) ToL.nil)))) (by exact (BorL.cons (PV.bor_sl _) (BorL.cons (PV.bor_val _) (BorL.cons (PV.bor_val _) BorL.nil)))))
 refine rA ?_ (x := loc_extractb (cs := [PV.val _]) (by decide) (by exact rfl) (by exact (BorL.cons (PV.bor_val _) BorL.nil)))
 refine RunS.step (by exact ⟨⟩) (by exact ⟨⟩) (LocG.of rfl (loc_alloc (by decide) FDrx_z_36 FDrx_zo_36)) (free1 (Free.app (Free.app (Free.app (Free.app (Free.app (Free.app (Free.of_ rfl) rfl) rfl) rfl) rfl) rfl) rfl)) ?_
 refine rA ?_ (x := loc_store (ag := true) (vs := [PV.sl _ _, PV.val _, PV.val _]) FDrx_ty_36 (by exact ⟨⟩) (by exact rfl) (by exact Nat.le_of_ble_eq_true rfl))
 refine rA ?_ (x := sA)
 refine sw_seq ?_
 refine sO [(0, _), (2, _), (3, _), (4, _), (5, _), (5000, _)] [(0, _), (2, _), (3, _), (4, (36, [PV.sl _ _, PV.val _, PV.val _]))] ?_
 refine sw_reg ?_
 refine rA ?_ (x := loc_build (qs := []) (cs := [PV.val _, PV.sl _ _]) (by decide) FDrx_z_26 FDrx_zo_26 FDrx_pl_26 (by exact rfl) (by exact ⟨⟩) rfl (by exact rfl))
 refine RunS.step (by exact ⟨⟩) (by exact ⟨⟩) (LocG.of rfl (loc_alloc (by decide) FDrx_z_26 FDrx_zo_26)) (free1 (Free.app (Free.of_ rfl) rfl)) ?_
 refine rA ?_ (x := loc_store (ag := true) (vs := [PV.val _, PV.sl _ _]) FDrx_ty_26 (by exact ⟨⟩) (by exact rfl) (by exact Nat.le_of_ble_eq_true rfl))
 refine sw_seq ?_
 refine sw_seq ?_
 refine sO [(0, _), (2, _), (3, _), (4, _), (5, _), (6, _), (5000, _)] [(0, _), (2, _), (3, _), (4, _), (6, (26, [PV.val _, PV.sl _ _]))] ?_
 refine sw_reg ?_
 refine rA ?_ (x := cM Cp.ptr)
 refine rA ?_ (x := loc_xcall0 (bx := 0) (qs := [(false, [PV.val _])]) (as_ := [(false, [PV.val _])]) (by decide) FDrx_c_21 rfl (by exact (And.intro (ok_sc rfl) True.intro)) (by exact (And.intro (And.intro rfl (ToL.cons (PV.To.refl _) ToL.nil)) True.intro)) (by exact (BorL.cons (PV.bor_sl _) (BorL.cons (PV.bor_val _) (BorL.cons (PV.bor_val _) BorL.nil)))) (by exact (borA_cons (BorL.cons (PV.bor_val _) BorL.nil) borA_nil)) (by exact (x_l1Below (fun es => PV.bor_sl es) (by omega))))
 refine rA ?_ (x := sA)
 refine sw_block ?_
 refine sO [(0, _), (2, _), (3, _), (4, _), (5, _), (6, _), (7, _), (5000, _)] [(0, _), (2, _), (3, _), (4, _), (6, _)] ?_
 refine sw_loop (l0 := [(0, RV.ptr 0 0), (2, RV.ptr 2 0), (3, RV.ptr 3 0), (4, RV.ptr 4 0), (5, RV.sv false [PV.val _]), (6, RV.ptr 6 0), (5000, RV.phi 0 _)]) (b0 := [(2, (36, [PV.sl _ _, PV.val _, PV.val _])), (3, (26, [PV.val _, PV.sl _ _]))]) (fun k : Nat => (k : Int) ≤ (belowC (rowsC c 5).2 6).1) (fun k : Nat => [(7, RV.int ((belowC (rowsC c 5).2 6).1 - (k : Int)))]) (fun k : Nat => [(0, (65, cCur .v (pairTo (newBox (rowsC c 5).1).1 ⟨0, []⟩ (belowC (rowsC c 5).2 6).2 k).c)), (4, (36, cOutbox (.own 29 2) (.own 3 1) (pairTo (newBox (rowsC c 5).1).1 ⟨0, []⟩ (belowC (rowsC c 5).2 6).2 k).o)), (6, (26, cClient (.own 29 2) (.own 3 1) (pairTo (newBox (rowsC c 5).1).1 ⟨0, []⟩ (belowC (rowsC c 5).2 6).2 k).x))]) (fun k : Nat => ((belowC (rowsC c 5).2 6).1 - (k : Int)).toNat) 0 (by omega) (by exact ⟨rfl, rfl, rfl, rfl, rfl, rfl, rfl, ⟨⟩⟩) (by exact ⟨rfl, rfl, ⟨⟩⟩) (by exact And.intro (by exact int_eq (by omega)) (True.intro)) (by exact And.intro (by exact rfl) (And.intro (by exact rfl) (And.intro (by exact rfl) (True.intro)))) ?_
 rintro k hk
 have hw := pairTo_wt (o := (newBox (rowsC c 5).1).1) (x := ⟨0, []⟩) (c := (belowC (rowsC c 5).2 6).2) (k := k) (by omega)
 rw [hw7] at hw
 refine sw_seq ?_
 refine sw_seq ?_
 refine sw_reg ?_
 refine rA ?_ (x := sM)
 refine rA ?_ (x := B_gtr)
 refine sw_cond (t := 18) rfl (fun hb1 => ?_) (fun hb1 => ?_)
 ·try simp only [q1, q2, q3, q4, q5, q6, q7, q8, q9] at hb1
  have hlt : (k : Int) < (belowC (rowsC c 5).2 6).1 := by omega
  refine sw_skip ?_
  refine sw_seq ?_
  refine sw_block ?_
  refine sO [(0, _), (2, _), (3, _), (4, _), (5, _), (6, _), (7, _), (5000, _)] [(0, (65, [PV.sl _ _, PV.val _, PV.val _])), (2, (36, [PV.sl _ _, PV.val _, PV.val _])), (3, (26, [PV.val _, PV.sl _ _])), (4, (36, [PV.sl _ _, PV.val _, PV.val _])), (6, (26, [PV.val _, PV.sl _ _]))] ?_
  refine sw_split (c := 4) (AI := []) hm_ rfl rfl rfl rfl (by kernel_rfl) (fun j L h => nomatch h) (fun j L h => nomatch h) ?_
  refine Run.stepC 0 (by exact ⟨rfl, ⟨⟩⟩) (by exact ⟨rfl, ⟨⟩⟩) (LocG.of rfl (loc_load (qs := [PV.sl .v _, PV.val _, PV.val _]) (by decide) FDrx_ty_36 (fun h => nomatch h) (by exact Nat.le_of_ble_eq_true rfl) (by exact (ToL.cons PV.to_none (ToL.cons (PV.To.refl _) (ToL.cons (PV.To.refl _) ToL.nil)))) (by exact (BorL.cons (PV.bor_sl _) (BorL.cons (PV.bor_val _) (BorL.cons (PV.bor_val _) BorL.nil)))))) nofree (by kernel_rfl) (by show (List.all _ _) = true; kernel_rfl) ?_
  refine Run.stepC 0 (by exact ⟨rfl, ⟨⟩⟩) (by exact ⟨rfl, ⟨⟩⟩) (LocG.of rfl (loc_load (qs := [PV.val _, PV.sl .v _]) (by decide) FDrx_ty_26 (fun h => nomatch h) (by exact Nat.le_of_ble_eq_true rfl) (by exact (ToL.cons (PV.To.refl _) (ToL.cons PV.to_none ToL.nil))) (by exact (BorL.cons (PV.bor_val _) (BorL.cons (PV.bor_sl _) BorL.nil))))) nofree (by kernel_rfl) (by show (List.all _ _) = true; kernel_rfl) ?_
  refine Run.stepC 0 (by exact ⟨rfl, ⟨⟩⟩) (by exact ⟨⟩) (LocG.of rfl (loc_copy (.inl rfl) (by decide) (by exact Cp.ptr))) nofree (by kernel_rfl) (by show (List.all _ _) = true; kernel_rfl) ?_
  refine Run.stepC 4 (by exact ⟨rfl, ⟨⟩⟩) (by exact ⟨rfl, ⟨⟩⟩) (LocG.of rfl (loc_xcall0 (bx := 0) (qs := [(false, [PV.val _])]) (as_ := [(false, [PV.val _])]) (by decide) FDrx_c_21 rfl (by exact (And.intro (ok_sc rfl) True.intro)) (by exact (And.intro (And.intro rfl (ToL.cons (PV.To.refl _) ToL.nil)) True.intro)) (by exact (BorL.cons (PV.bor_sl _) (BorL.cons (PV.bor_val _) (BorL.cons (PV.bor_val _) BorL.nil)))) (by exact (borA_cons (BorL.cons (PV.bor_val _) BorL.nil) borA_nil)) (by exact (x_l1Below (fun es => PV.bor_sl es) (by omega))))) nofree (by kernel_rfl) (by show (List.all _ _) = true; kernel_rfl) ?_
  refine mid_call (G := 2000) (qs := [(true, [PV.sl _ _, PV.val _, PV.val _]), (true, [PV.val _, PV.sl _ _]), (false, [PV.val _])]) (as_ := [(true, [PV.sl .v _, PV.val _, PV.val _]), (true, [PV.val _, PV.sl .v _]), (false, [PV.val _])]) (by decide) FDrx_c_12 (by exact ⟨rfl, rfl, rfl, ⟨⟩⟩) (by exact (And.intro (by exact ⟨⟩) (And.intro (by exact ⟨⟩) (And.intro (by exact ⟨⟩) True.intro)))) (by exact (And.intro (And.intro rfl (ToL.cons PV.to_none (ToL.cons (PV.To.refl _) (ToL.cons (PV.To.refl _) ToL.nil)))) (And.intro (And.intro rfl (ToL.cons (PV.To.refl _) (ToL.cons PV.to_none ToL.nil))) (And.intro (And.intro rfl (ToL.cons (PV.To.refl _) ToL.nil)) True.intro)))) (by exact spec_SendNext (by omega) (by omega)) (by kernel_rfl) (by kernel_rfl) fun uss hU0 => ?_
  obtain ⟨us0, r0, rfl, hl0, hR0, hU1⟩ := RelU.cons hU0
  obtain ⟨u2_0_0, u2_0_1, u2_0_2, rfl⟩ := us_3 hl0
  obtain rfl := relval hR0 (j := 1) rfl rfl
  obtain rfl := relval hR0 (j := 2) rfl rfl
  obtain ⟨us1, r1, rfl, hl1, hR1, hU2⟩ := RelU.cons hU1
  obtain ⟨u2_1_0, u2_1_1, rfl⟩ := us_2 hl1
  obtain rfl := relval hR1 (j := 0) rfl rfl
  obtain ⟨us2, r2, rfl, hl2, hR2, hU3⟩ := RelU.cons hU2
  obtain ⟨u2_2_0, rfl⟩ := us_1 hl2
  obtain rfl := relval hR2 (j := 0) rfl rfl
  obtain rfl := RelU.nil hU3
  clear hR0 hU0 hR1 hU1 hR2 hU2 hU3
  refine Run.stepC 31 (by exact ⟨rfl, ⟨⟩⟩) (by exact ⟨⟩) (LocG.of rfl (loc_take (.inl rfl) (by decide))) nofree (by kernel_rfl) (by intro L' h; exact nomatch (show (none : Option Step) = some L' from h)) ?_
  refine Run.stepC 63 (by exact ⟨rfl, ⟨⟩⟩) (by exact ⟨⟩) (LocG.of rfl (loc_extractb (cs := [PV.val _, PV.val _, PV.val _]) (by decide) (by exact rfl) (by exact (BorL.cons (PV.bor_val _) (BorL.cons (PV.bor_val _) (BorL.cons (PV.bor_val _) BorL.nil)))))) nofree (by kernel_rfl) (by intro L' h; exact nomatch (show (none : Option Step) = some L' from h)) ?_
  refine Run.stepC 63 (by exact ⟨rfl, ⟨⟩⟩) (by exact ⟨⟩) (LocG.of rfl (loc_extractb (cs := [PV.val _, PV.val _]) (by decide) (by exact rfl) (by exact (BorL.cons (PV.bor_val _) (BorL.cons (PV.bor_val _) BorL.nil))))) nofree (by kernel_rfl) (by intro L' h; exact nomatch (show (none : Option Step) = some L' from h)) ?_
  refine Run.stepC 63 (by exact ⟨rfl, ⟨⟩⟩) (by exact ⟨⟩) (LocG.of rfl (loc_extractb (cs := [PV.val _]) (by decide) (by exact rfl) (by exact (BorL.cons (PV.bor_val _) BorL.nil)))) nofree (by kernel_rfl) (by intro L' h; exact nomatch (show (none : Option Step) = some L' from h)) ?_
  refine Run.stepC 127 (by exact ⟨rfl, rfl, ⟨⟩⟩) (by exact ⟨rfl, ⟨⟩⟩) (LocG.of rfl (loc_store (ag := true) (vs := [PV.val _, PV.val _, PV.val _]) FDrx_ty_36 (by exact ⟨⟩) (by exact rfl) (by exact Nat.le_of_ble_eq_true rfl))) nofree (by kernel_rfl) (by intro L' h; exact nomatch (show (none : Option Step) = some L' from h)) ?_
  refine Run.stepC 767 (by exact ⟨rfl, rfl, ⟨⟩⟩) (by exact ⟨rfl, ⟨⟩⟩) (LocG.of rfl (loc_store (ag := true) (vs := [PV.val _, PV.val _]) FDrx_ty_26 (by exact ⟨⟩) (by exact rfl) (by exact Nat.le_of_ble_eq_true rfl))) nofree (by kernel_rfl) (by intro L' h; exact nomatch (show (none : Option Step) = some L' from h)) ?_
  refine sw_backB (d := 4) (G := 2000) (by exact rfl) (by exact (Nm.val (Nm.val (Nm.val Nm.nil)))) (by exact rfl) ?_
  refine sw_backB (d := 6) (G := 2001) (by exact rfl) (by exact (Nm.val (Nm.val Nm.nil))) (by exact rfl) ?_
  refine sO [(0, _), (2, _), (3, _), (4, _), (5, _), (6, _), (7, _), (5000, _)] [(0, _), (2, _), (3, _), (4, (36, [PV.sl _ _, PV.val _, PV.val _])), (6, (26, [PV.val _, PV.sl _ _]))] ?_
  refine sw_reg ?_
  refine rA ?_ (x := sM)
  refine rA ?_ (x := B_sub)
  refine rA ?_ (x := sA)
  refine Exists.intro (k + 1) (And.intro (by omega) (And.intro (by omega) (And.intro (And.intro (by exact ⟨rfl, rfl, rfl, rfl, rfl, rfl, rfl, ⟨⟩⟩) (by exact ⟨rfl, rfl, ⟨⟩⟩)) (And.intro (by exact And.intro (by exact int_eq (by omega)) (True.intro)) (by exact And.intro (by exact rfl) (And.intro (by exact rfl) (And.intro (by exact rfl) (True.intro))))))))
 ·try simp only [q1, q2, q3, q4, q5, q6, q7, q8, q9] at hb1
  have hend : (belowC (rowsC c 5).2 6).1.toNat = k := by omega
  have hpr : pairR c = (pairTo (newBox (rowsC c 5).1).1 ⟨0, []⟩ (belowC (rowsC c 5).2 6).2 k) := by unfold pairR; rw [hend]
  rw [← hpr]
  refine sw_exit ?_
  refine sw_seq ?_
  refine sw_seq ?_
  refine sO [(0, _), (2, _), (3, _), (4, _), (5, _), (6, _), (7, _), (5000, _)] [(0, (65, [PV.sl _ _, PV.val _, PV.val _])), (2, (36, [PV.sl _ _, PV.val _, PV.val _])), (3, (26, [PV.val _, PV.sl _ _])), (4, (36, [PV.sl _ _, PV.val _, PV.val _])), (6, (26, [PV.val _, PV.sl _ _]))] ?_
  refine sw_reg ?_
  refine rA ?_ (x := cM Cp.ptr)
  refine rA ?_ (x := loc_xcall0 (bx := 0) (qs := [(false, [PV.val _])]) (as_ := [(false, [PV.val _])]) (by decide) FDrx_c_21 rfl (by exact (And.intro (ok_sc rfl) True.intro)) (by exact (And.intro (And.intro rfl (ToL.cons (PV.To.refl _) ToL.nil)) True.intro)) (by exact (BorL.cons (PV.bor_sl _) (BorL.cons (PV.bor_val _) (BorL.cons (PV.bor_val _) BorL.nil)))) (by exact (borA_cons (BorL.cons (PV.bor_val _) BorL.nil) borA_nil)) (by exact (x_l1Below (fun es => PV.bor_sl es) (by omega))))
  refine sw_block ?_
  refine sw_seq ?_
  refine sO [(0, _), (2, _), (3, _), (4, _), (5, _), (6, _), (7, _), (31, _), (5000, _)] [(0, _), (2, _), (3, _), (4, _), (6, _)] ?_
  refine sw_reg ?_
  refine rA ?_ (x := B_eql)
  refine rA ?_ (x := sA)
  refine sw_cond (t := 32) rfl (fun hb3 => ?_) (fun hb3 => ?_)
  ·try simp only [q1, q2, q3, q4, q5, q6, q7, q8, q9] at hb3
   have hr := pairC_0 (c := c) hb3
   refine sO [(0, _), (2, _), (3, _), (4, _), (5, _), (6, _), (7, _), (31, _), (5000, _)] [(0, _), (2, _), (3, _), (4, _), (6, _)] ?_
   refine sw_reg ?_
   refine rA ?_ (x := cM Cp.ptr)
   refine rA ?_ (x := loc_xcall0 (bx := 0) (qs := [(false, [PV.val _])]) (as_ := [(false, [PV.val _])]) (by decide) FDrx_c_21 rfl (by exact (And.intro (ok_sc rfl) True.intro)) (by exact (And.intro (And.intro rfl (ToL.cons (PV.To.refl _) ToL.nil)) True.intro)) (by exact (BorL.cons (PV.bor_sl _) (BorL.cons (PV.bor_val _) (BorL.cons (PV.bor_val _) BorL.nil)))) (by exact (borA_cons (BorL.cons (PV.bor_val _) BorL.nil) borA_nil)) (by exact (x_l1Below (fun es => PV.bor_sl es) (by omega))))
   refine rA ?_ (x := B_sub)
   refine rA ?_ (x := lF FDrx_fd_36_1)
   refine rA ?_ (x := loc_store (ag := false) (vs := [PV.val _]) FDrx_ty_3 (by exact ⟨⟩) (by exact rfl) (by exact Nat.le_of_ble_eq_true rfl))
   refine sw_seq ?_
   refine sO [(0, _), (2, _), (3, _), (4, _), (5, _), (6, _), (7, _), (31, _), (5000, _)] [(0, _), (2, _), (3, _), (4, (36, [PV.sl _ _, PV.val _, PV.val _])), (6, _)] ?_
   refine sw_draw hm_ ?_
   refine dA 0 ?_ (x := loc_ltake (ms := [PV.sl _ _, PV.val _, PV.val _]) (qs := [PV.sl .v _, PV.val _, PV.val _]) (by decide) FDrx_ty_36 (fun h => nomatch h) (by exact Nat.le_of_ble_eq_true rfl) (by exact rfl) (by exact (ToL.cons PV.to_none (ToL.cons (PV.To.refl _) (ToL.cons (PV.To.refl _) ToL.nil)))) (by exact (BorL.cons (PV.bor_sl _) (BorL.cons (PV.bor_val _) (BorL.cons (PV.bor_val _) BorL.nil)))))
   refine dA 0 ?_ (x := loc_ltake (ms := [PV.val _, PV.sl _ _]) (qs := [PV.val _, PV.sl .v _]) (by decide) FDrx_ty_26 (fun h => nomatch h) (by exact Nat.le_of_ble_eq_true rfl) (by exact rfl) (by exact (ToL.cons (PV.To.refl _) (ToL.cons PV.to_none ToL.nil))) (by exact (BorL.cons (PV.bor_val _) (BorL.cons (PV.bor_sl _) BorL.nil))))
   refine dA 1 ?_ (x := loc_store (ag := true) (vs := [PV.sl _ _, PV.val _, PV.val _]) FDrx_ty_36 (by exact ⟨⟩) (by exact rfl) (by exact Nat.le_of_ble_eq_true rfl))
   refine dA 7 ?_ (x := loc_store (ag := true) (vs := [PV.val _, PV.sl _ _]) FDrx_ty_26 (by exact ⟨⟩) (by exact rfl) (by exact Nat.le_of_ble_eq_true rfl))
   refine sw_ret ?_
   exact ⟨(by rw [hr]; exact rfl), rfl, (Exists.intro 2 (Exists.intro _ (And.intro (by exact rfl) (And.intro (by refine box_eq ?_; rw [hr]; try exact rfl) (And.intro FDrx_ty_36 (And.intro (fun h => nomatch h) (Exists.intro 3 (Exists.intro _ (And.intro (by exact rfl) (And.intro (by refine box_eq ?_; rw [hr]; try exact rfl) (And.intro FDrx_ty_26 (And.intro (fun h => nomatch h) True.intro))))))))))))⟩
  ·try simp only [q1, q2, q3, q4, q5, q6, q7, q8, q9] at hb3
   have h0_ := hb3
   refine sw_seq ?_
   refine sO [(0, _), (2, _), (3, _), (4, _), (5, _), (6, _), (7, _), (31, _), (5000, _)] [(0, _), (2, _), (3, _), (4, _), (6, _)] ?_
   refine sw_reg ?_
   refine rA ?_ (x := B_eql)
   refine rA ?_ (x := sA)
   refine sw_cond (t := 38) rfl (fun hb4 => ?_) (fun hb4 => ?_)
   ·try simp only [q1, q2, q3, q4, q5, q6, q7, q8, q9] at hb4
    have hr := pairC_1 (c := c) h0_ hb4
    refine sO [(0, _), (2, _), (3, _), (4, _), (5, _), (6, _), (7, _), (31, _), (5000, _)] [(0, _), (2, _), (3, _), (4, _), (6, _)] ?_
    refine sw_reg ?_
    refine rA ?_ (x := cM Cp.ptr)
    refine rA ?_ (x := loc_xcall0 (bx := 0) (qs := [(false, [PV.val _])]) (as_ := [(false, [PV.val _])]) (by decide) FDrx_c_21 rfl (by exact (And.intro (ok_sc rfl) True.intro)) (by exact (And.intro (And.intro rfl (ToL.cons (PV.To.refl _) ToL.nil)) True.intro)) (by exact (BorL.cons (PV.bor_sl _) (BorL.cons (PV.bor_val _) (BorL.cons (PV.bor_val _) BorL.nil)))) (by exact (borA_cons (BorL.cons (PV.bor_val _) BorL.nil) borA_nil)) (by exact (x_l1Below (fun es => PV.bor_sl es) (by omega))))
    refine rA ?_ (x := lF FDrx_fd_26_0)
    refine rA ?_ (x := loc_store (ag := false) (vs := [PV.val _]) FDrx_ty_3 (by exact ⟨⟩) (by exact rfl) (by exact Nat.le_of_ble_eq_true rfl))
    refine sw_seq ?_
    refine sO [(0, _), (2, _), (3, _), (4, _), (5, _), (6, _), (7, _), (31, _), (5000, _)] [(0, _), (2, _), (3, _), (4, _), (6, (26, [PV.val _, PV.sl _ _]))] ?_
    refine sw_draw hm_ ?_
    refine dA 0 ?_ (x := loc_ltake (ms := [PV.sl _ _, PV.val _, PV.val _]) (qs := [PV.sl .v _, PV.val _, PV.val _]) (by decide) FDrx_ty_36 (fun h => nomatch h) (by exact Nat.le_of_ble_eq_true rfl) (by exact rfl) (by exact (ToL.cons PV.to_none (ToL.cons (PV.To.refl _) (ToL.cons (PV.To.refl _) ToL.nil)))) (by exact (BorL.cons (PV.bor_sl _) (BorL.cons (PV.bor_val _) (BorL.cons (PV.bor_val _) BorL.nil)))))
    refine dA 0 ?_ (x := loc_ltake (ms := [PV.val _, PV.sl _ _]) (qs := [PV.val _, PV.sl .v _]) (by decide) FDrx_ty_26 (fun h => nomatch h) (by exact Nat.le_of_ble_eq_true rfl) (by exact rfl) (by exact (ToL.cons (PV.To.refl _) (ToL.cons PV.to_none ToL.nil))) (by exact (BorL.cons (PV.bor_val _) (BorL.cons (PV.bor_sl _) BorL.nil))))
    refine dA 1 ?_ (x := loc_store (ag := true) (vs := [PV.sl _ _, PV.val _, PV.val _]) FDrx_ty_36 (by exact ⟨⟩) (by exact rfl) (by exact Nat.le_of_ble_eq_true rfl))
    refine dA 7 ?_ (x := loc_store (ag := true) (vs := [PV.val _, PV.sl _ _]) FDrx_ty_26 (by exact ⟨⟩) (by exact rfl) (by exact Nat.le_of_ble_eq_true rfl))
    refine sw_ret ?_
    exact ⟨(by rw [hr]; exact rfl), rfl, (Exists.intro 2 (Exists.intro _ (And.intro (by exact rfl) (And.intro (by refine box_eq ?_; rw [hr]; try exact rfl) (And.intro FDrx_ty_36 (And.intro (fun h => nomatch h) (Exists.intro 3 (Exists.intro _ (And.intro (by exact rfl) (And.intro (by refine box_eq ?_; rw [hr]; try exact rfl) (And.intro FDrx_ty_26 (And.intro (fun h => nomatch h) True.intro))))))))))))⟩
   ·try simp only [q1, q2, q3, q4, q5, q6, q7, q8, q9] at hb4
    have h1_ := hb4
    refine sw_seq ?_
    refine sO [(0, _), (2, _), (3, _), (4, _), (5, _), (6, _), (7, _), (31, _), (5000, _)] [(0, _), (2, _), (3, _), (4, _), (6, _)] ?_
    refine sw_reg ?_
    refine rA ?_ (x := B_eql)
    refine rA ?_ (x := sA)
    refine sw_cond (t := 43) rfl (fun hb5 => ?_) (fun hb5 => ?_)
    ·try simp only [q1, q2, q3, q4, q5, q6, q7, q8, q9] at hb5
     have hr := pairC_2 (c := c) h0_ h1_ hb5
     refine sO [(0, _), (2, _), (3, _), (4, _), (5, _), (6, _), (7, _), (31, _), (5000, _)] [(0, _), (2, _), (3, _), (4, _), (6, _)] ?_
     refine sw_reg ?_
     refine rA ?_ (x := cM Cp.ptr)
     refine rA ?_ (x := loc_bslice (qs := [(false, [PV.val _]), (false, [PV.val _]), (false, [PV.val _])]) (by decide) FDrx_sl_27 FDrx_z_3 (by decide) rfl rfl rfl rfl rfl (by exact Nat.le_of_ble_eq_true rfl) (by exact (And.intro (ok_sc rfl) (And.intro (ok_sc rfl) (And.intro (ok_sc rfl) True.intro)))) rfl)
     refine rA ?_ (x := loc_xcall0 (bx := 0) (qs := [(false, [PV.sl _ _])]) (as_ := [(false, [PV.sl .v _])]) (by decide) FDrx_c_41 rfl (by exact (And.intro (by exact ⟨⟩) True.intro)) (by exact (And.intro (And.intro rfl (ToL.cons PV.to_none ToL.nil)) True.intro)) (by exact (BorL.cons (PV.bor_sl _) (BorL.cons (PV.bor_val _) (BorL.cons (PV.bor_val _) BorL.nil)))) (by exact (borA_cons (BorL.cons (PV.bor_sl _) BorL.nil) borA_nil)) (by exact (x_l1PickInt (l := [-1, 100000, 100001]) (fun es => PV.bor_sl es) (by decide) (by decide))))
     refine rA ?_ (x := lF FDrx_fd_36_2)
     refine rA ?_ (x := loc_store (ag := false) (vs := [PV.val _]) FDrx_ty_3 (by exact ⟨⟩) (by exact rfl) (by exact Nat.le_of_ble_eq_true rfl))
     refine sw_seq ?_
     refine sO [(0, _), (2, _), (3, _), (4, _), (5, _), (6, _), (7, _), (31, _), (5000, _)] [(0, _), (2, _), (3, _), (4, (36, [PV.sl _ _, PV.val _, PV.val _])), (6, _)] ?_
     refine sw_draw hm_ ?_
     refine dA 0 ?_ (x := loc_ltake (ms := [PV.sl _ _, PV.val _, PV.val _]) (qs := [PV.sl .v _, PV.val _, PV.val _]) (by decide) FDrx_ty_36 (fun h => nomatch h) (by exact Nat.le_of_ble_eq_true rfl) (by exact rfl) (by exact (ToL.cons PV.to_none (ToL.cons (PV.To.refl _) (ToL.cons (PV.To.refl _) ToL.nil)))) (by exact (BorL.cons (PV.bor_sl _) (BorL.cons (PV.bor_val _) (BorL.cons (PV.bor_val _) BorL.nil)))))
     refine dA 0 ?_ (x := loc_ltake (ms := [PV.val _, PV.sl _ _]) (qs := [PV.val _, PV.sl .v _]) (by decide) FDrx_ty_26 (fun h => nomatch h) (by exact Nat.le_of_ble_eq_true rfl) (by exact rfl) (by exact (ToL.cons (PV.To.refl _) (ToL.cons PV.to_none ToL.nil))) (by exact (BorL.cons (PV.bor_val _) (BorL.cons (PV.bor_sl _) BorL.nil))))
     refine dA 1 ?_ (x := loc_store (ag := true) (vs := [PV.sl _ _, PV.val _, PV.val _]) FDrx_ty_36 (by exact ⟨⟩) (by exact rfl) (by exact Nat.le_of_ble_eq_true rfl))
     refine dA 7 ?_ (x := loc_store (ag := true) (vs := [PV.val _, PV.sl _ _]) FDrx_ty_26 (by exact ⟨⟩) (by exact rfl) (by exact Nat.le_of_ble_eq_true rfl))
     refine sw_ret ?_
     exact ⟨(by rw [hr]; exact rfl), rfl, (Exists.intro 2 (Exists.intro _ (And.intro (by exact rfl) (And.intro (by refine box_eq ?_; rw [hr]; try exact rfl) (And.intro FDrx_ty_36 (And.intro (fun h => nomatch h) (Exists.intro 3 (Exists.intro _ (And.intro (by exact rfl) (And.intro (by refine box_eq ?_; rw [hr]; try exact rfl) (And.intro FDrx_ty_26 (And.intro (fun h => nomatch h) True.intro))))))))))))⟩
    ·try simp only [q1, q2, q3, q4, q5, q6, q7, q8, q9] at hb5
     have hr := pairC_3 (c := c) h0_ h1_ hb5
     refine sw_skip ?_
     refine sw_seq ?_
     refine sO [(0, _), (2, _), (3, _), (4, _), (5, _), (6, _), (7, _), (31, _), (5000, _)] [(0, _), (2, _), (3, _), (4, _), (6, _)] ?_
     refine sw_draw hm_ ?_
     refine dA 0 ?_ (x := loc_ltake (ms := [PV.sl _ _, PV.val _, PV.val _]) (qs := [PV.sl .v _, PV.val _, PV.val _]) (by decide) FDrx_ty_36 (fun h => nomatch h) (by exact Nat.le_of_ble_eq_true rfl) (by exact rfl) (by exact (ToL.cons PV.to_none (ToL.cons (PV.To.refl _) (ToL.cons (PV.To.refl _) ToL.nil)))) (by exact (BorL.cons (PV.bor_sl _) (BorL.cons (PV.bor_val _) (BorL.cons (PV.bor_val _) BorL.nil)))))
     refine dA 0 ?_ (x := loc_ltake (ms := [PV.val _, PV.sl _ _]) (qs := [PV.val _, PV.sl .v _]) (by decide) FDrx_ty_26 (fun h => nomatch h) (by exact Nat.le_of_ble_eq_true rfl) (by exact rfl) (by exact (ToL.cons (PV.To.refl _) (ToL.cons PV.to_none ToL.nil))) (by exact (BorL.cons (PV.bor_val _) (BorL.cons (PV.bor_sl _) BorL.nil))))
     refine dA 1 ?_ (x := loc_store (ag := true) (vs := [PV.sl _ _, PV.val _, PV.val _]) FDrx_ty_36 (by exact ⟨⟩) (by exact rfl) (by exact Nat.le_of_ble_eq_true rfl))
     refine dA 7 ?_ (x := loc_store (ag := true) (vs := [PV.val _, PV.sl _ _]) FDrx_ty_26 (by exact ⟨⟩) (by exact rfl) (by exact Nat.le_of_ble_eq_true rfl))
     refine sw_ret ?_
     exact ⟨(by rw [hr]; exact rfl), rfl, (Exists.intro 2 (Exists.intro _ (And.intro (by exact rfl) (And.intro (by refine box_eq ?_; rw [hr]; try exact rfl) (And.intro FDrx_ty_36 (And.intro (fun h => nomatch h) (Exists.intro 3 (Exists.intro _ (And.intro (by exact rfl) (And.intro (by refine box_eq ?_; rw [hr]; try exact rfl) (And.intro FDrx_ty_26 (And.intro (fun h => nomatch h) True.intro))))))))))))⟩
theorem spec_DrawReceive {code : List Int}  (hb : code.length ≤ 9223372036854775807) (hb2 : code.length ≤ 4611686018427387904) : SCall Try.prog 6 [(false, [PV.sl .v (code.map cU8)])] (resRV [(true, [PV.val (vI (drReceive code hb).1.Next), PV.sl (.own 29 2) ((drReceive code hb).1.Rows.map (cRow (.own 3 1)))]), (false, [PV.val (vI (drReceive code hb).2.1)]), (true, [PV.val (vI (drReceive code hb).2.2.Id), PV.sl (.own 3 1) ((drReceive code hb).2.2.Values.map cInt)])]) := by
 refine scall_of (rs := [(true, [PV.val (vI (drReceive code hb).1.Next), PV.sl (.own 29 2) ((drReceive code hb).1.Rows.map (cRow (.own 3 1)))]), (false, [PV.val (vI (drReceive code hb).2.1)]), (true, [PV.val (vI (drReceive code hb).2.2.Id), PV.sl (.own 3 1) ((drReceive code hb).2.2.Values.map cInt)])]) Try.func6 rfl (Nat.le_of_ble_eq_true rfl) (borA_cons (BorL.cons (PV.bor_sl _) BorL.nil) borA_nil) ?_
 intro h0 w0 Fz0
 refine sw_len (s := 0) rfl fun hl0 => ?_
 try rw [List.length_map] at hl0
 have hpw := pairC_wt (curNew code hb)
 have hg3 := belowC_ge (pairC (curNew code hb)).2 3
 have hl3 := belowC_lt (pairC (curNew code hb)).2 (n := 3) (by decide)
 refine sw_seq ?_
 refine sw_reg ?_
 refine RunS.step (by exact ⟨⟩) (by exact ⟨⟩) (LocG.of rfl (loc_alloc (by decide) FDrx_z_26 FDrx_zo_26)) (free1 (Free.of_ rfl)) ?_
 refine rA ?_ (x := kA)
 refine RunS.step (by exact ⟨⟩) (by exact ⟨⟩) (LocG.of rfl (loc_alloc (by decide) FDrx_z_29 FDrx_zo_29)) (free1 (Free.app (Free.app (Free.of_ rfl) rfl) rfl)) ?_
 refine sw_seq ?_
 refine sO [(0, _), (2, _), (3, _), (4, _)] [(2, (26, [PV.val _, PV.sl _ _])), (4, (29, [PV.val _, PV.sl _ _]))] ?_
 refine sw_reg ?_
 refine rA ?_ (x := vM false [PV.sl .v _])
 refine RunS.step (by exact ⟨rfl, ⟨⟩⟩) (by exact ⟨⟩) (LocG.of rfl (loc_ncall (qs := [(false, [PV.sl _ _])]) (as_ := [(false, [PV.sl .v _])]) (by decide) FDrx_c_19 (by exact (And.intro (by exact ⟨⟩) True.intro)) (by exact (And.intro (And.intro rfl (ToL.cons PV.to_none ToL.nil)) True.intro)) (by exact (n_l1New hb hb2)))) (free1 (Free.app (Free.of_ rfl) rfl)) ?_
 refine rA ?_ (x := cA Cp.ptr)
 refine sw_seq ?_
 refine sO [(0, _), (2, _), (3, _), (4, _), (5, _)] [(2, _), (4, _), (10, (65, [PV.sl _ _, PV.val _, PV.val _]))] ?_
 refine sw_reg ?_
 refine rA ?_ (x := cM Cp.ptr)
 refine rA ?_ (x := loc_xcall0 (bx := 10) (qs := []) (as_ := []) (by decide) FDrx_c_20 rfl (by exact ⟨⟩) (by exact ⟨⟩) (by exact (BorL.cons (PV.bor_sl _) (BorL.cons (PV.bor_val _) (BorL.cons (PV.bor_val _) BorL.nil)))) (by exact borA_nil) (by exact x_l17Pair))
 refine rA ?_ (x := tM)
 refine rA ?_ (x := loc_extract (cs := [PV.sl _ _, PV.val _, PV.val _]) (qs := [PV.sl .v _, PV.val _, PV.val _]) (by decide) (by exact rfl) (by exact (ToL.cons PV.to_none (ToL.cons (PV.To.refl _) (ToL.cons (PV.To.refl _) ToL.nil)))) (by exact (BorL.cons (PV.bor_sl _) (BorL.cons (PV.bor_val _) (BorL.cons (PV.bor_val _) BorL.nil)))))
 refine rA ?_ (x := loc_extract (cs := [PV.val _, PV.sl _ _]) (qs := [PV.val _, PV.sl .v _]) (by decide) (by exact rfl) (by exact (ToL.cons (PV.To.refl _) (ToL.cons PV.to_none ToL.nil))) (by exact (BorL.cons (PV.bor_val _) (BorL.cons (PV.bor_sl _) BorL.nil))))
 refine RunS.step (by exact ⟨⟩) (by exact ⟨⟩) (LocG.of rfl (loc_alloc (by decide) FDrx_z_36 FDrx_zo_36)) (free1 (Free.app (Free.app (Free.app (Free.app (Free.app (Free.of_ rfl) rfl) rfl) rfl) rfl) rfl)) ?_
 refine RunS.step (by exact ⟨⟩) (by exact ⟨⟩) (LocG.of rfl (loc_alloc (by decide) FDrx_z_26 FDrx_zo_26)) (free1 (Free.app (Free.app (Free.app (Free.app (Free.app (Free.app (Free.of_ rfl) rfl) rfl) rfl) rfl) rfl) rfl)) ?_
 refine rA ?_ (x := loc_store (ag := true) (vs := [PV.sl _ _, PV.val _, PV.val _]) FDrx_ty_36 (by exact ⟨⟩) (by exact rfl) (by exact Nat.le_of_ble_eq_true rfl))
 refine rA ?_ (x := loc_store (ag := true) (vs := [PV.val _, PV.sl _ _]) FDrx_ty_26 (by exact ⟨⟩) (by exact rfl) (by exact Nat.le_of_ble_eq_true rfl))
 refine sw_seq ?_
 refine sO [(0, _), (2, _), (3, _), (4, _), (5, _), (6, _), (7, _)] [(2, _), (4, _), (6, (36, [PV.sl _ _, PV.val _, PV.val _])), (7, (26, [PV.val _, PV.sl _ _])), (10, _)] ?_
 refine sw_draw hm_ ?_
 refine dA 0 ?_ (x := lF FDrx_fd_26_0)
 refine dA 1 ?_ (x := lD [PV.val _] FDrx_ty_3)
 refine dA 0 ?_ (x := cM Cp.ptr)
 refine dA 4 ?_ (x := loc_xcall0 (bx := 10) (qs := [(false, [PV.val _])]) (as_ := [(false, [PV.val _])]) (by decide) FDrx_c_21 rfl (by exact (And.intro (ok_sc rfl) True.intro)) (by exact (And.intro (And.intro rfl (ToL.cons (PV.To.refl _) ToL.nil)) True.intro)) (by exact (BorL.cons (PV.bor_sl _) (BorL.cons (PV.bor_val _) (BorL.cons (PV.bor_val _) BorL.nil)))) (by exact (borA_cons (BorL.cons (PV.bor_val _) BorL.nil) borA_nil)) (by exact (x_l1Below (fun es => PV.bor_sl es) (by omega))))
 refine dA 15 ?_ (x := B_add)
 refine dA 31 ?_ (x := B_sub)
 refine dA 63 ?_ (x := sA)
 refine sw_seq ?_
 refine sO [(0, _), (2, _), (3, _), (4, _), (5, _), (6, _), (7, _), (8, _)] [(2, _), (4, _), (6, _), (7, _), (10, _)] ?_
 refine sw_draw hm_ ?_
 refine dA 0 ?_ (x := loc_ltake (ms := [PV.val _, PV.sl _ _]) (qs := [PV.val _, PV.sl .v _]) (by decide) FDrx_ty_26 (fun h => nomatch h) (by exact Nat.le_of_ble_eq_true rfl) (by exact rfl) (by exact (ToL.cons (PV.To.refl _) (ToL.cons PV.to_none ToL.nil))) (by exact (BorL.cons (PV.bor_val _) (BorL.cons (PV.bor_sl _) BorL.nil))))
 refine dA 0 ?_ (x := sM)
 refine dA 0 ?_ (x := cM Cp.ptr)
 refine dA 4 ?_ (x := loc_xcall0 (bx := 10) (qs := []) (as_ := []) (by decide) FDrx_c_22 rfl (by exact ⟨⟩) (by exact ⟨⟩) (by exact (BorL.cons (PV.bor_sl _) (BorL.cons (PV.bor_val _) (BorL.cons (PV.bor_val _) BorL.nil)))) (by exact borA_nil) (by exact x_l3Any))
 refine dA 13 ?_ (x := loc_store (ag := true) (vs := [PV.val _, PV.sl _ _]) FDrx_ty_26 (by exact ⟨⟩) (by exact rfl) (by exact Nat.le_of_ble_eq_true rfl))
 refine dA 31 ?_ (x := sA)
 refine dA 63 ?_ (x := loc_store (ag := true) (vs := [PV.val _, PV.sl _ _]) FDrx_ty_29 (by exact ⟨⟩) (by exact rfl) (by exact Nat.le_of_ble_eq_true rfl))
 refine sw_ret ?_
 exact (Exists.intro 2 (Exists.intro _ (And.intro (by exact rfl) (And.intro (by exact rfl) (And.intro FDrx_ty_26 (And.intro (fun h => nomatch h) (And.intro (by exact rfl) (Exists.intro 4 (Exists.intro _ (And.intro (by exact rfl) (And.intro (by exact rfl) (And.intro FDrx_ty_29 (And.intro (fun h => nomatch h) True.intro)))))))))))))
theorem spec_DrawSendNext {code : List Int}  (hb : code.length ≤ 9223372036854775807) (hb2 : code.length ≤ 4611686018427387904) : SCall Try.prog 10 [(false, [PV.sl .v (code.map cU8)])] (resRV [(true, [PV.sl (.own 29 2) ((drSend code hb).1.Rows.map (cRow (.own 3 1))), PV.val (vI (drSend code hb).1.Acked), PV.val (vI (drSend code hb).1.Tries)]), (true, [PV.val (vI (drSend code hb).2.1.Next), PV.sl (.own 29 2) ((drSend code hb).2.1.Rows.map (cRow (.own 3 1)))]), (false, [PV.val (vI (drSend code hb).2.2)])]) := by
 refine scall_of (rs := [(true, [PV.sl (.own 29 2) ((drSend code hb).1.Rows.map (cRow (.own 3 1))), PV.val (vI (drSend code hb).1.Acked), PV.val (vI (drSend code hb).1.Tries)]), (true, [PV.val (vI (drSend code hb).2.1.Next), PV.sl (.own 29 2) ((drSend code hb).2.1.Rows.map (cRow (.own 3 1)))]), (false, [PV.val (vI (drSend code hb).2.2)])]) Try.func10 rfl (Nat.le_of_ble_eq_true rfl) (borA_cons (BorL.cons (PV.bor_sl _) BorL.nil) borA_nil) ?_
 intro h0 w0 Fz0
 refine sw_len (s := 0) rfl fun hl0 => ?_
 try rw [List.length_map] at hl0
 have hpw := pairC_wt (curNew code hb)
 have hg3 := belowC_ge (pairC (curNew code hb)).2 3
 have hl3 := belowC_lt (pairC (curNew code hb)).2 (n := 3) (by decide)
 refine sw_seq ?_
 refine sw_reg ?_
 refine RunS.step (by exact ⟨⟩) (by exact ⟨⟩) (LocG.of rfl (loc_alloc (by decide) FDrx_z_36 FDrx_zo_36)) (free1 (Free.of_ rfl)) ?_
 refine RunS.step (by exact ⟨⟩) (by exact ⟨⟩) (LocG.of rfl (loc_alloc (by decide) FDrx_z_26 FDrx_zo_26)) (free1 (Free.app (Free.of_ rfl) rfl)) ?_
 refine rA ?_ (x := kA)
 refine sw_seq ?_
 refine sO [(0, _), (2, _), (3, _), (4, _)] [(2, (36, [PV.sl _ _, PV.val _, PV.val _])), (3, (26, [PV.val _, PV.sl _ _]))] ?_
 refine sw_reg ?_
 refine rA ?_ (x := vM false [PV.sl .v _])
 refine RunS.step (by exact ⟨rfl, ⟨⟩⟩) (by exact ⟨⟩) (LocG.of rfl (loc_ncall (qs := [(false, [PV.sl _ _])]) (as_ := [(false, [PV.sl .v _])]) (by decide) FDrx_c_19 (by exact (And.intro (by exact ⟨⟩) True.intro)) (by exact (And.intro (And.intro rfl (ToL.cons PV.to_none ToL.nil)) True.intro)) (by exact (n_l1New hb hb2)))) (free1 (Free.app (Free.of_ rfl) rfl)) ?_
 refine rA ?_ (x := cA Cp.ptr)
 refine sw_seq ?_
 refine sO [(0, _), (2, _), (3, _), (4, _), (5, _)] [(2, _), (3, _), (9, (65, [PV.sl _ _, PV.val _, PV.val _]))] ?_
 refine sw_reg ?_
 refine rA ?_ (x := cM Cp.ptr)
 refine rA ?_ (x := loc_xcall0 (bx := 9) (qs := []) (as_ := []) (by decide) FDrx_c_20 rfl (by exact ⟨⟩) (by exact ⟨⟩) (by exact (BorL.cons (PV.bor_sl _) (BorL.cons (PV.bor_val _) (BorL.cons (PV.bor_val _) BorL.nil)))) (by exact borA_nil) (by exact x_l17Pair))
 refine rA ?_ (x := tM)
 refine rA ?_ (x := loc_extract (cs := [PV.sl _ _, PV.val _, PV.val _]) (qs := [PV.sl .v _, PV.val _, PV.val _]) (by decide) (by exact rfl) (by exact (ToL.cons PV.to_none (ToL.cons (PV.To.refl _) (ToL.cons (PV.To.refl _) ToL.nil)))) (by exact (BorL.cons (PV.bor_sl _) (BorL.cons (PV.bor_val _) (BorL.cons (PV.bor_val _) BorL.nil)))))
 refine rA ?_ (x := loc_extract (cs := [PV.val _, PV.sl _ _]) (qs := [PV.val _, PV.sl .v _]) (by decide) (by exact rfl) (by exact (ToL.cons (PV.To.refl _) (ToL.cons PV.to_none ToL.nil))) (by exact (BorL.cons (PV.bor_val _) (BorL.cons (PV.bor_sl _) BorL.nil))))
 refine RunS.step (by exact ⟨⟩) (by exact ⟨⟩) (LocG.of rfl (loc_alloc (by decide) FDrx_z_36 FDrx_zo_36)) (free1 (Free.app (Free.app (Free.app (Free.app (Free.app (Free.of_ rfl) rfl) rfl) rfl) rfl) rfl)) ?_
 refine RunS.step (by exact ⟨⟩) (by exact ⟨⟩) (LocG.of rfl (loc_alloc (by decide) FDrx_z_26 FDrx_zo_26)) (free1 (Free.app (Free.app (Free.app (Free.app (Free.app (Free.app (Free.of_ rfl) rfl) rfl) rfl) rfl) rfl) rfl)) ?_
 refine rA ?_ (x := loc_store (ag := true) (vs := [PV.sl _ _, PV.val _, PV.val _]) FDrx_ty_36 (by exact ⟨⟩) (by exact rfl) (by exact Nat.le_of_ble_eq_true rfl))
 refine rA ?_ (x := loc_store (ag := true) (vs := [PV.val _, PV.sl _ _]) FDrx_ty_26 (by exact ⟨⟩) (by exact rfl) (by exact Nat.le_of_ble_eq_true rfl))
 refine sw_seq ?_
 refine sO [(0, _), (2, _), (3, _), (4, _), (5, _), (6, _), (7, _)] [(2, _), (3, _), (6, (36, [PV.sl _ _, PV.val _, PV.val _])), (7, (26, [PV.val _, PV.sl _ _])), (9, _)] ?_
 refine sw_draw hm_ ?_
 refine dA 0 ?_ (x := loc_ltake (ms := [PV.sl _ _, PV.val _, PV.val _]) (qs := [PV.sl .v _, PV.val _, PV.val _]) (by decide) FDrx_ty_36 (fun h => nomatch h) (by exact Nat.le_of_ble_eq_true rfl) (by exact rfl) (by exact (ToL.cons PV.to_none (ToL.cons (PV.To.refl _) (ToL.cons (PV.To.refl _) ToL.nil)))) (by exact (BorL.cons (PV.bor_sl _) (BorL.cons (PV.bor_val _) (BorL.cons (PV.bor_val _) BorL.nil)))))
 refine dA 0 ?_ (x := loc_ltake (ms := [PV.val _, PV.sl _ _]) (qs := [PV.val _, PV.sl .v _]) (by decide) FDrx_ty_26 (fun h => nomatch h) (by exact Nat.le_of_ble_eq_true rfl) (by exact rfl) (by exact (ToL.cons (PV.To.refl _) (ToL.cons PV.to_none ToL.nil))) (by exact (BorL.cons (PV.bor_val _) (BorL.cons (PV.bor_sl _) BorL.nil))))
 refine dA 0 ?_ (x := cM Cp.ptr)
 refine dA 4 ?_ (x := loc_xcall0 (bx := 9) (qs := [(false, [PV.val _])]) (as_ := [(false, [PV.val _])]) (by decide) FDrx_c_21 rfl (by exact (And.intro (ok_sc rfl) True.intro)) (by exact (And.intro (And.intro rfl (ToL.cons (PV.To.refl _) ToL.nil)) True.intro)) (by exact (BorL.cons (PV.bor_sl _) (BorL.cons (PV.bor_val _) (BorL.cons (PV.bor_val _) BorL.nil)))) (by exact (borA_cons (BorL.cons (PV.bor_val _) BorL.nil) borA_nil)) (by exact (x_l1Below (fun es => PV.bor_sl es) (by omega))))
 refine dA 13 ?_ (x := loc_store (ag := true) (vs := [PV.sl _ _, PV.val _, PV.val _]) FDrx_ty_36 (by exact ⟨⟩) (by exact rfl) (by exact Nat.le_of_ble_eq_true rfl))
 refine dA 31 ?_ (x := loc_store (ag := true) (vs := [PV.val _, PV.sl _ _]) FDrx_ty_26 (by exact ⟨⟩) (by exact rfl) (by exact Nat.le_of_ble_eq_true rfl))
 refine dA 63 ?_ (x := sA)
 refine sw_ret ?_
 exact (Exists.intro 2 (Exists.intro _ (And.intro (by exact rfl) (And.intro (by exact rfl) (And.intro FDrx_ty_36 (And.intro (fun h => nomatch h) (Exists.intro 3 (Exists.intro _ (And.intro (by exact rfl) (And.intro (by exact rfl) (And.intro FDrx_ty_26 (And.intro (fun h => nomatch h) (And.intro (by exact rfl) True.intro)))))))))))))
end Go.Proofs.Ytdoabhihpclliaa
