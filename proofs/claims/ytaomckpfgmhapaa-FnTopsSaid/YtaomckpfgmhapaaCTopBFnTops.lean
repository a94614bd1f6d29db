/- What functions of the program compute. No condition. -/
import Derived.Test.YtaomckpfgmhapaaCTopFnTops
import Derived.Test.YtaomckpfgmhapaaCDh
import Derived.KernelRfl
set_option linter.unusedVariables false
set_option linter.unusedSimpArgs false
namespace Go.Proofs.Ytaomckpfgmhapaa
open Go Go.RowKit M
set_option maxRecDepth 10000
attribute [local irreducible] PV.Lcl PV.LclR RV.Lcl
theorem FTopB_c_21 : callI Try.prog 21 = true := by kernel_rfl
theorem FTopB_c_36 : callI Try.prog 36 = true := by kernel_rfl
theorem FTopB_c_43 : callI Try.prog 43 = true := by kernel_rfl
theorem FTopB_c_45 : callI Try.prog 45 = true := by kernel_rfl
theorem FTopB_fd_35_0 : fieldI Try.prog 35 0 = some 0 := by kernel_rfl
theorem FTopB_pl_35 : placesI Try.prog 35 = some [(0, 2), (2, 1)] := by kernel_rfl
theorem FTopB_sl_24 : sliceI Try.prog 24 = some (35, 3, 56) := by kernel_rfl
theorem FTopB_sl_31 : sliceI Try.prog 31 = some (3, 1, 8) := by kernel_rfl
theorem FTopB_sl_39 : sliceI Try.prog 39 = some (33, 2, 32) := by kernel_rfl
theorem FTopB_ty_33 : tyI Try.prog 33 = some (true, 2) := by kernel_rfl
theorem FTopB_ty_35 : tyI Try.prog 35 = some (true, 3) := by kernel_rfl
theorem FTopB_z_3 : zeroI Try.prog 3 = some (.int .i64 0) := by kernel_rfl
theorem FTopB_z_33 : zeroI Try.prog 33 = some (.agg #[.int .i64 0, .slice none 0 0]) := by kernel_rfl
theorem FTopB_z_35 : zeroI Try.prog 35 = some (.agg #[.int .i64 0, .slice none 0 0, .slice none 0 0]) := by kernel_rfl
theorem FTopB_zo_33 {Fz : FzT} {w : World} : OwnL [PV.val (.int .i64 0), PV.sl (.own 3 1) []] Fz w (Value.cells (.agg #[.int .i64 0, .slice none 0 0])).toList [] := zo_val rfl (zo_sl (zo_nil))
theorem FTopB_zo_35 {Fz : FzT} {w : World} : OwnL [PV.val (.int .i64 0), PV.sl (.own 3 1) [], PV.sl (.own 3 1) []] Fz w (Value.cells (.agg #[.int .i64 0, .slice none 0 0, .slice none 0 0])).toList [] := zo_val rfl (zo_sl (zo_sl (zo_nil)))
theorem impl_annotateWith {p1 : Fl} {x : List Row} {id : Int}  (hb : wtRowS x ≤ 68719476736) : SCall Try.prog 36 [(false, [PV.sl .v (x.map (cRow p1))]), (false, [PV.val (vI id)])] (resRV [(false, [PV.sl (.own 35 3) ((annAll x id).map (cAnnotated (.own 3 1) (.own 3 1)))])]) := by
 refine scall_of (rs := [(false, [PV.sl (.own 35 3) ((annAll x id).map (cAnnotated (.own 3 1) (.own 3 1)))])]) Try.func36 rfl (Nat.le_of_ble_eq_true rfl) (borA_cons (BorL.cons (PV.bor_sl _) BorL.nil) (borA_cons (BorL.cons (PV.bor_val _) BorL.nil) borA_nil)) ?_
 intro h0 w0 Fz0
 refine sw_len (s := 0) rfl fun hl0 => ?_
 try rw [List.length_map] at hl0
 have hbu := hb
 simp only [wtRowS] at hbu
 refine sw_seq ?_
 refine sw_reg ?_
 refine rA ?_ (x := loc_const (.inr rfl) (by decide) (ok_nil (t := 35) (e := 3)))
 refine sw_seq ?_
 refine sO [(0, _), (1, _), (4, _)] [] ?_
 refine sw_reg ?_
 refine rA ?_ (x := loc_bslice (qs := []) (by decide) FTopB_sl_24 FTopB_z_35 (by decide) rfl rfl rfl rfl rfl (by exact Nat.le_of_ble_eq_true rfl) (by exact ⟨⟩) rfl)
 refine rA ?_ (x := tA)
 refine sw_seq ?_
 refine sw_seq ?_
 refine sO [(0, _), (1, _), (4, _), (5, _)] [] ?_
 refine sw_reg ?_
 refine rA ?_ (x := vM false [PV.sl .v _])
 refine rA ?_ (x := lN FTopB_sl_39)
 refine rA ?_ (x := kM)
 refine sw_block ?_
 refine sO [(0, _), (1, _), (4, _), (5, _), (9, _), (10, _), (11, _)] [] ?_
 refine sw_loop (l0 := [(0, RV.sv false [PV.sl _ _]), (1, RV.sv false [PV.val _]), (4, RV.sv false [PV.sl _ _]), (9, RV.sv false [PV.sl _ _]), (10, RV.sv false [PV.val _])]) (b0 := []) (fun k : Nat => k ≤ x.length) (fun k : Nat => [(5, RV.slc (.own 35 3) ((annAll (x.take k) id).map (cAnnotated (.own 3 1) (.own 3 1)))), (11, RV.int (k : Int))]) (fun k : Nat => []) (fun k : Nat => x.length - k) 0 (by omega) (by exact ⟨rfl, rfl, rfl, rfl, rfl, ⟨⟩⟩) (by exact ⟨⟩) (by exact And.intro (by first | exact rfl | simp) (And.intro (by exact rfl) (True.intro))) (by exact ⟨⟩) ?_
 rintro k hk
 refine sw_seq ?_
 refine sw_reg ?_
 refine rA ?_ (x := B_lss)
 refine sw_seq ?_
 refine sw_cond (t := 12) rfl (fun hb1 => ?_) (fun hb1 => ?_)
 ·try simp only [q1, q2, q3, q4, q5, q6, q7, q8, q9] at hb1
  have hlt : k < x.length := by omega
  have hwm := wt_mem (f := wtRow) hlt
  have htl : (annAll (x.take k) id).length = k := by rw [annAll_len, List.length_take]; omega
  refine sw_skip ?_
  refine sw_seq ?_
  refine sw_block ?_
  refine sw_seq ?_
  refine sO [(0, _), (1, _), (4, _), (5, _), (9, _), (10, _), (11, _)] [] ?_
  refine sw_reg ?_
  refine rA ?_ (x := loc_index (by decide) FTopB_sl_39 (by exact ⟨⟩) (by exact rfl) (by exact getm2 (by omega) rfl) (by exact rfl))
  refine rA ?_ (x := lE [PV.val _, PV.sl .v _] FTopB_ty_33)
  refine RunS.step (by exact ⟨⟩) (by exact ⟨⟩) (LocG.of rfl (loc_alloc (by decide) FTopB_z_33 FTopB_zo_33)) (free1 (Free.app (Free.app (Free.of_ rfl) rfl) rfl)) ?_
  refine rA ?_ (x := loc_store (ag := true) (vs := [PV.val _, PV.sl _ _]) FTopB_ty_33 (by exact ⟨⟩) (by exact rfl) (by exact Nat.le_of_ble_eq_true rfl))
  refine sO [(0, _), (1, _), (4, _), (5, _), (7, _), (9, _), (10, _), (11, _)] [(7, (33, [PV.val _, PV.sl _ _]))] ?_
  refine sw_reg ?_
  refine rA ?_ (x := tM)
  refine rA ?_ (x := lD [PV.val _, PV.sl .v _] FTopB_ty_33)
  refine rA ?_ (x := cL [(true, [PV.val _, PV.sl _ _])] [(true, [PV.val _, PV.sl .v _])] FTopB_c_45 (hs := by exact impl_copyRow (by omega)))
  refine rA ?_ (x := sM)
  refine rA ?_ (x := loc_bslice (qs := [(false, [PV.val _])]) (by decide) FTopB_sl_31 FTopB_z_3 (by decide) rfl rfl rfl rfl rfl (by exact Nat.le_of_ble_eq_true rfl) (by exact (And.intro (by exact ⟨⟩) True.intro)) rfl)
  refine rA ?_ (x := loc_build (qs := [(true, [PV.val _, PV.sl _ _]), (false, [PV.sl _ _])]) (cs := [PV.val _, PV.sl _ _, PV.sl _ _]) (by decide) FTopB_z_35 FTopB_zo_35 FTopB_pl_35 (by exact rfl) (by exact (And.intro (by exact ⟨⟩) (And.intro (by exact ⟨⟩) True.intro))) rfl (by exact rfl))
  refine rA ?_ (x := loc_bslice (qs := [(true, [PV.val _, PV.sl _ _, PV.sl _ _])]) (by decide) FTopB_sl_24 FTopB_z_35 (by decide) rfl rfl rfl rfl rfl (by exact Nat.le_of_ble_eq_true rfl) (by exact (And.intro (by exact ⟨⟩) True.intro)) rfl)
  refine rA ?_ (x := loc_append (by decide) FTopB_sl_24 FTopB_z_35 rfl rfl (by decide) rfl (by simp only [List.length_map, List.length_append, List.length_cons, List.length_nil]; omega) (by simp only [List.length_map, List.length_append, List.length_cons, List.length_nil]; omega))
  refine rA ?_ (x := tA)
  refine sO [(0, _), (1, _), (4, _), (5, _), (7, _), (9, _), (10, _), (11, _)] [(7, _)] ?_
  refine sw_reg ?_
  refine rA ?_ (x := B_add)
  refine rA ?_ (x := sM)
  refine Exists.intro (k + 1) (And.intro (by omega) (And.intro (by omega) (And.intro (And.intro (by exact ⟨rfl, rfl, rfl, rfl, rfl, ⟨⟩⟩) (by exact ⟨⟩)) (And.intro (by exact And.intro (by exact slc_eq (by rw [annAll_succ hlt, List.map_append]; rfl)) (And.intro (by exact rfl) (True.intro))) (by exact ⟨⟩)))))
 ·try simp only [q1, q2, q3, q4, q5, q6, q7, q8, q9] at hb1
  have hend : k = x.length := by omega
  refine sw_exit ?_
  refine sw_seq ?_
  refine sO [(0, _), (1, _), (4, _), (5, _), (9, _), (10, _), (11, _)] [] ?_
  refine sw_reg ?_
  refine rA ?_ (x := tM)
  refine rA ?_ (x := tA)
  refine sw_ret ?_
  exact (And.intro (by refine slc_eq ?_; rw [hend, List.take_length]) True.intro)
theorem impl_TopAlone {p1 : Fl} {x : List Row} {f : Int} {c : Int}  (hb : wtRowS x ≤ 1048576) : SCall Try.prog 24 [(false, [PV.sl .v (x.map (cRow p1))]), (false, [PV.val (vI f)]), (false, [PV.val (vI c)])] (resRV [(false, [PV.sl (.own 33 2) ((topAlone x f c).map (cRow (.own 3 1)))])]) := by
 refine scall_lo (largs := fun L => [(false, [PV.sl (.lo L) (x.map (cRow (.lo L)))]), (false, [PV.val (vI f)]), (false, [PV.val (vI c)])]) (rs := [(false, [PV.sl (.own 33 2) ((topAlone x f c).map (cRow (.own 3 1)))])]) Try.func24 rfl (Nat.le_of_ble_eq_true rfl) (fun L => by exact (And.intro (And.intro rfl (ToBL.cons (PV.tob_map (fun _ => Nat.le_of_ble_eq_true rfl) (fun _ => (ToBL.cons PV.tob_refl (ToBL.cons (PV.tob_map (fun _ => Nat.le_of_ble_eq_true rfl) (fun _ => (ToBL.cons PV.tob_refl ToBL.nil))) ToBL.nil)))) ToBL.nil)) (And.intro (And.intro rfl (ToBL.cons PV.tob_refl ToBL.nil)) (And.intro (And.intro rfl (ToBL.cons PV.tob_refl ToBL.nil)) True.intro)))) (fun L => by exact (borA_cons (BorL.cons (PV.bor_lo _ _) BorL.nil) (borA_cons (BorL.cons (PV.bor_val _) BorL.nil) (borA_cons (BorL.cons (PV.bor_val _) BorL.nil) borA_nil)))) ?_
 intro w0 Fz0
 refine sw_len (s := 0) rfl fun hl0 => ?_
 try rw [List.length_map] at hl0
 have hbl : x.length ≤ wtRowS x := Nat.le_add_right _ _
 have haw := annAll_wt x
 have hsw := sortF_wt (annAll x 0) f
 have hswl : (sortF (annAll x 0) f).length ≤ wtAnnotatedS (sortF (annAll x 0) f) := Nat.le_add_right _ _
 refine sw_seq ?_
 refine sw_reg ?_
 refine rA ?_ (x := loc_const (.inr rfl) (by decide) (ok_nil (t := 33) (e := 2)))
 refine sw_seq ?_
 refine sO [(0, _), (1, _), (2, _), (6, _)] [] ?_
 refine sw_reg ?_
 refine rA ?_ (x := loc_bslice (qs := []) (by decide) FTopB_sl_39 FTopB_z_33 (by decide) rfl rfl rfl rfl rfl (by exact Nat.le_of_ble_eq_true rfl) (by exact ⟨⟩) rfl)
 refine rA ?_ (x := tA)
 refine sw_seq ?_
 refine sw_seq ?_
 refine sO [(0, _), (1, _), (2, _), (6, _), (7, _)] [] ?_
 refine sw_reg ?_
 refine rA ?_ (x := sM)
 refine rA ?_ (x := cL [(false, [PV.val _]), (false, [PV.val _]), (false, [PV.val _])] [(false, [PV.val _]), (false, [PV.val _]), (false, [PV.val _])] FTopB_c_43 (hs := by exact impl_within))
 refine rA ?_ (x := nT)
 refine sw_cond (t := 13) rfl (fun hb1 => ?_) (fun hb1 => ?_)
 ·try simp only [q1, q2, q3, q4, q5, q6, q7, q8, q9] at hb1
  have hr := topAlone_no (rows := x) (f := f) (k := c) (by simpa using hb1)
  refine sw_seq ?_
  refine sO [(0, _), (1, _), (2, _), (6, _), (7, _)] [] ?_
  refine sw_reg ?_
  refine rA ?_ (x := tM)
  refine rA ?_ (x := tA)
  refine sw_ret ?_
  exact (And.intro (by refine slc_eq ?_; rw [hr]; try rfl) True.intro)
 ·try simp only [q1, q2, q3, q4, q5, q6, q7, q8, q9] at hb1
  have h3 : inB c 1 100 = true := by simpa using hb1
  have hr := topAlone_ok (rows := x) (f := f) h3
  have hcB : 1 ≤ c ∧ c ≤ 100 := by have hh := h3; simpa [inB] using hh
  refine sw_skip ?_
  refine sw_seq ?_
  refine sw_seq ?_
  refine sO [(0, _), (1, _), (2, _), (6, _), (7, _)] [] ?_
  refine sw_reg ?_
  refine rA ?_ (x := vM false [PV.sl (.lo _) _])
  refine rA ?_ (x := cL [(false, [PV.sl (.lo _) _]), (false, [PV.val _])] [(false, [PV.sl .v _]), (false, [PV.val _])] FTopB_c_36 (hs := by exact impl_annotateWith (by omega)))
  refine rA ?_ (x := sM)
  refine rA ?_ (x := cL [(false, [PV.sl _ _]), (false, [PV.val _])] [(false, [PV.sl .v _]), (false, [PV.val _])] FTopB_c_21 (hs := by exact (impl_SortByField (by omega))))
  refine rA ?_ (x := lN FTopB_sl_24)
  refine rA ?_ (x := kM)
  refine sw_block ?_
  refine sO [(0, _), (1, _), (2, _), (6, _), (7, _), (18, _), (19, _), (20, _)] [] ?_
  refine sw_loop (l0 := [(0, RV.sv false [PV.sl (.lo _) _]), (1, RV.sv false [PV.val _]), (2, RV.sv false [PV.val _]), (6, RV.sv false [PV.sl _ _]), (19, RV.sv false [PV.val _])]) (b0 := []) (fun i : Nat => i ≤ (sortF (annAll x 0) f).length) (fun i : Nat => [(7, RV.slc (.own 33 2) ((alRows (sortF (annAll x 0) f) c.toNat i).map (cRow (.own 3 1)))), (18, RV.slc (.own 35 3) ((mvs (sortF (annAll x 0) f) i).map cMvA)), (20, RV.int (i : Int))]) (fun i : Nat => []) (fun i : Nat => (sortF (annAll x 0) f).length - i) 0 (by omega) (by exact ⟨rfl, rfl, rfl, rfl, rfl, ⟨⟩⟩) (by exact ⟨⟩) (by exact And.intro (by exact slc_eq (by rw [alRows_zero]; rfl)) (And.intro (by exact slc_eq (mvs_zero (f := (cAnnotated (.own 3 1) (.own 3 1))) (g := cMvA) fun _ => rfl).symm) (And.intro (by exact rfl) (True.intro)))) (by exact ⟨⟩) ?_
  rintro i hii
  have hml : (mvs (sortF (annAll x 0) f) i).length = (sortF (annAll x 0) f).length := mvs_len
  have hal := alRows_len (S := (sortF (annAll x 0) f)) (c := c.toNat) (n := i)
  refine sw_seq ?_
  refine sw_reg ?_
  refine rA ?_ (x := B_lss)
  refine sw_seq ?_
  refine sw_cond (t := 21) rfl (fun hb2 => ?_) (fun hb2 => ?_)
  ·try simp only [q1, q2, q3, q4, q5, q6, q7, q8, q9] at hb2
   have hi : i < (sortF (annAll x 0) f).length := by omega
   have hmi : i < (mvs (sortF (annAll x 0) f) i).length := by omega
   refine sw_skip ?_
   refine sw_seq ?_
   refine sw_block ?_
   refine sw_seq ?_
   refine sO [(0, _), (1, _), (2, _), (6, _), (7, _), (18, _), (19, _), (20, _)] [] ?_
   refine sw_thawS (s := 18) (D := 900) (G := 2900) (E := 35) (e := 3) (L := (Lw w0.heap.size)) (es := (mvs (sortF (annAll x 0) f) i).map cMvA) (by exact rfl) (map_ne hmi) (by exact rfl) (by exact rfl) rfl (by exact rfl) (fun x hx => hx) (by exact (And.intro (.inr (RV.lcl_sv (LclC.cons (PV.lcl_lo (LclRC.map fun x => (LclRC.cons PV.lclr_val (LclRC.cons (PV.lclr_lo (LclRC.map fun x => (LclRC.cons PV.lclr_val LclRC.nil))) LclRC.nil)))) LclC.nil))) (And.intro (.inr (RV.lcl_sv (LclC.cons PV.lcl_val LclC.nil))) (And.intro (.inr (RV.lcl_sv (LclC.cons PV.lcl_val LclC.nil))) (And.intro (.inr (RV.lcl_sv (LclC.cons (PV.lcl_own (by first | exact (LclC.map fun x => (LclC.cons PV.lcl_val (LclC.cons (PV.lcl_own (LclC.map fun x => (LclC.cons PV.lcl_val LclC.nil))) LclC.nil))) | exact (fun cs h => nomatch h))) LclC.nil))) (And.intro (.inr (RV.lcl_sv (LclC.cons (PV.lcl_own (by first | exact (LclC.map fun x => (LclC.cons PV.lcl_val (LclC.cons (PV.lcl_own (LclC.map fun x => (LclC.cons PV.lcl_val LclC.nil))) LclC.nil))) | exact (fun cs h => nomatch h))) LclC.nil))) (And.intro (.inl rfl) (And.intro (.inr (RV.lcl_sv (LclC.cons PV.lcl_val LclC.nil))) (And.intro (.inr (RV.lcl_sv (LclC.cons PV.lcl_val LclC.nil))) True.intro))))))))) (by exact ⟨⟩) (LclC.map fun x => (LclC.cons PV.lcl_val (LclC.cons (lcl_mvc (PV.lcl_own (LclC.map fun x => (LclC.cons PV.lcl_val LclC.nil)))) (LclC.cons (lcl_mvc (PV.lcl_own (LclC.map fun x => (LclC.cons PV.lcl_val LclC.nil)))) LclC.nil)))) fun uu900 cp900 jk900 hlD900 hcp900 hjk900 => ?_
   rw [List.length_map] at hlD900 hcp900 hjk900
   refine sw_boxEq (d := 900) (by exact rfl) (at_split (k := i) hmi) ?_
   have hA900 := at_len (f := cMvA) (e := 3) (xs := mvs (sortF (annAll x 0) f) i) (k := i) (fun _ => rfl) (Nat.le_of_lt hmi)
   refine sw_boxEq (d := 900) (by exact rfl) (congrArg (fun z_ => (((mvs (sortF (annAll x 0) f) i).take i).map cMvA).flatten ++ (cMvA z_ ++ ((((mvs (sortF (annAll x 0) f) i).drop (i + 1)).map cMvA).flatten ++ jk900.map PV.val))) (mvs_at hi)) ?_
   refine sO [(0, _), (1, _), (2, _), (6, _), (7, _), (18, _), (19, _), (20, _), (2900, _)] [(900, (35, _ ++ ([PV.val _, PV.sl _ _, PV.sl _ _] ++ _)))] ?_
   refine sw_reg ?_
   refine rA ?_ (x := sM)
   refine rA ?_ (x := loc_gidx (k := i) (G := 2900) (by decide) FTopB_sl_24 (by exact ⟨⟩) (by omega) (by first | (rw [List.length_map]; exact hmi) | exact hmi))
   refine rA ?_ (x := loc_ltakeM (o := 0) (ms := [PV.val _, PV.sl _ _, PV.sl _ _]) (qs := [PV.val _, PV.any, PV.any]) (by omega) (by decide) FTopB_ty_35 (fun h => nomatch h) (by exact Nat.le_of_ble_eq_true rfl) (by exact rfl) (by exact (ToL.cons (PV.To.refl _) (ToL.cons PV.to_any (ToL.cons PV.to_any ToL.nil)))) (by exact (BorL.cons (PV.bor_val _) (BorL.cons (PV.bor_any) (BorL.cons (PV.bor_any) BorL.nil)))))
   refine RunS.step (by exact ⟨⟩) (by exact ⟨⟩) (LocG.of rfl (loc_alloc (by decide) FTopB_z_35 FTopB_zo_35)) (free1 (Free.app (Free.app (Free.app (Free.of_ rfl) rfl) rfl) rfl)) ?_
   refine rA ?_ (x := sA)
   refine rA ?_ (x := loc_store (ag := true) (vs := [PV.val _, PV.sl _ _, PV.sl _ _]) FTopB_ty_35 (by exact ⟨⟩) (by exact rfl) (by exact Nat.le_of_ble_eq_true rfl))
   refine sw_boxEq (d := 900) (by exact rfl) (at_join ((sortF (annAll x 0) f)[i], false) hmi (by exact rfl)) ?_
   refine sw_frzS (s := 18) (D := 900) (G := 2900) (e := 3) (es := ((mvs (sortF (annAll x 0) f) i).set i ((sortF (annAll x 0) f)[i], false)).map cMvA) (by exact rfl) (by exact rfl) (by exact rfl) rfl (by decide) (by rw [List.length_map, List.length_set, List.length_map]) (by intro c hc; obtain ⟨y, _, rfl⟩ := List.mem_map.1 hc; exact rfl) (by rw [List.length_map]; exact hjk900) ?_
   refine sw_seq ?_
   refine sO [(0, _), (1, _), (2, _), (6, _), (7, _), (8, _), (9, _), (18, _), (19, _), (20, _)] [(9, (35, [PV.val _, PV.sl _ _, PV.sl _ _]))] ?_
   refine sw_reg ?_
   refine rA ?_ (x := sM)
   refine rA ?_ (x := sM)
   refine rA ?_ (x := B_lss)
   refine sw_cond (t := 27) rfl (fun hb3 => ?_) (fun hb3 => ?_)
   ·try simp only [q1, q2, q3, q4, q5, q6, q7, q8, q9] at hb3
    refine sO [(0, _), (1, _), (2, _), (6, _), (7, _), (8, _), (9, _), (18, _), (19, _), (20, _)] [(9, _)] ?_
    refine sw_reg ?_
    refine rA ?_ (x := tM)
    refine rA ?_ (x := lF FTopB_fd_35_0)
    refine rA ?_ (x := loc_ltake (ms := [PV.val _, PV.sl _ _]) (qs := [PV.val _, PV.sl .v _]) (by decide) FTopB_ty_33 (fun h => nomatch h) (by exact Nat.le_of_ble_eq_true rfl) (by exact rfl) (by exact (ToL.cons (PV.To.refl _) (ToL.cons PV.to_none ToL.nil))) (by exact (BorL.cons (PV.bor_val _) (BorL.cons (PV.bor_sl _) BorL.nil))))
    refine rA ?_ (x := loc_bslice (qs := [(true, [PV.val _, PV.sl _ _])]) (by decide) FTopB_sl_39 FTopB_z_33 (by decide) rfl rfl rfl rfl rfl (by exact Nat.le_of_ble_eq_true rfl) (by exact (And.intro (by exact ⟨⟩) True.intro)) rfl)
    refine rA ?_ (x := loc_append (by decide) FTopB_sl_39 FTopB_z_33 rfl rfl (by decide) rfl (by simp only [List.length_map, List.length_append, List.length_cons, List.length_nil]; omega) (by simp only [List.length_map, List.length_append, List.length_cons, List.length_nil]; omega))
    refine rA ?_ (x := tA)
    refine sO [(0, _), (1, _), (2, _), (6, _), (7, _), (8, _), (9, _), (18, _), (19, _), (20, _)] [(9, (35, [PV.val _, PV.sl _ _, PV.sl _ _]))] ?_
    refine sw_reg ?_
    refine rA ?_ (x := B_add)
    refine rA ?_ (x := sM)
    refine Exists.intro (i + 1) (And.intro (by omega) (And.intro (by omega) (And.intro (And.intro (by exact ⟨rfl, rfl, rfl, rfl, rfl, ⟨⟩⟩) (by exact ⟨⟩)) (And.intro (by exact And.intro (by exact slc_eq (by first | (rw [alRows_yes hi (by omega), List.map_append]; rfl) | rw [alRows_no (by omega)])) (And.intro (by exact slc_eq (by rw [mvs_set hi])) (And.intro (by exact int_eq (by omega)) (True.intro)))) (by exact ⟨⟩)))))
   ·try simp only [q1, q2, q3, q4, q5, q6, q7, q8, q9] at hb3
    refine sw_skip ?_
    refine sO [(0, _), (1, _), (2, _), (6, _), (7, _), (8, _), (9, _), (18, _), (19, _), (20, _)] [(9, _)] ?_
    refine sw_reg ?_
    refine rA ?_ (x := B_add)
    refine rA ?_ (x := sM)
    refine Exists.intro (i + 1) (And.intro (by omega) (And.intro (by omega) (And.intro (And.intro (by exact ⟨rfl, rfl, rfl, rfl, rfl, ⟨⟩⟩) (by exact ⟨⟩)) (And.intro (by exact And.intro (by exact slc_eq (by first | (rw [alRows_yes hi (by omega), List.map_append]; rfl) | rw [alRows_no (by omega)])) (And.intro (by exact slc_eq (by rw [mvs_set hi])) (And.intro (by exact int_eq (by omega)) (True.intro)))) (by exact ⟨⟩)))))
  ·try simp only [q1, q2, q3, q4, q5, q6, q7, q8, q9] at hb2
   have hend : i = (sortF (annAll x 0) f).length := by omega
   refine sw_exit ?_
   refine sw_seq ?_
   refine sO [(0, _), (1, _), (2, _), (6, _), (7, _), (18, _), (19, _), (20, _)] [] ?_
   refine sw_reg ?_
   refine rA ?_ (x := tM)
   refine rA ?_ (x := tA)
   refine sw_ret ?_
   exact (And.intro (by refine slc_eq ?_; rw [hr, ← hend]) True.intro)
end Go.Proofs.Ytaomckpfgmhapaa
