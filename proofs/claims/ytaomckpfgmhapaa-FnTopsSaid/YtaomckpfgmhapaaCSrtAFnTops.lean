/- What functions of the program compute. No condition. -/
import Derived.Test.YtaomckpfgmhapaaCStEAFnTops
import Derived.KernelRfl
set_option linter.unusedVariables false
set_option linter.unusedSimpArgs false
namespace Go.Proofs.Ytaomckpfgmhapaa
open Go Go.RowKit M
set_option maxRecDepth 10000
attribute [local irreducible] PV.Lcl PV.LclR RV.Lcl
theorem FSrtA_c_28 : callI Try.prog 28 = true := by kernel_rfl
theorem FSrtA_c_30 : callI Try.prog 30 = true := by kernel_rfl
theorem FSrtA_c_45 : callI Try.prog 45 = true := by kernel_rfl
theorem FSrtA_c_47 : callI Try.prog 47 = true := by kernel_rfl
theorem FSrtA_c_48 : callI Try.prog 48 = true := by kernel_rfl
theorem FSrtA_c_49 : callI Try.prog 49 = true := by kernel_rfl
theorem FSrtA_c_51 : callI Try.prog 51 = true := by kernel_rfl
theorem FSrtA_c_52 : callI Try.prog 52 = true := by kernel_rfl
theorem FSrtA_fd_35_0 : fieldI Try.prog 35 0 = some 0 := by kernel_rfl
theorem FSrtA_fd_35_1 : fieldI Try.prog 35 1 = some 2 := by kernel_rfl
theorem FSrtA_pl_35 : placesI Try.prog 35 = some [(0, 2), (2, 1)] := by kernel_rfl
theorem FSrtA_sl_24 : sliceI Try.prog 24 = some (35, 3, 56) := by kernel_rfl
theorem FSrtA_ty_3 : tyI Try.prog 3 = some (false, 1) := by kernel_rfl
theorem FSrtA_ty_31 : tyI Try.prog 31 = some (false, 1) := by kernel_rfl
theorem FSrtA_ty_33 : tyI Try.prog 33 = some (true, 2) := by kernel_rfl
theorem FSrtA_ty_35 : tyI Try.prog 35 = some (true, 3) := by kernel_rfl
theorem FSrtA_z_35 : zeroI Try.prog 35 = some (.agg #[.int .i64 0, .slice none 0 0, .slice none 0 0]) := by kernel_rfl
theorem FSrtA_zo_35 {Fz : FzT} {w : World} : OwnL [PV.val (.int .i64 0), PV.sl (.own 3 1) [], PV.sl (.own 3 1) []] Fz w (Value.cells (.agg #[.int .i64 0, .slice none 0 0, .slice none 0 0])).toList [] := zo_val rfl (zo_sl (zo_sl (zo_nil)))
theorem impl_SortByField_ne {p1 p2 : Fl} {l : List Annotated} {f : Int}  (hE0 : 0 < l.length) (hb : wtAnnotatedS l ≤ 68719476736) : SCall Try.prog 21 [(false, [PV.sl .v (l.map (cAnnotated p1 p2))]), (false, [PV.val (vI f)])] (resRV [(false, [PV.sl (.own 35 3) ((sortF l f).map (cAnnotated (.own 3 1) (.own 3 1)))])]) := by
 refine scall_lo (largs := fun L => [(false, [PV.sl (.lo L) (l.map (cAnnotated (.lo L) (.lo L)))]), (false, [PV.val (vI f)])]) (rs := [(false, [PV.sl (.own 35 3) ((sortF l f).map (cAnnotated (.own 3 1) (.own 3 1)))])]) Try.func21 rfl (Nat.le_of_ble_eq_true rfl) (fun L => by exact (And.intro (And.intro rfl (ToBL.cons (PV.tob_map (fun _ => Nat.le_of_ble_eq_true rfl) (fun _ => (ToBL.cons PV.tob_refl (ToBL.cons (PV.tob_map (fun _ => Nat.le_of_ble_eq_true rfl) (fun _ => (ToBL.cons PV.tob_refl ToBL.nil))) (ToBL.cons (PV.tob_map (fun _ => Nat.le_of_ble_eq_true rfl) (fun _ => (ToBL.cons PV.tob_refl ToBL.nil))) ToBL.nil))))) ToBL.nil)) (And.intro (And.intro rfl (ToBL.cons PV.tob_refl ToBL.nil)) True.intro))) (fun L => by exact (borA_cons (BorL.cons (PV.bor_lo _ _) BorL.nil) (borA_cons (BorL.cons (PV.bor_val _) BorL.nil) borA_nil))) ?_
 intro w0 Fz0
 refine sw_len (s := 0) rfl fun hl0 => ?_
 try rw [List.length_map] at hl0
 have hbl : l.length ≤ wtAnnotatedS l := Nat.le_add_right _ _
 have hbu := hb
 simp only [wtAnnotatedS] at hbu
 refine sw_seq ?_
 refine sw_reg ?_
 refine RunS.step (by exact ⟨rfl, ⟨⟩⟩) (by exact ⟨⟩) (LocG.of rfl (loc_box (ag := false) (cs := [PV.val _]) (by decide) (by exact ⟨⟩))) (free1 (Free.of_ rfl)) ?_
 refine rA ?_ (x := loc_const (.inr rfl) (by decide) (ok_nil (t := 35) (e := 3)))
 refine sw_seq ?_
 refine sO [(0, _), (3, _), (4, _)] [(3, (3, [PV.val _]))] ?_
 refine sw_reg ?_
 refine rA ?_ (x := loc_bslice (qs := []) (by decide) FSrtA_sl_24 FSrtA_z_35 (by decide) rfl rfl rfl rfl rfl (by exact Nat.le_of_ble_eq_true rfl) (by exact ⟨⟩) rfl)
 refine rA ?_ (x := tA)
 refine sw_seq ?_
 refine sw_seq ?_
 refine sO [(0, _), (3, _), (4, _), (5, _)] [(3, _)] ?_
 refine sw_reg ?_
 refine rA ?_ (x := vM false [PV.sl (.lo _) _])
 refine rA ?_ (x := lD [PV.val _] FSrtA_ty_3)
 refine rA ?_ (x := cL [(false, [PV.sl (.lo _) _]), (false, [PV.val _])] [(false, [PV.sl .v _]), (false, [PV.val _])] FSrtA_c_28 (hs := by exact impl_annotatedOk))
 refine rA ?_ (x := nT)
 refine sw_cond (t := 12) rfl (fun hb1 => ?_) (fun hb1 => ?_)
 ·try simp only [q1, q2, q3, q4, q5, q6, q7, q8, q9] at hb1
  have hok : annOk l f = false := by simpa using hb1
  refine sw_seq ?_
  refine sO [(0, _), (3, _), (4, _), (5, _)] [(3, _)] ?_
  refine sw_reg ?_
  refine rA ?_ (x := tM)
  refine rA ?_ (x := tA)
  refine sw_ret ?_
  exact (And.intro (by refine slc_eq ?_; rw [sortF_no hok]; try rfl) True.intro)
 ·try simp only [q1, q2, q3, q4, q5, q6, q7, q8, q9] at hb1
  have hok : annOk l f = true := by simpa using hb1
  have hf := annOk_f hok
  obtain ⟨m, hm⟩ := okA_list (annOk_3 hok)
  have hml : m.length = l.length := by rw [← hm, List.length_map]
  have hm0 : 0 < m.length := by omega
  refine sw_skip ?_
  refine sw_seq ?_
  refine sw_seq ?_
  refine sO [(0, _), (3, _), (4, _), (5, _)] [(3, _)] ?_
  refine sw_reg ?_
  refine rA ?_ (x := vM false [PV.sl (.lo _) _])
  refine rA ?_ (x := lN FSrtA_sl_24)
  refine rA ?_ (x := kM)
  refine sw_block ?_
  refine sO [(0, _), (3, _), (4, _), (5, _), (14, _), (15, _), (16, _)] [(3, _)] ?_
  refine sw_loop (l0 := [(0, RV.sv false [PV.sl (.lo _) _]), (3, RV.ptr 3 0), (4, RV.sv false [PV.sl _ _]), (14, RV.sv false [PV.sl (.lo _) _]), (15, RV.sv false [PV.val _])]) (b0 := [(3, (3, [PV.val _]))]) (fun k : Nat => k ≤ l.length) (fun k : Nat => [(5, RV.slc (.own 35 3) ((m.take k).map (fun x : OkA => cAnnotated (.own 3 1) (.own 3 1) x.1))), (16, RV.int (k : Int))]) (fun k : Nat => []) (fun k : Nat => l.length - k) 0 (by omega) (by exact ⟨rfl, rfl, rfl, rfl, rfl, ⟨⟩⟩) (by exact ⟨rfl, ⟨⟩⟩) (by exact And.intro (by first | exact rfl | simp) (And.intro (by exact rfl) (True.intro))) (by exact ⟨⟩) ?_
  rintro k hk
  refine sw_seq ?_
  refine sw_reg ?_
  refine rA ?_ (x := B_lss)
  refine sw_seq ?_
  refine sw_cond (t := 17) rfl (fun hb2 => ?_) (fun hb2 => ?_)
  ·try simp only [q1, q2, q3, q4, q5, q6, q7, q8, q9] at hb2
   have hlt : k < l.length := by omega
   have hwm := wt_mem (f := wtAnnotated) hlt
   simp only [wtAnnotated, wtIntS_len] at hwm
   have hmk : k < m.length := by omega
   have htl : (m.take k).length = k := by rw [List.length_take]; omega
   refine sw_skip ?_
   refine sw_seq ?_
   refine sw_block ?_
   refine sw_seq ?_
   refine sO [(0, _), (3, _), (4, _), (5, _), (14, _), (15, _), (16, _)] [(3, (3, [PV.val _]))] ?_
   refine sw_reg ?_
   refine rA ?_ (x := loc_index (by decide) FSrtA_sl_24 (by exact ⟨⟩) (by exact rfl) (by exact getm2 (by omega) rfl) (by exact rfl))
   refine rA ?_ (x := lE [PV.val _, PV.sl (.lo _) _, PV.sl (.lo _) _] FSrtA_ty_35)
   refine RunS.step (by exact ⟨⟩) (by exact ⟨⟩) (LocG.of rfl (loc_alloc (by decide) FSrtA_z_35 FSrtA_zo_35)) (free1 (Free.app (Free.app (Free.of_ rfl) rfl) rfl)) ?_
   refine rA ?_ (x := loc_store (ag := true) (vs := [PV.val _, PV.sl (.lo _) _, PV.sl (.lo _) _]) FSrtA_ty_35 (by exact ⟨⟩) (by exact rfl) (by exact Nat.le_of_ble_eq_true rfl))
   refine sO [(0, _), (3, _), (4, _), (5, _), (7, _), (14, _), (15, _), (16, _)] [(3, _), (7, (35, [PV.val _, PV.sl (.lo _) _, PV.sl (.lo _) _]))] ?_
   refine sw_draw hm_ ?_
   refine dA 0 ?_ (x := tM)
   refine dA 0 ?_ (x := lF FSrtA_fd_35_0)
   refine dA 2 ?_ (x := lD [PV.val _, PV.sl (.lo _) _] FSrtA_ty_33)
   refine dA 6 ?_ (x := cL [(true, [PV.val _, PV.sl (.lo _) _])] [(true, [PV.val _, PV.sl .v _])] FSrtA_c_45 (hs := by exact impl_copyRow (by omega)))
   refine dA 0 ?_ (x := lF FSrtA_fd_35_1)
   refine dA 16 ?_ (x := lD [PV.sl (.lo _) _] FSrtA_ty_31)
   refine dA 62 ?_ (x := cL [(false, [PV.sl (.lo _) _])] [(false, [PV.sl .v _])] FSrtA_c_47 (hs := by exact impl_copyInts (by omega)))
   refine dA 126 ?_ (x := loc_build (qs := [(true, [PV.val _, PV.sl _ _]), (false, [PV.sl _ _])]) (cs := [PV.val _, PV.sl _ _, PV.sl _ _]) (by decide) FSrtA_z_35 FSrtA_zo_35 FSrtA_pl_35 (by exact rfl) (by exact (And.intro (by exact ⟨⟩) (And.intro (by exact ⟨⟩) True.intro))) rfl (by exact rfl))
   refine dA 254 ?_ (x := loc_bslice (qs := [(true, [PV.val _, PV.sl _ _, PV.sl _ _])]) (by decide) FSrtA_sl_24 FSrtA_z_35 (by decide) rfl rfl rfl rfl rfl (by exact Nat.le_of_ble_eq_true rfl) (by exact (And.intro (by exact ⟨⟩) True.intro)) rfl)
   refine dA 511 ?_ (x := loc_append (by decide) FSrtA_sl_24 FSrtA_z_35 rfl rfl (by decide) rfl (by simp only [List.length_map, List.length_append, List.length_cons, List.length_nil]; omega) (by simp only [List.length_map, List.length_append, List.length_cons, List.length_nil]; omega))
   refine dA 1023 ?_ (x := tA)
   refine sO [(0, _), (3, _), (4, _), (5, _), (7, _), (14, _), (15, _), (16, _)] [(3, _), (7, _)] ?_
   refine sw_reg ?_
   refine rA ?_ (x := B_add)
   refine rA ?_ (x := sM)
   refine Exists.intro (k + 1) (And.intro (by omega) (And.intro (by omega) (And.intro (And.intro (by exact ⟨rfl, rfl, rfl, rfl, rfl, ⟨⟩⟩) (by exact ⟨rfl, ⟨⟩⟩)) (And.intro (by exact And.intro (by exact slc_eq (by rw [tk_succ hmk, List.map_append, ← okA_at hm hmk hlt]; rfl)) (And.intro (by exact rfl) (True.intro))) (by exact ⟨⟩)))))
  ·try simp only [q1, q2, q3, q4, q5, q6, q7, q8, q9] at hb2
   have htm : m.take k = m := List.take_of_length_le (by omega)
   rw [htm]
   refine sw_exit ?_
   refine sw_seq ?_
   refine sO [(0, _), (3, _), (4, _), (5, _), (14, _), (15, _), (16, _)] [(3, (3, [PV.val _]))] ?_
   refine sw_thawS (s := 5) (D := 900) (G := 2900) (E := 35) (e := 3) (L := (Lw w0.heap.size)) (es := (m).map (fun x : OkA => cAnnotated (.own 3 1) (.own 3 1) x.1)) (by exact rfl) (map_ne hm0) (by exact rfl) (by exact rfl) rfl (by exact rfl) (fun x hx => hx) (by exact (And.intro (.inr (RV.lcl_sv (LclC.cons (PV.lcl_lo (LclRC.map fun x => (LclRC.cons PV.lclr_val (LclRC.cons (PV.lclr_lo (LclRC.map fun x => (LclRC.cons PV.lclr_val LclRC.nil))) (LclRC.cons (PV.lclr_lo (LclRC.map fun x => (LclRC.cons PV.lclr_val LclRC.nil))) LclRC.nil))))) LclC.nil))) (And.intro (.inr RV.lcl_ptr) (And.intro (.inr (RV.lcl_sv (LclC.cons (PV.lcl_own (by first | exact (LclC.map fun x => (LclC.cons PV.lcl_val (LclC.cons (PV.lcl_own (LclC.map fun x => (LclC.cons PV.lcl_val LclC.nil))) (LclC.cons (PV.lcl_own (LclC.map fun x => (LclC.cons PV.lcl_val LclC.nil))) LclC.nil)))) | exact (fun cs h => nomatch h))) LclC.nil))) (And.intro (.inl rfl) (And.intro (.inr (RV.lcl_sv (LclC.cons (PV.lcl_lo (LclRC.map fun x => (LclRC.cons PV.lclr_val (LclRC.cons (PV.lclr_lo (LclRC.map fun x => (LclRC.cons PV.lclr_val LclRC.nil))) (LclRC.cons (PV.lclr_lo (LclRC.map fun x => (LclRC.cons PV.lclr_val LclRC.nil))) LclRC.nil))))) LclC.nil))) (And.intro (.inr (RV.lcl_sv (LclC.cons PV.lcl_val LclC.nil))) (And.intro (.inr (RV.lcl_sv (LclC.cons PV.lcl_val LclC.nil))) True.intro)))))))) (by exact (And.intro (LclC.cons PV.lcl_val LclC.nil) True.intro)) (LclC.map fun x => (LclC.cons PV.lcl_val (LclC.cons (PV.lcl_own (LclC.map fun x => (LclC.cons PV.lcl_val LclC.nil))) (LclC.cons (PV.lcl_own (LclC.map fun x => (LclC.cons PV.lcl_val LclC.nil))) LclC.nil)))) fun uu900 cp900 jk900 hlD900 hcp900 hjk900 => ?_
   rw [List.length_map] at hlD900 hcp900 hjk900
   refine sw_boxEq (d := 900) (by exact rfl) (show _ = arr (fun x : OkA => cAnnotated (.own 3 1) (.own 3 1) x.1) (m) jk900 from rfl) ?_
   refine sO [(0, _), (3, _), (4, _), (5, _), (14, _), (15, _), (16, _), (2900, _)] [(3, _), (900, (35, arr (fun x : OkA => cAnnotated (.own 3 1) (.own 3 1) x.1) _ _))] ?_
   refine sw_lendA (d := 900) (G := 4900) (e := 3) (f := (fun x : OkA => cAnnotated (.own 3 1) (.own 3 1) x.1)) (g := (fun x : OkA => cAnnotated .v .v x.1)) (fN := nAnnotated) (by exact rfl) (by exact rfl) (fun _ _ => rfl) (fun _ => rfl) (fun _ => (ToL.cons (PV.To.refl _) (ToL.cons PV.to_none (ToL.cons PV.to_none ToL.nil)))) (fun _ => (BorL.cons (PV.bor_val _) (BorL.cons (PV.bor_sl _) (BorL.cons (PV.bor_sl _) BorL.nil)))) fun zs900 hz900 => ?_
   refine sO [(0, _), (3, _), (4, _), (5, _), (14, _), (15, _), (16, _), (2900, _), (4900, _)] [(3, _), (900, (35, arr nAnnotated _ _))] ?_
   refine sw_frzB (s := 3) (b := 3) (by exact rfl) (by exact rfl) ?_
   refine sO [(0, _), (3, _), (4, _), (5, _), (14, _), (15, _), (16, _), (2900, _), (4900, _)] [(900, _)] ?_
   refine sw_reg ?_
   refine rA ?_ (x := vM false [PV.val _])
   refine rA ?_ (x := loc_mkfn (asf := (as2 (fun x : OkA => (true, [PV.val (vI x.1.Row.Id), PV.sl .v (x.1.Row.Values.map cInt), PV.sl .v (x.1.Set.map cInt)])))) (rf := (rsI (qA f))) (qs := [(false, [PV.ep [PV.val _]])]) (caps := [(false, [PV.ep [PV.val _]])]) (by decide) FSrtA_c_49 (by exact (And.intro (by exact ⟨⟩) True.intro)) (by exact (And.intro (And.intro rfl (ToL.cons (PV.To.refl _) ToL.nil)) True.intro)) (fun x => by exact (impl_SortByField_1 x.1.2 x.2.2 hf)))
   refine rA ?_ (x := loc_acall0 (bx := 900) (G := 2900) (qs := [(false, [PV.clo _ _ _])]) (as_ := [(false, [PV.clo _ _ _])]) (by decide) FSrtA_c_48 rfl (by exact (And.intro (by exact ⟨⟩) True.intro)) (by exact (And.intro (And.intro rfl (ToL.cons (PV.To.refl _) ToL.nil)) True.intro)) (bor_arr bor_nAnnotated _ _) (by exact (borA_cons (BorL.cons (PV.bor_clo _ _) BorL.nil) borA_nil)) (by exact (sst_Annotated (by have e_ := congrArg List.length hz900; rw [List.length_map] at e_; first | omega | (rw [List.length_map]; omega)) (qA_ok f).ordC (qA_ok f).irrC (by have e_ := congrArg List.length hz900; rw [List.length_map] at e_; first | omega | (rw [List.length_map]; omega)))))
   refine sw_backA (d := 900) (G := 4900) (e := 3) (f := (fun x : OkA => cAnnotated (.own 3 1) (.own 3 1) x.1)) (g := (fun x : OkA => cAnnotated .v .v x.1)) (fN := nAnnotated) (by exact rfl) (by exact rfl) (fun _ _ => rfl) (fun _ => rfl) (fun _ => rfl) (by exact perm_isort _) ?_
   refine sw_boxEq (d := 900) (by exact rfl) (congrArg (fun z_ => arr (fun x : OkA => cAnnotated (.own 3 1) (.own 3 1) x.1) z_ jk900) ((isortC _).trans (congrArg _ hz900))) ?_
   refine sw_frzS (s := 5) (D := 900) (G := 2900) (e := 3) (es := (isort (lessQ (qA f)) m).map (fun x : OkA => cAnnotated (.own 3 1) (.own 3 1) x.1)) (by exact rfl) (by exact rfl) (by exact rfl) rfl (by decide) (by rw [List.length_map, isort_len, List.length_map]) (by intro c hc; obtain ⟨y, _, rfl⟩ := List.mem_map.1 hc; exact rfl) (by rw [List.length_map]; exact hjk900) ?_
   refine sw_seq ?_
   refine sO [(0, _), (3, _), (4, _), (5, _), (14, _), (15, _), (16, _)] [] ?_
   refine sw_reg ?_
   refine rA ?_ (x := tM)
   refine rA ?_ (x := tA)
   refine sw_ret ?_
   exact (And.intro (by refine slc_eq ?_; rw [sortF_ok hok, ← okA_sort hm, List.map_map]; rfl) True.intro)
theorem impl_SortByField {p1 p2 : Fl} {l : List Annotated} {f : Int}  (hb : wtAnnotatedS l ≤ 68719476736) : SCall Try.prog 21 [(false, [PV.sl .v (l.map (cAnnotated p1 p2))]), (false, [PV.val (vI f)])] (resRV [(false, [PV.sl (.own 35 3) ((sortF l f).map (cAnnotated (.own 3 1) (.own 3 1)))])]) := by
 by_cases hE0 : l = []
 ·exact (impl_SortByField_nil hE0 hb)
 ·exact (impl_SortByField_ne (by have := mt List.length_eq_zero_iff.1 hE0; omega) hb)
theorem spec_SortByField {p1 p2 : Fl} {l : List Annotated} {f : Int}  (hb : wtAnnotatedS l ≤ 68719476736) : SCall Try.prog 22 [(false, [PV.sl .v (l.map (cAnnotated p1 p2))]), (false, [PV.val (vI f)])] (resRV [(false, [PV.sl (.own 35 3) ((sortF l f).map (cAnnotated .v .v))])]) := by
 refine scall_of (rs := [(false, [PV.sl (.own 35 3) ((sortF l f).map (cAnnotated .v .v))])]) Try.func22 rfl (Nat.le_of_ble_eq_true rfl) (borA_cons (BorL.cons (PV.bor_sl _) BorL.nil) (borA_cons (BorL.cons (PV.bor_val _) BorL.nil) borA_nil)) ?_
 intro h0 w0 Fz0
 refine sw_len (s := 0) rfl fun hl0 => ?_
 try rw [List.length_map] at hl0
 have hbl : l.length ≤ wtAnnotatedS l := Nat.le_add_right _ _
 have hbu := hb
 simp only [wtAnnotatedS] at hbu
 refine sw_seq ?_
 refine sw_reg ?_
 refine rA ?_ (x := loc_const (.inr rfl) (by decide) (ok_nil (t := 35) (e := 3)))
 refine sw_seq ?_
 refine sO [(0, _), (1, _), (4, _)] [] ?_
 refine sw_reg ?_
 refine rA ?_ (x := loc_bslice (qs := []) (by decide) FSrtA_sl_24 FSrtA_z_35 (by decide) rfl rfl rfl rfl rfl (by exact Nat.le_of_ble_eq_true rfl) (by exact ⟨⟩) rfl)
 refine rA ?_ (x := tA)
 refine sw_seq ?_
 refine sw_seq ?_
 refine sO [(0, _), (1, _), (4, _), (5, _)] [] ?_
 refine sw_reg ?_
 refine rA ?_ (x := vM false [PV.sl .v _])
 refine rA ?_ (x := sM)
 refine rA ?_ (x := cL [(false, [PV.sl _ _]), (false, [PV.val _])] [(false, [PV.sl .v _]), (false, [PV.val _])] FSrtA_c_30 (hs := by exact spec_l15Fine))
 refine rA ?_ (x := nT)
 refine sw_cond (t := 13) rfl (fun hb1 => ?_) (fun hb1 => ?_)
 ·try simp only [q1, q2, q3, q4, q5, q6, q7, q8, q9] at hb1
  have hok : annOk l f = false := by simpa using hb1
  refine sw_seq ?_
  refine sO [(0, _), (1, _), (4, _), (5, _)] [] ?_
  refine sw_reg ?_
  refine rA ?_ (x := tM)
  refine rA ?_ (x := tA)
  refine sw_ret ?_
  exact (And.intro (by refine slc_eq ?_; rw [sortF_no hok]; try rfl) True.intro)
 ·try simp only [q1, q2, q3, q4, q5, q6, q7, q8, q9] at hb1
  have hok : annOk l f = true := by simpa using hb1
  have hf := annOk_f hok
  refine sw_skip ?_
  refine sw_seq ?_
  refine sw_seq ?_
  refine sO [(0, _), (1, _), (4, _), (5, _)] [] ?_
  refine sw_reg ?_
  refine rA ?_ (x := kA)
  refine sw_block ?_
  refine sO [(0, _), (1, _), (4, _), (5, _), (6, _)] [] ?_
  refine sw_loop (l0 := [(0, RV.sv false [PV.sl _ _]), (1, RV.sv false [PV.val _]), (4, RV.sv false [PV.sl _ _])]) (b0 := []) (fun i : Nat => i ≤ l.length) (fun i : Nat => [(5, RV.slc (.own 35 3) (((isort (lessQ (cmpF f)) (l.take i))).map (cAnnotated .v .v))), (6, RV.int (i : Int))]) (fun i : Nat => []) (fun i : Nat => l.length - i) 0 (by omega) (by exact ⟨rfl, rfl, rfl, ⟨⟩⟩) (by exact ⟨⟩) (by exact And.intro (by exact rfl) (And.intro (by exact rfl) (True.intro))) (by exact ⟨⟩) ?_
  rintro i hk
  have hll : (isort (lessQ (cmpF f)) (l.take i)).length = i := by rw [isort_len, List.length_take]; omega
  refine sw_seq ?_
  refine sw_seq ?_
  refine sw_reg ?_
  refine rA ?_ (x := sM)
  refine rA ?_ (x := vM false [PV.sl .v _])
  refine rA ?_ (x := lN FSrtA_sl_24)
  refine rA ?_ (x := B_lss)
  refine sw_cond (t := 18) rfl (fun hb2 => ?_) (fun hb2 => ?_)
  ·try simp only [q1, q2, q3, q4, q5, q6, q7, q8, q9] at hb2
   have hlt : i < l.length := by omega
   have hwm := wt_mem (f := wtAnnotated) hlt
   refine sw_skip ?_
   refine sw_seq ?_
   refine sw_block ?_
   refine sw_seq ?_
   refine sO [(0, _), (1, _), (4, _), (5, _), (6, _)] [] ?_
   refine sw_reg ?_
   refine rA ?_ (x := vM false [PV.sl .v _])
   refine rA ?_ (x := lN FSrtA_sl_24)
   refine rA ?_ (x := sA)
   refine sw_seq ?_
   refine sw_block ?_
   refine sO [(0, _), (1, _), (4, _), (5, _), (6, _), (7, _)] [] ?_
   refine sw_loop (l0 := [(0, RV.sv false [PV.sl _ _]), (1, RV.sv false [PV.val _]), (4, RV.sv false [PV.sl _ _]), (5, RV.sv false [PV.sl _ _]), (6, RV.sv false [PV.val _])]) (b0 := []) (fun j : Nat => j ≤ i ∧ ∀ t : Nat, j ≤ t → (h : t < (isort (lessQ (cmpF f)) (l.take i)).length) → (lessQ (cmpF f)) l[i] (isort (lessQ (cmpF f)) (l.take i))[t] = true) (fun j : Nat => [(7, RV.int (j : Int))]) (fun j : Nat => []) (fun j : Nat => j) i (by exact ⟨Nat.le_refl _, fun t h1 h2 => by omega⟩) (by exact ⟨rfl, rfl, rfl, rfl, rfl, ⟨⟩⟩) (by exact ⟨⟩) (by exact And.intro (by exact int_eq (by first | rfl | (rw [List.length_map]; omega) | omega)) (True.intro)) (by exact ⟨⟩) ?_
   rintro j ⟨hj, haj⟩
   refine sw_seq ?_
   refine sw_seq ?_
   refine sw_draw hm_ ?_
   refine dA 0 ?_ (x := sM)
   refine dA 1 ?_ (x := B_gtr)
   refine dA 3 ?_ (x := sM)
   refine Run.cases (s := 25) rfl (fun g3 => ?_) (fun g3 => ?_)
   ·have sg3 := g3
    try simp only [q1, q2, q3, q4, q5, q6, q7, q8, q9] at sg3
    refine dB 7 g3 ?_ (x := vM false [PV.sl .v _])
    refine dB 7 g3 ?_ (x := sM)
    refine dB 31 g3 ?_ (x := loc_index (by decide) FSrtA_sl_24 (by exact ⟨⟩) (by exact rfl) (by exact getm2 (by omega) rfl) (by exact rfl))
    refine dB 63 g3 ?_ (x := loc_efield (by decide) FSrtA_fd_35_0 (by exact Nat.le_of_ble_eq_true rfl))
    refine dB 127 g3 ?_ (x := lE [PV.val _, PV.sl .v _] FSrtA_ty_33)
    refine dB 7 g3 ?_ (x := vM false [PV.sl .v _])
    refine dB 7 g3 ?_ (x := sM)
    refine dB 519 g3 ?_ (x := B_sub)
    refine dB 1799 g3 ?_ (x := loc_index (k := j - 1) (by decide) FSrtA_sl_24 (by exact ⟨⟩) (by omega) (by exact getm2 (by omega) rfl) (by exact rfl))
    refine dB 3847 g3 ?_ (x := loc_efield (by decide) FSrtA_fd_35_0 (by exact Nat.le_of_ble_eq_true rfl))
    refine dB 7943 g3 ?_ (x := lE [PV.val _, PV.sl .v _] FSrtA_ty_33)
    refine dB 7 g3 ?_ (x := sM)
    refine dB 32767 g3 ?_ (x := cL [(true, [PV.val _, PV.sl _ _]), (true, [PV.val _, PV.sl _ _]), (false, [PV.val _])] [(true, [PV.val _, PV.sl .v _]), (true, [PV.val _, PV.sl .v _]), (false, [PV.val _])] FSrtA_c_51 (hs := by exact (spec_l15Less (annOk_3 hok _ (List.getElem_mem _)) (annOk_3 hok _ (isort_tmem (List.getElem_mem _))) hf)))
    refine dA 65535 ?_ (x := pkT g3)
    refine sw_cond (t := 39) rfl (fun hb4 => ?_) (fun hb4 => ?_)
    ·try simp only [q1, q2, q3, q4, q5, q6, q7, q8, q9] at hb4
     have hj1 : 1 ≤ j := by omega
     have hlt2 : (lessQ (cmpF f)) l[i] ((isort (lessQ (cmpF f)) (l.take i))[j - 1]'(by omega)) = true := (show lessQ (cmpFR f) (l[i]).Row (((isort (lessQ (cmpF f)) (l.take i))[j - 1]'(by omega))).Row = true by simpa using hb4)
     refine sw_skip ?_
     refine sw_block ?_
     refine sO [(0, _), (1, _), (4, _), (5, _), (6, _), (7, _)] [] ?_
     refine sw_reg ?_
     refine rA ?_ (x := sM)
     refine rA ?_ (x := B_sub)
     refine rA ?_ (x := sA)
     refine Exists.intro (j - 1) (And.intro (by exact ⟨by omega, fun t h1 h2 => by by_cases e : t = j - 1; (· subst e; exact hlt2); (· exact haj t (by omega) h2)⟩) (And.intro (by omega) (And.intro (And.intro (by exact ⟨rfl, rfl, rfl, rfl, rfl, ⟨⟩⟩) (by exact ⟨⟩)) (And.intro (by exact And.intro (by exact int_eq (by omega)) (True.intro)) (by exact ⟨⟩)))))
    ·try simp only [q1, q2, q3, q4, q5, q6, q7, q8, q9] at hb4
     have htj : ((isort (lessQ (cmpF f)) (l.take i)).take j).length = j := by rw [List.length_take]; omega
     have hdj : ((isort (lessQ (cmpF f)) (l.take i)).drop j).length = i - j := by rw [List.length_drop]; omega
     have hst : j = 0 ∨ ∀ h : j - 1 < (isort (lessQ (cmpF f)) (l.take i)).length, (lessQ (cmpF f)) l[i] (isort (lessQ (cmpF f)) (l.take i))[j - 1] = false := by first | exact .inl (by omega) | (by_cases h0 : j = 0; exact .inl h0; right; intro _; exact (show lessQ (cmpFR f) (l[i]).Row ((isort (lessQ (cmpF f)) (l.take i))[j - 1]).Row = false by simpa using hb4))
     have hins : isort (lessQ (cmpF f)) (l.take (i + 1)) = (isort (lessQ (cmpF f)) (l.take i)).take j ++ l[i] :: (isort (lessQ (cmpF f)) (l.take i)).drop j := by rw [List.take_succ_eq_append_getElem hlt, isort_snoc, ins_scan (cmpF_ok f).ord (sorted_isort (cmpF_ok f).ord (cmpF_ok f).irr _) (by omega) haj hst]
     refine sw_exit ?_
     refine sw_seq ?_
     refine sO [(0, _), (1, _), (4, _), (5, _), (6, _), (7, _)] [] ?_
     refine sw_reg ?_
     refine rA ?_ (x := loc_bslice (qs := []) (by decide) FSrtA_sl_24 FSrtA_z_35 (by decide) rfl rfl rfl rfl rfl (by exact Nat.le_of_ble_eq_true rfl) (by exact ⟨⟩) rfl)
     refine rA ?_ (x := vM false [PV.sl .v _])
     refine rA ?_ (x := sM)
     refine rA ?_ (x := loc_sliceM (i := 0) (j := j) (ys := ((isort (lessQ (cmpF f)) (l.take i)).take j)) (q := (0 : Int)) (by decide) FSrtA_sl_24 (by exact rfl) (by exact ⟨⟩) (by omega) (by omega) (by omega) (by omega) (fun _ => rfl) (by simp))
     refine rA ?_ (x := loc_appendb (by decide) FSrtA_sl_24 FSrtA_z_35 rfl rfl (by decide) (by first | (intro cs hcs; obtain ⟨x, _, rfl⟩ := List.mem_map.1 hcs; exact rfl) | simp) (by first | (intro cs hcs; obtain ⟨x, _, rfl⟩ := List.mem_map.1 hcs; exact (BorL.cons (PV.bor_val _) (BorL.cons (PV.bor_sl _) (BorL.cons (PV.bor_sl _) BorL.nil)))) | simp) (by simp only [List.length_map, List.length_append, List.length_cons, List.length_nil]; omega) (by simp only [List.length_map, List.length_append, List.length_cons, List.length_nil]; omega))
     refine rA ?_ (x := tA)
     refine sw_seq ?_
     refine sO [(0, _), (1, _), (4, _), (5, _), (6, _), (7, _), (8, _)] [] ?_
     refine sw_reg ?_
     refine rA ?_ (x := tM)
     refine rA ?_ (x := vM false [PV.sl .v _])
     refine rA ?_ (x := sM)
     refine rA ?_ (x := loc_index (by decide) FSrtA_sl_24 (by exact ⟨⟩) (by exact rfl) (by exact getm2 (by omega) rfl) (by exact rfl))
     refine rA ?_ (x := lE [PV.val _, PV.sl .v _, PV.sl .v _] FSrtA_ty_35)
     refine rA ?_ (x := cL [(true, [PV.val _, PV.sl _ _, PV.sl _ _])] [(true, [PV.val _, PV.sl .v _, PV.sl .v _])] FSrtA_c_52 (hs := by exact (SCall.view (ag := true) (ToL.cons (PV.To.refl _) (ToL.cons PV.to_none (ToL.cons PV.to_none ToL.nil))) (BorL.cons (PV.bor_val _) (BorL.cons (PV.bor_sl _) (BorL.cons (PV.bor_sl _) BorL.nil))) ((spec_l15Copy (by omega))))))
     refine rA ?_ (x := loc_bslice (qs := [(true, [PV.val _, PV.sl _ _, PV.sl _ _])]) (by decide) FSrtA_sl_24 FSrtA_z_35 (by decide) rfl rfl rfl rfl rfl (by exact Nat.le_of_ble_eq_true rfl) (by exact (And.intro (by exact ⟨⟩) True.intro)) rfl)
     refine rA ?_ (x := loc_append (by decide) FSrtA_sl_24 FSrtA_z_35 rfl rfl (by decide) rfl (by simp only [List.length_map, List.length_append, List.length_cons, List.length_nil]; omega) (by simp only [List.length_map, List.length_append, List.length_cons, List.length_nil]; omega))
     refine rA ?_ (x := tA)
     refine sO [(0, _), (1, _), (4, _), (5, _), (6, _), (7, _), (8, _)] [] ?_
     refine sw_reg ?_
     refine rA ?_ (x := tM)
     refine rA ?_ (x := vM false [PV.sl .v _])
     refine rA ?_ (x := sM)
     refine rA ?_ (x := loc_sliceM (i := j) (j := (isort (lessQ (cmpF f)) (l.take i)).length) (ys := ((isort (lessQ (cmpF f)) (l.take i)).drop j)) (r := (((isort (lessQ (cmpF f)) (l.take i)).length : Nat) : Int)) (by decide) FSrtA_sl_24 (by exact ⟨⟩) (by exact rfl) (by omega) (by omega) (by omega) (by omega) (fun _ => rfl) (by rw [List.take_length]))
     refine rA ?_ (x := loc_appendb (by decide) FSrtA_sl_24 FSrtA_z_35 rfl rfl (by decide) (by first | (intro cs hcs; obtain ⟨x, _, rfl⟩ := List.mem_map.1 hcs; exact rfl) | simp) (by first | (intro cs hcs; obtain ⟨x, _, rfl⟩ := List.mem_map.1 hcs; exact (BorL.cons (PV.bor_val _) (BorL.cons (PV.bor_sl _) (BorL.cons (PV.bor_sl _) BorL.nil)))) | simp) (by simp only [List.length_map, List.length_append, List.length_cons, List.length_nil]; omega) (by simp only [List.length_map, List.length_append, List.length_cons, List.length_nil]; omega))
     refine rA ?_ (x := tA)
     refine sO [(0, _), (1, _), (4, _), (5, _), (6, _), (7, _)] [] ?_
     refine sw_reg ?_
     refine rA ?_ (x := sM)
     refine rA ?_ (x := B_add)
     refine rA ?_ (x := sA)
     refine Exists.intro (i + 1) (And.intro (by omega) (And.intro (by omega) (And.intro (And.intro (by exact ⟨rfl, rfl, rfl, ⟨⟩⟩) (by exact ⟨⟩)) (And.intro (by exact And.intro (by exact slc_eq (by rw [hins]; simp only [List.map_append, List.map_cons, List.map_nil, List.append_assoc, List.nil_append, List.cons_append]; try rfl)) (And.intro (by exact int_eq (by omega)) (True.intro))) (by exact ⟨⟩)))))
   ·have sg3 := g3
    try simp only [q1, q2, q3, q4, q5, q6, q7, q8, q9] at sg3
    refine dF 7 g3 ?_
    refine dF 7 g3 ?_
    refine dF 31 g3 ?_
    refine dF 63 g3 ?_
    refine dF 127 g3 ?_
    refine dF 7 g3 ?_
    refine dF 7 g3 ?_
    refine dF 519 g3 ?_
    refine dF 1799 g3 ?_
    refine dF 3847 g3 ?_
    refine dF 7943 g3 ?_
    refine dF 7 g3 ?_
    refine dF 32767 g3 ?_
    refine dA 65535 ?_ (x := pkF g3)
    refine sw_cond (t := 39) rfl (fun hb_ => nomatch hb_) (fun hb_ => ?_)
    have htj : ((isort (lessQ (cmpF f)) (l.take i)).take j).length = j := by rw [List.length_take]; omega
    have hdj : ((isort (lessQ (cmpF f)) (l.take i)).drop j).length = i - j := by rw [List.length_drop]; omega
    have hst : j = 0 ∨ ∀ h : j - 1 < (isort (lessQ (cmpF f)) (l.take i)).length, (lessQ (cmpF f)) l[i] (isort (lessQ (cmpF f)) (l.take i))[j - 1] = false := by first | exact .inl (by omega) | (by_cases h0 : j = 0; exact .inl h0; right; intro _; exact (show lessQ (cmpFR f) (l[i]).Row ((isort (lessQ (cmpF f)) (l.take i))[j - 1]).Row = false by simpa using hb_))
    have hins : isort (lessQ (cmpF f)) (l.take (i + 1)) = (isort (lessQ (cmpF f)) (l.take i)).take j ++ l[i] :: (isort (lessQ (cmpF f)) (l.take i)).drop j := by rw [List.take_succ_eq_append_getElem hlt, isort_snoc, ins_scan (cmpF_ok f).ord (sorted_isort (cmpF_ok f).ord (cmpF_ok f).irr _) (by omega) haj hst]
    refine sw_exit ?_
    refine sw_seq ?_
    refine sO [(0, _), (1, _), (4, _), (5, _), (6, _), (7, _)] [] ?_
    refine sw_reg ?_
    refine rA ?_ (x := loc_bslice (qs := []) (by decide) FSrtA_sl_24 FSrtA_z_35 (by decide) rfl rfl rfl rfl rfl (by exact Nat.le_of_ble_eq_true rfl) (by exact ⟨⟩) rfl)
    refine rA ?_ (x := vM false [PV.sl .v _])
    refine rA ?_ (x := sM)
    refine rA ?_ (x := loc_sliceM (i := 0) (j := j) (ys := ((isort (lessQ (cmpF f)) (l.take i)).take j)) (q := (0 : Int)) (by decide) FSrtA_sl_24 (by exact rfl) (by exact ⟨⟩) (by omega) (by omega) (by omega) (by omega) (fun _ => rfl) (by simp))
    refine rA ?_ (x := loc_appendb (by decide) FSrtA_sl_24 FSrtA_z_35 rfl rfl (by decide) (by first | (intro cs hcs; obtain ⟨x, _, rfl⟩ := List.mem_map.1 hcs; exact rfl) | simp) (by first | (intro cs hcs; obtain ⟨x, _, rfl⟩ := List.mem_map.1 hcs; exact (BorL.cons (PV.bor_val _) (BorL.cons (PV.bor_sl _) (BorL.cons (PV.bor_sl _) BorL.nil)))) | simp) (by simp only [List.length_map, List.length_append, List.length_cons, List.length_nil]; omega) (by simp only [List.length_map, List.length_append, List.length_cons, List.length_nil]; omega))
    refine rA ?_ (x := tA)
    refine sw_seq ?_
    refine sO [(0, _), (1, _), (4, _), (5, _), (6, _), (7, _), (8, _)] [] ?_
    refine sw_reg ?_
    refine rA ?_ (x := tM)
    refine rA ?_ (x := vM false [PV.sl .v _])
    refine rA ?_ (x := sM)
    refine rA ?_ (x := loc_index (by decide) FSrtA_sl_24 (by exact ⟨⟩) (by exact rfl) (by exact getm2 (by omega) rfl) (by exact rfl))
    refine rA ?_ (x := lE [PV.val _, PV.sl .v _, PV.sl .v _] FSrtA_ty_35)
    refine rA ?_ (x := cL [(true, [PV.val _, PV.sl _ _, PV.sl _ _])] [(true, [PV.val _, PV.sl .v _, PV.sl .v _])] FSrtA_c_52 (hs := by exact (SCall.view (ag := true) (ToL.cons (PV.To.refl _) (ToL.cons PV.to_none (ToL.cons PV.to_none ToL.nil))) (BorL.cons (PV.bor_val _) (BorL.cons (PV.bor_sl _) (BorL.cons (PV.bor_sl _) BorL.nil))) ((spec_l15Copy (by omega))))))
    refine rA ?_ (x := loc_bslice (qs := [(true, [PV.val _, PV.sl _ _, PV.sl _ _])]) (by decide) FSrtA_sl_24 FSrtA_z_35 (by decide) rfl rfl rfl rfl rfl (by exact Nat.le_of_ble_eq_true rfl) (by exact (And.intro (by exact ⟨⟩) True.intro)) rfl)
    refine rA ?_ (x := loc_append (by decide) FSrtA_sl_24 FSrtA_z_35 rfl rfl (by decide) rfl (by simp only [List.length_map, List.length_append, List.length_cons, List.length_nil]; omega) (by simp only [List.length_map, List.length_append, List.length_cons, List.length_nil]; omega))
    refine rA ?_ (x := tA)
    refine sO [(0, _), (1, _), (4, _), (5, _), (6, _), (7, _), (8, _)] [] ?_
    refine sw_reg ?_
    refine rA ?_ (x := tM)
    refine rA ?_ (x := vM false [PV.sl .v _])
    refine rA ?_ (x := sM)
    refine rA ?_ (x := loc_sliceM (i := j) (j := (isort (lessQ (cmpF f)) (l.take i)).length) (ys := ((isort (lessQ (cmpF f)) (l.take i)).drop j)) (r := (((isort (lessQ (cmpF f)) (l.take i)).length : Nat) : Int)) (by decide) FSrtA_sl_24 (by exact ⟨⟩) (by exact rfl) (by omega) (by omega) (by omega) (by omega) (fun _ => rfl) (by rw [List.take_length]))
    refine rA ?_ (x := loc_appendb (by decide) FSrtA_sl_24 FSrtA_z_35 rfl rfl (by decide) (by first | (intro cs hcs; obtain ⟨x, _, rfl⟩ := List.mem_map.1 hcs; exact rfl) | simp) (by first | (intro cs hcs; obtain ⟨x, _, rfl⟩ := List.mem_map.1 hcs; exact (BorL.cons (PV.bor_val _) (BorL.cons (PV.bor_sl _) (BorL.cons (PV.bor_sl _) BorL.nil)))) | simp) (by simp only [List.length_map, List.length_append, List.length_cons, List.length_nil]; omega) (by simp only [List.length_map, List.length_append, List.length_cons, List.length_nil]; omega))
    refine rA ?_ (x := tA)
    refine sO [(0, _), (1, _), (4, _), (5, _), (6, _), (7, _)] [] ?_
    refine sw_reg ?_
    refine rA ?_ (x := sM)
    refine rA ?_ (x := B_add)
    refine rA ?_ (x := sA)
    refine Exists.intro (i + 1) (And.intro (by omega) (And.intro (by omega) (And.intro (And.intro (by exact ⟨rfl, rfl, rfl, ⟨⟩⟩) (by exact ⟨⟩)) (And.intro (by exact And.intro (by exact slc_eq (by rw [hins]; simp only [List.map_append, List.map_cons, List.map_nil, List.append_assoc, List.nil_append, List.cons_append]; try rfl)) (And.intro (by exact int_eq (by omega)) (True.intro))) (by exact ⟨⟩)))))
  ·try simp only [q1, q2, q3, q4, q5, q6, q7, q8, q9] at hb2
   have hend : i = l.length := by omega
   refine sw_exit ?_
   refine sw_seq ?_
   refine sO [(0, _), (1, _), (4, _), (5, _), (6, _)] [] ?_
   refine sw_reg ?_
   refine rA ?_ (x := tM)
   refine rA ?_ (x := tA)
   refine sw_ret ?_
   exact (And.intro (by refine slc_eq ?_; rw [hend, List.take_length, sortF_ok hok]) True.intro)
end Go.Proofs.Ytaomckpfgmhapaa
