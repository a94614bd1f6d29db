/- What functions of the program compute. No condition. -/
import Derived.Test.YtloipjaiceifbaaCStERClusterRows
import Derived.KernelRfl
set_option linter.unusedVariables false
set_option linter.unusedSimpArgs false
namespace Go.Proofs.Ytloipjaiceifbaa
open Go Go.RowKit M
set_option maxRecDepth 10000
attribute [local irreducible] PV.Lcl PV.LclR RV.Lcl
theorem FSrtR_c_118 : callI Try.prog 118 = true := by kernel_rfl
theorem FSrtR_c_127 : callI Try.prog 127 = true := by kernel_rfl
theorem FSrtR_c_128 : callI Try.prog 128 = true := by kernel_rfl
theorem FSrtR_c_129 : callI Try.prog 129 = true := by kernel_rfl
theorem FSrtR_c_74 : callI Try.prog 74 = true := by kernel_rfl
theorem FSrtR_sl_32 : sliceI Try.prog 32 = some (87, 2, 32) := by kernel_rfl
theorem FSrtR_ty_87 : tyI Try.prog 87 = some (true, 2) := by kernel_rfl
theorem FSrtR_z_87 : zeroI Try.prog 87 = some (.agg #[.int .i64 0, .slice none 0 0]) := by kernel_rfl
theorem impl_SortRows_nil {p1 : Fl} {x : List Row}  (hE0 : x = []) (hb : wtRowS x ≤ 68719476736) : SCall Try.prog 106 [(false, [PV.sl .v (x.map (cRow p1))])] (resRV [(false, [PV.sl (.own 87 2) ((isort (lessQ cmpRow) x).map (cRow (.own 3 1)))])]) := by
 refine scall_of (rs := [(false, [PV.sl (.own 87 2) ((isort (lessQ cmpRow) x).map (cRow (.own 3 1)))])]) Try.func106 rfl (Nat.le_of_ble_eq_true rfl) (borA_cons (BorL.cons (PV.bor_sl _) BorL.nil) borA_nil) ?_
 intro h0 w0 Fz0
 refine sw_len (s := 0) rfl fun hl0 => ?_
 try rw [List.length_map] at hl0
 have hbl : x.length ≤ wtRowS x := Nat.le_add_right _ _
 refine sw_seq ?_
 refine sw_reg ?_
 refine rA ?_ (x := loc_const (.inr rfl) (by decide) (ok_nil (t := 87) (e := 2)))
 refine sw_seq ?_
 refine sO [(0, _), (2, _)] [] ?_
 refine sw_reg ?_
 refine rA ?_ (x := vM false [PV.sl .v _])
 refine rA ?_ (x := cL [(false, [PV.sl _ _])] [(false, [PV.sl .v _])] FSrtR_c_118 (hs := by exact impl_copyRows (by omega)))
 refine rA ?_ (x := tA)
 refine sw_seq ?_
 refine sO [(0, _), (2, _), (3, _)] [] ?_
 refine sw_reg ?_
 refine rA ?_ (x := vM false [PV.sl .v _])
 refine rA ?_ (x := loc_call (qs := [(false, [PV.sl _ _]), (false, [PV.clo Try.prog (as2 (fun x : Row => (true, [PV.val (vI x.Id), PV.sl .v (x.Values.map cInt)]))) (rsI cmpRow)])]) (as_ := [(false, [PV.sl .v _]), (false, [PV.clo Try.prog (as2 (fun x : Row => (true, [PV.val (vI x.Id), PV.sl .v (x.Values.map cInt)]))) (rsI cmpRow)])]) (by decide) FSrtR_c_128 (by exact (And.intro (by exact ⟨⟩) (And.intro (ok_clo FSrtR_c_129 (fun x => by exact impl_SortRows_1)) True.intro))) (by exact (And.intro (And.intro rfl (ToL.cons PV.to_none ToL.nil)) (And.intro (And.intro rfl (ToL.cons (PV.To.refl _) ToL.nil)) True.intro))) (by exact (sstE_Row hE0)))
 refine sw_seq ?_
 refine sO [(0, _), (2, _), (3, _)] [] ?_
 refine sw_reg ?_
 refine rA ?_ (x := tM)
 refine rA ?_ (x := tA)
 refine sw_ret ?_
 exact (And.intro (by refine slc_eq ?_; rw [hE0]; rfl) True.intro)
theorem impl_SortRows_ne {p1 : Fl} {x : List Row}  (hE0 : 0 < x.length) (hb : wtRowS x ≤ 68719476736) : SCall Try.prog 106 [(false, [PV.sl .v (x.map (cRow p1))])] (resRV [(false, [PV.sl (.own 87 2) ((isort (lessQ cmpRow) x).map (cRow (.own 3 1)))])]) := by
 refine scall_lo (largs := fun L => [(false, [PV.sl (.lo L) (x.map (cRow (.lo L)))])]) (rs := [(false, [PV.sl (.own 87 2) ((isort (lessQ cmpRow) x).map (cRow (.own 3 1)))])]) Try.func106 rfl (Nat.le_of_ble_eq_true rfl) (fun L => by exact (And.intro (And.intro rfl (ToBL.cons (PV.tob_map (fun _ => Nat.le_of_ble_eq_true rfl) (fun _ => (ToBL.cons PV.tob_refl (ToBL.cons (PV.tob_map (fun _ => Nat.le_of_ble_eq_true rfl) (fun _ => (ToBL.cons PV.tob_refl ToBL.nil))) ToBL.nil)))) ToBL.nil)) True.intro)) (fun L => by exact (borA_cons (BorL.cons (PV.bor_lo _ _) BorL.nil) borA_nil)) ?_
 intro w0 Fz0
 refine sw_len (s := 0) rfl fun hl0 => ?_
 try rw [List.length_map] at hl0
 have hbl : x.length ≤ wtRowS x := Nat.le_add_right _ _
 refine sw_seq ?_
 refine sw_reg ?_
 refine rA ?_ (x := loc_const (.inr rfl) (by decide) (ok_nil (t := 87) (e := 2)))
 refine sw_seq ?_
 refine sO [(0, _), (2, _)] [] ?_
 refine sw_reg ?_
 refine rA ?_ (x := vM false [PV.sl (.lo _) _])
 refine rA ?_ (x := cL [(false, [PV.sl (.lo _) _])] [(false, [PV.sl .v _])] FSrtR_c_118 (hs := by exact impl_copyRows (by omega)))
 refine rA ?_ (x := tA)
 refine sw_seq ?_
 refine sO [(0, _), (2, _), (3, _)] [] ?_
 refine sw_thawS (s := 3) (D := 900) (G := 2900) (E := 87) (e := 2) (L := (Lw w0.heap.size)) (es := (x).map (cRow (.own 3 1))) (by exact rfl) (map_ne hE0) (by exact rfl) (by exact rfl) rfl (by exact rfl) (fun x hx => hx) (by exact (And.intro (.inr (RV.lcl_sv (LclC.cons (PV.lcl_lo (LclRC.map fun x => (LclRC.cons PV.lclr_val (LclRC.cons (PV.lclr_lo (LclRC.map fun x => (LclRC.cons PV.lclr_val LclRC.nil))) LclRC.nil)))) LclC.nil))) (And.intro (.inr (RV.lcl_sv (LclC.cons (PV.lcl_own (by first | exact (LclC.map fun x => (LclC.cons PV.lcl_val (LclC.cons (PV.lcl_own (LclC.map fun x => (LclC.cons PV.lcl_val LclC.nil))) LclC.nil))) | exact (fun cs h => nomatch h))) LclC.nil))) (And.intro (.inl rfl) True.intro)))) (by exact ⟨⟩) (LclC.map fun x => (LclC.cons PV.lcl_val (LclC.cons (PV.lcl_own (LclC.map fun x => (LclC.cons PV.lcl_val LclC.nil))) LclC.nil))) fun uu900 cp900 jk900 hlD900 hcp900 hjk900 => ?_
 rw [List.length_map] at hlD900 hcp900 hjk900
 refine sw_boxEq (d := 900) (by exact rfl) (show _ = arr (cRow (.own 3 1)) (x) jk900 from rfl) ?_
 refine sO [(0, _), (2, _), (3, _), (2900, _)] [(900, (87, arr (cRow (.own 3 1)) _ _))] ?_
 refine sw_lendA (d := 900) (G := 4900) (e := 2) (f := (cRow (.own 3 1))) (g := (cRow .v)) (fN := nRow) (by exact rfl) (by exact rfl) (fun _ _ => rfl) (fun _ => rfl) (fun _ => (ToL.cons (PV.To.refl _) (ToL.cons PV.to_none ToL.nil))) (fun _ => (BorL.cons (PV.bor_val _) (BorL.cons (PV.bor_sl _) BorL.nil))) fun zs900 hz900 => ?_
 refine sO [(0, _), (2, _), (3, _), (2900, _), (4900, _)] [(900, (87, arr nRow _ _))] ?_
 refine sw_reg ?_
 refine rA ?_ (x := vM false [PV.val _])
 refine rA ?_ (x := loc_acall0 (bx := 900) (G := 2900) (qs := [(false, [PV.clo Try.prog (as2 (fun x : Row => (true, [PV.val (vI x.Id), PV.sl .v (x.Values.map cInt)]))) (rsI cmpRow)])]) (as_ := [(false, [PV.clo Try.prog (as2 (fun x : Row => (true, [PV.val (vI x.Id), PV.sl .v (x.Values.map cInt)]))) (rsI cmpRow)])]) (by decide) FSrtR_c_128 rfl (by exact (And.intro (ok_clo FSrtR_c_129 (fun x => by exact impl_SortRows_1)) True.intro)) (by exact (And.intro (And.intro rfl (ToL.cons (PV.To.refl _) ToL.nil)) True.intro)) (bor_arr bor_nRow _ _) (by exact (borA_cons (BorL.cons (PV.bor_clo _ _) BorL.nil) borA_nil)) (by exact (sst_Row (by have e_ := congrArg List.length hz900; rw [List.length_map] at e_; first | exact e_.symm | (rw [List.length_map]; exact e_.symm) | omega) cmpRow_ok.ordC cmpRow_ok.irrC (by have e_ := congrArg List.length hz900; rw [List.length_map] at e_; first | exact e_.symm | (rw [List.length_map]; exact e_.symm) | omega))))
 refine sw_backA (d := 900) (G := 4900) (e := 2) (f := (cRow (.own 3 1))) (g := (cRow .v)) (fN := nRow) (by exact rfl) (by exact rfl) (fun _ _ => rfl) (fun _ => rfl) (fun _ => rfl) (by exact perm_isort _) ?_
 refine sw_boxEq (d := 900) (by exact rfl) (congrArg (fun z_ => arr (cRow (.own 3 1)) z_ jk900) ((isortC _).trans (congrArg _ hz900))) ?_
 refine sw_frzS (s := 3) (D := 900) (G := 2900) (e := 2) (es := (isort (lessQ cmpRow) x).map (cRow (.own 3 1))) (by exact rfl) (by exact rfl) (by exact rfl) rfl (by decide) (by rw [List.length_map, isort_len, List.length_map]) (by intro c hc; obtain ⟨y, _, rfl⟩ := List.mem_map.1 hc; exact rfl) (by rw [List.length_map]; exact hjk900) ?_
 refine sw_seq ?_
 refine sO [(0, _), (2, _), (3, _)] [] ?_
 refine sw_reg ?_
 refine rA ?_ (x := tM)
 refine rA ?_ (x := tA)
 refine sw_ret ?_
 exact (And.intro (by exact rfl) True.intro)
theorem impl_SortRows {p1 : Fl} {x : List Row}  (hb : wtRowS x ≤ 68719476736) : SCall Try.prog 106 [(false, [PV.sl .v (x.map (cRow p1))])] (resRV [(false, [PV.sl (.own 87 2) ((isort (lessQ cmpRow) x).map (cRow (.own 3 1)))])]) := by
 by_cases hE0 : x = []
 ·exact (impl_SortRows_nil hE0 hb)
 ·exact (impl_SortRows_ne (by have := mt List.length_eq_zero_iff.1 hE0; omega) hb)
theorem spec_SortRows {p1 : Fl} {x : List Row}  (hb : wtRowS x ≤ 68719476736) : SCall Try.prog 105 [(false, [PV.sl .v (x.map (cRow p1))])] (resRV [(false, [PV.sl (.own 87 2) ((isort (lessQ cmpRow) x).map (cRow .v))])]) := by
 refine scall_of (rs := [(false, [PV.sl (.own 87 2) ((isort (lessQ cmpRow) x).map (cRow .v))])]) Try.func105 rfl (Nat.le_of_ble_eq_true rfl) (borA_cons (BorL.cons (PV.bor_sl _) BorL.nil) borA_nil) ?_
 intro h0 w0 Fz0
 refine sw_len (s := 0) rfl fun hl0 => ?_
 try rw [List.length_map] at hl0
 have hbl : x.length ≤ wtRowS x := Nat.le_add_right _ _
 have hbu := hb
 simp only [wtRowS] at hbu
 refine sw_seq ?_
 refine sw_reg ?_
 refine rA ?_ (x := loc_const (.inr rfl) (by decide) (ok_nil (t := 87) (e := 2)))
 refine sw_seq ?_
 refine sO [(0, _), (2, _)] [] ?_
 refine sw_reg ?_
 refine rA ?_ (x := loc_bslice (qs := []) (by decide) FSrtR_sl_32 FSrtR_z_87 (by decide) rfl rfl rfl rfl rfl (by exact Nat.le_of_ble_eq_true rfl) (by exact ⟨⟩) rfl)
 refine rA ?_ (x := tA)
 refine sw_seq ?_
 refine sw_seq ?_
 refine sO [(0, _), (2, _), (3, _)] [] ?_
 refine sw_reg ?_
 refine rA ?_ (x := kA)
 refine sw_block ?_
 refine sO [(0, _), (2, _), (3, _), (4, _)] [] ?_
 refine sw_loop (l0 := [(0, RV.sv false [PV.sl _ _]), (2, RV.sv false [PV.sl _ _])]) (b0 := []) (fun i : Nat => i ≤ x.length) (fun i : Nat => [(3, RV.slc (.own 87 2) (((isort (lessQ cmpRow) (x.take i))).map (cRow .v))), (4, RV.int (i : Int))]) (fun i : Nat => []) (fun i : Nat => x.length - i) 0 (by omega) (by exact ⟨rfl, rfl, ⟨⟩⟩) (by exact ⟨⟩) (by exact And.intro (by exact rfl) (And.intro (by exact rfl) (True.intro))) (by exact ⟨⟩) ?_
 rintro i hk
 have hll : (isort (lessQ cmpRow) (x.take i)).length = i := by rw [isort_len, List.length_take]; omega
 refine sw_seq ?_
 refine sw_seq ?_
 refine sw_reg ?_
 refine rA ?_ (x := sM)
 refine rA ?_ (x := vM false [PV.sl .v _])
 refine rA ?_ (x := lN FSrtR_sl_32)
 refine rA ?_ (x := B_lss)
 refine sw_cond (t := 11) rfl (fun hb1 => ?_) (fun hb1 => ?_)
 ·try simp only [q1, q2, q3, q4, q5, q6, q7, q8, q9] at hb1
  have hlt : i < x.length := by omega
  have hwm := wt_mem (f := wtRow) hlt
  refine sw_skip ?_
  refine sw_seq ?_
  refine sw_block ?_
  refine sw_seq ?_
  refine sO [(0, _), (2, _), (3, _), (4, _)] [] ?_
  refine sw_reg ?_
  refine rA ?_ (x := vM false [PV.sl .v _])
  refine rA ?_ (x := lN FSrtR_sl_32)
  refine rA ?_ (x := sA)
  refine sw_seq ?_
  refine sw_block ?_
  refine sO [(0, _), (2, _), (3, _), (4, _), (5, _)] [] ?_
  refine sw_loop (l0 := [(0, RV.sv false [PV.sl _ _]), (2, RV.sv false [PV.sl _ _]), (3, RV.sv false [PV.sl _ _]), (4, RV.sv false [PV.val _])]) (b0 := []) (fun j : Nat => j ≤ i ∧ ∀ t : Nat, j ≤ t → (h : t < (isort (lessQ cmpRow) (x.take i)).length) → (lessQ cmpRow) x[i] (isort (lessQ cmpRow) (x.take i))[t] = true) (fun j : Nat => [(5, RV.int (j : Int))]) (fun j : Nat => []) (fun j : Nat => j) i (by exact ⟨Nat.le_refl _, fun t h1 h2 => by omega⟩) (by exact ⟨rfl, rfl, rfl, rfl, ⟨⟩⟩) (by exact ⟨⟩) (by exact And.intro (by exact int_eq (by first | rfl | (rw [List.length_map]; omega) | omega)) (True.intro)) (by exact ⟨⟩) ?_
  rintro j ⟨hj, haj⟩
  refine sw_seq ?_
  refine sw_seq ?_
  refine sw_draw hm_ ?_
  refine dA 0 ?_ (x := sM)
  refine dA 1 ?_ (x := B_gtr)
  refine dA 3 ?_ (x := sM)
  refine Run.cases (s := 18) rfl (fun g2 => ?_) (fun g2 => ?_)
  ·have sg2 := g2
   try simp only [q1, q2, q3, q4, q5, q6, q7, q8, q9] at sg2
   refine dB 7 g2 ?_ (x := vM false [PV.sl .v _])
   refine dB 7 g2 ?_ (x := sM)
   refine dB 31 g2 ?_ (x := loc_index (by decide) FSrtR_sl_32 (by exact ⟨⟩) (by exact rfl) (by exact getm2 (by omega) rfl) (by exact rfl))
   refine dB 63 g2 ?_ (x := lE [PV.val _, PV.sl .v _] FSrtR_ty_87)
   refine dB 7 g2 ?_ (x := vM false [PV.sl .v _])
   refine dB 7 g2 ?_ (x := sM)
   refine dB 263 g2 ?_ (x := B_sub)
   refine dB 903 g2 ?_ (x := loc_index (k := j - 1) (by decide) FSrtR_sl_32 (by exact ⟨⟩) (by omega) (by exact getm2 (by omega) rfl) (by exact rfl))
   refine dB 1927 g2 ?_ (x := lE [PV.val _, PV.sl .v _] FSrtR_ty_87)
   refine dB 4095 g2 ?_ (x := cL [(true, [PV.val _, PV.sl _ _]), (true, [PV.val _, PV.sl _ _])] [(true, [PV.val _, PV.sl .v _]), (true, [PV.val _, PV.sl .v _])] FSrtR_c_127 (hs := by exact spec_l3Less))
   refine dA 8191 ?_ (x := pkT g2)
   refine sw_cond (t := 29) rfl (fun hb3 => ?_) (fun hb3 => ?_)
   ·try simp only [q1, q2, q3, q4, q5, q6, q7, q8, q9] at hb3
    have hj1 : 1 ≤ j := by omega
    have hlt2 : (lessQ cmpRow) x[i] ((isort (lessQ cmpRow) (x.take i))[j - 1]'(by omega)) = true := (show (lessQ cmpRow) x[i] ((isort (lessQ cmpRow) (x.take i))[j - 1]'(by omega)) = true by simpa using hb3)
    refine sw_skip ?_
    refine sw_block ?_
    refine sO [(0, _), (2, _), (3, _), (4, _), (5, _)] [] ?_
    refine sw_reg ?_
    refine rA ?_ (x := sM)
    refine rA ?_ (x := B_sub)
    refine rA ?_ (x := sA)
    refine Exists.intro (j - 1) (And.intro (by exact ⟨by omega, fun t h1 h2 => by by_cases e : t = j - 1; (· subst e; exact hlt2); (· exact haj t (by omega) h2)⟩) (And.intro (by omega) (And.intro (And.intro (by exact ⟨rfl, rfl, rfl, rfl, ⟨⟩⟩) (by exact ⟨⟩)) (And.intro (by exact And.intro (by exact int_eq (by omega)) (True.intro)) (by exact ⟨⟩)))))
   ·try simp only [q1, q2, q3, q4, q5, q6, q7, q8, q9] at hb3
    have htj : ((isort (lessQ cmpRow) (x.take i)).take j).length = j := by rw [List.length_take]; omega
    have hdj : ((isort (lessQ cmpRow) (x.take i)).drop j).length = i - j := by rw [List.length_drop]; omega
    have hst : j = 0 ∨ ∀ h : j - 1 < (isort (lessQ cmpRow) (x.take i)).length, (lessQ cmpRow) x[i] (isort (lessQ cmpRow) (x.take i))[j - 1] = false := by first | exact .inl (by omega) | (by_cases h0 : j = 0; exact .inl h0; right; intro _; exact (show (lessQ cmpRow) x[i] (isort (lessQ cmpRow) (x.take i))[j - 1] = false by simpa using hb3))
    have hins : isort (lessQ cmpRow) (x.take (i + 1)) = (isort (lessQ cmpRow) (x.take i)).take j ++ x[i] :: (isort (lessQ cmpRow) (x.take i)).drop j := by rw [List.take_succ_eq_append_getElem hlt, isort_snoc, ins_scan (cmpRow_ok).ord (sorted_isort (cmpRow_ok).ord (cmpRow_ok).irr _) (by omega) haj hst]
    refine sw_exit ?_
    refine sw_seq ?_
    refine sO [(0, _), (2, _), (3, _), (4, _), (5, _)] [] ?_
    refine sw_reg ?_
    refine rA ?_ (x := loc_bslice (qs := []) (by decide) FSrtR_sl_32 FSrtR_z_87 (by decide) rfl rfl rfl rfl rfl (by exact Nat.le_of_ble_eq_true rfl) (by exact ⟨⟩) rfl)
    refine rA ?_ (x := vM false [PV.sl .v _])
    refine rA ?_ (x := sM)
    refine rA ?_ (x := loc_sliceM (i := 0) (j := j) (ys := ((isort (lessQ cmpRow) (x.take i)).take j)) (q := (0 : Int)) (by decide) FSrtR_sl_32 (by exact rfl) (by exact ⟨⟩) (by omega) (by omega) (by omega) (by omega) (fun _ => rfl) (by simp))
    refine rA ?_ (x := loc_appendb (by decide) FSrtR_sl_32 FSrtR_z_87 rfl rfl (by decide) (by first | (intro cs hcs; obtain ⟨x, _, rfl⟩ := List.mem_map.1 hcs; exact rfl) | simp) (by first | (intro cs hcs; obtain ⟨x, _, rfl⟩ := List.mem_map.1 hcs; exact (BorL.cons (PV.bor_val _) (BorL.cons (PV.bor_sl _) BorL.nil))) | simp) (by simp only [List.length_map, List.length_append, List.length_cons, List.length_nil]; omega) (by simp only [List.length_map, List.length_append, List.length_cons, List.length_nil]; omega))
    refine rA ?_ (x := tA)
    refine sw_seq ?_
    refine sO [(0, _), (2, _), (3, _), (4, _), (5, _), (6, _)] [] ?_
    refine sw_reg ?_
    refine rA ?_ (x := tM)
    refine rA ?_ (x := vM false [PV.sl .v _])
    refine rA ?_ (x := sM)
    refine rA ?_ (x := loc_index (by decide) FSrtR_sl_32 (by exact ⟨⟩) (by exact rfl) (by exact getm2 (by omega) rfl) (by exact rfl))
    refine rA ?_ (x := lE [PV.val _, PV.sl .v _] FSrtR_ty_87)
    refine rA ?_ (x := cL [(true, [PV.val _, PV.sl _ _])] [(true, [PV.val _, PV.sl .v _])] FSrtR_c_74 (hs := by exact (SCall.view (ag := true) (ToL.cons (PV.To.refl _) (ToL.cons PV.to_none ToL.nil)) (BorL.cons (PV.bor_val _) (BorL.cons (PV.bor_sl _) BorL.nil)) ((spec_l3Copy (by omega))))))
    refine rA ?_ (x := loc_bslice (qs := [(true, [PV.val _, PV.sl _ _])]) (by decide) FSrtR_sl_32 FSrtR_z_87 (by decide) rfl rfl rfl rfl rfl (by exact Nat.le_of_ble_eq_true rfl) (by exact (And.intro (by exact ⟨⟩) True.intro)) rfl)
    refine rA ?_ (x := loc_append (by decide) FSrtR_sl_32 FSrtR_z_87 rfl rfl (by decide) rfl (by simp only [List.length_map, List.length_append, List.length_cons, List.length_nil]; omega) (by simp only [List.length_map, List.length_append, List.length_cons, List.length_nil]; omega))
    refine rA ?_ (x := tA)
    refine sO [(0, _), (2, _), (3, _), (4, _), (5, _), (6, _)] [] ?_
    refine sw_reg ?_
    refine rA ?_ (x := tM)
    refine rA ?_ (x := vM false [PV.sl .v _])
    refine rA ?_ (x := sM)
    refine rA ?_ (x := loc_sliceM (i := j) (j := (isort (lessQ cmpRow) (x.take i)).length) (ys := ((isort (lessQ cmpRow) (x.take i)).drop j)) (r := (((isort (lessQ cmpRow) (x.take i)).length : Nat) : Int)) (by decide) FSrtR_sl_32 (by exact ⟨⟩) (by exact rfl) (by omega) (by omega) (by omega) (by omega) (fun _ => rfl) (by rw [List.take_length]))
    refine rA ?_ (x := loc_appendb (by decide) FSrtR_sl_32 FSrtR_z_87 rfl rfl (by decide) (by first | (intro cs hcs; obtain ⟨x, _, rfl⟩ := List.mem_map.1 hcs; exact rfl) | simp) (by first | (intro cs hcs; obtain ⟨x, _, rfl⟩ := List.mem_map.1 hcs; exact (BorL.cons (PV.bor_val _) (BorL.cons (PV.bor_sl _) BorL.nil))) | simp) (by simp only [List.length_map, List.length_append, List.length_cons, List.length_nil]; omega) (by simp only [List.length_map, List.length_append, List.length_cons, List.length_nil]; omega))
    refine rA ?_ (x := tA)
    refine sO [(0, _), (2, _), (3, _), (4, _), (5, _)] [] ?_
    refine sw_reg ?_
    refine rA ?_ (x := sM)
    refine rA ?_ (x := B_add)
    refine rA ?_ (x := sA)
    refine Exists.intro (i + 1) (And.intro (by omega) (And.intro (by omega) (And.intro (And.intro (by exact ⟨rfl, rfl, ⟨⟩⟩) (by exact ⟨⟩)) (And.intro (by exact And.intro (by exact slc_eq (by rw [hins]; simp only [List.map_append, List.map_cons, List.map_nil, List.append_assoc, List.nil_append, List.cons_append]; try rfl)) (And.intro (by exact int_eq (by omega)) (True.intro))) (by exact ⟨⟩)))))
  ·have sg2 := g2
   try simp only [q1, q2, q3, q4, q5, q6, q7, q8, q9] at sg2
   refine dF 7 g2 ?_
   refine dF 7 g2 ?_
   refine dF 31 g2 ?_
   refine dF 63 g2 ?_
   refine dF 7 g2 ?_
   refine dF 7 g2 ?_
   refine dF 263 g2 ?_
   refine dF 903 g2 ?_
   refine dF 1927 g2 ?_
   refine dF 4095 g2 ?_
   refine dA 8191 ?_ (x := pkF g2)
   refine sw_cond (t := 29) rfl (fun hb_ => nomatch hb_) (fun hb_ => ?_)
   have htj : ((isort (lessQ cmpRow) (x.take i)).take j).length = j := by rw [List.length_take]; omega
   have hdj : ((isort (lessQ cmpRow) (x.take i)).drop j).length = i - j := by rw [List.length_drop]; omega
   have hst : j = 0 ∨ ∀ h : j - 1 < (isort (lessQ cmpRow) (x.take i)).length, (lessQ cmpRow) x[i] (isort (lessQ cmpRow) (x.take i))[j - 1] = false := by first | exact .inl (by omega) | (by_cases h0 : j = 0; exact .inl h0; right; intro _; exact (show (lessQ cmpRow) x[i] (isort (lessQ cmpRow) (x.take i))[j - 1] = false by simpa using hb_))
   have hins : isort (lessQ cmpRow) (x.take (i + 1)) = (isort (lessQ cmpRow) (x.take i)).take j ++ x[i] :: (isort (lessQ cmpRow) (x.take i)).drop j := by rw [List.take_succ_eq_append_getElem hlt, isort_snoc, ins_scan (cmpRow_ok).ord (sorted_isort (cmpRow_ok).ord (cmpRow_ok).irr _) (by omega) haj hst]
   refine sw_exit ?_
   refine sw_seq ?_
   refine sO [(0, _), (2, _), (3, _), (4, _), (5, _)] [] ?_
   refine sw_reg ?_
   refine rA ?_ (x := loc_bslice (qs := []) (by decide) FSrtR_sl_32 FSrtR_z_87 (by decide) rfl rfl rfl rfl rfl (by exact Nat.le_of_ble_eq_true rfl) (by exact ⟨⟩) rfl)
   refine rA ?_ (x := vM false [PV.sl .v _])
   refine rA ?_ (x := sM)
   refine rA ?_ (x := loc_sliceM (i := 0) (j := j) (ys := ((isort (lessQ cmpRow) (x.take i)).take j)) (q := (0 : Int)) (by decide) FSrtR_sl_32 (by exact rfl) (by exact ⟨⟩) (by omega) (by omega) (by omega) (by omega) (fun _ => rfl) (by simp))
   refine rA ?_ (x := loc_appendb (by decide) FSrtR_sl_32 FSrtR_z_87 rfl rfl (by decide) (by first | (intro cs hcs; obtain ⟨x, _, rfl⟩ := List.mem_map.1 hcs; exact rfl) | simp) (by first | (intro cs hcs; obtain ⟨x, _, rfl⟩ := List.mem_map.1 hcs; exact (BorL.cons (PV.bor_val _) (BorL.cons (PV.bor_sl _) BorL.nil))) | simp) (by simp only [List.length_map, List.length_append, List.length_cons, List.length_nil]; omega) (by simp only [List.length_map, List.length_append, List.length_cons, List.length_nil]; omega))
   refine rA ?_ (x := tA)
   refine sw_seq ?_
   refine sO [(0, _), (2, _), (3, _), (4, _), (5, _), (6, _)] [] ?_
   refine sw_reg ?_
   refine rA ?_ (x := tM)
   refine rA ?_ (x := vM false [PV.sl .v _])
   refine rA ?_ (x := sM)
   refine rA ?_ (x := loc_index (by decide) FSrtR_sl_32 (by exact ⟨⟩) (by exact rfl) (by exact getm2 (by omega) rfl) (by exact rfl))
   refine rA ?_ (x := lE [PV.val _, PV.sl .v _] FSrtR_ty_87)
   refine rA ?_ (x := cL [(true, [PV.val _, PV.sl _ _])] [(true, [PV.val _, PV.sl .v _])] FSrtR_c_74 (hs := by exact (SCall.view (ag := true) (ToL.cons (PV.To.refl _) (ToL.cons PV.to_none ToL.nil)) (BorL.cons (PV.bor_val _) (BorL.cons (PV.bor_sl _) BorL.nil)) ((spec_l3Copy (by omega))))))
   refine rA ?_ (x := loc_bslice (qs := [(true, [PV.val _, PV.sl _ _])]) (by decide) FSrtR_sl_32 FSrtR_z_87 (by decide) rfl rfl rfl rfl rfl (by exact Nat.le_of_ble_eq_true rfl) (by exact (And.intro (by exact ⟨⟩) True.intro)) rfl)
   refine rA ?_ (x := loc_append (by decide) FSrtR_sl_32 FSrtR_z_87 rfl rfl (by decide) rfl (by simp only [List.length_map, List.length_append, List.length_cons, List.length_nil]; omega) (by simp only [List.length_map, List.length_append, List.length_cons, List.length_nil]; omega))
   refine rA ?_ (x := tA)
   refine sO [(0, _), (2, _), (3, _), (4, _), (5, _), (6, _)] [] ?_
   refine sw_reg ?_
   refine rA ?_ (x := tM)
   refine rA ?_ (x := vM false [PV.sl .v _])
   refine rA ?_ (x := sM)
   refine rA ?_ (x := loc_sliceM (i := j) (j := (isort (lessQ cmpRow) (x.take i)).length) (ys := ((isort (lessQ cmpRow) (x.take i)).drop j)) (r := (((isort (lessQ cmpRow) (x.take i)).length : Nat) : Int)) (by decide) FSrtR_sl_32 (by exact ⟨⟩) (by exact rfl) (by omega) (by omega) (by omega) (by omega) (fun _ => rfl) (by rw [List.take_length]))
   refine rA ?_ (x := loc_appendb (by decide) FSrtR_sl_32 FSrtR_z_87 rfl rfl (by decide) (by first | (intro cs hcs; obtain ⟨x, _, rfl⟩ := List.mem_map.1 hcs; exact rfl) | simp) (by first | (intro cs hcs; obtain ⟨x, _, rfl⟩ := List.mem_map.1 hcs; exact (BorL.cons (PV.bor_val _) (BorL.cons (PV.bor_sl _) BorL.nil))) | simp) (by simp only [List.length_map, List.length_append, List.length_cons, List.length_nil]; omega) (by simp only [List.length_map, List.length_append, List.length_cons, List.length_nil]; omega))
   refine rA ?_ (x := tA)
   refine sO [(0, _), (2, _), (3, _), (4, _), (5, _)] [] ?_
   refine sw_reg ?_
   refine rA ?_ (x := sM)
   refine rA ?_ (x := B_add)
   refine rA ?_ (x := sA)
   refine Exists.intro (i + 1) (And.intro (by omega) (And.intro (by omega) (And.intro (And.intro (by exact ⟨rfl, rfl, ⟨⟩⟩) (by exact ⟨⟩)) (And.intro (by exact And.intro (by exact slc_eq (by rw [hins]; simp only [List.map_append, List.map_cons, List.map_nil, List.append_assoc, List.nil_append, List.cons_append]; try rfl)) (And.intro (by exact int_eq (by omega)) (True.intro))) (by exact ⟨⟩)))))
 ·try simp only [q1, q2, q3, q4, q5, q6, q7, q8, q9] at hb1
  have hend : i = x.length := by omega
  refine sw_exit ?_
  refine sw_seq ?_
  refine sO [(0, _), (2, _), (3, _), (4, _)] [] ?_
  refine sw_reg ?_
  refine rA ?_ (x := tM)
  refine rA ?_ (x := tA)
  refine sw_ret ?_
  exact (And.intro (by refine slc_eq ?_; rw [hend, List.take_length]) True.intro)
end Go.Proofs.Ytloipjaiceifbaa
