/- What functions of the program compute. No condition. -/
import Derived.Test.YtaomckpfgmhapaaDoorCStoSegmentLine
import Derived.Test.YtaomckpfgmhapaaDoorCResSegmentLine
import Derived.Test.YtaomckpfgmhapaaDoorCDsl
import Derived.KernelRfl
set_option linter.unusedVariables false
set_option linter.unusedSimpArgs false
namespace Go.Proofs.YtaomckpfgmhapaaDoor
open Go Go.RowKit M
set_option maxRecDepth 10000
attribute [local irreducible] PV.Lcl PV.LclR RV.Lcl
theorem FSeg_c_28 : callI Tryd.prog 28 = true := by kernel_rfl
theorem FSeg_c_32 : callI Tryd.prog 32 = true := by kernel_rfl
theorem FSeg_c_38 : callI Tryd.prog 38 = true := by kernel_rfl
theorem FSeg_c_39 : callI Tryd.prog 39 = true := by kernel_rfl
theorem FSeg_c_40 : callI Tryd.prog 40 = true := by kernel_rfl
theorem FSeg_c_42 : callI Tryd.prog 42 = true := by kernel_rfl
theorem FSeg_c_43 : callI Tryd.prog 43 = true := by kernel_rfl
theorem FSeg_c_44 : callI Tryd.prog 44 = true := by kernel_rfl
theorem FSeg_c_45 : callI Tryd.prog 45 = true := by kernel_rfl
theorem FSeg_c_46 : callI Tryd.prog 46 = true := by kernel_rfl
theorem FSeg_fd_36_0 : fieldI Tryd.prog 36 0 = some 0 := by kernel_rfl
theorem FSeg_fd_90_0 : fieldI Tryd.prog 90 0 = some 0 := by kernel_rfl
theorem FSeg_fd_90_1 : fieldI Tryd.prog 90 1 = some 1 := by kernel_rfl
theorem FSeg_fd_90_2 : fieldI Tryd.prog 90 2 = some 2 := by kernel_rfl
theorem FSeg_fd_90_3 : fieldI Tryd.prog 90 3 = some 3 := by kernel_rfl
theorem FSeg_pl_66 : placesI Tryd.prog 66 = some [(0, 1), (1, 1)] := by kernel_rfl
theorem FSeg_sl_34 : sliceI Tryd.prog 34 = some (88, 1, 24) := by kernel_rfl
theorem FSeg_sl_82 : sliceI Tryd.prog 82 = some (9, 1, 16) := by kernel_rfl
theorem FSeg_sl_88 : sliceI Tryd.prog 88 = some (90, 4, 48) := by kernel_rfl
theorem FSeg_ty_3 : tyI Tryd.prog 3 = some (false, 1) := by kernel_rfl
theorem FSeg_ty_34 : tyI Tryd.prog 34 = some (false, 1) := by kernel_rfl
theorem FSeg_ty_36 : tyI Tryd.prog 36 = some (true, 2) := by kernel_rfl
theorem FSeg_ty_41 : tyI Tryd.prog 41 = some (false, 1) := by kernel_rfl
theorem FSeg_ty_88 : tyI Tryd.prog 88 = some (false, 1) := by kernel_rfl
theorem FSeg_ty_90 : tyI Tryd.prog 90 = some (true, 4) := by kernel_rfl
theorem FSeg_z_66 : zeroI Tryd.prog 66 = some (.agg #[.int .i64 0, .slice none 0 0]) := by kernel_rfl
theorem FSeg_z_9 : zeroI Tryd.prog 9 = some (.string (B [])) := by kernel_rfl
theorem FSeg_z_90 : zeroI Tryd.prog 90 = some (.agg #[.int .i64 0, .slice none 0 0, .int .i64 0, .int .i64 0]) := by kernel_rfl
theorem FSeg_zo_66 {Fz : FzT} {w : World} : OwnL [PV.val (.int .i64 0), PV.sl (.own 3 1) []] Fz w (Value.cells (.agg #[.int .i64 0, .slice none 0 0])).toList [] := zo_val rfl (zo_sl (zo_nil))
theorem FSeg_zo_90 {Fz : FzT} {w : World} : OwnL [PV.val (.int .i64 0), PV.sl (.own 3 1) [], PV.val (.int .i64 0), PV.val (.int .i64 0)] Fz w (Value.cells (.agg #[.int .i64 0, .slice none 0 0, .int .i64 0, .int .i64 0])).toList [] := zo_val rfl (zo_sl (zo_val rfl (zo_val rfl (zo_nil))))
theorem impl_SegmentLine {p1 p2 : Fl} {s : Store} {i : Int}  (hb : wtStore s ≤ 68719476736) : GCall Tryd.prog gl 15 [(true, [PV.sl .v (s.Segments.map (cVersionS p1 p2)), PV.val (vI s.Now)]), (false, [PV.val (vI i)])] (resRV [(false, [PV.val (.string (B (segLine s i)))])]) := by
 refine gcall_of (rs := [(false, [PV.val (.string (B (segLine s i)))])]) Tryd.func15 rfl (Nat.le_of_ble_eq_true rfl) (borA_cons (BorL.cons (PV.bor_sl _) (BorL.cons (PV.bor_val _) BorL.nil)) (borA_cons (BorL.cons (PV.bor_val _) BorL.nil) borA_nil)) ?_
 intro h0 w0 Fz0
 refine sw_slen (s := 0) (j := 0) rfl rfl fun hl0_0 => ?_
 try rw [List.length_map] at hl0_0
 have hbu := hb
 simp only [wtStore, wtVersionSS, wtInt] at hbu
 refine sw_seq ?_
 refine sw_reg ?_
 refine RunS.step (by exact ⟨rfl, ⟨⟩⟩) (by exact ⟨⟩) (LocG.of rfl (loc_box (ag := true) (cs := [PV.sl _ _, PV.val _]) (by decide) (by exact ⟨⟩))) (free1 (Free.of_ rfl)) ?_
 refine rA ?_ (x := kA)
 refine sw_seq ?_
 refine sw_seq ?_
 refine sO [(1, _), (2, _), (4, _), (7000, _)] [(2, (36, [PV.sl _ _, PV.val _]))] ?_
 refine sw_reg ?_
 refine rA ?_ (x := lD [PV.sl .v _, PV.val _] FSeg_ty_36)
 refine rA ?_ (x := cL [(true, [PV.sl _ _, PV.val _])] [(true, [PV.sl .v _, PV.val _])] FSeg_c_42 (hs := by exact impl_IsStore (by omega)))
 refine rA ?_ (x := nT)
 refine rA ?_ (x := sM)
 refine RunS.cases (s := 12) rfl (fun g1 => ?_) (fun g1 => ?_)
 ·have sg1 := g1
  try simp only [q1, q2, q3, q4, q5, q6, q7, q8, q9] at sg1
  refine RunS.s0t g1 ?_
  refine RunS.s0t g1 ?_
  refine RunS.s0t g1 ?_
  refine RunS.s0t g1 ?_
  refine RunS.s0t g1 ?_
  refine RunS.s0t g1 ?_
  refine RunS.s0t g1 ?_
  refine rA ?_ (x := pkT g1)
  refine sw_cond (t := 20) rfl (fun hb_ => ?_) (fun hb_ => nomatch hb_)
  have hbad : (okStore s && inB i 0 (s.Segments.length - 1)) = false := by cases h1 : okStore s <;> cases h2 : inB i 0 (s.Segments.length - 1) <;> simp_all
  refine sw_seq ?_
  refine sO [(1, _), (2, _), (4, _), (7000, _)] [(2, _)] ?_
  refine sw_reg ?_
  refine rA ?_ (x := kA)
  refine sw_ret ?_
  exact (And.intro (by refine sv_eq ?_; exact str_eq (by unfold segLine; rw [if_neg (by rw [hbad]; simp)])) True.intro)
 ·have sg1 := g1
  try simp only [q1, q2, q3, q4, q5, q6, q7, q8, q9] at sg1
  refine rB g1 ?_ (x := sM)
  refine rB g1 ?_ (x := lF FSeg_fd_36_0)
  refine rB g1 ?_ (x := lD [PV.sl .v _] FSeg_ty_34)
  refine rB g1 ?_ (x := lN FSeg_sl_34)
  refine rB g1 ?_ (x := B_sub)
  refine rB g1 ?_ (x := cL [(false, [PV.val _]), (false, [PV.val _]), (false, [PV.val _])] [(false, [PV.val _]), (false, [PV.val _]), (false, [PV.val _])] FSeg_c_43 (hs := by exact impl_within))
  refine rB g1 ?_ (x := nT)
  refine rA ?_ (x := pkF g1)
  refine sw_cond (t := 20) rfl (fun hb3 => ?_) (fun hb3 => ?_)
  ·try simp only [q1, q2, q3, q4, q5, q6, q7, q8, q9] at hb3
   have hbad : (okStore s && inB i 0 (s.Segments.length - 1)) = false := by cases h1 : okStore s <;> cases h2 : inB i 0 (s.Segments.length - 1) <;> simp_all
   refine sw_seq ?_
   refine sO [(1, _), (2, _), (4, _), (7000, _)] [(2, _)] ?_
   refine sw_reg ?_
   refine rA ?_ (x := kA)
   refine sw_ret ?_
   exact (And.intro (by refine sv_eq ?_; exact str_eq (by unfold segLine; rw [if_neg (by rw [hbad]; simp)])) True.intro)
  ·try simp only [q1, q2, q3, q4, q5, q6, q7, q8, q9] at hb3
   have hok : okStore s = true ∧ inB i 0 (s.Segments.length - 1) = true := by cases h1 : okStore s <;> cases h2 : inB i 0 (s.Segments.length - 1) <;> simp_all
   have hin := hok.2
   simp only [inB, Bool.and_eq_true, decide_eq_true_eq] at hin
   obtain ⟨a1, a2, a3, a4, a5, a6⟩ := sto_facts hok.1
   have hil : i.toNat < s.Segments.length := by omega
   have hsl := a5 _ (List.getElem_mem hil)
   have hgd : s.Segments.getD i.toNat [] = s.Segments[i.toNat] := (gDt_ hil).symm
   have hws := wt_mem (f := wtVersionS) hil
   have hws2 : wtVersionS s.Segments[i.toNat] = s.Segments[i.toNat].length + (s.Segments[i.toNat].map wtVersion).sum := rfl
   refine sw_skip ?_
   refine sw_seq ?_
   refine sO [(1, _), (2, _), (4, _), (7000, _)] [(2, _)] ?_
   refine sw_reg ?_
   refine rA ?_ (x := loc_bslice (qs := []) (by decide) FSeg_sl_82 FSeg_z_9 (by decide) rfl rfl rfl rfl rfl (by exact Nat.le_of_ble_eq_true rfl) (by exact ⟨⟩) rfl)
   refine rA ?_ (x := tA)
   refine sw_seq ?_
   refine sw_seq ?_
   refine sO [(1, _), (2, _), (4, _), (5, _), (7000, _)] [(2, _)] ?_
   refine sw_reg ?_
   refine rA ?_ (x := lF FSeg_fd_36_0)
   refine rA ?_ (x := lD [PV.sl .v _] FSeg_ty_34)
   refine rA ?_ (x := sM)
   refine rA ?_ (x := loc_index (k := i.toNat) (by decide) FSeg_sl_34 (by exact ⟨⟩) (by omega) (by exact getm2 hil rfl) (by exact rfl))
   refine rA ?_ (x := lE [PV.sl .v _] FSeg_ty_88)
   refine rA ?_ (x := lN FSeg_sl_88)
   refine rA ?_ (x := kM)
   refine sw_block ?_
   refine sO [(1, _), (2, _), (4, _), (5, _), (26, _), (27, _), (28, _), (7000, _)] [(2, _)] ?_
   refine sw_loop (l0 := [(1, RV.sv false [PV.val _]), (2, RV.ptr 2 0), (4, RV.sv false [PV.val _]), (26, RV.sv false [PV.sl _ _]), (27, RV.sv false [PV.val _]), (7000, RV.glob _)]) (b0 := [(2, (36, [PV.sl _ _, PV.val _]))]) (fun k : Nat => k ≤ s.Segments[i.toNat].length) (fun k : Nat => [(5, RV.slc (.own 9 1) (((s.Segments[i.toNat].take k).map segWord).map cStr)), (28, RV.int (k : Int))]) (fun k : Nat => []) (fun k : Nat => s.Segments[i.toNat].length - k) 0 (by omega) (by exact ⟨rfl, rfl, rfl, rfl, rfl, rfl, ⟨⟩⟩) (by exact ⟨rfl, ⟨⟩⟩) (by exact And.intro (by first | exact rfl | simp) (And.intro (by exact rfl) (True.intro))) (by exact ⟨⟩) ?_
   rintro k hk
   refine sw_seq ?_
   refine sw_reg ?_
   refine rA ?_ (x := B_lss)
   refine sw_seq ?_
   refine sw_cond (t := 29) rfl (fun hb4 => ?_) (fun hb4 => ?_)
   ·try simp only [q1, q2, q3, q4, q5, q6, q7, q8, q9] at hb4
    have hlt : k < s.Segments[i.toNat].length := by omega
    have hvo := sto_ver hok.1 hil hlt
    have hv6 := ver_i64 hvo a4
    have hfl := fmtRow_len (rowOfV s.Segments[i.toNat][k])
    have hbl : (itoa s.Segments[i.toNat][k].Born).length ≤ 21 := itoa_len (by unfold I64; omega)
    have hdl : (itoa s.Segments[i.toNat][k].Died).length ≤ 21 := itoa_len (by unfold I64; omega)
    have hjl := segJ_len hok.1 hil k
    have htk : (s.Segments[i.toNat].take k).length = k := by rw [List.length_take]; omega
    have hwm2 := wt_mem (f := wtVersion) hlt
    refine sw_skip ?_
    refine sw_seq ?_
    refine sw_block ?_
    refine sw_seq ?_
    refine sO [(1, _), (2, _), (4, _), (5, _), (26, _), (27, _), (28, _), (7000, _)] [(2, (36, [PV.sl _ _, PV.val _]))] ?_
    refine sw_reg ?_
    refine rA ?_ (x := loc_index (by decide) FSeg_sl_88 (by exact ⟨⟩) (by exact rfl) (by exact getm2 (by omega) rfl) (by exact rfl))
    refine rA ?_ (x := lE [PV.val _, PV.sl .v _, PV.val _, PV.val _] FSeg_ty_90)
    refine RunS.step (by exact ⟨⟩) (by exact ⟨⟩) (LocG.of rfl (loc_alloc (by decide) FSeg_z_90 FSeg_zo_90)) (free1 (Free.app (Free.app (Free.of_ rfl) rfl) rfl)) ?_
    refine rA ?_ (x := loc_store (ag := true) (vs := [PV.val _, PV.sl _ _, PV.val _, PV.val _]) FSeg_ty_90 (by exact ⟨⟩) (by exact rfl) (by exact Nat.le_of_ble_eq_true rfl))
    refine sw_seq ?_
    refine sO [(1, _), (2, _), (4, _), (5, _), (7, _), (26, _), (27, _), (28, _), (7000, _)] [(2, _), (7, (90, [PV.val _, PV.sl _ _, PV.val _, PV.val _]))] ?_
    refine sw_draw hm_ ?_
    refine dA 0 ?_ (x := lD [PV.val _, PV.sl .v _, PV.val _, PV.val _] FSeg_ty_90)
    refine dA 1 ?_ (x := cL [(true, [PV.val _, PV.sl _ _, PV.val _, PV.val _])] [(true, [PV.val _, PV.sl .v _, PV.val _, PV.val _])] FSeg_c_45 (hs := by exact impl_rowOf (by omega)))
    refine dA 3 ?_ (x := gL [(true, [PV.val _, PV.sl _ _])] [(true, [PV.val _, PV.sl .v _])] FSeg_c_44 (hs := by exact impl_FormatRow))
    refine dA 7 ?_ (x := loc_sadd)
    refine dA 0 ?_ (x := lF FSeg_fd_90_2)
    refine dA 16 ?_ (x := lD [PV.val _] FSeg_ty_3)
    refine dA 55 ?_ (x := gL [(false, [PV.val _])] [(false, [PV.val _])] FSeg_c_32 (hs := by exact (impl_FormatInt (by unfold I64; omega))))
    refine dA 127 ?_ (x := loc_sadd)
    refine dA 255 ?_ (x := sA)
    refine sw_seq ?_
    refine sw_seq ?_
    refine sO [(1, _), (2, _), (4, _), (5, _), (7, _), (8, _), (26, _), (27, _), (28, _), (7000, _)] [(2, _), (7, _)] ?_
    refine sw_reg ?_
    refine rA ?_ (x := lF FSeg_fd_90_3)
    refine rA ?_ (x := lD [PV.val _] FSeg_ty_3)
    refine rA ?_ (x := B_neq)
    refine sw_cond (t := 42) rfl (fun hb5 => ?_) (fun hb5 => ?_)
    ·try simp only [q1, q2, q3, q4, q5, q6, q7, q8, q9] at hb5
     have hd := hb5
     refine sO [(1, _), (2, _), (4, _), (5, _), (7, _), (8, _), (26, _), (27, _), (28, _), (7000, _)] [(2, _), (7, _)] ?_
     refine sw_reg ?_
     refine rA ?_ (x := sM)
     refine rA ?_ (x := lF FSeg_fd_90_3)
     refine rA ?_ (x := lD [PV.val _] FSeg_ty_3)
     refine rA ?_ (x := gL [(false, [PV.val _])] [(false, [PV.val _])] FSeg_c_32 (hs := by exact (impl_FormatInt (by unfold I64; omega))))
     refine rA ?_ (x := loc_sadd)
     refine rA ?_ (x := loc_sadd)
     refine rA ?_ (x := sA)
     refine sO [(1, _), (2, _), (4, _), (5, _), (7, _), (8, _), (26, _), (27, _), (28, _), (7000, _)] [(2, _), (7, _)] ?_
     refine sw_reg ?_
     refine rA ?_ (x := tM)
     refine rA ?_ (x := sM)
     refine rA ?_ (x := loc_bslice (qs := [(false, [PV.val _])]) (by decide) FSeg_sl_82 FSeg_z_9 (by decide) rfl rfl rfl rfl rfl (by exact Nat.le_of_ble_eq_true rfl) (by exact (And.intro (by exact ⟨⟩) True.intro)) rfl)
     refine rA ?_ (x := loc_append (by decide) FSeg_sl_82 FSeg_z_9 rfl rfl (by decide) rfl (by simp only [List.length_map, List.length_append, List.length_cons, List.length_nil]; omega) (by simp only [List.length_map, List.length_append, List.length_cons, List.length_nil]; omega))
     refine rA ?_ (x := tA)
     refine sO [(1, _), (2, _), (4, _), (5, _), (7, _), (8, _), (26, _), (27, _), (28, _), (7000, _)] [(2, _), (7, _)] ?_
     refine sw_reg ?_
     refine rA ?_ (x := B_add)
     refine rA ?_ (x := sM)
     refine Exists.intro (k + 1) (And.intro (by omega) (And.intro (by omega) (And.intro (And.intro (by exact ⟨rfl, rfl, rfl, rfl, rfl, rfl, ⟨⟩⟩) (by exact ⟨rfl, ⟨⟩⟩)) (And.intro (by exact And.intro (by exact slc_eq (by rw [map_take_succ hlt, List.map_append]; first | (simp [segWord, hd, cStr, List.append_assoc]; done) | (rw [segWord, if_neg hd]; simp [cStr, List.append_assoc]))) (And.intro (by exact rfl) (True.intro))) (by exact ⟨⟩)))))
    ·try simp only [q1, q2, q3, q4, q5, q6, q7, q8, q9] at hb5
     have hd : s.Segments[i.toNat][k].Died = -1 := by simpa using hb5
     refine sw_skip ?_
     refine sO [(1, _), (2, _), (4, _), (5, _), (7, _), (8, _), (26, _), (27, _), (28, _), (7000, _)] [(2, _), (7, _)] ?_
     refine sw_reg ?_
     refine rA ?_ (x := tM)
     refine rA ?_ (x := sM)
     refine rA ?_ (x := loc_bslice (qs := [(false, [PV.val _])]) (by decide) FSeg_sl_82 FSeg_z_9 (by decide) rfl rfl rfl rfl rfl (by exact Nat.le_of_ble_eq_true rfl) (by exact (And.intro (by exact ⟨⟩) True.intro)) rfl)
     refine rA ?_ (x := loc_append (by decide) FSeg_sl_82 FSeg_z_9 rfl rfl (by decide) rfl (by simp only [List.length_map, List.length_append, List.length_cons, List.length_nil]; omega) (by simp only [List.length_map, List.length_append, List.length_cons, List.length_nil]; omega))
     refine rA ?_ (x := tA)
     refine sO [(1, _), (2, _), (4, _), (5, _), (7, _), (8, _), (26, _), (27, _), (28, _), (7000, _)] [(2, _), (7, _)] ?_
     refine sw_reg ?_
     refine rA ?_ (x := B_add)
     refine rA ?_ (x := sM)
     refine Exists.intro (k + 1) (And.intro (by omega) (And.intro (by omega) (And.intro (And.intro (by exact ⟨rfl, rfl, rfl, rfl, rfl, rfl, ⟨⟩⟩) (by exact ⟨rfl, ⟨⟩⟩)) (And.intro (by exact And.intro (by exact slc_eq (by rw [map_take_succ hlt, List.map_append]; first | (simp [segWord, hd, cStr, List.append_assoc]; done) | (rw [segWord, if_neg hd]; simp [cStr, List.append_assoc]))) (And.intro (by exact rfl) (True.intro))) (by exact ⟨⟩)))))
   ·try simp only [q1, q2, q3, q4, q5, q6, q7, q8, q9] at hb4
    have hend : k = s.Segments[i.toNat].length := by omega
    have hjl := segJ_len hok.1 hil k
    subst hend
    rw [List.take_length] at hjl ⊢
    have hml : (s.Segments[i.toNat].map segWord).length = s.Segments[i.toNat].length := List.length_map _
    refine sw_exit ?_
    refine sw_seq ?_
    refine sO [(1, _), (2, _), (4, _), (5, _), (26, _), (27, _), (28, _), (7000, _)] [(2, (36, [PV.sl _ _, PV.val _]))] ?_
    refine sw_reg ?_
    refine rA ?_ (x := vM false [PV.sl .v _])
    refine rA ?_ (x := cL [(false, [PV.sl _ _])] [(false, [PV.sl .v _])] FSeg_c_46 (hs := by exact (impl_wordsLine (by omega) (by omega))))
    refine rA ?_ (x := sA)
    refine sw_ret ?_
    exact (And.intro (by refine sv_eq ?_; exact str_eq (by unfold segLine; rw [if_pos (by rw [hok.1, hok.2]; rfl), hgd])) True.intro)
theorem spec_SegmentLine {p1 p2 : Fl} {s : Store} {i : Int}  (hb : wtStore s ≤ 68719476736) : SCall Tryd.prog 13 [(true, [PV.sl .v (s.Segments.map (cVersionS p1 p2)), PV.val (vI s.Now)]), (false, [PV.val (vI i)])] (resRV [(false, [PV.val (.string (B (segLine s i)))])]) := by
 refine scall_of (rs := [(false, [PV.val (.string (B (segLine s i)))])]) Tryd.func13 rfl (Nat.le_of_ble_eq_true rfl) (borA_cons (BorL.cons (PV.bor_sl _) (BorL.cons (PV.bor_val _) BorL.nil)) (borA_cons (BorL.cons (PV.bor_val _) BorL.nil) borA_nil)) ?_
 intro h0 w0 Fz0
 refine sw_slen (s := 0) (j := 0) rfl rfl fun hl0_0 => ?_
 try rw [List.length_map] at hl0_0
 refine sw_seq ?_
 refine sw_reg ?_
 refine RunS.step (by exact ⟨rfl, ⟨⟩⟩) (by exact ⟨⟩) (LocG.of rfl (loc_box (ag := true) (cs := [PV.sl _ _, PV.val _]) (by decide) (by exact ⟨⟩))) (free1 (Free.of_ rfl)) ?_
 refine rA ?_ (x := kA)
 refine sw_seq ?_
 refine sw_seq ?_
 refine sO [(1, _), (2, _), (4, _)] [(2, (36, [PV.sl _ _, PV.val _]))] ?_
 refine sw_reg ?_
 refine rA ?_ (x := lD [PV.sl .v _, PV.val _] FSeg_ty_36)
 refine rA ?_ (x := cL [(true, [PV.sl _ _, PV.val _])] [(true, [PV.sl .v _, PV.val _])] FSeg_c_38 (hs := by exact spec_IsStore (by omega)))
 refine rA ?_ (x := nT)
 refine rA ?_ (x := sM)
 refine RunS.cases (s := 11) rfl (fun g1 => ?_) (fun g1 => ?_)
 ·have sg1 := g1
  try simp only [q1, q2, q3, q4, q5, q6, q7, q8, q9] at sg1
  refine RunS.s0t g1 ?_
  refine RunS.s0t g1 ?_
  refine RunS.s0t g1 ?_
  refine RunS.s0t g1 ?_
  refine RunS.s0t g1 ?_
  refine RunS.s0t g1 ?_
  refine RunS.s0t g1 ?_
  refine rA ?_ (x := pkT g1)
  refine sw_cond (t := 19) rfl (fun hb_ => ?_) (fun hb_ => nomatch hb_)
  have hbad : (okStore s && inB i 0 (s.Segments.length - 1)) = false := by cases h1 : okStore s <;> cases h2 : inB i 0 (s.Segments.length - 1) <;> simp_all
  refine sw_seq ?_
  refine sO [(1, _), (2, _), (4, _)] [(2, _)] ?_
  refine sw_reg ?_
  refine rA ?_ (x := kA)
  refine sw_ret ?_
  exact (And.intro (by refine sv_eq ?_; exact str_eq (by unfold segLine; rw [if_neg (by rw [hbad]; simp)])) True.intro)
 ·have sg1 := g1
  try simp only [q1, q2, q3, q4, q5, q6, q7, q8, q9] at sg1
  refine rB g1 ?_ (x := sM)
  refine rB g1 ?_ (x := lF FSeg_fd_36_0)
  refine rB g1 ?_ (x := lD [PV.sl .v _] FSeg_ty_34)
  refine rB g1 ?_ (x := lN FSeg_sl_34)
  refine rB g1 ?_ (x := B_sub)
  refine rB g1 ?_ (x := cL [(false, [PV.val _]), (false, [PV.val _]), (false, [PV.val _])] [(false, [PV.val _]), (false, [PV.val _]), (false, [PV.val _])] FSeg_c_39 (hs := by exact spec_l1In))
  refine rB g1 ?_ (x := nT)
  refine rA ?_ (x := pkF g1)
  refine sw_cond (t := 19) rfl (fun hb3 => ?_) (fun hb3 => ?_)
  ·try simp only [q1, q2, q3, q4, q5, q6, q7, q8, q9] at hb3
   have hbad : (okStore s && inB i 0 (s.Segments.length - 1)) = false := by cases h1 : okStore s <;> cases h2 : inB i 0 (s.Segments.length - 1) <;> simp_all
   refine sw_seq ?_
   refine sO [(1, _), (2, _), (4, _)] [(2, _)] ?_
   refine sw_reg ?_
   refine rA ?_ (x := kA)
   refine sw_ret ?_
   exact (And.intro (by refine sv_eq ?_; exact str_eq (by unfold segLine; rw [if_neg (by rw [hbad]; simp)])) True.intro)
  ·try simp only [q1, q2, q3, q4, q5, q6, q7, q8, q9] at hb3
   have hok : okStore s = true ∧ inB i 0 (s.Segments.length - 1) = true := by cases h1 : okStore s <;> cases h2 : inB i 0 (s.Segments.length - 1) <;> simp_all
   have hin := hok.2
   simp only [inB, Bool.and_eq_true, decide_eq_true_eq] at hin
   obtain ⟨a1, a2, a3, a4, a5, a6⟩ := sto_facts hok.1
   have hil : i.toNat < s.Segments.length := by omega
   have hsl := a5 _ (List.getElem_mem hil)
   have hgd : s.Segments.getD i.toNat [] = s.Segments[i.toNat] := (gDt_ hil).symm
   have hws := wt_mem (f := wtVersionS) hil
   have hws2 : wtVersionS s.Segments[i.toNat] = s.Segments[i.toNat].length + (s.Segments[i.toNat].map wtVersion).sum := rfl
   refine sw_skip ?_
   refine sw_seq ?_
   refine sO [(1, _), (2, _), (4, _)] [(2, _)] ?_
   refine sw_reg ?_
   refine rA ?_ (x := kA)
   refine sw_seq ?_
   refine sw_seq ?_
   refine sO [(1, _), (2, _), (4, _), (5, _)] [(2, _)] ?_
   refine sw_reg ?_
   refine rA ?_ (x := kA)
   refine sw_block ?_
   refine sO [(1, _), (2, _), (4, _), (5, _), (6, _)] [(2, _)] ?_
   refine sw_loop (l0 := [(1, RV.sv false [PV.val _]), (2, RV.ptr 2 0), (4, RV.sv false [PV.val _])]) (b0 := [(2, (36, [PV.sl _ _, PV.val _]))]) (fun k : Nat => k ≤ s.Segments[i.toNat].length) (fun k : Nat => [(5, RV.sc (.string (B (joinB ((s.Segments[i.toNat].take k).map segWord) [32])))), (6, RV.int (k : Int))]) (fun k : Nat => []) (fun k : Nat => s.Segments[i.toNat].length - k) 0 (by omega) (by exact ⟨rfl, rfl, rfl, ⟨⟩⟩) (by exact ⟨rfl, ⟨⟩⟩) (by exact And.intro (by exact rfl) (And.intro (by exact rfl) (True.intro))) (by exact ⟨⟩) ?_
   rintro k hk
   refine sw_seq ?_
   refine sw_seq ?_
   refine sw_reg ?_
   refine rA ?_ (x := sM)
   refine rA ?_ (x := lF FSeg_fd_36_0)
   refine rA ?_ (x := lD [PV.sl .v _] FSeg_ty_34)
   refine rA ?_ (x := sM)
   refine rA ?_ (x := loc_index (k := i.toNat) (by decide) FSeg_sl_34 (by exact ⟨⟩) (by omega) (by exact getm2 hil rfl) (by exact rfl))
   refine rA ?_ (x := lE [PV.sl .v _] FSeg_ty_88)
   refine rA ?_ (x := lN FSeg_sl_88)
   refine rA ?_ (x := B_lss)
   refine sw_cond (t := 27) rfl (fun hb4 => ?_) (fun hb4 => ?_)
   ·try simp only [q1, q2, q3, q4, q5, q6, q7, q8, q9] at hb4
    have hlt : k < s.Segments[i.toNat].length := by omega
    have hvo := sto_ver hok.1 hil hlt
    have hv6 := ver_i64 hvo a4
    have hfl := fmtRow_len (rowOfV s.Segments[i.toNat][k])
    have hbl : (itoa s.Segments[i.toNat][k].Born).length ≤ 21 := itoa_len (by unfold I64; omega)
    have hdl : (itoa s.Segments[i.toNat][k].Died).length ≤ 21 := itoa_len (by unfold I64; omega)
    have hjl := segJ_len hok.1 hil k
    have htk : (s.Segments[i.toNat].take k).length = k := by rw [List.length_take]; omega
    have hwm2 := wt_mem (f := wtVersion) hlt
    refine sw_skip ?_
    refine sw_seq ?_
    refine sw_block ?_
    refine sw_seq ?_
    refine sO [(1, _), (2, _), (4, _), (5, _), (6, _)] [(2, (36, [PV.sl _ _, PV.val _]))] ?_
    refine sw_reg ?_
    refine rA ?_ (x := lF FSeg_fd_36_0)
    refine rA ?_ (x := lD [PV.sl .v _] FSeg_ty_34)
    refine rA ?_ (x := sM)
    refine rA ?_ (x := loc_index (k := i.toNat) (by decide) FSeg_sl_34 (by exact ⟨⟩) (by omega) (by exact getm2 hil rfl) (by exact rfl))
    refine rA ?_ (x := lE [PV.sl .v _] FSeg_ty_88)
    refine rA ?_ (x := sM)
    refine rA ?_ (x := loc_index (by decide) FSeg_sl_88 (by exact ⟨⟩) (by exact rfl) (by exact getm2 (by omega) rfl) (by exact rfl))
    refine rA ?_ (x := lE [PV.val _, PV.sl .v _, PV.val _, PV.val _] FSeg_ty_90)
    refine RunS.step (by exact ⟨⟩) (by exact ⟨⟩) (LocG.of rfl (loc_alloc (by decide) FSeg_z_90 FSeg_zo_90)) (free1 (Free.app (Free.app (Free.app (Free.app (Free.app (Free.app (Free.app (Free.app (Free.of_ rfl) rfl) rfl) rfl) rfl) rfl) rfl) rfl) rfl)) ?_
    refine rA ?_ (x := loc_store (ag := true) (vs := [PV.val _, PV.sl _ _, PV.val _, PV.val _]) FSeg_ty_90 (by exact ⟨⟩) (by exact rfl) (by exact Nat.le_of_ble_eq_true rfl))
    refine sw_seq ?_
    refine sw_seq ?_
    refine sO [(1, _), (2, _), (4, _), (5, _), (6, _), (7, _)] [(2, _), (7, (90, [PV.val _, PV.sl _ _, PV.val _, PV.val _]))] ?_
    refine sw_reg ?_
    refine rA ?_ (x := sM)
    refine rA ?_ (x := B_gtr)
    refine sw_cond (t := 39) rfl (fun hb5 => ?_) (fun hb5 => ?_)
    ·try simp only [q1, q2, q3, q4, q5, q6, q7, q8, q9] at hb5
     have hk0 : ¬ k = 0 := by omega
     refine sO [(1, _), (2, _), (4, _), (5, _), (6, _), (7, _)] [(2, _), (7, _)] ?_
     refine sw_reg ?_
     refine rA ?_ (x := sM)
     refine rA ?_ (x := loc_sadd)
     refine rA ?_ (x := sA)
     refine sw_seq ?_
     refine sO [(1, _), (2, _), (4, _), (5, _), (6, _), (7, _)] [(2, _), (7, _)] ?_
     refine sw_draw hm_ ?_
     refine dA 0 ?_ (x := sM)
     refine dA 0 ?_ (x := lF FSeg_fd_90_0)
     refine dA 2 ?_ (x := lD [PV.val _] FSeg_ty_3)
     refine dA 0 ?_ (x := lF FSeg_fd_90_1)
     refine dA 8 ?_ (x := lD [PV.sl .v _] FSeg_ty_41)
     refine dA 30 ?_ (x := loc_build (qs := [(false, [PV.val _]), (false, [PV.sl _ _])]) (cs := [PV.val _, PV.sl _ _]) (by decide) FSeg_z_66 FSeg_zo_66 FSeg_pl_66 (by exact rfl) (by exact (And.intro (by exact ⟨⟩) (And.intro (by exact ⟨⟩) True.intro))) rfl (by exact rfl))
     refine dA 62 ?_ (x := cL [(true, [PV.val _, PV.sl _ _])] [(true, [PV.val _, PV.sl .v _])] FSeg_c_40 (hs := by exact (spec_FormatRow (r := rowOfV s.Segments[i.toNat][k]))))
     refine dA 127 ?_ (x := loc_sadd)
     refine dA 255 ?_ (x := loc_sadd)
     refine dA 0 ?_ (x := lF FSeg_fd_90_2)
     refine dA 512 ?_ (x := lD [PV.val _] FSeg_ty_3)
     refine dA 1662 ?_ (x := cL [(false, [PV.val _])] [(false, [PV.val _])] FSeg_c_28 (hs := by exact (spec_FormatInt (by unfold I64; omega))))
     refine dA 4095 ?_ (x := loc_sadd)
     refine dA 8191 ?_ (x := sA)
     refine sw_seq ?_
     refine sO [(1, _), (2, _), (4, _), (5, _), (6, _), (7, _)] [(2, _), (7, _)] ?_
     refine sw_reg ?_
     refine rA ?_ (x := lF FSeg_fd_90_3)
     refine rA ?_ (x := lD [PV.val _] FSeg_ty_3)
     refine rA ?_ (x := B_neq)
     refine sw_cond (t := 57) rfl (fun hb6 => ?_) (fun hb6 => ?_)
     ·try simp only [q1, q2, q3, q4, q5, q6, q7, q8, q9] at hb6
      have hd := hb6
      refine sO [(1, _), (2, _), (4, _), (5, _), (6, _), (7, _)] [(2, _), (7, _)] ?_
      refine sw_reg ?_
      refine rA ?_ (x := sM)
      refine rA ?_ (x := loc_sadd)
      refine rA ?_ (x := lF FSeg_fd_90_3)
      refine rA ?_ (x := lD [PV.val _] FSeg_ty_3)
      refine rA ?_ (x := cL [(false, [PV.val _])] [(false, [PV.val _])] FSeg_c_28 (hs := by exact (spec_FormatInt (by unfold I64; omega))))
      refine rA ?_ (x := loc_sadd)
      refine rA ?_ (x := sA)
      refine sO [(1, _), (2, _), (4, _), (5, _), (6, _), (7, _)] [(2, _), (7, _)] ?_
      refine sw_reg ?_
      refine rA ?_ (x := sM)
      refine rA ?_ (x := B_add)
      refine rA ?_ (x := sA)
      refine Exists.intro (k + 1) (And.intro (by omega) (And.intro (by omega) (And.intro (And.intro (by exact ⟨rfl, rfl, rfl, ⟨⟩⟩) (by exact ⟨rfl, ⟨⟩⟩)) (And.intro (by exact And.intro (by first | exact congrArg (fun z => some (RV.sc (.string (B z)))) (by rw [map_take_succ hlt, join_snoc, if_neg (map_take_nil hlt hk0)]; simp [segWord, rowOfV, hd, join_nil, List.append_assoc]) | exact congrArg (fun z => some (RV.sc (.string (B z)))) (by rw [map_take_succ hlt, join_snoc, if_pos (by rw [hk0]; rfl)]; subst hk0; simp [segWord, rowOfV, hd, join_nil, List.append_assoc])) (And.intro (by exact rfl) (True.intro))) (by exact ⟨⟩)))))
     ·try simp only [q1, q2, q3, q4, q5, q6, q7, q8, q9] at hb6
      have hd : s.Segments[i.toNat][k].Died = -1 := by simpa using hb6
      refine sw_skip ?_
      refine sO [(1, _), (2, _), (4, _), (5, _), (6, _), (7, _)] [(2, _), (7, _)] ?_
      refine sw_reg ?_
      refine rA ?_ (x := sM)
      refine rA ?_ (x := B_add)
      refine rA ?_ (x := sA)
      refine Exists.intro (k + 1) (And.intro (by omega) (And.intro (by omega) (And.intro (And.intro (by exact ⟨rfl, rfl, rfl, ⟨⟩⟩) (by exact ⟨rfl, ⟨⟩⟩)) (And.intro (by exact And.intro (by first | exact congrArg (fun z => some (RV.sc (.string (B z)))) (by rw [map_take_succ hlt, join_snoc, if_neg (map_take_nil hlt hk0)]; simp [segWord, rowOfV, hd, join_nil, List.append_assoc]) | exact congrArg (fun z => some (RV.sc (.string (B z)))) (by rw [map_take_succ hlt, join_snoc, if_pos (by rw [hk0]; rfl)]; subst hk0; simp [segWord, rowOfV, hd, join_nil, List.append_assoc])) (And.intro (by exact rfl) (True.intro))) (by exact ⟨⟩)))))
    ·try simp only [q1, q2, q3, q4, q5, q6, q7, q8, q9] at hb5
     have hk0 : k = 0 := by omega
     refine sw_skip ?_
     refine sw_seq ?_
     refine sO [(1, _), (2, _), (4, _), (5, _), (6, _), (7, _)] [(2, _), (7, _)] ?_
     refine sw_draw hm_ ?_
     refine dA 0 ?_ (x := sM)
     refine dA 0 ?_ (x := lF FSeg_fd_90_0)
     refine dA 2 ?_ (x := lD [PV.val _] FSeg_ty_3)
     refine dA 0 ?_ (x := lF FSeg_fd_90_1)
     refine dA 8 ?_ (x := lD [PV.sl .v _] FSeg_ty_41)
     refine dA 30 ?_ (x := loc_build (qs := [(false, [PV.val _]), (false, [PV.sl _ _])]) (cs := [PV.val _, PV.sl _ _]) (by decide) FSeg_z_66 FSeg_zo_66 FSeg_pl_66 (by exact rfl) (by exact (And.intro (by exact ⟨⟩) (And.intro (by exact ⟨⟩) True.intro))) rfl (by exact rfl))
     refine dA 62 ?_ (x := cL [(true, [PV.val _, PV.sl _ _])] [(true, [PV.val _, PV.sl .v _])] FSeg_c_40 (hs := by exact (spec_FormatRow (r := rowOfV s.Segments[i.toNat][k]))))
     refine dA 127 ?_ (x := loc_sadd)
     refine dA 255 ?_ (x := loc_sadd)
     refine dA 0 ?_ (x := lF FSeg_fd_90_2)
     refine dA 512 ?_ (x := lD [PV.val _] FSeg_ty_3)
     refine dA 1662 ?_ (x := cL [(false, [PV.val _])] [(false, [PV.val _])] FSeg_c_28 (hs := by exact (spec_FormatInt (by unfold I64; omega))))
     refine dA 4095 ?_ (x := loc_sadd)
     refine dA 8191 ?_ (x := sA)
     refine sw_seq ?_
     refine sO [(1, _), (2, _), (4, _), (5, _), (6, _), (7, _)] [(2, _), (7, _)] ?_
     refine sw_reg ?_
     refine rA ?_ (x := lF FSeg_fd_90_3)
     refine rA ?_ (x := lD [PV.val _] FSeg_ty_3)
     refine rA ?_ (x := B_neq)
     refine sw_cond (t := 57) rfl (fun hb7 => ?_) (fun hb7 => ?_)
     ·try simp only [q1, q2, q3, q4, q5, q6, q7, q8, q9] at hb7
      have hd := hb7
      refine sO [(1, _), (2, _), (4, _), (5, _), (6, _), (7, _)] [(2, _), (7, _)] ?_
      refine sw_reg ?_
      refine rA ?_ (x := sM)
      refine rA ?_ (x := loc_sadd)
      refine rA ?_ (x := lF FSeg_fd_90_3)
      refine rA ?_ (x := lD [PV.val _] FSeg_ty_3)
      refine rA ?_ (x := cL [(false, [PV.val _])] [(false, [PV.val _])] FSeg_c_28 (hs := by exact (spec_FormatInt (by unfold I64; omega))))
      refine rA ?_ (x := loc_sadd)
      refine rA ?_ (x := sA)
      refine sO [(1, _), (2, _), (4, _), (5, _), (6, _), (7, _)] [(2, _), (7, _)] ?_
      refine sw_reg ?_
      refine rA ?_ (x := sM)
      refine rA ?_ (x := B_add)
      refine rA ?_ (x := sA)
      refine Exists.intro (k + 1) (And.intro (by omega) (And.intro (by omega) (And.intro (And.intro (by exact ⟨rfl, rfl, rfl, ⟨⟩⟩) (by exact ⟨rfl, ⟨⟩⟩)) (And.intro (by exact And.intro (by first | exact congrArg (fun z => some (RV.sc (.string (B z)))) (by rw [map_take_succ hlt, join_snoc, if_neg (map_take_nil hlt hk0)]; simp [segWord, rowOfV, hd, join_nil, List.append_assoc]) | exact congrArg (fun z => some (RV.sc (.string (B z)))) (by rw [map_take_succ hlt, join_snoc, if_pos (by rw [hk0]; rfl)]; subst hk0; simp [segWord, rowOfV, hd, join_nil, List.append_assoc])) (And.intro (by exact rfl) (True.intro))) (by exact ⟨⟩)))))
     ·try simp only [q1, q2, q3, q4, q5, q6, q7, q8, q9] at hb7
      have hd : s.Segments[i.toNat][k].Died = -1 := by simpa using hb7
      refine sw_skip ?_
      refine sO [(1, _), (2, _), (4, _), (5, _), (6, _), (7, _)] [(2, _), (7, _)] ?_
      refine sw_reg ?_
      refine rA ?_ (x := sM)
      refine rA ?_ (x := B_add)
      refine rA ?_ (x := sA)
      refine Exists.intro (k + 1) (And.intro (by omega) (And.intro (by omega) (And.intro (And.intro (by exact ⟨rfl, rfl, rfl, ⟨⟩⟩) (by exact ⟨rfl, ⟨⟩⟩)) (And.intro (by exact And.intro (by first | exact congrArg (fun z => some (RV.sc (.string (B z)))) (by rw [map_take_succ hlt, join_snoc, if_neg (map_take_nil hlt hk0)]; simp [segWord, rowOfV, hd, join_nil, List.append_assoc]) | exact congrArg (fun z => some (RV.sc (.string (B z)))) (by rw [map_take_succ hlt, join_snoc, if_pos (by rw [hk0]; rfl)]; subst hk0; simp [segWord, rowOfV, hd, join_nil, List.append_assoc])) (And.intro (by exact rfl) (True.intro))) (by exact ⟨⟩)))))
   ·try simp only [q1, q2, q3, q4, q5, q6, q7, q8, q9] at hb4
    have hend : k = s.Segments[i.toNat].length := by omega
    subst hend
    rw [List.take_length]
    have hle := lines_end (ws := s.Segments[i.toNat].map segWord) (by intro y hy; obtain ⟨r, hr, rfl⟩ := List.mem_map.1 hy; exact segWord_ne _)
    refine sw_exit ?_
    refine sw_seq ?_
    refine sw_seq ?_
    refine sO [(1, _), (2, _), (4, _), (5, _), (6, _)] [(2, (36, [PV.sl _ _, PV.val _]))] ?_
    refine sw_reg ?_
    refine rA ?_ (x := sM)
    refine rA ?_ (x := loc_seql)
    refine sw_cond (t := 65) rfl (fun hb8 => ?_) (fun hb8 => ?_)
    ·try simp only [q1, q2, q3, q4, q5, q6, q7, q8, q9] at hb8
     have he := hb8
     refine sw_seq ?_
     refine sO [(1, _), (2, _), (4, _), (5, _), (6, _)] [(2, _)] ?_
     refine sw_reg ?_
     refine rA ?_ (x := kA)
     refine sw_ret ?_
     exact (And.intro (by refine sv_eq ?_; exact str_eq (by unfold segLine; rw [if_pos (by rw [hok.1, hok.2]; rfl), hgd, ← hle]; first | rw [if_pos he] | rw [if_neg he])) True.intro)
    ·try simp only [q1, q2, q3, q4, q5, q6, q7, q8, q9] at hb8
     have he := hb8
     refine sw_skip ?_
     refine sw_seq ?_
     refine sO [(1, _), (2, _), (4, _), (5, _), (6, _)] [(2, _)] ?_
     refine sw_reg ?_
     refine rA ?_ (x := sM)
     refine rA ?_ (x := sA)
     refine sw_ret ?_
     exact (And.intro (by refine sv_eq ?_; exact str_eq (by unfold segLine; rw [if_pos (by rw [hok.1, hok.2]; rfl), hgd, ← hle]; first | rw [if_pos he] | rw [if_neg he])) True.intro)
end Go.Proofs.YtaomckpfgmhapaaDoor
