/- What functions of the program compute. No condition. -/
import Derived.Test.YteflgldonmgejaaGreatCIdxProbeWork
import Derived.Test.YteflgldonmgejaaGreatCDj
import Derived.KernelRfl
set_option linter.unusedVariables false
set_option linter.unusedSimpArgs false
namespace Go.Proofs.YteflgldonmgejaaGreat
open Go Go.RowKit M
set_option maxRecDepth 10000
attribute [local irreducible] PV.Lcl PV.LclR RV.Lcl
theorem FIdb_c_173 : callI Tryz.prog 173 = true := by kernel_rfl
theorem FIdb_c_179 : callI Tryz.prog 179 = true := by kernel_rfl
theorem FIdb_c_180 : callI Tryz.prog 180 = true := by kernel_rfl
theorem FIdb_c_181 : callI Tryz.prog 181 = true := by kernel_rfl
theorem FIdb_c_182 : callI Tryz.prog 182 = true := by kernel_rfl
theorem FIdb_c_183 : callI Tryz.prog 183 = true := by kernel_rfl
theorem FIdb_c_184 : callI Tryz.prog 184 = true := by kernel_rfl
theorem FIdb_c_185 : callI Tryz.prog 185 = true := by kernel_rfl
theorem FIdb_c_97 : callI Tryz.prog 97 = true := by kernel_rfl
theorem FIdb_fd_65_0 : fieldI Tryz.prog 65 0 = some 0 := by kernel_rfl
theorem FIdb_fd_66_1 : fieldI Tryz.prog 66 1 = some 1 := by kernel_rfl
theorem FIdb_fd_92_0 : fieldI Tryz.prog 92 0 = some 0 := by kernel_rfl
theorem FIdb_fd_92_1 : fieldI Tryz.prog 92 1 = some 1 := by kernel_rfl
theorem FIdb_pl_92 : placesI Tryz.prog 92 = some [(0, 1), (1, 1)] := by kernel_rfl
theorem FIdb_sl_25 : sliceI Tryz.prog 25 = some (3, 1, 8) := by kernel_rfl
theorem FIdb_sl_89 : sliceI Tryz.prog 89 = some (65, 4, 64) := by kernel_rfl
theorem FIdb_sl_90 : sliceI Tryz.prog 90 = some (205, 1, 24) := by kernel_rfl
theorem FIdb_ty_205 : tyI Tryz.prog 205 = some (false, 1) := by kernel_rfl
theorem FIdb_ty_25 : tyI Tryz.prog 25 = some (false, 1) := by kernel_rfl
theorem FIdb_ty_3 : tyI Tryz.prog 3 = some (false, 1) := by kernel_rfl
theorem FIdb_ty_89 : tyI Tryz.prog 89 = some (false, 1) := by kernel_rfl
theorem FIdb_ty_90 : tyI Tryz.prog 90 = some (false, 1) := by kernel_rfl
theorem FIdb_ty_92 : tyI Tryz.prog 92 = some (true, 2) := by kernel_rfl
theorem FIdb_z_205 : zeroI Tryz.prog 205 = some (.slice none 0 0) := by kernel_rfl
theorem FIdb_z_3 : zeroI Tryz.prog 3 = some (.int .i64 0) := by kernel_rfl
theorem FIdb_z_92 : zeroI Tryz.prog 92 = some (.agg #[.slice none 0 0, .slice none 0 0]) := by kernel_rfl
theorem FIdb_zo_92 {Fz : FzT} {w : World} : OwnL [PV.sl (.own 65 4) [], PV.sl (.own 205 1) []] Fz w (Value.cells (.agg #[.slice none 0 0, .slice none 0 0])).toList [] := zo_sl (zo_sl (zo_nil))
theorem spec_BuildIndex {p1 p2 : Fl} {l : List Query}  : SCall Tryz.prog 105 [(false, [PV.sl .v (l.map (cQuery p1 p2))])] (resRV [(true, [PV.sl (.own 65 4) ((buildIdx l).Queries.map (cQuery (.own 193 3) (.own 3 1))), PV.sl (.own 205 1) ((buildIdx l).Fields.map (cSpanS (.own 234 3) (.own 3 1)))])]) := by
 refine scall_of (rs := [(true, [PV.sl (.own 65 4) ((buildIdx l).Queries.map (cQuery (.own 193 3) (.own 3 1))), PV.sl (.own 205 1) ((buildIdx l).Fields.map (cSpanS (.own 234 3) (.own 3 1)))])]) Tryz.func105 rfl (Nat.le_of_ble_eq_true rfl) (borA_cons (BorL.cons (PV.bor_sl _) BorL.nil) borA_nil) ?_
 intro h0 w0 Fz0
 refine sw_len (s := 0) rfl fun hl0 => ?_
 try rw [List.length_map] at hl0
 refine sw_seq ?_
 refine sw_reg ?_
 refine RunS.step (by exact ⟨⟩) (by exact ⟨⟩) (LocG.of rfl (loc_alloc (by decide) FIdb_z_92 FIdb_zo_92)) (free1 (Free.of_ rfl)) ?_
 refine sw_seq ?_
 refine sw_seq ?_
 refine sO [(0, _), (2, _)] [(2, (92, [PV.sl _ _, PV.sl _ _]))] ?_
 refine sw_reg ?_
 refine rA ?_ (x := vM false [PV.sl .v _])
 refine rA ?_ (x := cL [(false, [PV.sl _ _])] [(false, [PV.sl .v _])] FIdb_c_179 (hs := by exact spec_AreQueries))
 refine rA ?_ (x := nT)
 refine sw_cond (t := 7) rfl (fun hb1 => ?_) (fun hb1 => ?_)
 ·try simp only [q1, q2, q3, q4, q5, q6, q7, q8, q9] at hb1
  have hok : okQueries l = false := by simpa using hb1
  refine sw_seq ?_
  refine sO [(0, _), (2, _)] [(2, _)] ?_
  refine sw_reg ?_
  refine rA ?_ (x := loc_build (qs := []) (cs := [PV.sl _ _, PV.sl _ _]) (by decide) FIdb_z_92 FIdb_zo_92 FIdb_pl_92 (by exact rfl) (by exact ⟨⟩) rfl (by exact rfl))
  refine rA ?_ (x := loc_store (ag := true) (vs := [PV.sl _ _, PV.sl _ _]) FIdb_ty_92 (by exact ⟨⟩) (by exact rfl) (by exact Nat.le_of_ble_eq_true rfl))
  refine sw_ret ?_
  exact (Exists.intro 2 (Exists.intro _ (And.intro (by exact rfl) (And.intro (by refine box_eq ?_; rw [build_no hok]; exact rfl) (And.intro FIdb_ty_92 (And.intro (fun h => nomatch h) True.intro))))))
 ·try simp only [q1, q2, q3, q4, q5, q6, q7, q8, q9] at hb1
  have hok : okQueries l = true := by simpa using hb1
  have hqw := okQs_wt hok
  have hql := okQs hok
  refine sw_skip ?_
  refine sw_seq ?_
  refine sO [(0, _), (2, _)] [(2, _)] ?_
  refine sw_reg ?_
  refine rA ?_ (x := vM false [PV.sl .v _])
  refine rA ?_ (x := cL [(false, [PV.sl _ _])] [(false, [PV.sl .v _])] FIdb_c_180 (hs := by exact spec_l6Queries (by omega)))
  refine rA ?_ (x := loc_build (qs := [(false, [PV.sl _ _])]) (cs := [PV.sl _ _, PV.sl _ _]) (by decide) FIdb_z_92 FIdb_zo_92 FIdb_pl_92 (by exact rfl) (by exact (And.intro (by exact ⟨⟩) True.intro)) rfl (by exact rfl))
  refine RunS.step (by exact ⟨⟩) (by exact ⟨⟩) (LocG.of rfl (loc_alloc (by decide) FIdb_z_92 FIdb_zo_92)) (free1 (Free.app (Free.app (Free.app (Free.of_ rfl) rfl) rfl) rfl)) ?_
  refine rA ?_ (x := loc_store (ag := true) (vs := [PV.sl _ _, PV.sl _ _]) FIdb_ty_92 (by exact ⟨⟩) (by exact rfl) (by exact Nat.le_of_ble_eq_true rfl))
  refine sw_seq ?_
  refine sw_seq ?_
  refine sO [(0, _), (2, _), (3, _)] [(2, _), (3, (92, [PV.sl _ _, PV.sl _ _]))] ?_
  refine sw_reg ?_
  refine rA ?_ (x := kA)
  refine sw_block ?_
  refine sO [(0, _), (2, _), (3, _), (4, _)] [(2, _), (3, _)] ?_
  refine sw_loop (l0 := [(0, RV.sv false [PV.sl _ _]), (2, RV.ptr 2 0), (3, RV.ptr 3 0)]) (b0 := [(2, (92, [PV.sl _ _, PV.sl _ _]))]) (fun k : Nat => k ≤ 3) (fun k : Nat => [(4, RV.int (k : Int))]) (fun k : Nat => [(3, (92, (cIndex (.own 65 4) (.own 193 3) (.own 3 1) (.own 205 1) (.own 234 3) (.own 3 1)) ⟨l, fieldsTo l k⟩))]) (fun k : Nat => 3 - k) 0 (by omega) (by exact ⟨rfl, rfl, rfl, ⟨⟩⟩) (by exact ⟨rfl, ⟨⟩⟩) (by exact And.intro (by exact rfl) (True.intro)) (by exact And.intro (by exact rfl) (True.intro)) ?_
  rintro k hk
  refine sw_seq ?_
  refine sw_seq ?_
  refine sw_reg ?_
  refine rA ?_ (x := sM)
  refine rA ?_ (x := B_lss)
  refine sw_cond (t := 13) rfl (fun hb2 => ?_) (fun hb2 => ?_)
  ·try simp only [q1, q2, q3, q4, q5, q6, q7, q8, q9] at hb2
   have hlt : k < 3 := by omega
   have hfl := fieldsTo_len (l := l) (k := k)
   refine sw_skip ?_
   refine sw_seq ?_
   refine sw_block ?_
   refine sO [(0, _), (2, _), (3, _), (4, _)] [(2, (92, [PV.sl _ _, PV.sl _ _])), (3, (92, [PV.sl _ _, PV.sl _ _]))] ?_
   refine sw_draw hm_ ?_
   refine dA 0 ?_ (x := lF FIdb_fd_92_1)
   refine dA 1 ?_ (x := loc_ltake (ms := [PV.sl _ _]) (qs := [PV.sl .v _]) (by decide) FIdb_ty_90 (fun _ => rfl) (by exact Nat.le_of_ble_eq_true rfl) (by exact rfl) (by exact (ToL.cons PV.to_none ToL.nil)) (by exact (BorL.cons (PV.bor_sl _) BorL.nil)))
   refine dA 0 ?_ (x := vM false [PV.sl .v _])
   refine dA 0 ?_ (x := sM)
   refine dA 12 ?_ (x := cL [(false, [PV.sl _ _]), (false, [PV.val _])] [(false, [PV.sl .v _]), (false, [PV.val _])] FIdb_c_181 (hs := by exact spec_StabIndex))
   refine dA 28 ?_ (x := loc_bslice (qs := [(false, [PV.sl _ _])]) (by decide) FIdb_sl_90 FIdb_z_205 (by decide) rfl rfl rfl rfl rfl (by exact Nat.le_of_ble_eq_true rfl) (by exact (And.intro (by exact ⟨⟩) True.intro)) rfl)
   refine dA 63 ?_ (x := loc_append (by decide) FIdb_sl_90 FIdb_z_205 rfl rfl (by decide) rfl (by simp only [List.length_map, List.length_append, List.length_cons, List.length_nil]; omega) (by simp only [List.length_map, List.length_append, List.length_cons, List.length_nil]; omega))
   refine dA 127 ?_ (x := lF FIdb_fd_92_1)
   refine dA 255 ?_ (x := loc_store (ag := false) (vs := [PV.sl _ _]) FIdb_ty_90 (by exact ⟨⟩) (by exact rfl) (by exact Nat.le_of_ble_eq_true rfl))
   refine sO [(0, _), (2, _), (3, _), (4, _)] [(2, _), (3, (92, [PV.sl _ _, PV.sl _ _]))] ?_
   refine sw_reg ?_
   refine rA ?_ (x := sM)
   refine rA ?_ (x := B_add)
   refine rA ?_ (x := sA)
   refine Exists.intro (k + 1) (And.intro (by omega) (And.intro (by omega) (And.intro (And.intro (by exact ⟨rfl, rfl, rfl, ⟨⟩⟩) (by exact ⟨rfl, ⟨⟩⟩)) (And.intro (by exact And.intro (by exact int_eq (by omega)) (True.intro)) (by exact And.intro (by simp only [fieldsTo_succ]; show _ = some (92, (cIndex (.own 65 4) (.own 193 3) (.own 3 1) (.own 205 1) (.own 234 3) (.own 3 1)) (Index.mk l (fieldsTo l k ++ [stabIdx l (k : Int)]))); simp only [cIndex, List.map_append]; exact rfl) (True.intro))))))
  ·try simp only [q1, q2, q3, q4, q5, q6, q7, q8, q9] at hb2
   have hend : k = 3 := by omega
   refine sw_exit ?_
   refine sw_seq ?_
   refine sO [(0, _), (2, _), (3, _), (4, _)] [(2, (92, [PV.sl _ _, PV.sl _ _])), (3, (92, [PV.sl _ _, PV.sl _ _]))] ?_
   refine sw_reg ?_
   refine rA ?_ (x := loc_ltake (ms := [PV.sl _ _, PV.sl _ _]) (qs := [PV.sl .v _, PV.sl .v _]) (by decide) FIdb_ty_92 (fun h => nomatch h) (by exact Nat.le_of_ble_eq_true rfl) (by exact rfl) (by exact (ToL.cons PV.to_none (ToL.cons PV.to_none ToL.nil))) (by exact (BorL.cons (PV.bor_sl _) (BorL.cons (PV.bor_sl _) BorL.nil))))
   refine rA ?_ (x := loc_store (ag := true) (vs := [PV.sl _ _, PV.sl _ _]) FIdb_ty_92 (by exact ⟨⟩) (by exact rfl) (by exact Nat.le_of_ble_eq_true rfl))
   refine sw_ret ?_
   exact (Exists.intro 2 (Exists.intro _ (And.intro (by exact rfl) (And.intro (by refine box_eq ?_; subst hend; rw [build_yes hok]; exact rfl) (And.intro FIdb_ty_92 (And.intro (fun h => nomatch h) True.intro))))))
theorem spec_IsIndex {p1 p2 p4 p5 : Fl} {x : Index}  : SCall Tryz.prog 106 [(true, [PV.sl .v (x.Queries.map (cQuery p1 p2)), PV.sl .v (x.Fields.map (cSpanS p4 p5))])] (resRV [(false, [PV.val (.bool (okIndex x))])]) := by
 refine scall_of (rs := [(false, [PV.val (.bool (okIndex x))])]) Tryz.func106 rfl (Nat.le_of_ble_eq_true rfl) (borA_cons (BorL.cons (PV.bor_sl _) (BorL.cons (PV.bor_sl _) BorL.nil)) borA_nil) ?_
 intro h0 w0 Fz0
 refine sw_slen (s := 0) (j := 0) rfl rfl fun hl0_0 => ?_
 try rw [List.length_map] at hl0_0
 refine sw_slen (s := 0) (j := 1) rfl rfl fun hl0_1 => ?_
 try rw [List.length_map] at hl0_1
 refine sw_seq ?_
 refine sw_reg ?_
 refine RunS.step (by exact ⟨rfl, ⟨⟩⟩) (by exact ⟨⟩) (LocG.of rfl (loc_box (ag := true) (cs := [PV.sl _ _, PV.sl _ _]) (by decide) (by exact ⟨⟩))) (free1 (Free.of_ rfl)) ?_
 refine rA ?_ (x := kA)
 refine sw_seq ?_
 refine sw_seq ?_
 refine sO [(1, _), (2, _)] [(1, (92, [PV.sl _ _, PV.sl _ _]))] ?_
 refine sw_reg ?_
 refine rA ?_ (x := lF FIdb_fd_92_0)
 refine rA ?_ (x := lD [PV.sl .v _] FIdb_ty_89)
 refine rA ?_ (x := cL [(false, [PV.sl _ _])] [(false, [PV.sl .v _])] FIdb_c_179 (hs := by exact spec_AreQueries))
 refine rA ?_ (x := nT)
 refine rA ?_ (x := sM)
 refine RunS.cases (s := 8) rfl (fun g1 => ?_) (fun g1 => ?_)
 ·have sg1 := g1
  try simp only [q1, q2, q3, q4, q5, q6, q7, q8, q9] at sg1
  refine RunS.s0t g1 ?_
  refine RunS.s0t g1 ?_
  refine RunS.s0t g1 ?_
  refine RunS.s0t g1 ?_
  refine rA ?_ (x := pkT g1)
  refine sw_cond (t := 13) rfl (fun hb_ => ?_) (fun hb_ => nomatch hb_)
  have hbad : okIndex x = false := by first | (simp_all [okIndex]; done) | (simp_all [okIndex]; omega)
  refine sw_seq ?_
  refine sO [(1, _), (2, _)] [(1, _)] ?_
  refine sw_reg ?_
  refine rA ?_ (x := kA)
  refine sw_ret ?_
  exact (And.intro (by refine bool_eq ?_; exact hbad.symm) True.intro)
 ·have sg1 := g1
  try simp only [q1, q2, q3, q4, q5, q6, q7, q8, q9] at sg1
  refine rB g1 ?_ (x := lF FIdb_fd_92_1)
  refine rB g1 ?_ (x := lD [PV.sl .v _] FIdb_ty_90)
  refine rB g1 ?_ (x := lN FIdb_sl_90)
  refine rB g1 ?_ (x := B_neq)
  refine rA ?_ (x := pkF g1)
  refine sw_cond (t := 13) rfl (fun hb3 => ?_) (fun hb3 => ?_)
  ·try simp only [q1, q2, q3, q4, q5, q6, q7, q8, q9] at hb3
   have hbad : okIndex x = false := by first | (simp_all [okIndex]; done) | (simp_all [okIndex]; omega)
   refine sw_seq ?_
   refine sO [(1, _), (2, _)] [(1, _)] ?_
   refine sw_reg ?_
   refine rA ?_ (x := kA)
   refine sw_ret ?_
   exact (And.intro (by refine bool_eq ?_; exact hbad.symm) True.intro)
  ·try simp only [q1, q2, q3, q4, q5, q6, q7, q8, q9] at hb3
   have hpr : (okQueries x.Queries && decide (x.Fields.length = 3)) = true := by first | (simp_all; done) | (simp_all; omega)
   have hf3 : x.Fields.length = 3 := of_decide_eq_true (Bool.and_eq_true_iff.1 hpr).2
   refine sw_skip ?_
   refine sw_seq ?_
   refine sw_seq ?_
   refine sO [(1, _), (2, _)] [(1, _)] ?_
   refine sw_reg ?_
   refine rA ?_ (x := kA)
   refine sw_block ?_
   refine sO [(1, _), (2, _), (3, _)] [(1, _)] ?_
   refine sw_loop (l0 := [(1, RV.ptr 1 0)]) (b0 := [(1, (92, [PV.sl _ _, PV.sl _ _]))]) (fun k : Nat => k ≤ 3 ∧ idxTo x k = true) (fun k : Nat => [(3, RV.int (k : Int))]) (fun k : Nat => []) (fun k : Nat => 3 - k) 0 (by exact ⟨by omega, rfl⟩) (by exact ⟨rfl, ⟨⟩⟩) (by exact ⟨rfl, ⟨⟩⟩) (by exact And.intro (by exact rfl) (True.intro)) (by exact ⟨⟩) ?_
   rintro k ⟨hk, ha⟩
   refine sw_seq ?_
   refine sw_seq ?_
   refine sw_reg ?_
   refine rA ?_ (x := sM)
   refine rA ?_ (x := B_lss)
   refine sw_cond (t := 15) rfl (fun hb4 => ?_) (fun hb4 => ?_)
   ·try simp only [q1, q2, q3, q4, q5, q6, q7, q8, q9] at hb4
    have hlt : k < 3 := by omega
    have hfl : k < x.Fields.length := by omega
    refine sw_skip ?_
    refine sw_seq ?_
    refine sw_block ?_
    refine sw_seq ?_
    refine sO [(1, _), (3, _)] [(1, (92, [PV.sl _ _, PV.sl _ _]))] ?_
    refine sw_draw hm_ ?_
    refine dA 0 ?_ (x := lF FIdb_fd_92_1)
    refine dA 1 ?_ (x := lD [PV.sl .v _] FIdb_ty_90)
    refine dA 0 ?_ (x := sM)
    refine dA 7 ?_ (x := loc_index (k := k) (by decide) FIdb_sl_90 (by exact ⟨⟩) (by first | rfl | omega) (by exact getm2 hfl (by rw [gDt_ (d := []) hfl])) (by exact rfl))
    refine dA 15 ?_ (x := lE [PV.sl .v _] FIdb_ty_205)
    refine dA 0 ?_ (x := lF FIdb_fd_92_0)
    refine dA 32 ?_ (x := lD [PV.sl .v _] FIdb_ty_89)
    refine dA 0 ?_ (x := sM)
    refine dA 224 ?_ (x := cL [(false, [PV.sl _ _]), (false, [PV.val _])] [(false, [PV.sl .v _]), (false, [PV.val _])] FIdb_c_181 (hs := by exact spec_StabIndex))
    refine dA 511 ?_ (x := cL [(false, [PV.sl _ _]), (false, [PV.sl _ _])] [(false, [PV.sl .v _]), (false, [PV.sl .v _])] FIdb_c_182 (hs := by exact spec_EqualSpans))
    refine dA 1023 ?_ (x := nT)
    refine sw_cond (t := 28) rfl (fun hb5 => ?_) (fun hb5 => ?_)
    ·try simp only [q1, q2, q3, q4, q5, q6, q7, q8, q9] at hb5
     have hd : deq (x.Fields.getD k []) (stabIdx x.Queries (k : Int)) = false := by simpa using hb5
     refine sw_seq ?_
     refine sO [(1, _), (3, _)] [(1, _)] ?_
     refine sw_reg ?_
     refine rA ?_ (x := kA)
     refine sw_ret ?_
     exact (And.intro (by refine bool_eq ?_; exact (idx_no hlt hd).symm) True.intro)
    ·try simp only [q1, q2, q3, q4, q5, q6, q7, q8, q9] at hb5
     have hd : deq (x.Fields.getD k []) (stabIdx x.Queries (k : Int)) = true := by simpa using hb5
     refine sw_skip ?_
     refine sO [(1, _), (3, _)] [(1, _)] ?_
     refine sw_reg ?_
     refine rA ?_ (x := sM)
     refine rA ?_ (x := B_add)
     refine rA ?_ (x := sA)
     refine Exists.intro (k + 1) (And.intro (by exact ⟨by omega, by rw [idxTo_succ, ha, hd]; rfl⟩) (And.intro (by omega) (And.intro (And.intro (by exact ⟨rfl, ⟨⟩⟩) (by exact ⟨rfl, ⟨⟩⟩)) (And.intro (by exact And.intro (by exact rfl) (True.intro)) (by exact ⟨⟩)))))
   ·try simp only [q1, q2, q3, q4, q5, q6, q7, q8, q9] at hb4
    have hend : k = 3 := by omega
    rw [hend] at ha
    refine sw_exit ?_
    refine sw_seq ?_
    refine sO [(1, _), (3, _)] [(1, (92, [PV.sl _ _, PV.sl _ _]))] ?_
    refine sw_reg ?_
    refine rA ?_ (x := kA)
    refine sw_ret ?_
    exact (And.intro (by refine bool_eq ?_; unfold okIndex; rw [hpr, ha]; rfl) True.intro)
theorem spec_l6All {p1 p2 : Fl} {l : List Query}  (hb : l.length ≤ 1048576) : SCall Tryz.prog 183 [(false, [PV.sl .v (l.map (cQuery p1 p2))])] (resRV [(false, [PV.sl (.own 3 1) ((idsQ l).map cInt)])]) := by
 refine scall_of (rs := [(false, [PV.sl (.own 3 1) ((idsQ l).map cInt)])]) Tryz.func183 rfl (Nat.le_of_ble_eq_true rfl) (borA_cons (BorL.cons (PV.bor_sl _) BorL.nil) borA_nil) ?_
 intro h0 w0 Fz0
 refine sw_len (s := 0) rfl fun hl0 => ?_
 try rw [List.length_map] at hl0
 refine sw_seq ?_
 refine sw_reg ?_
 refine rA ?_ (x := loc_const (.inr rfl) (by decide) (ok_nil (t := 3) (e := 1)))
 refine sw_seq ?_
 refine sO [(0, _), (2, _)] [] ?_
 refine sw_reg ?_
 refine rA ?_ (x := loc_bslice (qs := []) (by decide) FIdb_sl_25 FIdb_z_3 (by decide) rfl rfl rfl rfl rfl (by exact Nat.le_of_ble_eq_true rfl) (by exact ⟨⟩) rfl)
 refine rA ?_ (x := tA)
 refine sw_seq ?_
 refine sw_seq ?_
 refine sO [(0, _), (2, _), (3, _)] [] ?_
 refine sw_reg ?_
 refine rA ?_ (x := kA)
 refine sw_block ?_
 refine sO [(0, _), (2, _), (3, _), (4, _)] [] ?_
 refine sw_loop (l0 := [(0, RV.sv false [PV.sl _ _]), (2, RV.sv false [PV.sl _ _])]) (b0 := []) (fun k : Nat => k ≤ l.length) (fun k : Nat => [(3, RV.slc (.own 3 1) ((idsQ (l.take k)).map cInt)), (4, RV.int (k : Int))]) (fun k : Nat => []) (fun k : Nat => l.length - k) 0 (by omega) (by exact ⟨rfl, rfl, ⟨⟩⟩) (by exact ⟨⟩) (by exact And.intro (by exact rfl) (And.intro (by exact rfl) (True.intro))) (by exact ⟨⟩) ?_
 rintro k hk
 refine sw_seq ?_
 refine sw_seq ?_
 refine sw_reg ?_
 refine rA ?_ (x := sM)
 refine rA ?_ (x := vM false [PV.sl .v _])
 refine rA ?_ (x := lN FIdb_sl_89)
 refine rA ?_ (x := B_lss)
 refine sw_cond (t := 9) rfl (fun hb1 => ?_) (fun hb1 => ?_)
 ·try simp only [q1, q2, q3, q4, q5, q6, q7, q8, q9] at hb1
  have hlt : k < l.length := by omega
  have htl : (idsQ (l.take k)).length = k := by unfold idsQ; rw [List.length_map, List.length_take]; omega
  refine sw_skip ?_
  refine sw_seq ?_
  refine sw_block ?_
  refine sO [(0, _), (2, _), (3, _), (4, _)] [] ?_
  refine sw_reg ?_
  refine rA ?_ (x := tM)
  refine rA ?_ (x := vM false [PV.sl .v _])
  refine rA ?_ (x := sM)
  refine rA ?_ (x := loc_index (by decide) FIdb_sl_89 (by exact ⟨⟩) (by exact rfl) (by exact getm2 (by omega) rfl) (by exact rfl))
  refine rA ?_ (x := loc_efield (by decide) FIdb_fd_65_0 (by exact Nat.le_of_ble_eq_true rfl))
  refine rA ?_ (x := lE [PV.val _] FIdb_ty_3)
  refine rA ?_ (x := loc_bslice (qs := [(false, [PV.val _])]) (by decide) FIdb_sl_25 FIdb_z_3 (by decide) rfl rfl rfl rfl rfl (by exact Nat.le_of_ble_eq_true rfl) (by exact (And.intro (by exact ⟨⟩) True.intro)) rfl)
  refine rA ?_ (x := loc_append (by decide) FIdb_sl_25 FIdb_z_3 rfl rfl (by decide) rfl (by simp only [List.length_map, List.length_append, List.length_cons, List.length_nil]; omega) (by simp only [List.length_map, List.length_append, List.length_cons, List.length_nil]; omega))
  refine rA ?_ (x := tA)
  refine sO [(0, _), (2, _), (3, _), (4, _)] [] ?_
  refine sw_reg ?_
  refine rA ?_ (x := sM)
  refine rA ?_ (x := B_add)
  refine rA ?_ (x := sA)
  refine Exists.intro (k + 1) (And.intro (by omega) (And.intro (by omega) (And.intro (And.intro (by exact ⟨rfl, rfl, ⟨⟩⟩) (by exact ⟨⟩)) (And.intro (by exact And.intro (by exact slc_eq (by unfold idsQ; rw [map_take_succ hlt, List.map_append]; rfl)) (And.intro (by exact rfl) (True.intro))) (by exact ⟨⟩)))))
 ·try simp only [q1, q2, q3, q4, q5, q6, q7, q8, q9] at hb1
  have hend : k = l.length := by omega
  refine sw_exit ?_
  refine sw_seq ?_
  refine sO [(0, _), (2, _), (3, _), (4, _)] [] ?_
  refine sw_reg ?_
  refine rA ?_ (x := tM)
  refine rA ?_ (x := tA)
  refine sw_ret ?_
  exact (And.intro (by refine slc_eq ?_; rw [hend, List.take_length]) True.intro)
theorem spec_l6Order {o : List Int}  : SCall Tryz.prog 98 [(false, [PV.sl .v (o.map cInt)])] (resRV [(false, [PV.val (.bool (okOrder o))])]) := by
 refine scall_of (rs := [(false, [PV.val (.bool (okOrder o))])]) Tryz.func98 rfl (Nat.le_of_ble_eq_true rfl) (borA_cons (BorL.cons (PV.bor_sl _) BorL.nil) borA_nil) ?_
 intro h0 w0 Fz0
 refine sw_len (s := 0) rfl fun hl0 => ?_
 try rw [List.length_map] at hl0
 refine sw_seq ?_
 refine sw_reg ?_
 refine rA ?_ (x := kA)
 refine sw_seq ?_
 refine sw_seq ?_
 refine sO [(0, _), (2, _)] [] ?_
 refine sw_reg ?_
 refine rA ?_ (x := vM false [PV.sl .v _])
 refine rA ?_ (x := lN FIdb_sl_25)
 refine rA ?_ (x := B_neq)
 refine sw_cond (t := 6) rfl (fun hb1 => ?_) (fun hb1 => ?_)
 ·try simp only [q1, q2, q3, q4, q5, q6, q7, q8, q9] at hb1
  have hbad : okOrder o = false := by unfold okOrder; rw [decide_eq_false (by omega)]; rfl
  refine sw_seq ?_
  refine sO [(0, _), (2, _)] [] ?_
  refine sw_reg ?_
  refine rA ?_ (x := kA)
  refine sw_ret ?_
  exact (And.intro (by refine bool_eq ?_; exact hbad.symm) True.intro)
 ·try simp only [q1, q2, q3, q4, q5, q6, q7, q8, q9] at hb1
  have hl3 : o.length = 3 := by omega
  refine sw_skip ?_
  refine sw_seq ?_
  refine sw_seq ?_
  refine sO [(0, _), (2, _)] [] ?_
  refine sw_reg ?_
  refine rA ?_ (x := kA)
  refine sw_block ?_
  refine sO [(0, _), (2, _), (3, _)] [] ?_
  refine sw_loop (l0 := [(0, RV.sv false [PV.sl _ _])]) (b0 := []) (fun k : Nat => k ≤ o.length ∧ ordTo o k = true) (fun k : Nat => [(3, RV.int (k : Int))]) (fun k : Nat => []) (fun k : Nat => o.length - k) 0 (by exact ⟨by omega, rfl⟩) (by exact ⟨rfl, ⟨⟩⟩) (by exact ⟨⟩) (by exact And.intro (by exact rfl) (True.intro)) (by exact ⟨⟩) ?_
  rintro k ⟨hk, ha⟩
  refine sw_seq ?_
  refine sw_seq ?_
  refine sw_reg ?_
  refine rA ?_ (x := sM)
  refine rA ?_ (x := vM false [PV.sl .v _])
  refine rA ?_ (x := lN FIdb_sl_25)
  refine rA ?_ (x := B_lss)
  refine sw_cond (t := 10) rfl (fun hb2 => ?_) (fun hb2 => ?_)
  ·try simp only [q1, q2, q3, q4, q5, q6, q7, q8, q9] at hb2
   have hlt : k < o.length := by omega
   have hgk := gDt_ (d := (0 : Int)) hlt
   refine sw_skip ?_
   refine sw_seq ?_
   refine sw_block ?_
   refine sw_seq ?_
   refine sO [(0, _), (3, _)] [] ?_
   refine sw_draw hm_ ?_
   refine dA 0 ?_ (x := vM false [PV.sl .v _])
   refine dA 0 ?_ (x := sM)
   refine dA 3 ?_ (x := loc_index (by decide) FIdb_sl_25 (by exact ⟨⟩) (by exact rfl) (by exact getm2 (by omega) rfl) (by exact rfl))
   refine dA 7 ?_ (x := lE [PV.val _] FIdb_ty_3)
   refine dA 15 ?_ (x := cL [(false, [PV.val _]), (false, [PV.val _]), (false, [PV.val _])] [(false, [PV.val _]), (false, [PV.val _]), (false, [PV.val _])] FIdb_c_97 (hs := by exact spec_l1In))
   refine dA 31 ?_ (x := nT)
   refine dA 63 ?_ (x := sM)
   refine Run.cases (s := 19) rfl (fun g3 => ?_) (fun g3 => ?_)
   ·have sg3 := g3
    try simp only [q1, q2, q3, q4, q5, q6, q7, q8, q9] at sg3
    refine dT 127 g3 ?_
    refine dT 127 g3 ?_
    refine dT 511 g3 ?_
    refine dT 127 g3 ?_
    refine dT 127 g3 ?_
    refine dT 3199 g3 ?_
    refine dT 7295 g3 ?_
    refine dT 16383 g3 ?_
    refine dA 32767 ?_ (x := pkT g3)
    refine sw_cond (t := 28) rfl (fun hb_ => ?_) (fun hb_ => nomatch hb_)
    have hno : (inB (o.getD k 0) 0 2 && !hasI (o.take k) (o.getD k 0)) = false := by rw [← hgk]; simp_all
    refine sw_seq ?_
    refine sO [(0, _), (3, _)] [] ?_
    refine sw_reg ?_
    refine rA ?_ (x := kA)
    refine sw_ret ?_
    exact (And.intro (by refine bool_eq ?_; exact (ord_no hl3 (by omega) hno).symm) True.intro)
   ·have sg3 := g3
    try simp only [q1, q2, q3, q4, q5, q6, q7, q8, q9] at sg3
    refine dB 127 g3 ?_ (x := vM false [PV.sl .v _])
    refine dB 127 g3 ?_ (x := sM)
    refine dB 511 g3 ?_ (x := loc_sliceM (i := 0) (j := k) (ys := (o.take k)) (q := (0 : Int)) (by decide) FIdb_sl_25 (by exact rfl) (by exact ⟨⟩) (by omega) (by omega) (by omega) (by omega) (fun _ => rfl) (by simp))
    refine dB 127 g3 ?_ (x := vM false [PV.sl .v _])
    refine dB 127 g3 ?_ (x := sM)
    refine dB 3199 g3 ?_ (x := loc_index (by decide) FIdb_sl_25 (by exact ⟨⟩) (by exact rfl) (by exact getm2 (by omega) rfl) (by exact rfl))
    refine dB 7295 g3 ?_ (x := lE [PV.val _] FIdb_ty_3)
    refine dB 16383 g3 ?_ (x := cL [(false, [PV.sl _ _]), (false, [PV.val _])] [(false, [PV.sl .v _]), (false, [PV.val _])] FIdb_c_173 (hs := by exact spec_HasMember))
    refine dA 32767 ?_ (x := pkF g3)
    refine sw_cond (t := 28) rfl (fun hb5 => ?_) (fun hb5 => ?_)
    ·try simp only [q1, q2, q3, q4, q5, q6, q7, q8, q9] at hb5
     have hno : (inB (o.getD k 0) 0 2 && !hasI (o.take k) (o.getD k 0)) = false := by rw [← hgk]; simp_all
     refine sw_seq ?_
     refine sO [(0, _), (3, _)] [] ?_
     refine sw_reg ?_
     refine rA ?_ (x := kA)
     refine sw_ret ?_
     exact (And.intro (by refine bool_eq ?_; exact (ord_no hl3 (by omega) hno).symm) True.intro)
    ·try simp only [q1, q2, q3, q4, q5, q6, q7, q8, q9] at hb5
     have hyes : (inB (o.getD k 0) 0 2 && !hasI (o.take k) (o.getD k 0)) = true := by rw [← hgk]; simp_all
     refine sw_skip ?_
     refine sO [(0, _), (3, _)] [] ?_
     refine sw_reg ?_
     refine rA ?_ (x := sM)
     refine rA ?_ (x := B_add)
     refine rA ?_ (x := sA)
     refine Exists.intro (k + 1) (And.intro (by exact ⟨by omega, by rw [ordTo_succ, ha, hyes]; rfl⟩) (And.intro (by omega) (And.intro (And.intro (by exact ⟨rfl, ⟨⟩⟩) (by exact ⟨⟩)) (And.intro (by exact And.intro (by exact rfl) (True.intro)) (by exact ⟨⟩)))))
  ·try simp only [q1, q2, q3, q4, q5, q6, q7, q8, q9] at hb2
   have hend : k = 3 := by omega
   rw [hend, ord_eq hl3] at ha
   refine sw_exit ?_
   refine sw_seq ?_
   refine sO [(0, _), (3, _)] [] ?_
   refine sw_reg ?_
   refine rA ?_ (x := kA)
   refine sw_ret ?_
   exact (And.intro (by refine bool_eq ?_; exact ha.symm) True.intro)
theorem spec_l6Probe {p1 p2 p4 p5 : Fl} {x : Index} {r : Row} {o : List Int}  (hxo : okIndex x = true) (hro : okRow r = true) (hoo : okOrder o = true) : SCall Tryz.prog 108 [(true, [PV.sl .v (x.Queries.map (cQuery p1 p2)), PV.sl .v (x.Fields.map (cSpanS p4 p5))]), (true, [PV.val (vI r.Id), PV.sl .v (r.Values.map cInt)]), (false, [PV.sl .v (o.map cInt)])] (resRV [(false, [PV.sl (.own 3 1) ((probeAll x r o).1.map cInt)]), (false, [PV.val (vI (probeAll x r o).2)])]) := by
 refine scall_of (rs := [(false, [PV.sl (.own 3 1) ((probeAll x r o).1.map cInt)]), (false, [PV.val (vI (probeAll x r o).2)])]) Tryz.func108 rfl (Nat.le_of_ble_eq_true rfl) (borA_cons (BorL.cons (PV.bor_sl _) (BorL.cons (PV.bor_sl _) BorL.nil)) (borA_cons (BorL.cons (PV.bor_val _) (BorL.cons (PV.bor_sl _) BorL.nil)) (borA_cons (BorL.cons (PV.bor_sl _) BorL.nil) borA_nil))) ?_
 intro h0 w0 Fz0
 refine sw_slen (s := 0) (j := 0) rfl rfl fun hl0_0 => ?_
 try rw [List.length_map] at hl0_0
 refine sw_slen (s := 0) (j := 1) rfl rfl fun hl0_1 => ?_
 try rw [List.length_map] at hl0_1
 refine sw_slen (s := 1) (j := 1) rfl rfl fun hl1_1 => ?_
 try rw [List.length_map] at hl1_1
 refine sw_len (s := 2) rfl fun hl2 => ?_
 try rw [List.length_map] at hl2
 have hx := idx_facts hxo
 have hq := okQs hx.1
 have ho := order_facts hoo
 have hrl := rowLen hro
 refine sw_seq ?_
 refine sw_reg ?_
 refine RunS.step (by exact ⟨rfl, ⟨⟩⟩) (by exact ⟨⟩) (LocG.of rfl (loc_box (ag := true) (cs := [PV.sl _ _, PV.sl _ _]) (by decide) (by exact ⟨⟩))) (free1 (Free.of_ rfl)) ?_
 refine RunS.step (by exact ⟨rfl, ⟨⟩⟩) (by exact ⟨⟩) (LocG.of rfl (loc_box (ag := true) (cs := [PV.val _, PV.sl _ _]) (by decide) (by exact ⟨⟩))) (free1 (Free.app (Free.of_ rfl) rfl)) ?_
 refine rA ?_ (x := loc_const (.inr rfl) (by decide) (ok_nil (t := 3) (e := 1)))
 refine rA ?_ (x := kA)
 refine sw_seq ?_
 refine sO [(2, _), (3, _), (4, _), (6, _), (7, _)] [(3, (92, [PV.sl _ _, PV.sl _ _])), (4, (66, [PV.val _, PV.sl _ _]))] ?_
 refine sw_reg ?_
 refine rA ?_ (x := lF FIdb_fd_92_0)
 refine rA ?_ (x := lD [PV.sl .v _] FIdb_ty_89)
 refine rA ?_ (x := cL [(false, [PV.sl _ _])] [(false, [PV.sl .v _])] FIdb_c_183 (hs := by exact spec_l6All (by omega)))
 refine rA ?_ (x := tA)
 refine sw_seq ?_
 refine sO [(2, _), (3, _), (4, _), (6, _), (7, _), (8, _)] [(3, _), (4, _)] ?_
 refine sw_reg ?_
 refine rA ?_ (x := kA)
 refine sw_seq ?_
 refine sw_seq ?_
 refine sO [(2, _), (3, _), (4, _), (6, _), (7, _), (8, _), (9, _)] [(3, _), (4, _)] ?_
 refine sw_reg ?_
 refine rA ?_ (x := kA)
 refine sw_block ?_
 refine sO [(2, _), (3, _), (4, _), (6, _), (7, _), (8, _), (9, _), (10, _)] [(3, _), (4, _)] ?_
 refine sw_loop (l0 := [(2, RV.sv false [PV.sl _ _]), (3, RV.ptr 3 0), (4, RV.ptr 4 0), (6, RV.sv false [PV.sl _ _]), (7, RV.sv false [PV.val _])]) (b0 := [(3, (92, [PV.sl _ _, PV.sl _ _])), (4, (66, [PV.val _, PV.sl _ _]))]) (fun k : Nat => k ≤ o.length) (fun k : Nat => [(8, RV.slc (.own 3 1) ((probeTo x r o k).1.map cInt)), (9, RV.int (probeTo x r o k).2), (10, RV.int (k : Int))]) (fun k : Nat => []) (fun k : Nat => o.length - k) 0 (by omega) (by exact ⟨rfl, rfl, rfl, rfl, rfl, ⟨⟩⟩) (by exact ⟨rfl, rfl, ⟨⟩⟩) (by exact And.intro (by exact rfl) (And.intro (by exact rfl) (And.intro (by exact rfl) (True.intro)))) (by exact ⟨⟩) ?_
 rintro k hk
 refine sw_seq ?_
 refine sw_seq ?_
 refine sw_reg ?_
 refine rA ?_ (x := sM)
 refine rA ?_ (x := vM false [PV.sl .v _])
 refine rA ?_ (x := lN FIdb_sl_25)
 refine rA ?_ (x := B_lss)
 refine rA ?_ (x := sM)
 refine RunS.cases (s := 19) rfl (fun g1 => ?_) (fun g1 => ?_)
 ·have sg1 := g1
  try simp only [q1, q2, q3, q4, q5, q6, q7, q8, q9] at sg1
  refine rB g1 ?_ (x := vM false [PV.sl .v _])
  refine rB g1 ?_ (x := lN FIdb_sl_25)
  refine rB g1 ?_ (x := B_gtr)
  refine rA ?_ (x := pkT g1)
  refine sw_cond (t := 23) rfl (fun hb2 => ?_) (fun hb2 => ?_)
  ·try simp only [q1, q2, q3, q4, q5, q6, q7, q8, q9] at hb2
   have hlt : k < o.length := (by first | omega | (simp_all; done) | (simp_all; omega))
   have hne : (probeTo x r o k).1 ≠ [] := by intro e; simp_all
   have hof := ho.2 o[k] (List.getElem_mem hlt)
   have hff : o[k].toNat < x.Fields.length := by omega
   have hrf : o[k].toNat < r.Values.length := by omega
   have hpl := probe_len hq.1 r o k
   have hxf := hx.2.2 o[k].toNat (by omega)
   have hsi := stabIdx_len x.Queries (o[k].toNat : Int)
   rw [← hxf] at hsi
   have hss : ∀ s ∈ x.Fields.getD o[k].toNat [], s.Set.length ≤ 1048576 := fun s hs => Nat.le_trans (hsi.2 s hs) (by decide)
   have hfl := find_len hsi.2 (atI r.Values o[k])
   have hpe := probeTo_succ (x := x) (r := r) hlt hne
   refine sw_skip ?_
   refine sw_seq ?_
   refine sw_block ?_
   refine sw_seq ?_
   refine sO [(2, _), (3, _), (4, _), (6, _), (7, _), (8, _), (9, _), (10, _)] [(3, (92, [PV.sl _ _, PV.sl _ _])), (4, (66, [PV.val _, PV.sl _ _]))] ?_
   refine sw_draw hm_ ?_
   refine dA 0 ?_ (x := lF FIdb_fd_92_1)
   refine dA 1 ?_ (x := lD [PV.sl .v _] FIdb_ty_90)
   refine dA 0 ?_ (x := vM false [PV.sl .v _])
   refine dA 0 ?_ (x := sM)
   refine dA 12 ?_ (x := loc_index (by decide) FIdb_sl_25 (by exact ⟨⟩) (by exact rfl) (by exact getm2 (by omega) rfl) (by exact rfl))
   refine dA 28 ?_ (x := lE [PV.val _] FIdb_ty_3)
   refine dA 63 ?_ (x := loc_index (k := o[k].toNat) (by decide) FIdb_sl_90 (by exact ⟨⟩) (by omega) (by exact getm2 hff (by rw [gDt_ (d := ([] : List Span)) hff])) (by exact rfl))
   refine dA 127 ?_ (x := lE [PV.sl .v _] FIdb_ty_205)
   refine dA 0 ?_ (x := lF FIdb_fd_66_1)
   refine dA 256 ?_ (x := lD [PV.sl .v _] FIdb_ty_25)
   refine dA 0 ?_ (x := vM false [PV.sl .v _])
   refine dA 0 ?_ (x := sM)
   refine dA 3072 ?_ (x := loc_index (by decide) FIdb_sl_25 (by exact ⟨⟩) (by exact rfl) (by exact getm2 (by omega) rfl) (by exact rfl))
   refine dA 7168 ?_ (x := lE [PV.val _] FIdb_ty_3)
   refine dA 16128 ?_ (x := loc_index (k := o[k].toNat) (by decide) FIdb_sl_25 (by exact ⟨⟩) (by omega) (by exact getm2 hrf (by rw [gDt_ (d := (0 : Int)) hrf])) (by exact rfl))
   refine dA 32512 ?_ (x := lE [PV.val _] FIdb_ty_3)
   refine dA 65535 ?_ (x := cL [(false, [PV.sl _ _]), (false, [PV.val _])] [(false, [PV.sl .v _]), (false, [PV.val _])] FIdb_c_184 (hs := by exact (spec_FindSpan (l := x.Fields.getD o[k].toNat []) (v := atI r.Values o[k]) hss)))
   refine dA 131071 ?_ (x := tA)
   refine sw_seq ?_
   refine sO [(2, _), (3, _), (4, _), (6, _), (7, _), (8, _), (9, _), (10, _), (11, _)] [(3, _), (4, _)] ?_
   refine sw_reg ?_
   refine rA ?_ (x := sM)
   refine rA ?_ (x := B_add)
   refine rA ?_ (x := vM false [PV.sl .v _])
   refine rA ?_ (x := lN FIdb_sl_25)
   refine rA ?_ (x := vM false [PV.sl .v _])
   refine rA ?_ (x := lN FIdb_sl_25)
   refine rA ?_ (x := loc_min (by decide) (by exact ⟨⟩) (by exact ⟨⟩))
   refine rA ?_ (x := B_add)
   refine rA ?_ (x := sA)
   refine sO [(2, _), (3, _), (4, _), (6, _), (7, _), (8, _), (9, _), (10, _), (11, _)] [(3, _), (4, _)] ?_
   refine sw_reg ?_
   refine rA ?_ (x := vM false [PV.sl .v _])
   refine rA ?_ (x := vM false [PV.sl .v _])
   refine rA ?_ (x := cL [(false, [PV.sl _ _]), (false, [PV.sl _ _])] [(false, [PV.sl .v _]), (false, [PV.sl .v _])] FIdb_c_185 (hs := by exact spec_MeetSets))
   refine rA ?_ (x := tA)
   refine sO [(2, _), (3, _), (4, _), (6, _), (7, _), (8, _), (9, _), (10, _), (11, _)] [(3, _), (4, _)] ?_
   refine sw_reg ?_
   refine rA ?_ (x := sM)
   refine rA ?_ (x := B_add)
   refine rA ?_ (x := sA)
   refine Exists.intro (k + 1) (And.intro (by omega) (And.intro (by omega) (And.intro (And.intro (by exact ⟨rfl, rfl, rfl, rfl, rfl, ⟨⟩⟩) (by exact ⟨rfl, rfl, ⟨⟩⟩)) (And.intro (by exact And.intro (by exact slc_eq (by rw [hpe])) (And.intro (by exact int_eq (by rw [hpe])) (And.intro (by exact rfl) (True.intro)))) (by exact ⟨⟩)))))
  ·try simp only [q1, q2, q3, q4, q5, q6, q7, q8, q9] at hb2
   have hfin : k = o.length ∨ (probeTo x r o k).1 = [] := by
    by_cases hka : k = o.length
    ·exact .inl hka
    ·right
     have hlt_ : k < o.length := by omega
     have hlt2_ : (k : Int) < (o.length : Int) := by omega
     first | omega | (rw [← List.length_eq_zero_iff]; first | omega | (simp_all; done))
   have hpe := probe_end (x := x) (r := r) hfin
   refine sw_exit ?_
   refine sw_seq ?_
   refine sO [(2, _), (3, _), (4, _), (6, _), (7, _), (8, _), (9, _), (10, _)] [(3, (92, [PV.sl _ _, PV.sl _ _])), (4, (66, [PV.val _, PV.sl _ _]))] ?_
   refine sw_reg ?_
   refine rA ?_ (x := tM)
   refine rA ?_ (x := sM)
   refine rA ?_ (x := tA)
   refine rA ?_ (x := sA)
   refine sw_ret ?_
   exact (And.intro (by refine slc_eq ?_; rw [hpe]) (And.intro (by refine int_eq ?_; rw [hpe]) True.intro))
 ·have sg1 := g1
  try simp only [q1, q2, q3, q4, q5, q6, q7, q8, q9] at sg1
  refine RunS.s0f g1 ?_
  refine RunS.s0f g1 ?_
  refine RunS.s0f g1 ?_
  refine rA ?_ (x := pkF g1)
  refine sw_cond (t := 23) rfl (fun hb_ => nomatch hb_) (fun hb_ => ?_)
  have hfin : k = o.length ∨ (probeTo x r o k).1 = [] := by
   by_cases hka : k = o.length
   ·exact .inl hka
   ·right
    have hlt_ : k < o.length := by omega
    have hlt2_ : (k : Int) < (o.length : Int) := by omega
    first | omega | (rw [← List.length_eq_zero_iff]; first | omega | (simp_all; done))
  have hpe := probe_end (x := x) (r := r) hfin
  refine sw_exit ?_
  refine sw_seq ?_
  refine sO [(2, _), (3, _), (4, _), (6, _), (7, _), (8, _), (9, _), (10, _)] [(3, (92, [PV.sl _ _, PV.sl _ _])), (4, (66, [PV.val _, PV.sl _ _]))] ?_
  refine sw_reg ?_
  refine rA ?_ (x := tM)
  refine rA ?_ (x := sM)
  refine rA ?_ (x := tA)
  refine rA ?_ (x := sA)
  refine sw_ret ?_
  exact (And.intro (by refine slc_eq ?_; rw [hpe]) (And.intro (by refine int_eq ?_; rw [hpe]) True.intro))
end Go.Proofs.YteflgldonmgejaaGreat
