/- What functions of the program compute. No condition. -/
import Derived.Test.YtloipjaiceifbaaCCluBClusterRows
import Derived.KernelRfl
set_option linter.unusedVariables false
set_option linter.unusedSimpArgs false
namespace Go.Proofs.Ytloipjaiceifbaa
open Go Go.RowKit M
set_option maxRecDepth 10000
attribute [local irreducible] PV.Lcl PV.LclR RV.Lcl
theorem spec_l18Found {p3 p4 p9 p10 p13 p14 : Fl} {c : Cluster} {s : Int} {n : Int}  (hs : 0 ≤ s ∧ s.toNat < c.Parts.length) (hb : wtRowSS c.Parts ≤ 68719476736) : SCall Try.prog 121 [(true, [PV.val (vI c.Query.Id), PV.val (vI c.Query.Tenant), PV.sl .v (c.Query.Conds.map cCond), PV.sl .v (c.Query.Out.map cInt), PV.sl .v (c.Parts.map (cRowS p3 p4)), PV.sl .v (c.Up.map cBool), PV.sl .v (c.At.map cInt), PV.sl .v (c.Pos.map cInt), PV.sl .v (c.Buffer.map (cRowS p9 p10)), PV.sl .v (c.Done.map cInt), PV.sl .v (c.Rows.map (cRowS p13 p14))]), (false, [PV.val (vI s)]), (false, [PV.val (vI n)])] (resRV [(false, [PV.sl (.own 87 2) ((found c.Query ((partAt c s).take n.toNat)).map (cRow (.own 3 1)))])]) := by
 refine scall_of (rs := [(false, [PV.sl (.own 87 2) ((found c.Query ((partAt c s).take n.toNat)).map (cRow (.own 3 1)))])]) Try.func121 rfl (Nat.le_of_ble_eq_true rfl) (borA_cons (BorL.cons (PV.bor_val _) (BorL.cons (PV.bor_val _) (BorL.cons (PV.bor_sl _) (BorL.cons (PV.bor_sl _) (BorL.cons (PV.bor_sl _) (BorL.cons (PV.bor_sl _) (BorL.cons (PV.bor_sl _) (BorL.cons (PV.bor_sl _) (BorL.cons (PV.bor_sl _) (BorL.cons (PV.bor_sl _) (BorL.cons (PV.bor_sl _) BorL.nil))))))))))) (borA_cons (BorL.cons (PV.bor_val _) BorL.nil) (borA_cons (BorL.cons (PV.bor_val _) BorL.nil) borA_nil))) ?_
 intro h0 w0 Fz0
 refine sw_slen (s := 0) (j := 2) rfl rfl fun hl0_2 => ?_
 try rw [List.length_map] at hl0_2
 refine sw_slen (s := 0) (j := 3) rfl rfl fun hl0_3 => ?_
 try rw [List.length_map] at hl0_3
 refine sw_slen (s := 0) (j := 4) rfl rfl fun hl0_4 => ?_
 try rw [List.length_map] at hl0_4
 refine sw_slen (s := 0) (j := 5) rfl rfl fun hl0_5 => ?_
 try rw [List.length_map] at hl0_5
 refine sw_slen (s := 0) (j := 6) rfl rfl fun hl0_6 => ?_
 try rw [List.length_map] at hl0_6
 refine sw_slen (s := 0) (j := 7) rfl rfl fun hl0_7 => ?_
 try rw [List.length_map] at hl0_7
 refine sw_slen (s := 0) (j := 8) rfl rfl fun hl0_8 => ?_
 try rw [List.length_map] at hl0_8
 refine sw_slen (s := 0) (j := 9) rfl rfl fun hl0_9 => ?_
 try rw [List.length_map] at hl0_9
 refine sw_slen (s := 0) (j := 10) rfl rfl fun hl0_10 => ?_
 try rw [List.length_map] at hl0_10
 have hbu := part_wt (s := s) hb
 have hbu2 := hbu
 simp only [wtRowS] at hbu2
 refine sw_seq ?_
 refine sw_reg ?_
 refine RunS.step (by exact ⟨rfl, ⟨⟩⟩) (by exact ⟨⟩) (LocG.of rfl (loc_box (ag := true) (cs := [PV.val _, PV.val _, PV.sl _ _, PV.sl _ _, PV.sl _ _, PV.sl _ _, PV.sl _ _, PV.sl _ _, PV.sl _ _, PV.sl _ _, PV.sl _ _]) (by decide) (by exact ⟨⟩))) (free1 (Free.of_ rfl)) ?_
 refine rA ?_ (x := loc_const (.inr rfl) (by decide) (ok_nil (t := 87) (e := 2)))
 refine sw_seq ?_
 refine sO [(1, _), (2, _), (3, _), (6, _)] [(3, (60, [PV.val _, PV.val _, PV.sl _ _, PV.sl _ _, PV.sl _ _, PV.sl _ _, PV.sl _ _, PV.sl _ _, PV.sl _ _, PV.sl _ _, PV.sl _ _]))] ?_
 refine sw_reg ?_
 refine rA ?_ (x := loc_bslice (qs := []) (by decide) sl_32 z_87 (by decide) rfl rfl rfl rfl rfl (by exact Nat.le_of_ble_eq_true rfl) (by exact ⟨⟩) rfl)
 refine rA ?_ (x := tA)
 refine sw_seq ?_
 refine sw_seq ?_
 refine sO [(1, _), (2, _), (3, _), (6, _), (7, _)] [(3, _)] ?_
 refine sw_reg ?_
 refine rA ?_ (x := kA)
 refine sw_block ?_
 refine sO [(1, _), (2, _), (3, _), (6, _), (7, _), (8, _)] [(3, _)] ?_
 refine sw_loop (l0 := [(1, RV.sv false [PV.val _]), (2, RV.sv false [PV.val _]), (3, RV.ptr 3 0), (6, RV.sv false [PV.sl _ _])]) (b0 := [(3, (60, [PV.val _, PV.val _, PV.sl _ _, PV.sl _ _, PV.sl _ _, PV.sl _ _, PV.sl _ _, PV.sl _ _, PV.sl _ _, PV.sl _ _, PV.sl _ _]))]) (fun k : Nat => k ≤ (partAt c s).length ∧ (k = 0 ∨ (k : Int) ≤ n)) (fun k : Nat => [(7, RV.slc (.own 87 2) ((found c.Query ((partAt c s).take k)).map (cRow (.own 3 1)))), (8, RV.int (k : Int))]) (fun k : Nat => []) (fun k : Nat => (partAt c s).length - k) 0 (by exact ⟨by omega, .inl rfl⟩) (by exact ⟨rfl, rfl, rfl, rfl, ⟨⟩⟩) (by exact ⟨rfl, ⟨⟩⟩) (by exact And.intro (by first | exact rfl | simp) (And.intro (by exact rfl) (True.intro))) (by exact ⟨⟩) ?_
 rintro k ⟨hk, ha⟩
 refine sw_seq ?_
 refine sw_seq ?_
 refine sw_reg ?_
 refine rA ?_ (x := sM)
 refine rA ?_ (x := sM)
 refine rA ?_ (x := B_lss)
 refine rA ?_ (x := sM)
 refine RunS.cases (s := 13) rfl (fun g1 => ?_) (fun g1 => ?_)
 ·have sg1 := g1
  try simp only [q1, q2, q3, q4, q5, q6, q7, q8, q9] at sg1
  refine rB g1 ?_ (x := sM)
  refine rB g1 ?_ (x := lF fd_60_1)
  refine rB g1 ?_ (x := lD [PV.sl .v _] ty_57)
  refine rB g1 ?_ (x := sM)
  refine rB g1 ?_ (x := loc_index (k := s.toNat) (by decide) sl_57 (by exact ⟨⟩) (by omega) (by exact getm2 hs.2 (by rw [partAt_eq hs.2])) (by exact rfl))
  refine rB g1 ?_ (x := lE [PV.sl .v _] ty_32)
  refine rB g1 ?_ (x := lN sl_32)
  refine rB g1 ?_ (x := B_lss)
  refine rA ?_ (x := pkT g1)
  refine sw_cond (t := 22) rfl (fun hb2 => ?_) (fun hb2 => ?_)
  ·try simp only [q1, q2, q3, q4, q5, q6, q7, q8, q9] at hb2
   have hlt : k < (partAt c s).length := by first | omega | (simp_all; done) | (simp_all; omega)
   have hln : (k : Int) < n := by first | omega | (simp_all; done) | (simp_all; omega)
   have hwm := wt_mem (f := wtRow) hlt
   have hfl := found_le (q := c.Query) (l := (partAt c s)) (k := k)
   refine sw_skip ?_
   refine sw_seq ?_
   refine sw_block ?_
   refine sw_seq ?_
   refine sO [(1, _), (2, _), (3, _), (6, _), (7, _), (8, _)] [(3, (60, [PV.val _, PV.val _, PV.sl _ _, PV.sl _ _, PV.sl _ _, PV.sl _ _, PV.sl _ _, PV.sl _ _, PV.sl _ _, PV.sl _ _, PV.sl _ _]))] ?_
   refine sw_draw hm_ ?_
   refine dA 0 ?_ (x := lF fd_60_0)
   refine dA 1 ?_ (x := lD [PV.val _, PV.val _, PV.sl .v _, PV.sl .v _] ty_56)
   refine dA 0 ?_ (x := lF fd_60_1)
   refine dA 4 ?_ (x := lD [PV.sl .v _] ty_57)
   refine dA 0 ?_ (x := sM)
   refine dA 28 ?_ (x := loc_index (k := s.toNat) (by decide) sl_57 (by exact ⟨⟩) (by omega) (by exact getm2 hs.2 (by rw [partAt_eq hs.2])) (by exact rfl))
   refine dA 60 ?_ (x := lE [PV.sl .v _] ty_32)
   refine dA 0 ?_ (x := sM)
   refine dA 252 ?_ (x := loc_index (by decide) sl_32 (by exact ⟨⟩) (by exact rfl) (by exact getm2 (by omega) rfl) (by exact rfl))
   refine dA 508 ?_ (x := lE [PV.val _, PV.sl .v _] ty_87)
   refine dA 1023 ?_ (x := cL [(true, [PV.val _, PV.val _, PV.sl _ _, PV.sl _ _]), (true, [PV.val _, PV.sl _ _])] [(true, [PV.val _, PV.val _, PV.sl .v _, PV.sl .v _]), (true, [PV.val _, PV.sl .v _])] c_134 (hs := by exact spec_MatchesRow))
   refine sw_cond (t := 35) rfl (fun hb3 => ?_) (fun hb3 => ?_)
   ·try simp only [q1, q2, q3, q4, q5, q6, q7, q8, q9] at hb3
    have hc := hb3
    refine sO [(1, _), (2, _), (3, _), (6, _), (7, _), (8, _)] [(3, _)] ?_
    refine sw_reg ?_
    refine rA ?_ (x := tM)
    refine rA ?_ (x := lF fd_60_1)
    refine rA ?_ (x := lD [PV.sl .v _] ty_57)
    refine rA ?_ (x := sM)
    refine rA ?_ (x := loc_index (k := s.toNat) (by decide) sl_57 (by exact ⟨⟩) (by omega) (by exact getm2 hs.2 (by rw [partAt_eq hs.2])) (by exact rfl))
    refine rA ?_ (x := lE [PV.sl .v _] ty_32)
    refine rA ?_ (x := sM)
    refine rA ?_ (x := loc_index (by decide) sl_32 (by exact ⟨⟩) (by exact rfl) (by exact getm2 (by omega) rfl) (by exact rfl))
    refine rA ?_ (x := lE [PV.val _, PV.sl .v _] ty_87)
    refine rA ?_ (x := cL [(true, [PV.val _, PV.sl _ _])] [(true, [PV.val _, PV.sl .v _])] c_74 (hs := by exact spec_l3Copy (by omega)))
    refine rA ?_ (x := loc_bslice (qs := [(true, [PV.val _, PV.sl _ _])]) (by decide) sl_32 z_87 (by decide) rfl rfl rfl rfl rfl (by exact Nat.le_of_ble_eq_true rfl) (by exact (And.intro (by exact ⟨⟩) True.intro)) rfl)
    refine rA ?_ (x := loc_append (by decide) sl_32 z_87 rfl rfl (by decide) rfl (by simp only [List.length_map, List.length_append, List.length_cons, List.length_nil]; omega) (by simp only [List.length_map, List.length_append, List.length_cons, List.length_nil]; omega))
    refine rA ?_ (x := tA)
    refine sO [(1, _), (2, _), (3, _), (6, _), (7, _), (8, _)] [(3, _)] ?_
    refine sw_reg ?_
    refine rA ?_ (x := sM)
    refine rA ?_ (x := B_add)
    refine rA ?_ (x := sA)
    refine Exists.intro (k + 1) (And.intro (by exact ⟨by omega, by omega⟩) (And.intro (by omega) (And.intro (And.intro (by exact ⟨rfl, rfl, rfl, rfl, ⟨⟩⟩) (by exact ⟨rfl, ⟨⟩⟩)) (And.intro (by exact And.intro (by first | exact slc_eq (by rw [found_yes hlt hc, List.map_append]; rfl) | exact slc_eq (by rw [found_no hlt hc])) (And.intro (by exact rfl) (True.intro))) (by exact ⟨⟩)))))
   ·try simp only [q1, q2, q3, q4, q5, q6, q7, q8, q9] at hb3
    have hc := hb3
    refine sw_skip ?_
    refine sO [(1, _), (2, _), (3, _), (6, _), (7, _), (8, _)] [(3, _)] ?_
    refine sw_reg ?_
    refine rA ?_ (x := sM)
    refine rA ?_ (x := B_add)
    refine rA ?_ (x := sA)
    refine Exists.intro (k + 1) (And.intro (by exact ⟨by omega, by omega⟩) (And.intro (by omega) (And.intro (And.intro (by exact ⟨rfl, rfl, rfl, rfl, ⟨⟩⟩) (by exact ⟨rfl, ⟨⟩⟩)) (And.intro (by exact And.intro (by first | exact slc_eq (by rw [found_yes hlt hc, List.map_append]; rfl) | exact slc_eq (by rw [found_no hlt hc])) (And.intro (by exact rfl) (True.intro))) (by exact ⟨⟩)))))
  ·try simp only [q1, q2, q3, q4, q5, q6, q7, q8, q9] at hb2
   have hend := found_end (q := c.Query) (l := (partAt c s)) (k := k) (n := n) ha (by first | omega | (simp_all; done) | (simp_all; omega))
   refine sw_exit ?_
   refine sw_seq ?_
   refine sO [(1, _), (2, _), (3, _), (6, _), (7, _), (8, _)] [(3, (60, [PV.val _, PV.val _, PV.sl _ _, PV.sl _ _, PV.sl _ _, PV.sl _ _, PV.sl _ _, PV.sl _ _, PV.sl _ _, PV.sl _ _, PV.sl _ _]))] ?_
   refine sw_reg ?_
   refine rA ?_ (x := tM)
   refine rA ?_ (x := tA)
   refine sw_ret ?_
   exact (And.intro (by refine slc_eq ?_; rw [hend]) True.intro)
 ·have sg1 := g1
  try simp only [q1, q2, q3, q4, q5, q6, q7, q8, q9] at sg1
  refine RunS.s0f g1 ?_
  refine RunS.s0f g1 ?_
  refine RunS.s0f g1 ?_
  refine RunS.s0f g1 ?_
  refine RunS.s0f g1 ?_
  refine RunS.s0f g1 ?_
  refine RunS.s0f g1 ?_
  refine RunS.s0f g1 ?_
  refine rA ?_ (x := pkF g1)
  refine sw_cond (t := 22) rfl (fun hb_ => nomatch hb_) (fun hb_ => ?_)
  have hend := found_end (q := c.Query) (l := (partAt c s)) (k := k) (n := n) ha (by first | omega | (simp_all; done) | (simp_all; omega))
  refine sw_exit ?_
  refine sw_seq ?_
  refine sO [(1, _), (2, _), (3, _), (6, _), (7, _), (8, _)] [(3, (60, [PV.val _, PV.val _, PV.sl _ _, PV.sl _ _, PV.sl _ _, PV.sl _ _, PV.sl _ _, PV.sl _ _, PV.sl _ _, PV.sl _ _, PV.sl _ _]))] ?_
  refine sw_reg ?_
  refine rA ?_ (x := tM)
  refine rA ?_ (x := tA)
  refine sw_ret ?_
  exact (And.intro (by refine slc_eq ?_; rw [hend]) True.intro)
end Go.Proofs.Ytloipjaiceifbaa
