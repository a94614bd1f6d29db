/- What functions of the program compute. No condition. -/
import Derived.Test.YtloipjaiceifbaaGreatCCluEFinishCluster
import Derived.Test.YtloipjaiceifbaaGreatCDn
import Derived.KernelRfl
set_option linter.unusedVariables false
set_option linter.unusedSimpArgs false
namespace Go.Proofs.YtloipjaiceifbaaGreat
open Go Go.RowKit M
set_option maxRecDepth 10000
theorem impl_isUp {p3 p4 p9 p10 p13 p14 : Fl} {c : Cluster} {n : Int}  (hb : wtRowSS c.Parts ≤ 68719476736) : SCall Tryz.prog 30 [(true, [PV.val (vI c.Query.Id), PV.val (vI c.Query.Tenant), PV.sl .v (c.Query.Conds.map cCond), PV.sl .v (c.Query.Out.map cInt), PV.sl .v (c.Parts.map (cRowS p3 p4)), PV.sl .v (c.Up.map cBool), PV.sl .v (c.At.map cInt), PV.sl .v (c.Pos.map cInt), PV.sl .v (c.Buffer.map (cRowS p9 p10)), PV.sl .v (c.Done.map cInt), PV.sl .v (c.Rows.map (cRowS p13 p14))]), (false, [PV.val (vI n)])] (resRV [(false, [PV.val (.bool (upOk c n))])]) := by
 refine scall_of (rs := [(false, [PV.val (.bool (upOk c n))])]) Tryz.func30 rfl (Nat.le_of_ble_eq_true rfl) (borA_cons (BorL.cons (PV.bor_val _) (BorL.cons (PV.bor_val _) (BorL.cons (PV.bor_sl _) (BorL.cons (PV.bor_sl _) (BorL.cons (PV.bor_sl _) (BorL.cons (PV.bor_sl _) (BorL.cons (PV.bor_sl _) (BorL.cons (PV.bor_sl _) (BorL.cons (PV.bor_sl _) (BorL.cons (PV.bor_sl _) (BorL.cons (PV.bor_sl _) BorL.nil))))))))))) (borA_cons (BorL.cons (PV.bor_val _) BorL.nil) borA_nil)) ?_
 intro h0 w0 Fz0
 refine sw_slen (s := 0) (j := 2) rfl rfl fun hl0_2 => ?_
 try rw [List.length_map] at hl0_2
 refine sw_slen (s := 0) (j := 3) rfl rfl fun hl0_3 => ?_
 try rw [List.length_map] at hl0_3
 refine sw_slen (s := 0) (j := 4) rfl rfl fun hl0_4 => ?_
 try rw [List.length_map] at hl0_4
 refine sw_slen (s := 0) (j := 5) rfl rfl fun hl0_5 => ?_
 try rw [List.length_map] at hl0_5
 refine sw_slen (s := 0) (j := 6) rfl rfl fun hl0_6 => ?_
 try rw [List.length_map] at hl0_6
 refine sw_slen (s := 0) (j := 7) rfl rfl fun hl0_7 => ?_
 try rw [List.length_map] at hl0_7
 refine sw_slen (s := 0) (j := 8) rfl rfl fun hl0_8 => ?_
 try rw [List.length_map] at hl0_8
 refine sw_slen (s := 0) (j := 9) rfl rfl fun hl0_9 => ?_
 try rw [List.length_map] at hl0_9
 refine sw_slen (s := 0) (j := 10) rfl rfl fun hl0_10 => ?_
 try rw [List.length_map] at hl0_10
 refine sw_seq ?_
 refine sw_reg ?_
 refine RunS.step (by exact ⟨rfl, ⟨⟩⟩) (by exact ⟨⟩) (LocG.of rfl (loc_box (ag := true) (cs := [PV.val _, PV.val _, PV.sl _ _, PV.sl _ _, PV.sl _ _, PV.sl _ _, PV.sl _ _, PV.sl _ _, PV.sl _ _, PV.sl _ _, PV.sl _ _]) (by decide) (by exact ⟨⟩))) (free1 (Free.of_ rfl)) ?_
 refine rA ?_ (x := kA)
 refine sw_seq ?_
 refine sO [(1, _), (2, _), (4, _)] [(2, (36, [PV.val _, PV.val _, PV.sl _ _, PV.sl _ _, PV.sl _ _, PV.sl _ _, PV.sl _ _, PV.sl _ _, PV.sl _ _, PV.sl _ _, PV.sl _ _]))] ?_
 refine sw_reg ?_
 refine rA ?_ (x := lD [PV.val _, PV.val _, PV.sl .v _, PV.sl .v _, PV.sl .v _, PV.sl .v _, PV.sl .v _, PV.sl .v _, PV.sl .v _, PV.sl .v _, PV.sl .v _] ty_36)
 refine rA ?_ (x := cL [(true, [PV.val _, PV.val _, PV.sl _ _, PV.sl _ _, PV.sl _ _, PV.sl _ _, PV.sl _ _, PV.sl _ _, PV.sl _ _, PV.sl _ _, PV.sl _ _])] [(true, [PV.val _, PV.val _, PV.sl .v _, PV.sl .v _, PV.sl .v _, PV.sl .v _, PV.sl .v _, PV.sl .v _, PV.sl .v _, PV.sl .v _, PV.sl .v _])] c_49 (hs := by exact impl_IsCluster (by omega)))
 refine rA ?_ (x := sM)
 refine RunS.cases (s := 7) rfl (fun g1 => ?_) (fun g1 => ?_)
 ·have sg1 := g1
  try simp only [q1, q2, q3, q4, q5, q6, q7, q8, q9] at sg1
  refine rB g1 ?_ (x := sM)
  refine rB g1 ?_ (x := lF fd_36_2)
  refine rB g1 ?_ (x := lD [PV.sl .v _] ty_27)
  refine rB g1 ?_ (x := lN sl_27)
  refine rB g1 ?_ (x := B_sub)
  refine rB g1 ?_ (x := cL [(false, [PV.val _]), (false, [PV.val _]), (false, [PV.val _])] [(false, [PV.val _]), (false, [PV.val _]), (false, [PV.val _])] c_68 (hs := by exact impl_within))
  refine rA ?_ (x := pkT g1)
  refine rA ?_ (x := sM)
  refine RunS.cases (s := 15) rfl (fun g2 => ?_) (fun g2 => ?_)
  ·have sg2 := g2
   try simp only [q1, q2, q3, q4, q5, q6, q7, q8, q9] at sg2
   refine rB g2 ?_ (x := lF fd_36_2)
   refine rB g2 ?_ (x := lD [PV.sl .v _] ty_27)
   refine rB g2 ?_ (x := sM)
   refine rB g2 ?_ (x := loc_index (k := (n).toNat) (by decide) sl_27 (by exact ⟨⟩) (by have hq := inB_iff.1 ‹inB n 0 ((c.Up.length : Int) - 1) = true›; have hl := clLen ‹isCl c = true›; omega) (by exact getm2 (by have hq := inB_iff.1 ‹inB n 0 ((c.Up.length : Int) - 1) = true›; have hl := clLen ‹isCl c = true›; omega) (by rw [upAt_eq (by have hq := inB_iff.1 ‹inB n 0 ((c.Up.length : Int) - 1) = true›; have hl := clLen ‹isCl c = true›; omega)])) (by exact rfl))
   refine rB g2 ?_ (x := lE [PV.val _] ty_4)
   refine rA ?_ (x := pkT g2)
   refine rA ?_ (x := sA)
   refine sw_ret ?_
   exact (And.intro (by refine bool_eq ?_; unfold upOk; simp_all) True.intro)
  ·have sg2 := g2
   try simp only [q1, q2, q3, q4, q5, q6, q7, q8, q9] at sg2
   refine RunS.s0f g2 ?_
   refine RunS.s0f g2 ?_
   refine RunS.s0f g2 ?_
   refine RunS.s0f g2 ?_
   refine RunS.s0f g2 ?_
   refine rA ?_ (x := pkF g2)
   refine rA ?_ (x := sA)
   refine sw_ret ?_
   exact (And.intro (by refine bool_eq ?_; unfold upOk; simp_all) True.intro)
 ·have sg1 := g1
  try simp only [q1, q2, q3, q4, q5, q6, q7, q8, q9] at sg1
  refine RunS.s0f g1 ?_
  refine RunS.s0f g1 ?_
  refine RunS.s0f g1 ?_
  refine RunS.s0f g1 ?_
  refine RunS.s0f g1 ?_
  refine RunS.s0f g1 ?_
  refine rA ?_ (x := pkF g1)
  refine rA ?_ (x := sM)
  refine RunS.cases (s := 15) rfl (fun g3 => nomatch g3) (fun g3 => ?_)
  refine RunS.s0f g3 ?_
  refine RunS.s0f g3 ?_
  refine RunS.s0f g3 ?_
  refine RunS.s0f g3 ?_
  refine RunS.s0f g3 ?_
  refine rA ?_ (x := pkF g3)
  refine rA ?_ (x := sA)
  refine sw_ret ?_
  exact (And.intro (by refine bool_eq ?_; unfold upOk; simp_all) True.intro)
theorem impl_NextSegment {p3 p4 p9 p10 p13 p14 : Fl} {c : Cluster} {n : Int}  (hb : wtRowSS c.Parts ≤ 68719476736) : SCall Tryz.prog 31 [(true, [PV.val (vI c.Query.Id), PV.val (vI c.Query.Tenant), PV.sl .v (c.Query.Conds.map cCond), PV.sl .v (c.Query.Out.map cInt), PV.sl .v (c.Parts.map (cRowS p3 p4)), PV.sl .v (c.Up.map cBool), PV.sl .v (c.At.map cInt), PV.sl .v (c.Pos.map cInt), PV.sl .v (c.Buffer.map (cRowS p9 p10)), PV.sl .v (c.Done.map cInt), PV.sl .v (c.Rows.map (cRowS p13 p14))]), (false, [PV.val (vI n)])] (resRV [(false, [PV.val (vI (nextSeg c n))])]) := by
 refine scall_of (rs := [(false, [PV.val (vI (nextSeg c n))])]) Tryz.func31 rfl (Nat.le_of_ble_eq_true rfl) (borA_cons (BorL.cons (PV.bor_val _) (BorL.cons (PV.bor_val _) (BorL.cons (PV.bor_sl _) (BorL.cons (PV.bor_sl _) (BorL.cons (PV.bor_sl _) (BorL.cons (PV.bor_sl _) (BorL.cons (PV.bor_sl _) (BorL.cons (PV.bor_sl _) (BorL.cons (PV.bor_sl _) (BorL.cons (PV.bor_sl _) (BorL.cons (PV.bor_sl _) BorL.nil))))))))))) (borA_cons (BorL.cons (PV.bor_val _) BorL.nil) borA_nil)) ?_
 intro h0 w0 Fz0
 refine sw_slen (s := 0) (j := 2) rfl rfl fun hl0_2 => ?_
 try rw [List.length_map] at hl0_2
 refine sw_slen (s := 0) (j := 3) rfl rfl fun hl0_3 => ?_
 try rw [List.length_map] at hl0_3
 refine sw_slen (s := 0) (j := 4) rfl rfl fun hl0_4 => ?_
 try rw [List.length_map] at hl0_4
 refine sw_slen (s := 0) (j := 5) rfl rfl fun hl0_5 => ?_
 try rw [List.length_map] at hl0_5
 refine sw_slen (s := 0) (j := 6) rfl rfl fun hl0_6 => ?_
 try rw [List.length_map] at hl0_6
 refine sw_slen (s := 0) (j := 7) rfl rfl fun hl0_7 => ?_
 try rw [List.length_map] at hl0_7
 refine sw_slen (s := 0) (j := 8) rfl rfl fun hl0_8 => ?_
 try rw [List.length_map] at hl0_8
 refine sw_slen (s := 0) (j := 9) rfl rfl fun hl0_9 => ?_
 try rw [List.length_map] at hl0_9
 refine sw_slen (s := 0) (j := 10) rfl rfl fun hl0_10 => ?_
 try rw [List.length_map] at hl0_10
 refine sw_seq ?_
 refine sw_reg ?_
 refine RunS.step (by exact ⟨rfl, ⟨⟩⟩) (by exact ⟨⟩) (LocG.of rfl (loc_box (ag := true) (cs := [PV.val _, PV.val _, PV.sl _ _, PV.sl _ _, PV.sl _ _, PV.sl _ _, PV.sl _ _, PV.sl _ _, PV.sl _ _, PV.sl _ _, PV.sl _ _]) (by decide) (by exact ⟨⟩))) (free1 (Free.of_ rfl)) ?_
 refine rA ?_ (x := kA)
 refine sw_seq ?_
 refine sw_seq ?_
 refine sO [(1, _), (2, _), (4, _)] [(2, (36, [PV.val _, PV.val _, PV.sl _ _, PV.sl _ _, PV.sl _ _, PV.sl _ _, PV.sl _ _, PV.sl _ _, PV.sl _ _, PV.sl _ _, PV.sl _ _]))] ?_
 refine sw_reg ?_
 refine rA ?_ (x := lD [PV.val _, PV.val _, PV.sl .v _, PV.sl .v _, PV.sl .v _, PV.sl .v _, PV.sl .v _, PV.sl .v _, PV.sl .v _, PV.sl .v _, PV.sl .v _] ty_36)
 refine rA ?_ (x := sM)
 refine rA ?_ (x := cL [(true, [PV.val _, PV.val _, PV.sl _ _, PV.sl _ _, PV.sl _ _, PV.sl _ _, PV.sl _ _, PV.sl _ _, PV.sl _ _, PV.sl _ _, PV.sl _ _]), (false, [PV.val _])] [(true, [PV.val _, PV.val _, PV.sl .v _, PV.sl .v _, PV.sl .v _, PV.sl .v _, PV.sl .v _, PV.sl .v _, PV.sl .v _, PV.sl .v _, PV.sl .v _]), (false, [PV.val _])] c_30 (hs := by exact impl_isUp (by omega)))
 refine rA ?_ (x := nT)
 refine rA ?_ (x := sM)
 refine RunS.cases (s := 13) rfl (fun g1 => ?_) (fun g1 => ?_)
 ·have sg1 := g1
  try simp only [q1, q2, q3, q4, q5, q6, q7, q8, q9] at sg1
  refine RunS.s0t g1 ?_
  refine RunS.s0t g1 ?_
  refine RunS.s0t g1 ?_
  refine RunS.s0t g1 ?_
  refine RunS.s0t g1 ?_
  refine RunS.s0t g1 ?_
  refine rA ?_ (x := pkT g1)
  refine sw_cond (t := 20) rfl (fun hb_ => ?_) (fun hb_ => nomatch hb_)
  have hbad : nextSeg c n = -1 := nextSeg_no (fun x => by simp_all)
  refine sw_seq ?_
  refine sO [(1, _), (2, _), (4, _)] [(2, _)] ?_
  refine sw_reg ?_
  refine rA ?_ (x := kA)
  refine sw_ret ?_
  exact (And.intro (by refine int_eq ?_; exact hbad.symm) True.intro)
 ·have sg1 := g1
  try simp only [q1, q2, q3, q4, q5, q6, q7, q8, q9] at sg1
  refine rB g1 ?_ (x := lF fd_36_3)
  refine rB g1 ?_ (x := lD [PV.sl .v _] ty_23)
  refine rB g1 ?_ (x := sM)
  refine rB g1 ?_ (x := loc_index (k := n.toNat) (by decide) sl_23 (by exact ⟨⟩) (by have hup := ‹upOk c n = true›; unfold upOk at hup; simp only [Bool.and_eq_true] at hup; have hq := inB_iff.1 hup.2.1; have hl := clLen hup.1; omega) (by exact getm2 (by have hup := ‹upOk c n = true›; unfold upOk at hup; simp only [Bool.and_eq_true] at hup; have hq := inB_iff.1 hup.2.1; have hl := clLen hup.1; omega) (by rw [atI_eq (by have hup := ‹upOk c n = true›; unfold upOk at hup; simp only [Bool.and_eq_true] at hup; have hq := inB_iff.1 hup.2.1; have hl := clLen hup.1; omega)])) (by exact rfl))
  refine rB g1 ?_ (x := lE [PV.val _] ty_3)
  refine rB g1 ?_ (x := B_neq)
  refine rA ?_ (x := pkF g1)
  refine sw_cond (t := 20) rfl (fun hb3 => ?_) (fun hb3 => ?_)
  ·try simp only [q1, q2, q3, q4, q5, q6, q7, q8, q9] at hb3
   have hbad : nextSeg c n = -1 := nextSeg_no (fun x => by simp_all)
   refine sw_seq ?_
   refine sO [(1, _), (2, _), (4, _)] [(2, _)] ?_
   refine sw_reg ?_
   refine rA ?_ (x := kA)
   refine sw_ret ?_
   exact (And.intro (by refine int_eq ?_; exact hbad.symm) True.intro)
  ·try simp only [q1, q2, q3, q4, q5, q6, q7, q8, q9] at hb3
   have hok : upOk c n = true ∧ atI c.At n = -1 := by simp_all
   have hok2 := hok.1
   unfold upOk at hok2
   simp only [Bool.and_eq_true] at hok2
   have hl := clLen hok2.1
   have hq := inB_iff.1 hok2.2.1
   refine sw_skip ?_
   refine sw_seq ?_
   refine sO [(1, _), (2, _), (4, _)] [(2, _)] ?_
   refine sw_reg ?_
   refine rA ?_ (x := lF fd_36_2)
   refine rA ?_ (x := lD [PV.sl .v _] ty_27)
   refine rA ?_ (x := lN sl_27)
   refine rA ?_ (x := sA)
   refine sw_seq ?_
   refine sO [(1, _), (2, _), (4, _), (5, _)] [(2, _)] ?_
   refine sw_reg ?_
   refine rA ?_ (x := kA)
   refine sw_seq ?_
   refine sw_seq ?_
   refine sO [(1, _), (2, _), (4, _), (5, _), (6, _)] [(2, _)] ?_
   refine sw_reg ?_
   refine rA ?_ (x := lF fd_36_1)
   refine rA ?_ (x := lD [PV.sl .v _] ty_34)
   refine rA ?_ (x := lN sl_34)
   refine rA ?_ (x := kM)
   refine sw_block ?_
   refine sO [(1, _), (2, _), (4, _), (5, _), (6, _), (26, _), (27, _)] [(2, _)] ?_
   refine sw_loop (l0 := [(1, RV.sv false [PV.val _]), (2, RV.ptr 2 0), (5, RV.sv false [PV.val _]), (26, RV.sv false [PV.val _])]) (b0 := [(2, (36, [PV.val _, PV.val _, PV.sl _ _, PV.sl _ _, PV.sl _ _, PV.sl _ _, PV.sl _ _, PV.sl _ _, PV.sl _ _, PV.sl _ _, PV.sl _ _]))]) (fun k : Nat => k ≤ c.Parts.length ∧ (∀ i : Nat, i < k → homeP c n (i : Int) = false)) (fun k : Nat => [(6, RV.int (firstIx (backP c n) 0 k)), (27, RV.int (k : Int))]) (fun k : Nat => []) (fun k : Nat => c.Parts.length - k) 0 (by exact ⟨by omega, fun i hi => absurd hi (Nat.not_lt_zero _)⟩) (by exact ⟨rfl, rfl, rfl, rfl, ⟨⟩⟩) (by exact ⟨rfl, ⟨⟩⟩) (by exact And.intro (by first | exact rfl | simp) (And.intro (by exact rfl) (True.intro))) (by exact ⟨⟩) ?_
   rintro k ⟨hk, ha⟩
   refine sw_seq ?_
   refine sw_reg ?_
   refine rA ?_ (x := B_lss)
   refine sw_seq ?_
   refine sw_cond (t := 28) rfl (fun hb4 => ?_) (fun hb4 => ?_)
   ·try simp only [q1, q2, q3, q4, q5, q6, q7, q8, q9] at hb4
    have hlt : k < c.Parts.length := by omega
    have hhm := home_in (i := (k : Int)) hok2.1 (by omega)
    refine sw_skip ?_
    refine sw_seq ?_
    refine sw_block ?_
    refine sw_seq ?_
    refine sO [(1, _), (2, _), (5, _), (6, _), (26, _), (27, _)] [(2, (36, [PV.val _, PV.val _, PV.sl _ _, PV.sl _ _, PV.sl _ _, PV.sl _ _, PV.sl _ _, PV.sl _ _, PV.sl _ _, PV.sl _ _, PV.sl _ _]))] ?_
    refine sw_reg ?_
    refine rA ?_ (x := sM)
    refine rA ?_ (x := sA)
    refine sw_seq ?_
    refine sw_seq ?_
    refine sO [(1, _), (2, _), (5, _), (6, _), (7, _), (26, _), (27, _)] [(2, _)] ?_
    refine sw_reg ?_
    refine rA ?_ (x := lF fd_36_6)
    refine rA ?_ (x := lD [PV.sl .v _] ty_23)
    refine rA ?_ (x := sM)
    refine rA ?_ (x := cL [(false, [PV.sl _ _]), (false, [PV.val _])] [(false, [PV.sl .v _]), (false, [PV.val _])] c_69 (hs := by exact impl_hasInt))
    refine rA ?_ (x := sM)
    refine RunS.cases (s := 34) rfl (fun g5 => ?_) (fun g5 => ?_)
    ·have sg5 := g5
     try simp only [q1, q2, q3, q4, q5, q6, q7, q8, q9] at sg5
     refine RunS.s0t g5 ?_
     refine RunS.s0t g5 ?_
     refine RunS.s0t g5 ?_
     refine RunS.s0t g5 ?_
     refine rA ?_ (x := pkT g5)
     refine sw_cond (t := 39) rfl (fun hb_ => ?_) (fun hb_ => nomatch hb_)
     have hP : homeP c n (k : Int) = false := by unfold homeP freeB; simp_all
     have hB : backP c n (k : Int) = false := by unfold backP freeB; simp_all
     refine sw_exit ?_
     refine sO [(1, _), (2, _), (5, _), (6, _), (7, _), (26, _), (27, _)] [(2, _)] ?_
     refine sw_reg ?_
     refine rA ?_ (x := B_add)
     refine rA ?_ (x := sM)
     refine Exists.intro (k + 1) (And.intro (by exact ⟨by omega, fun i hi => by by_cases e : i = k; (· subst e; exact hP); (· exact ha i (by omega))⟩) (And.intro (by omega) (And.intro (And.intro (by exact ⟨rfl, rfl, rfl, rfl, ⟨⟩⟩) (by exact ⟨rfl, ⟨⟩⟩)) (And.intro (by exact And.intro (by exact int_eq (by rw [firstIx_snoc, Nat.zero_add]; first | (rw [if_neg (by assumption)]; done) | (simp_all; done) | (simp_all; omega))) (And.intro (by exact rfl) (True.intro))) (by exact ⟨⟩)))))
    ·have sg5 := g5
     try simp only [q1, q2, q3, q4, q5, q6, q7, q8, q9] at sg5
     refine rB g5 ?_ (x := lF fd_36_3)
     refine rB g5 ?_ (x := lD [PV.sl .v _] ty_23)
     refine rB g5 ?_ (x := sM)
     refine rB g5 ?_ (x := cL [(false, [PV.sl _ _]), (false, [PV.val _])] [(false, [PV.sl .v _]), (false, [PV.val _])] c_69 (hs := by exact impl_hasInt))
     refine rA ?_ (x := pkF g5)
     refine sw_cond (t := 39) rfl (fun hb7 => ?_) (fun hb7 => ?_)
     ·try simp only [q1, q2, q3, q4, q5, q6, q7, q8, q9] at hb7
      have hP : homeP c n (k : Int) = false := by unfold homeP freeB; simp_all
      have hB : backP c n (k : Int) = false := by unfold backP freeB; simp_all
      refine sw_exit ?_
      refine sO [(1, _), (2, _), (5, _), (6, _), (7, _), (26, _), (27, _)] [(2, _)] ?_
      refine sw_reg ?_
      refine rA ?_ (x := B_add)
      refine rA ?_ (x := sM)
      refine Exists.intro (k + 1) (And.intro (by exact ⟨by omega, fun i hi => by by_cases e : i = k; (· subst e; exact hP); (· exact ha i (by omega))⟩) (And.intro (by omega) (And.intro (And.intro (by exact ⟨rfl, rfl, rfl, rfl, ⟨⟩⟩) (by exact ⟨rfl, ⟨⟩⟩)) (And.intro (by exact And.intro (by exact int_eq (by rw [firstIx_snoc, Nat.zero_add]; first | (rw [if_neg (by assumption)]; done) | (simp_all; done) | (simp_all; omega))) (And.intro (by exact rfl) (True.intro))) (by exact ⟨⟩)))))
     ·try simp only [q1, q2, q3, q4, q5, q6, q7, q8, q9] at hb7
      have hfree : freeB c (k : Int) = true := by unfold freeB; simp_all
      refine sw_skip ?_
      refine sw_seq ?_
      refine sO [(1, _), (2, _), (5, _), (6, _), (7, _), (26, _), (27, _)] [(2, _)] ?_
      refine sw_reg ?_
      refine rA ?_ (x := sM)
      refine rA ?_ (x := sM)
      refine rA ?_ (x := cL [(false, [PV.val _]), (false, [PV.val _])] [(false, [PV.val _]), (false, [PV.val _])] c_70 (hs := by exact impl_HomeOf))
      refine rA ?_ (x := sA)
      refine sw_seq ?_
      refine sw_seq ?_
      refine sO [(1, _), (2, _), (5, _), (6, _), (7, _), (8, _), (26, _), (27, _)] [(2, _)] ?_
      refine sw_reg ?_
      refine rA ?_ (x := sM)
      refine rA ?_ (x := sM)
      refine rA ?_ (x := B_eql)
      refine sw_cond (t := 45) rfl (fun hb8 => ?_) (fun hb8 => ?_)
      ·try simp only [q1, q2, q3, q4, q5, q6, q7, q8, q9] at hb8
       have hP : homeP c n (k : Int) = true := by unfold homeP; simp_all
       have hhit := nextSeg_hit hok hlt hP ha
       refine sw_seq ?_
       refine sO [(1, _), (2, _), (5, _), (6, _), (7, _), (8, _), (26, _), (27, _)] [(2, _)] ?_
       refine sw_reg ?_
       refine rA ?_ (x := sM)
       refine rA ?_ (x := sA)
       refine sw_ret ?_
       exact (And.intro (by refine int_eq ?_; exact hhit.symm) True.intro)
      ·try simp only [q1, q2, q3, q4, q5, q6, q7, q8, q9] at hb8
       have hP : homeP c n (k : Int) = false := by unfold homeP; simp_all
       refine sw_skip ?_
       refine sw_seq ?_
       refine sO [(1, _), (2, _), (5, _), (6, _), (7, _), (8, _), (26, _), (27, _)] [(2, _)] ?_
       refine sw_reg ?_
       refine rA ?_ (x := sM)
       refine rA ?_ (x := B_eql)
       refine rA ?_ (x := sM)
       refine RunS.cases (s := 49) rfl (fun g9 => ?_) (fun g9 => ?_)
       ·have sg9 := g9
        try simp only [q1, q2, q3, q4, q5, q6, q7, q8, q9] at sg9
        refine rB g9 ?_ (x := sM)
        refine rB g9 ?_ (x := sM)
        refine rB g9 ?_ (x := cL [(false, [PV.val _]), (false, [PV.val _])] [(false, [PV.val _]), (false, [PV.val _])] c_71 (hs := by exact impl_BackupOf))
        refine rB g9 ?_ (x := sM)
        refine rB g9 ?_ (x := B_eql)
        refine rA ?_ (x := pkT g9)
        refine rA ?_ (x := sM)
        refine RunS.cases (s := 56) rfl (fun g10 => ?_) (fun g10 => ?_)
        ·have sg10 := g10
         try simp only [q1, q2, q3, q4, q5, q6, q7, q8, q9] at sg10
         refine rB g10 ?_ (x := lF fd_36_2)
         refine rB g10 ?_ (x := lD [PV.sl .v _] ty_27)
         refine rB g10 ?_ (x := sM)
         refine rB g10 ?_ (x := loc_index (k := (homeOf (k : Int) c.Up.length).toNat) (by decide) sl_27 (by exact ⟨⟩) (by omega) (by exact getm2 (by omega) (by rw [upAt_eq (by omega)])) (by exact rfl))
         refine rB g10 ?_ (x := lE [PV.val _] ty_4)
         refine rB g10 ?_ (x := nT)
         refine rA ?_ (x := pkT g10)
         refine sw_cond (t := 63) rfl (fun hb11 => ?_) (fun hb11 => ?_)
         ·try simp only [q1, q2, q3, q4, q5, q6, q7, q8, q9] at hb11
          have hB : firstIx (backP c n) 0 k = -1 ∧ backP c n (k : Int) = true := by unfold backP at *; simp_all
          refine sO [(1, _), (2, _), (5, _), (6, _), (7, _), (8, _), (26, _), (27, _)] [(2, _)] ?_
          refine sw_reg ?_
          refine rA ?_ (x := sM)
          refine rA ?_ (x := sA)
          refine sO [(1, _), (2, _), (5, _), (6, _), (7, _), (8, _), (26, _), (27, _)] [(2, _)] ?_
          refine sw_reg ?_
          refine rA ?_ (x := B_add)
          refine rA ?_ (x := sM)
          refine Exists.intro (k + 1) (And.intro (by exact ⟨by omega, fun i hi => by by_cases e : i = k; (· subst e; exact hP); (· exact ha i (by omega))⟩) (And.intro (by omega) (And.intro (And.intro (by exact ⟨rfl, rfl, rfl, rfl, ⟨⟩⟩) (by exact ⟨rfl, ⟨⟩⟩)) (And.intro (by exact And.intro (by exact int_eq (by rw [firstIx_snoc, Nat.zero_add]; first | (rw [if_neg (by assumption)]; done) | (simp_all; done) | (simp_all; omega))) (And.intro (by exact rfl) (True.intro))) (by exact ⟨⟩)))))
         ·try simp only [q1, q2, q3, q4, q5, q6, q7, q8, q9] at hb11
          have hB : firstIx (backP c n) 0 k = -1 → backP c n (k : Int) = false := by intro e; unfold backP at *; simp_all
          refine sw_skip ?_
          refine sO [(1, _), (2, _), (5, _), (6, _), (7, _), (8, _), (26, _), (27, _)] [(2, _)] ?_
          refine sw_reg ?_
          refine rA ?_ (x := B_add)
          refine rA ?_ (x := sM)
          refine Exists.intro (k + 1) (And.intro (by exact ⟨by omega, fun i hi => by by_cases e : i = k; (· subst e; exact hP); (· exact ha i (by omega))⟩) (And.intro (by omega) (And.intro (And.intro (by exact ⟨rfl, rfl, rfl, rfl, ⟨⟩⟩) (by exact ⟨rfl, ⟨⟩⟩)) (And.intro (by exact And.intro (by exact int_eq (by rw [firstIx_snoc, Nat.zero_add]; first | (rw [if_neg (by assumption)]; done) | (simp_all; done) | (simp_all; omega))) (And.intro (by exact rfl) (True.intro))) (by exact ⟨⟩)))))
        ·have sg10 := g10
         try simp only [q1, q2, q3, q4, q5, q6, q7, q8, q9] at sg10
         refine RunS.s0f g10 ?_
         refine RunS.s0f g10 ?_
         refine RunS.s0f g10 ?_
         refine RunS.s0f g10 ?_
         refine RunS.s0f g10 ?_
         refine RunS.s0f g10 ?_
         refine rA ?_ (x := pkF g10)
         refine sw_cond (t := 63) rfl (fun hb_ => nomatch hb_) (fun hb_ => ?_)
         have hB : firstIx (backP c n) 0 k = -1 → backP c n (k : Int) = false := by intro e; unfold backP at *; simp_all
         refine sw_skip ?_
         refine sO [(1, _), (2, _), (5, _), (6, _), (7, _), (8, _), (26, _), (27, _)] [(2, _)] ?_
         refine sw_reg ?_
         refine rA ?_ (x := B_add)
         refine rA ?_ (x := sM)
         refine Exists.intro (k + 1) (And.intro (by exact ⟨by omega, fun i hi => by by_cases e : i = k; (· subst e; exact hP); (· exact ha i (by omega))⟩) (And.intro (by omega) (And.intro (And.intro (by exact ⟨rfl, rfl, rfl, rfl, ⟨⟩⟩) (by exact ⟨rfl, ⟨⟩⟩)) (And.intro (by exact And.intro (by exact int_eq (by rw [firstIx_snoc, Nat.zero_add]; first | (rw [if_neg (by assumption)]; done) | (simp_all; done) | (simp_all; omega))) (And.intro (by exact rfl) (True.intro))) (by exact ⟨⟩)))))
       ·have sg9 := g9
        try simp only [q1, q2, q3, q4, q5, q6, q7, q8, q9] at sg9
        refine RunS.s0f g9 ?_
        refine RunS.s0f g9 ?_
        refine RunS.s0f g9 ?_
        refine RunS.s0f g9 ?_
        refine RunS.s0f g9 ?_
        refine rA ?_ (x := pkF g9)
        refine rA ?_ (x := sM)
        refine RunS.cases (s := 56) rfl (fun g13 => nomatch g13) (fun g13 => ?_)
        refine RunS.s0f g13 ?_
        refine RunS.s0f g13 ?_
        refine RunS.s0f g13 ?_
        refine RunS.s0f g13 ?_
        refine RunS.s0f g13 ?_
        refine RunS.s0f g13 ?_
        refine rA ?_ (x := pkF g13)
        refine sw_cond (t := 63) rfl (fun hb_ => nomatch hb_) (fun hb_ => ?_)
        have hB : firstIx (backP c n) 0 k = -1 → backP c n (k : Int) = false := by intro e; unfold backP at *; simp_all
        refine sw_skip ?_
        refine sO [(1, _), (2, _), (5, _), (6, _), (7, _), (8, _), (26, _), (27, _)] [(2, _)] ?_
        refine sw_reg ?_
        refine rA ?_ (x := B_add)
        refine rA ?_ (x := sM)
        refine Exists.intro (k + 1) (And.intro (by exact ⟨by omega, fun i hi => by by_cases e : i = k; (· subst e; exact hP); (· exact ha i (by omega))⟩) (And.intro (by omega) (And.intro (And.intro (by exact ⟨rfl, rfl, rfl, rfl, ⟨⟩⟩) (by exact ⟨rfl, ⟨⟩⟩)) (And.intro (by exact And.intro (by exact int_eq (by rw [firstIx_snoc, Nat.zero_add]; first | (rw [if_neg (by assumption)]; done) | (simp_all; done) | (simp_all; omega))) (And.intro (by exact rfl) (True.intro))) (by exact ⟨⟩)))))
   ·try simp only [q1, q2, q3, q4, q5, q6, q7, q8, q9] at hb4
    have hend : nextSeg c n = firstIx (backP c n) 0 k := by rw [nextSeg_end hok fun i hi => ha i (by omega), show c.Parts.length = k by omega]
    refine sw_exit ?_
    refine sw_seq ?_
    refine sO [(1, _), (2, _), (5, _), (6, _), (26, _), (27, _)] [(2, (36, [PV.val _, PV.val _, PV.sl _ _, PV.sl _ _, PV.sl _ _, PV.sl _ _, PV.sl _ _, PV.sl _ _, PV.sl _ _, PV.sl _ _, PV.sl _ _]))] ?_
    refine sw_reg ?_
    refine rA ?_ (x := sM)
    refine rA ?_ (x := sA)
    refine sw_ret ?_
    exact (And.intro (by refine int_eq ?_; exact hend.symm) True.intro)
theorem spec_NextSegment {p3 p4 p9 p10 p13 p14 : Fl} {c : Cluster} {n : Int}  (hb : wtRowSS c.Parts ≤ 68719476736) : SCall Tryz.prog 21 [(true, [PV.val (vI c.Query.Id), PV.val (vI c.Query.Tenant), PV.sl .v (c.Query.Conds.map cCond), PV.sl .v (c.Query.Out.map cInt), PV.sl .v (c.Parts.map (cRowS p3 p4)), PV.sl .v (c.Up.map cBool), PV.sl .v (c.At.map cInt), PV.sl .v (c.Pos.map cInt), PV.sl .v (c.Buffer.map (cRowS p9 p10)), PV.sl .v (c.Done.map cInt), PV.sl .v (c.Rows.map (cRowS p13 p14))]), (false, [PV.val (vI n)])] (resRV [(false, [PV.val (vI (nextSeg c n))])]) := by
 refine scall_of (rs := [(false, [PV.val (vI (nextSeg c n))])]) Tryz.func21 rfl (Nat.le_of_ble_eq_true rfl) (borA_cons (BorL.cons (PV.bor_val _) (BorL.cons (PV.bor_val _) (BorL.cons (PV.bor_sl _) (BorL.cons (PV.bor_sl _) (BorL.cons (PV.bor_sl _) (BorL.cons (PV.bor_sl _) (BorL.cons (PV.bor_sl _) (BorL.cons (PV.bor_sl _) (BorL.cons (PV.bor_sl _) (BorL.cons (PV.bor_sl _) (BorL.cons (PV.bor_sl _) BorL.nil))))))))))) (borA_cons (BorL.cons (PV.bor_val _) BorL.nil) borA_nil)) ?_
 intro h0 w0 Fz0
 refine sw_slen (s := 0) (j := 2) rfl rfl fun hl0_2 => ?_
 try rw [List.length_map] at hl0_2
 refine sw_slen (s := 0) (j := 3) rfl rfl fun hl0_3 => ?_
 try rw [List.length_map] at hl0_3
 refine sw_slen (s := 0) (j := 4) rfl rfl fun hl0_4 => ?_
 try rw [List.length_map] at hl0_4
 refine sw_slen (s := 0) (j := 5) rfl rfl fun hl0_5 => ?_
 try rw [List.length_map] at hl0_5
 refine sw_slen (s := 0) (j := 6) rfl rfl fun hl0_6 => ?_
 try rw [List.length_map] at hl0_6
 refine sw_slen (s := 0) (j := 7) rfl rfl fun hl0_7 => ?_
 try rw [List.length_map] at hl0_7
 refine sw_slen (s := 0) (j := 8) rfl rfl fun hl0_8 => ?_
 try rw [List.length_map] at hl0_8
 refine sw_slen (s := 0) (j := 9) rfl rfl fun hl0_9 => ?_
 try rw [List.length_map] at hl0_9
 refine sw_slen (s := 0) (j := 10) rfl rfl fun hl0_10 => ?_
 try rw [List.length_map] at hl0_10
 refine sw_seq ?_
 refine sw_reg ?_
 refine RunS.step (by exact ⟨rfl, ⟨⟩⟩) (by exact ⟨⟩) (LocG.of rfl (loc_box (ag := true) (cs := [PV.val _, PV.val _, PV.sl _ _, PV.sl _ _, PV.sl _ _, PV.sl _ _, PV.sl _ _, PV.sl _ _, PV.sl _ _, PV.sl _ _, PV.sl _ _]) (by decide) (by exact ⟨⟩))) (free1 (Free.of_ rfl)) ?_
 refine rA ?_ (x := kA)
 refine sw_seq ?_
 refine sO [(1, _), (2, _), (4, _)] [(2, (36, [PV.val _, PV.val _, PV.sl _ _, PV.sl _ _, PV.sl _ _, PV.sl _ _, PV.sl _ _, PV.sl _ _, PV.sl _ _, PV.sl _ _, PV.sl _ _]))] ?_
 refine sw_reg ?_
 refine rA ?_ (x := lF fd_36_2)
 refine rA ?_ (x := lD [PV.sl .v _] ty_27)
 refine rA ?_ (x := lN sl_27)
 refine rA ?_ (x := sA)
 refine sw_seq ?_
 refine sw_seq ?_
 refine sO [(1, _), (2, _), (4, _), (5, _)] [(2, _)] ?_
 refine sw_reg ?_
 refine rA ?_ (x := lD [PV.val _, PV.val _, PV.sl .v _, PV.sl .v _, PV.sl .v _, PV.sl .v _, PV.sl .v _, PV.sl .v _, PV.sl .v _, PV.sl .v _, PV.sl .v _] ty_36)
 refine rA ?_ (x := cL [(true, [PV.val _, PV.val _, PV.sl _ _, PV.sl _ _, PV.sl _ _, PV.sl _ _, PV.sl _ _, PV.sl _ _, PV.sl _ _, PV.sl _ _, PV.sl _ _])] [(true, [PV.val _, PV.val _, PV.sl .v _, PV.sl .v _, PV.sl .v _, PV.sl .v _, PV.sl .v _, PV.sl .v _, PV.sl .v _, PV.sl .v _, PV.sl .v _])] c_19 (hs := by exact spec_IsCluster (by omega)))
 refine rA ?_ (x := nT)
 refine rA ?_ (x := sM)
 refine RunS.cases (s := 15) rfl (fun g1 => ?_) (fun g1 => ?_)
 ·have sg1 := g1
  try simp only [q1, q2, q3, q4, q5, q6, q7, q8, q9] at sg1
  refine RunS.s0t g1 ?_
  refine RunS.s0t g1 ?_
  refine RunS.s0t g1 ?_
  refine RunS.s0t g1 ?_
  refine RunS.s0t g1 ?_
  refine rA ?_ (x := pkT g1)
  refine rA ?_ (x := sM)
  refine RunS.cases (s := 22) rfl (fun g2 => ?_) (fun g2 => nomatch g2)
  refine RunS.s0t g2 ?_
  refine RunS.s0t g2 ?_
  refine RunS.s0t g2 ?_
  refine RunS.s0t g2 ?_
  refine RunS.s0t g2 ?_
  refine RunS.s0t g2 ?_
  refine rA ?_ (x := pkT g2)
  refine rA ?_ (x := sM)
  refine RunS.cases (s := 30) rfl (fun g3 => ?_) (fun g3 => nomatch g3)
  refine RunS.s0t g3 ?_
  refine RunS.s0t g3 ?_
  refine RunS.s0t g3 ?_
  refine RunS.s0t g3 ?_
  refine RunS.s0t g3 ?_
  refine RunS.s0t g3 ?_
  refine rA ?_ (x := pkT g3)
  refine sw_cond (t := 37) rfl (fun hb_ => ?_) (fun hb_ => nomatch hb_)
  have hbad : nextSeg c n = -1 := nextSeg_no (fun x => by unfold upOk at x; simp_all)
  refine sw_seq ?_
  refine sO [(1, _), (2, _), (4, _), (5, _)] [(2, _)] ?_
  refine sw_reg ?_
  refine rA ?_ (x := kA)
  refine sw_ret ?_
  exact (And.intro (by refine int_eq ?_; exact hbad.symm) True.intro)
 ·have sg1 := g1
  try simp only [q1, q2, q3, q4, q5, q6, q7, q8, q9] at sg1
  refine rB g1 ?_ (x := sM)
  refine rB g1 ?_ (x := sM)
  refine rB g1 ?_ (x := B_sub)
  refine rB g1 ?_ (x := cL [(false, [PV.val _]), (false, [PV.val _]), (false, [PV.val _])] [(false, [PV.val _]), (false, [PV.val _]), (false, [PV.val _])] c_20 (hs := by exact spec_l1In))
  refine rB g1 ?_ (x := nT)
  refine rA ?_ (x := pkF g1)
  refine rA ?_ (x := sM)
  refine RunS.cases (s := 22) rfl (fun g5 => ?_) (fun g5 => ?_)
  ·have sg5 := g5
   try simp only [q1, q2, q3, q4, q5, q6, q7, q8, q9] at sg5
   refine RunS.s0t g5 ?_
   refine RunS.s0t g5 ?_
   refine RunS.s0t g5 ?_
   refine RunS.s0t g5 ?_
   refine RunS.s0t g5 ?_
   refine RunS.s0t g5 ?_
   refine rA ?_ (x := pkT g5)
   refine rA ?_ (x := sM)
   refine RunS.cases (s := 30) rfl (fun g6 => ?_) (fun g6 => nomatch g6)
   refine RunS.s0t g6 ?_
   refine RunS.s0t g6 ?_
   refine RunS.s0t g6 ?_
   refine RunS.s0t g6 ?_
   refine RunS.s0t g6 ?_
   refine RunS.s0t g6 ?_
   refine rA ?_ (x := pkT g6)
   refine sw_cond (t := 37) rfl (fun hb_ => ?_) (fun hb_ => nomatch hb_)
   have hbad : nextSeg c n = -1 := nextSeg_no (fun x => by unfold upOk at x; simp_all)
   refine sw_seq ?_
   refine sO [(1, _), (2, _), (4, _), (5, _)] [(2, _)] ?_
   refine sw_reg ?_
   refine rA ?_ (x := kA)
   refine sw_ret ?_
   exact (And.intro (by refine int_eq ?_; exact hbad.symm) True.intro)
  ·have sg5 := g5
   try simp only [q1, q2, q3, q4, q5, q6, q7, q8, q9] at sg5
   refine rB g5 ?_ (x := lF fd_36_2)
   refine rB g5 ?_ (x := lD [PV.sl .v _] ty_27)
   refine rB g5 ?_ (x := sM)
   refine rB g5 ?_ (x := loc_index (k := (n).toNat) (by decide) sl_27 (by exact ⟨⟩) (by have hq := inB_iff.1 ‹inB n 0 ((c.Up.length : Int) - 1) = true›; have hl := clLen ‹isCl c = true›; omega) (by exact getm2 (by have hq := inB_iff.1 ‹inB n 0 ((c.Up.length : Int) - 1) = true›; have hl := clLen ‹isCl c = true›; omega) (by rw [upAt_eq (by have hq := inB_iff.1 ‹inB n 0 ((c.Up.length : Int) - 1) = true›; have hl := clLen ‹isCl c = true›; omega)])) (by exact rfl))
   refine rB g5 ?_ (x := lE [PV.val _] ty_4)
   refine rB g5 ?_ (x := nT)
   refine rA ?_ (x := pkF g5)
   refine rA ?_ (x := sM)
   refine RunS.cases (s := 30) rfl (fun g8 => ?_) (fun g8 => ?_)
   ·have sg8 := g8
    try simp only [q1, q2, q3, q4, q5, q6, q7, q8, q9] at sg8
    refine RunS.s0t g8 ?_
    refine RunS.s0t g8 ?_
    refine RunS.s0t g8 ?_
    refine RunS.s0t g8 ?_
    refine RunS.s0t g8 ?_
    refine RunS.s0t g8 ?_
    refine rA ?_ (x := pkT g8)
    refine sw_cond (t := 37) rfl (fun hb_ => ?_) (fun hb_ => nomatch hb_)
    have hbad : nextSeg c n = -1 := nextSeg_no (fun x => by unfold upOk at x; simp_all)
    refine sw_seq ?_
    refine sO [(1, _), (2, _), (4, _), (5, _)] [(2, _)] ?_
    refine sw_reg ?_
    refine rA ?_ (x := kA)
    refine sw_ret ?_
    exact (And.intro (by refine int_eq ?_; exact hbad.symm) True.intro)
   ·have sg8 := g8
    try simp only [q1, q2, q3, q4, q5, q6, q7, q8, q9] at sg8
    refine rB g8 ?_ (x := lF fd_36_3)
    refine rB g8 ?_ (x := lD [PV.sl .v _] ty_23)
    refine rB g8 ?_ (x := sM)
    refine rB g8 ?_ (x := loc_index (k := (n).toNat) (by decide) sl_23 (by exact ⟨⟩) (by have hq := inB_iff.1 ‹inB n 0 ((c.Up.length : Int) - 1) = true›; have hl := clLen ‹isCl c = true›; omega) (by exact getm2 (by have hq := inB_iff.1 ‹inB n 0 ((c.Up.length : Int) - 1) = true›; have hl := clLen ‹isCl c = true›; omega) (by rw [atI_eq (by have hq := inB_iff.1 ‹inB n 0 ((c.Up.length : Int) - 1) = true›; have hl := clLen ‹isCl c = true›; omega)])) (by exact rfl))
    refine rB g8 ?_ (x := lE [PV.val _] ty_3)
    refine rB g8 ?_ (x := B_neq)
    refine rA ?_ (x := pkF g8)
    refine sw_cond (t := 37) rfl (fun hb10 => ?_) (fun hb10 => ?_)
    ·try simp only [q1, q2, q3, q4, q5, q6, q7, q8, q9] at hb10
     have hbad : nextSeg c n = -1 := nextSeg_no (fun x => by unfold upOk at x; simp_all)
     refine sw_seq ?_
     refine sO [(1, _), (2, _), (4, _), (5, _)] [(2, _)] ?_
     refine sw_reg ?_
     refine rA ?_ (x := kA)
     refine sw_ret ?_
     exact (And.intro (by refine int_eq ?_; exact hbad.symm) True.intro)
    ·try simp only [q1, q2, q3, q4, q5, q6, q7, q8, q9] at hb10
     have hok : upOk c n = true ∧ atI c.At n = -1 := by unfold upOk; simp_all
     have hok2 := hok.1
     unfold upOk at hok2
     simp only [Bool.and_eq_true] at hok2
     have hl := clLen hok2.1
     have hq := inB_iff.1 hok2.2.1
     refine sw_skip ?_
     refine sw_seq ?_
     refine sO [(1, _), (2, _), (4, _), (5, _)] [(2, _)] ?_
     refine sw_reg ?_
     refine rA ?_ (x := kA)
     refine sw_seq ?_
     refine sw_seq ?_
     refine sO [(1, _), (2, _), (4, _), (5, _), (6, _)] [(2, _)] ?_
     refine sw_reg ?_
     refine rA ?_ (x := lF fd_36_1)
     refine rA ?_ (x := lD [PV.sl .v _] ty_34)
     refine rA ?_ (x := lN sl_34)
     refine rA ?_ (x := B_sub)
     refine rA ?_ (x := sA)
     refine sw_block ?_
     refine sO [(1, _), (2, _), (4, _), (5, _), (6, _), (7, _)] [(2, _)] ?_
     refine sw_loop (l0 := [(1, RV.sv false [PV.val _]), (2, RV.ptr 2 0), (4, RV.sv false [PV.val _]), (5, RV.sv false [PV.val _])]) (b0 := [(2, (36, [PV.val _, PV.val _, PV.sl _ _, PV.sl _ _, PV.sl _ _, PV.sl _ _, PV.sl _ _, PV.sl _ _, PV.sl _ _, PV.sl _ _, PV.sl _ _]))]) (fun m : Nat => m ≤ c.Parts.length) (fun m : Nat => [(6, RV.int (firstIx (backP c n) m (c.Parts.length - m))), (7, RV.int ((m : Int) - 1))]) (fun m : Nat => []) (fun m : Nat => m) c.Parts.length (Nat.le_refl _) (by exact ⟨rfl, rfl, rfl, rfl, ⟨⟩⟩) (by exact ⟨rfl, ⟨⟩⟩) (by exact And.intro (by exact int_eq (by rw [Nat.sub_self]; rfl)) (And.intro (by exact int_eq (by omega)) (True.intro))) (by exact ⟨⟩) ?_
     rintro m hm
     refine sw_seq ?_
     refine sw_seq ?_
     refine sw_reg ?_
     refine rA ?_ (x := sM)
     refine rA ?_ (x := B_geq)
     refine sw_cond (t := 43) rfl (fun hb11 => ?_) (fun hb11 => ?_)
     ·try simp only [q1, q2, q3, q4, q5, q6, q7, q8, q9] at hb11
      have hm1 : 1 ≤ m := by omega
      have hhm := home_in (i := (m : Int) - 1) hok2.1 (by omega)
      refine sw_skip ?_
      refine sw_seq ?_
      refine sw_block ?_
      refine sw_seq ?_
      refine sw_seq ?_
      refine sO [(1, _), (2, _), (4, _), (5, _), (6, _), (7, _)] [(2, (36, [PV.val _, PV.val _, PV.sl _ _, PV.sl _ _, PV.sl _ _, PV.sl _ _, PV.sl _ _, PV.sl _ _, PV.sl _ _, PV.sl _ _, PV.sl _ _]))] ?_
      refine sw_reg ?_
      refine rA ?_ (x := lF fd_36_6)
      refine rA ?_ (x := lD [PV.sl .v _] ty_23)
      refine rA ?_ (x := sM)
      refine rA ?_ (x := cL [(false, [PV.sl _ _]), (false, [PV.val _])] [(false, [PV.sl .v _]), (false, [PV.val _])] c_56 (hs := by exact spec_HasMember))
      refine rA ?_ (x := sM)
      refine RunS.cases (s := 50) rfl (fun g12 => ?_) (fun g12 => ?_)
      ·have sg12 := g12
       try simp only [q1, q2, q3, q4, q5, q6, q7, q8, q9] at sg12
       refine RunS.s0t g12 ?_
       refine RunS.s0t g12 ?_
       refine RunS.s0t g12 ?_
       refine RunS.s0t g12 ?_
       refine rA ?_ (x := pkT g12)
       refine sw_cond (t := 55) rfl (fun hb_ => ?_) (fun hb_ => nomatch hb_)
       have hB : backP c n ((m : Int) - 1) = false := by unfold backP freeB; simp_all
       refine sw_exit ?_
       refine sO [(1, _), (2, _), (4, _), (5, _), (6, _), (7, _)] [(2, _)] ?_
       refine sw_reg ?_
       refine rA ?_ (x := sM)
       refine rA ?_ (x := B_sub)
       refine rA ?_ (x := sA)
       refine Exists.intro (m - 1) (And.intro (by omega) (And.intro (by omega) (And.intro (And.intro (by exact ⟨rfl, rfl, rfl, rfl, ⟨⟩⟩) (by exact ⟨rfl, ⟨⟩⟩)) (And.intro (by exact And.intro (by exact int_eq (by rw [firstIx_down (by omega) hm, hB]; rfl)) (And.intro (by exact int_eq (by omega)) (True.intro))) (by exact ⟨⟩)))))
      ·have sg12 := g12
       try simp only [q1, q2, q3, q4, q5, q6, q7, q8, q9] at sg12
       refine rB g12 ?_ (x := lF fd_36_3)
       refine rB g12 ?_ (x := lD [PV.sl .v _] ty_23)
       refine rB g12 ?_ (x := sM)
       refine rB g12 ?_ (x := cL [(false, [PV.sl _ _]), (false, [PV.val _])] [(false, [PV.sl .v _]), (false, [PV.val _])] c_56 (hs := by exact spec_HasMember))
       refine rA ?_ (x := pkF g12)
       refine sw_cond (t := 55) rfl (fun hb14 => ?_) (fun hb14 => ?_)
       ·try simp only [q1, q2, q3, q4, q5, q6, q7, q8, q9] at hb14
        have hB : backP c n ((m : Int) - 1) = false := by unfold backP freeB; simp_all
        refine sw_exit ?_
        refine sO [(1, _), (2, _), (4, _), (5, _), (6, _), (7, _)] [(2, _)] ?_
        refine sw_reg ?_
        refine rA ?_ (x := sM)
        refine rA ?_ (x := B_sub)
        refine rA ?_ (x := sA)
        refine Exists.intro (m - 1) (And.intro (by omega) (And.intro (by omega) (And.intro (And.intro (by exact ⟨rfl, rfl, rfl, rfl, ⟨⟩⟩) (by exact ⟨rfl, ⟨⟩⟩)) (And.intro (by exact And.intro (by exact int_eq (by rw [firstIx_down (by omega) hm, hB]; rfl)) (And.intro (by exact int_eq (by omega)) (True.intro))) (by exact ⟨⟩)))))
       ·try simp only [q1, q2, q3, q4, q5, q6, q7, q8, q9] at hb14
        have hfree : freeB c ((m : Int) - 1) = true := by unfold freeB; simp_all
        refine sw_skip ?_
        refine sw_seq ?_
        refine sO [(1, _), (2, _), (4, _), (5, _), (6, _), (7, _)] [(2, _)] ?_
        refine sw_draw hm_ ?_
        refine dA 0 ?_ (x := sM)
        refine dA 0 ?_ (x := sM)
        refine dA 3 ?_ (x := cL [(false, [PV.val _]), (false, [PV.val _])] [(false, [PV.val _]), (false, [PV.val _])] c_60 (hs := by exact spec_BackupOf))
        refine dA 0 ?_ (x := sM)
        refine dA 15 ?_ (x := B_eql)
        refine dA 31 ?_ (x := sM)
        refine Run.cases (s := 61) rfl (fun g15 => ?_) (fun g15 => ?_)
        ·have sg15 := g15
         try simp only [q1, q2, q3, q4, q5, q6, q7, q8, q9] at sg15
         refine dB 63 g15 ?_ (x := lF fd_36_2)
         refine dB 127 g15 ?_ (x := lD [PV.sl .v _] ty_27)
         refine dB 63 g15 ?_ (x := sM)
         refine dB 63 g15 ?_ (x := sM)
         refine dB 831 g15 ?_ (x := cL [(false, [PV.val _]), (false, [PV.val _])] [(false, [PV.val _]), (false, [PV.val _])] c_61 (hs := by exact spec_HomeOf))
         refine dB 2047 g15 ?_ (x := loc_index (k := (homeOf ((m : Int) - 1) c.Up.length).toNat) (by decide) sl_27 (by exact ⟨⟩) (by omega) (by exact getm2 (by omega) (by rw [upAt_eq (by omega)])) (by exact rfl))
         refine dB 4095 g15 ?_ (x := lE [PV.val _] ty_4)
         refine dB 8191 g15 ?_ (x := nT)
         refine dA 16383 ?_ (x := pkT g15)
         refine sw_cond (t := 70) rfl (fun hb16 => ?_) (fun hb16 => ?_)
         ·try simp only [q1, q2, q3, q4, q5, q6, q7, q8, q9] at hb16
          have hB : backP c n ((m : Int) - 1) = true := by unfold backP; simp_all
          refine sO [(1, _), (2, _), (4, _), (5, _), (6, _), (7, _)] [(2, _)] ?_
          refine sw_reg ?_
          refine rA ?_ (x := sM)
          refine rA ?_ (x := sA)
          refine sO [(1, _), (2, _), (4, _), (5, _), (6, _), (7, _)] [(2, _)] ?_
          refine sw_reg ?_
          refine rA ?_ (x := sM)
          refine rA ?_ (x := B_sub)
          refine rA ?_ (x := sA)
          refine Exists.intro (m - 1) (And.intro (by omega) (And.intro (by omega) (And.intro (And.intro (by exact ⟨rfl, rfl, rfl, rfl, ⟨⟩⟩) (by exact ⟨rfl, ⟨⟩⟩)) (And.intro (by exact And.intro (by exact int_eq (by rw [firstIx_down (by omega) hm, hB]; rfl)) (And.intro (by exact int_eq (by omega)) (True.intro))) (by exact ⟨⟩)))))
         ·try simp only [q1, q2, q3, q4, q5, q6, q7, q8, q9] at hb16
          have hB : backP c n ((m : Int) - 1) = false := by unfold backP; simp_all
          refine sw_skip ?_
          refine sO [(1, _), (2, _), (4, _), (5, _), (6, _), (7, _)] [(2, _)] ?_
          refine sw_reg ?_
          refine rA ?_ (x := sM)
          refine rA ?_ (x := B_sub)
          refine rA ?_ (x := sA)
          refine Exists.intro (m - 1) (And.intro (by omega) (And.intro (by omega) (And.intro (And.intro (by exact ⟨rfl, rfl, rfl, rfl, ⟨⟩⟩) (by exact ⟨rfl, ⟨⟩⟩)) (And.intro (by exact And.intro (by exact int_eq (by rw [firstIx_down (by omega) hm, hB]; rfl)) (And.intro (by exact int_eq (by omega)) (True.intro))) (by exact ⟨⟩)))))
        ·have sg15 := g15
         try simp only [q1, q2, q3, q4, q5, q6, q7, q8, q9] at sg15
         refine dF 63 g15 ?_
         refine dF 127 g15 ?_
         refine dF 63 g15 ?_
         refine dF 63 g15 ?_
         refine dF 831 g15 ?_
         refine dF 2047 g15 ?_
         refine dF 4095 g15 ?_
         refine dF 8191 g15 ?_
         refine dA 16383 ?_ (x := pkF g15)
         refine sw_cond (t := 70) rfl (fun hb_ => nomatch hb_) (fun hb_ => ?_)
         have hB : backP c n ((m : Int) - 1) = false := by unfold backP; simp_all
         refine sw_skip ?_
         refine sO [(1, _), (2, _), (4, _), (5, _), (6, _), (7, _)] [(2, _)] ?_
         refine sw_reg ?_
         refine rA ?_ (x := sM)
         refine rA ?_ (x := B_sub)
         refine rA ?_ (x := sA)
         refine Exists.intro (m - 1) (And.intro (by omega) (And.intro (by omega) (And.intro (And.intro (by exact ⟨rfl, rfl, rfl, rfl, ⟨⟩⟩) (by exact ⟨rfl, ⟨⟩⟩)) (And.intro (by exact And.intro (by exact int_eq (by rw [firstIx_down (by omega) hm, hB]; rfl)) (And.intro (by exact int_eq (by omega)) (True.intro))) (by exact ⟨⟩)))))
     ·try simp only [q1, q2, q3, q4, q5, q6, q7, q8, q9] at hb11
      have hm0 : m = 0 := by omega
      refine sw_exit ?_
      refine sw_seq ?_
      refine sw_seq ?_
      refine sO [(1, _), (2, _), (4, _), (5, _), (6, _), (7, _)] [(2, (36, [PV.val _, PV.val _, PV.sl _ _, PV.sl _ _, PV.sl _ _, PV.sl _ _, PV.sl _ _, PV.sl _ _, PV.sl _ _, PV.sl _ _, PV.sl _ _]))] ?_
      refine sw_reg ?_
      refine rA ?_ (x := kA)
      refine sw_block ?_
      refine sO [(1, _), (2, _), (4, _), (5, _), (6, _), (7, _), (8, _)] [(2, _)] ?_
      refine sw_loop (l0 := [(1, RV.sv false [PV.val _]), (2, RV.ptr 2 0), (5, RV.sv false [PV.val _]), (6, RV.sv false [PV.val _]), (7, RV.sv false [PV.val _])]) (b0 := [(2, (36, [PV.val _, PV.val _, PV.sl _ _, PV.sl _ _, PV.sl _ _, PV.sl _ _, PV.sl _ _, PV.sl _ _, PV.sl _ _, PV.sl _ _, PV.sl _ _]))]) (fun k : Nat => k ≤ c.Parts.length ∧ (∀ i : Nat, i < k → homeP c n (i : Int) = false)) (fun k : Nat => [(8, RV.int (k : Int))]) (fun k : Nat => []) (fun k : Nat => c.Parts.length - k) 0 (by exact ⟨by omega, fun i hi => absurd hi (Nat.not_lt_zero _)⟩) (by exact ⟨rfl, rfl, rfl, rfl, rfl, ⟨⟩⟩) (by exact ⟨rfl, ⟨⟩⟩) (by exact And.intro (by exact rfl) (True.intro)) (by exact ⟨⟩) ?_
      rintro k ⟨hk, ha⟩
      refine sw_seq ?_
      refine sw_seq ?_
      refine sw_reg ?_
      refine rA ?_ (x := sM)
      refine rA ?_ (x := lF fd_36_1)
      refine rA ?_ (x := lD [PV.sl .v _] ty_34)
      refine rA ?_ (x := lN sl_34)
      refine rA ?_ (x := B_lss)
      refine sw_cond (t := 76) rfl (fun hb18 => ?_) (fun hb18 => ?_)
      ·try simp only [q1, q2, q3, q4, q5, q6, q7, q8, q9] at hb18
       have hlt : k < c.Parts.length := by omega
       have hhm2 := home_in (i := (k : Int)) hok2.1 (by omega)
       refine sw_skip ?_
       refine sw_seq ?_
       refine sw_block ?_
       refine sw_seq ?_
       refine sO [(1, _), (2, _), (5, _), (6, _), (7, _), (8, _)] [(2, (36, [PV.val _, PV.val _, PV.sl _ _, PV.sl _ _, PV.sl _ _, PV.sl _ _, PV.sl _ _, PV.sl _ _, PV.sl _ _, PV.sl _ _, PV.sl _ _]))] ?_
       refine sw_reg ?_
       refine rA ?_ (x := lF fd_36_6)
       refine rA ?_ (x := lD [PV.sl .v _] ty_23)
       refine rA ?_ (x := sM)
       refine rA ?_ (x := cL [(false, [PV.sl _ _]), (false, [PV.val _])] [(false, [PV.sl .v _]), (false, [PV.val _])] c_56 (hs := by exact spec_HasMember))
       refine rA ?_ (x := nT)
       refine rA ?_ (x := sM)
       refine RunS.cases (s := 84) rfl (fun g19 => ?_) (fun g19 => ?_)
       ·have sg19 := g19
        try simp only [q1, q2, q3, q4, q5, q6, q7, q8, q9] at sg19
        refine rB g19 ?_ (x := lF fd_36_3)
        refine rB g19 ?_ (x := lD [PV.sl .v _] ty_23)
        refine rB g19 ?_ (x := sM)
        refine rB g19 ?_ (x := cL [(false, [PV.sl _ _]), (false, [PV.val _])] [(false, [PV.sl .v _]), (false, [PV.val _])] c_56 (hs := by exact spec_HasMember))
        refine rB g19 ?_ (x := nT)
        refine rA ?_ (x := pkT g19)
        refine rA ?_ (x := sM)
        refine RunS.cases (s := 91) rfl (fun g20 => ?_) (fun g20 => ?_)
        ·have sg20 := g20
         try simp only [q1, q2, q3, q4, q5, q6, q7, q8, q9] at sg20
         refine rB g20 ?_ (x := sM)
         refine rB g20 ?_ (x := sM)
         refine rB g20 ?_ (x := cL [(false, [PV.val _]), (false, [PV.val _])] [(false, [PV.val _]), (false, [PV.val _])] c_61 (hs := by exact spec_HomeOf))
         refine rB g20 ?_ (x := sM)
         refine rB g20 ?_ (x := B_eql)
         refine rA ?_ (x := pkT g20)
         refine sw_cond (t := 97) rfl (fun hb21 => ?_) (fun hb21 => ?_)
         ·try simp only [q1, q2, q3, q4, q5, q6, q7, q8, q9] at hb21
          have hP : homeP c n (k : Int) = true := by unfold homeP freeB; simp_all
          have hhit := nextSeg_hit hok hlt hP ha
          refine sw_seq ?_
          refine sO [(1, _), (2, _), (5, _), (6, _), (7, _), (8, _)] [(2, _)] ?_
          refine sw_reg ?_
          refine rA ?_ (x := sM)
          refine rA ?_ (x := sA)
          refine sw_ret ?_
          exact (And.intro (by refine int_eq ?_; exact hhit.symm) True.intro)
         ·try simp only [q1, q2, q3, q4, q5, q6, q7, q8, q9] at hb21
          have hP : homeP c n (k : Int) = false := by unfold homeP freeB; simp_all
          refine sw_skip ?_
          refine sO [(1, _), (2, _), (5, _), (6, _), (7, _), (8, _)] [(2, _)] ?_
          refine sw_reg ?_
          refine rA ?_ (x := sM)
          refine rA ?_ (x := B_add)
          refine rA ?_ (x := sA)
          refine Exists.intro (k + 1) (And.intro (by exact ⟨by omega, fun i hi => by by_cases e : i = k; (· subst e; exact hP); (· exact ha i (by omega))⟩) (And.intro (by omega) (And.intro (And.intro (by exact ⟨rfl, rfl, rfl, rfl, rfl, ⟨⟩⟩) (by exact ⟨rfl, ⟨⟩⟩)) (And.intro (by exact And.intro (by exact rfl) (True.intro)) (by exact ⟨⟩)))))
        ·have sg20 := g20
         try simp only [q1, q2, q3, q4, q5, q6, q7, q8, q9] at sg20
         refine RunS.s0f g20 ?_
         refine RunS.s0f g20 ?_
         refine RunS.s0f g20 ?_
         refine RunS.s0f g20 ?_
         refine RunS.s0f g20 ?_
         refine rA ?_ (x := pkF g20)
         refine sw_cond (t := 97) rfl (fun hb_ => nomatch hb_) (fun hb_ => ?_)
         have hP : homeP c n (k : Int) = false := by unfold homeP freeB; simp_all
         refine sw_skip ?_
         refine sO [(1, _), (2, _), (5, _), (6, _), (7, _), (8, _)] [(2, _)] ?_
         refine sw_reg ?_
         refine rA ?_ (x := sM)
         refine rA ?_ (x := B_add)
         refine rA ?_ (x := sA)
         refine Exists.intro (k + 1) (And.intro (by exact ⟨by omega, fun i hi => by by_cases e : i = k; (· subst e; exact hP); (· exact ha i (by omega))⟩) (And.intro (by omega) (And.intro (And.intro (by exact ⟨rfl, rfl, rfl, rfl, rfl, ⟨⟩⟩) (by exact ⟨rfl, ⟨⟩⟩)) (And.intro (by exact And.intro (by exact rfl) (True.intro)) (by exact ⟨⟩)))))
       ·have sg19 := g19
        try simp only [q1, q2, q3, q4, q5, q6, q7, q8, q9] at sg19
        refine RunS.s0f g19 ?_
        refine RunS.s0f g19 ?_
        refine RunS.s0f g19 ?_
        refine RunS.s0f g19 ?_
        refine RunS.s0f g19 ?_
        refine rA ?_ (x := pkF g19)
        refine rA ?_ (x := sM)
        refine RunS.cases (s := 91) rfl (fun g23 => nomatch g23) (fun g23 => ?_)
        refine RunS.s0f g23 ?_
        refine RunS.s0f g23 ?_
        refine RunS.s0f g23 ?_
        refine RunS.s0f g23 ?_
        refine RunS.s0f g23 ?_
        refine rA ?_ (x := pkF g23)
        refine sw_cond (t := 97) rfl (fun hb_ => nomatch hb_) (fun hb_ => ?_)
        have hP : homeP c n (k : Int) = false := by unfold homeP freeB; simp_all
        refine sw_skip ?_
        refine sO [(1, _), (2, _), (5, _), (6, _), (7, _), (8, _)] [(2, _)] ?_
        refine sw_reg ?_
        refine rA ?_ (x := sM)
        refine rA ?_ (x := B_add)
        refine rA ?_ (x := sA)
        refine Exists.intro (k + 1) (And.intro (by exact ⟨by omega, fun i hi => by by_cases e : i = k; (· subst e; exact hP); (· exact ha i (by omega))⟩) (And.intro (by omega) (And.intro (And.intro (by exact ⟨rfl, rfl, rfl, rfl, rfl, ⟨⟩⟩) (by exact ⟨rfl, ⟨⟩⟩)) (And.intro (by exact And.intro (by exact rfl) (True.intro)) (by exact ⟨⟩)))))
      ·try simp only [q1, q2, q3, q4, q5, q6, q7, q8, q9] at hb18
       have hend : nextSeg c n = firstIx (backP c n) m (c.Parts.length - m) := by rw [nextSeg_end hok fun i hi => ha i (by omega), hm0, Nat.sub_zero]
       refine sw_exit ?_
       refine sw_seq ?_
       refine sO [(1, _), (2, _), (5, _), (6, _), (7, _), (8, _)] [(2, (36, [PV.val _, PV.val _, PV.sl _ _, PV.sl _ _, PV.sl _ _, PV.sl _ _, PV.sl _ _, PV.sl _ _, PV.sl _ _, PV.sl _ _, PV.sl _ _]))] ?_
       refine sw_reg ?_
       refine rA ?_ (x := sM)
       refine rA ?_ (x := sA)
       refine sw_ret ?_
       exact (And.intro (by refine int_eq ?_; exact hend.symm) True.intro)
end Go.Proofs.YtloipjaiceifbaaGreat
