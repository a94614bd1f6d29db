/- What functions of the program compute. No condition. -/
import Derived.Test.YtloipjaiceifbaaCCluDClusterRows
import Derived.Test.YtloipjaiceifbaaCDc
import Derived.KernelRfl
set_option linter.unusedVariables false
set_option linter.unusedSimpArgs false
namespace Go.Proofs.Ytloipjaiceifbaa
open Go Go.RowKit M
set_option maxRecDepth 10000
attribute [local irreducible] PV.Lcl PV.LclR RV.Lcl
theorem impl_IsCluster {p3 p4 p9 p10 p13 p14 : Fl} {c : Cluster}  (hb : wtRowSS c.Parts ≤ 68719476736) : SCall Try.prog 101 [(true, [PV.val (vI c.Query.Id), PV.val (vI c.Query.Tenant), PV.sl .v (c.Query.Conds.map cCond), PV.sl .v (c.Query.Out.map cInt), PV.sl .v (c.Parts.map (cRowS p3 p4)), PV.sl .v (c.Up.map cBool), PV.sl .v (c.At.map cInt), PV.sl .v (c.Pos.map cInt), PV.sl .v (c.Buffer.map (cRowS p9 p10)), PV.sl .v (c.Done.map cInt), PV.sl .v (c.Rows.map (cRowS p13 p14))])] (resRV [(false, [PV.val (.bool (isCl c))])]) := by
 refine scall_of (rs := [(false, [PV.val (.bool (isCl c))])]) Try.func101 rfl (Nat.le_of_ble_eq_true rfl) (borA_cons (BorL.cons (PV.bor_val _) (BorL.cons (PV.bor_val _) (BorL.cons (PV.bor_sl _) (BorL.cons (PV.bor_sl _) (BorL.cons (PV.bor_sl _) (BorL.cons (PV.bor_sl _) (BorL.cons (PV.bor_sl _) (BorL.cons (PV.bor_sl _) (BorL.cons (PV.bor_sl _) (BorL.cons (PV.bor_sl _) (BorL.cons (PV.bor_sl _) BorL.nil))))))))))) borA_nil) ?_
 intro h0 w0 Fz0
 refine sw_slen (s := 0) (j := 2) rfl rfl fun hl0_2 => ?_
 try rw [List.length_map] at hl0_2
 refine sw_slen (s := 0) (j := 3) rfl rfl fun hl0_3 => ?_
 try rw [List.length_map] at hl0_3
 refine sw_slen (s := 0) (j := 4) rfl rfl fun hl0_4 => ?_
 try rw [List.length_map] at hl0_4
 refine sw_slen (s := 0) (j := 5) rfl rfl fun hl0_5 => ?_
 try rw [List.length_map] at hl0_5
 refine sw_slen (s := 0) (j := 6) rfl rfl fun hl0_6 => ?_
 try rw [List.length_map] at hl0_6
 refine sw_slen (s := 0) (j := 7) rfl rfl fun hl0_7 => ?_
 try rw [List.length_map] at hl0_7
 refine sw_slen (s := 0) (j := 8) rfl rfl fun hl0_8 => ?_
 try rw [List.length_map] at hl0_8
 refine sw_slen (s := 0) (j := 9) rfl rfl fun hl0_9 => ?_
 try rw [List.length_map] at hl0_9
 refine sw_slen (s := 0) (j := 10) rfl rfl fun hl0_10 => ?_
 try rw [List.length_map] at hl0_10
 have hwp : ∀ s : Int, wtRowS (partAt c s) ≤ 68719476736 := fun s => part_wt hb
 refine sw_seq ?_
 refine sw_reg ?_
 refine RunS.step (by exact ⟨rfl, ⟨⟩⟩) (by exact ⟨⟩) (LocG.of rfl (loc_box (ag := true) (cs := [PV.val _, PV.val _, PV.sl _ _, PV.sl _ _, PV.sl _ _, PV.sl _ _, PV.sl _ _, PV.sl _ _, PV.sl _ _, PV.sl _ _, PV.sl _ _]) (by decide) (by exact ⟨⟩))) (free1 (Free.of_ rfl)) ?_
 refine rA ?_ (x := kA)
 refine sw_seq ?_
 refine sO [(1, _), (2, _)] [(1, (60, [PV.val _, PV.val _, PV.sl _ _, PV.sl _ _, PV.sl _ _, PV.sl _ _, PV.sl _ _, PV.sl _ _, PV.sl _ _, PV.sl _ _, PV.sl _ _]))] ?_
 refine sw_reg ?_
 refine rA ?_ (x := lF fd_60_2)
 refine rA ?_ (x := lD [PV.sl .v _] ty_58)
 refine rA ?_ (x := lN sl_58)
 refine rA ?_ (x := sA)
 refine sw_seq ?_
 refine sw_seq ?_
 refine sO [(1, _), (2, _), (3, _)] [(1, _)] ?_
 refine sw_reg ?_
 refine rA ?_ (x := lF fd_60_0)
 refine rA ?_ (x := lD [PV.val _, PV.val _, PV.sl .v _, PV.sl .v _] ty_56)
 refine rA ?_ (x := lF fd_60_1)
 refine rA ?_ (x := lD [PV.sl .v _] ty_57)
 refine rA ?_ (x := sM)
 refine rA ?_ (x := cL [(true, [PV.val _, PV.val _, PV.sl _ _, PV.sl _ _]), (false, [PV.sl _ _]), (false, [PV.val _])] [(true, [PV.val _, PV.val _, PV.sl .v _, PV.sl .v _]), (false, [PV.sl .v _]), (false, [PV.val _])] c_86 (hs := by exact impl_startOk (by omega)))
 refine rA ?_ (x := nT)
 refine rA ?_ (x := sM)
 refine RunS.cases (s := 20) rfl (fun g1 => ?_) (fun g1 => ?_)
 ·have sg1 := g1
  try simp only [q1, q2, q3, q4, q5, q6, q7, q8, q9] at sg1
  refine RunS.s0t g1 ?_
  refine RunS.s0t g1 ?_
  refine RunS.s0t g1 ?_
  refine RunS.s0t g1 ?_
  refine RunS.s0t g1 ?_
  refine rA ?_ (x := pkT g1)
  refine rA ?_ (x := sM)
  refine RunS.cases (s := 27) rfl (fun g2 => ?_) (fun g2 => nomatch g2)
  refine RunS.s0t g2 ?_
  refine RunS.s0t g2 ?_
  refine RunS.s0t g2 ?_
  refine RunS.s0t g2 ?_
  refine RunS.s0t g2 ?_
  refine rA ?_ (x := pkT g2)
  refine rA ?_ (x := sM)
  refine RunS.cases (s := 34) rfl (fun g3 => ?_) (fun g3 => nomatch g3)
  refine RunS.s0t g3 ?_
  refine RunS.s0t g3 ?_
  refine RunS.s0t g3 ?_
  refine RunS.s0t g3 ?_
  refine RunS.s0t g3 ?_
  refine rA ?_ (x := pkT g3)
  refine rA ?_ (x := sM)
  refine RunS.cases (s := 41) rfl (fun g4 => ?_) (fun g4 => nomatch g4)
  refine RunS.s0t g4 ?_
  refine RunS.s0t g4 ?_
  refine RunS.s0t g4 ?_
  refine RunS.s0t g4 ?_
  refine RunS.s0t g4 ?_
  refine RunS.s0t g4 ?_
  refine RunS.s0t g4 ?_
  refine rA ?_ (x := pkT g4)
  refine sw_cond (t := 49) rfl (fun hb_ => ?_) (fun hb_ => nomatch hb_)
  have hbad : isCl c = false := isCl_head (fun x => by unfold headB at x; simp_all)
  refine sw_seq ?_
  refine sO [(1, _), (2, _), (3, _)] [(1, _)] ?_
  refine sw_reg ?_
  refine rA ?_ (x := kA)
  refine sw_ret ?_
  exact (And.intro (by refine bool_eq ?_; exact hbad.symm) True.intro)
 ·have sg1 := g1
  try simp only [q1, q2, q3, q4, q5, q6, q7, q8, q9] at sg1
  refine rB g1 ?_ (x := lF fd_60_3)
  refine rB g1 ?_ (x := lD [PV.sl .v _] ty_38)
  refine rB g1 ?_ (x := lN sl_38)
  refine rB g1 ?_ (x := sM)
  refine rB g1 ?_ (x := B_neq)
  refine rA ?_ (x := pkF g1)
  refine rA ?_ (x := sM)
  refine RunS.cases (s := 27) rfl (fun g6 => ?_) (fun g6 => ?_)
  ·have sg6 := g6
   try simp only [q1, q2, q3, q4, q5, q6, q7, q8, q9] at sg6
   refine RunS.s0t g6 ?_
   refine RunS.s0t g6 ?_
   refine RunS.s0t g6 ?_
   refine RunS.s0t g6 ?_
   refine RunS.s0t g6 ?_
   refine rA ?_ (x := pkT g6)
   refine rA ?_ (x := sM)
   refine RunS.cases (s := 34) rfl (fun g7 => ?_) (fun g7 => nomatch g7)
   refine RunS.s0t g7 ?_
   refine RunS.s0t g7 ?_
   refine RunS.s0t g7 ?_
   refine RunS.s0t g7 ?_
   refine RunS.s0t g7 ?_
   refine rA ?_ (x := pkT g7)
   refine rA ?_ (x := sM)
   refine RunS.cases (s := 41) rfl (fun g8 => ?_) (fun g8 => nomatch g8)
   refine RunS.s0t g8 ?_
   refine RunS.s0t g8 ?_
   refine RunS.s0t g8 ?_
   refine RunS.s0t g8 ?_
   refine RunS.s0t g8 ?_
   refine RunS.s0t g8 ?_
   refine RunS.s0t g8 ?_
   refine rA ?_ (x := pkT g8)
   refine sw_cond (t := 49) rfl (fun hb_ => ?_) (fun hb_ => nomatch hb_)
   have hbad : isCl c = false := isCl_head (fun x => by unfold headB at x; simp_all)
   refine sw_seq ?_
   refine sO [(1, _), (2, _), (3, _)] [(1, _)] ?_
   refine sw_reg ?_
   refine rA ?_ (x := kA)
   refine sw_ret ?_
   exact (And.intro (by refine bool_eq ?_; exact hbad.symm) True.intro)
  ·have sg6 := g6
   try simp only [q1, q2, q3, q4, q5, q6, q7, q8, q9] at sg6
   refine rB g6 ?_ (x := lF fd_60_4)
   refine rB g6 ?_ (x := lD [PV.sl .v _] ty_38)
   refine rB g6 ?_ (x := lN sl_38)
   refine rB g6 ?_ (x := sM)
   refine rB g6 ?_ (x := B_neq)
   refine rA ?_ (x := pkF g6)
   refine rA ?_ (x := sM)
   refine RunS.cases (s := 34) rfl (fun g10 => ?_) (fun g10 => ?_)
   ·have sg10 := g10
    try simp only [q1, q2, q3, q4, q5, q6, q7, q8, q9] at sg10
    refine RunS.s0t g10 ?_
    refine RunS.s0t g10 ?_
    refine RunS.s0t g10 ?_
    refine RunS.s0t g10 ?_
    refine RunS.s0t g10 ?_
    refine rA ?_ (x := pkT g10)
    refine rA ?_ (x := sM)
    refine RunS.cases (s := 41) rfl (fun g11 => ?_) (fun g11 => nomatch g11)
    refine RunS.s0t g11 ?_
    refine RunS.s0t g11 ?_
    refine RunS.s0t g11 ?_
    refine RunS.s0t g11 ?_
    refine RunS.s0t g11 ?_
    refine RunS.s0t g11 ?_
    refine RunS.s0t g11 ?_
    refine rA ?_ (x := pkT g11)
    refine sw_cond (t := 49) rfl (fun hb_ => ?_) (fun hb_ => nomatch hb_)
    have hbad : isCl c = false := isCl_head (fun x => by unfold headB at x; simp_all)
    refine sw_seq ?_
    refine sO [(1, _), (2, _), (3, _)] [(1, _)] ?_
    refine sw_reg ?_
    refine rA ?_ (x := kA)
    refine sw_ret ?_
    exact (And.intro (by refine bool_eq ?_; exact hbad.symm) True.intro)
   ·have sg10 := g10
    try simp only [q1, q2, q3, q4, q5, q6, q7, q8, q9] at sg10
    refine rB g10 ?_ (x := lF fd_60_5)
    refine rB g10 ?_ (x := lD [PV.sl .v _] ty_57)
    refine rB g10 ?_ (x := lN sl_57)
    refine rB g10 ?_ (x := sM)
    refine rB g10 ?_ (x := B_neq)
    refine rA ?_ (x := pkF g10)
    refine rA ?_ (x := sM)
    refine RunS.cases (s := 41) rfl (fun g13 => ?_) (fun g13 => ?_)
    ·have sg13 := g13
     try simp only [q1, q2, q3, q4, q5, q6, q7, q8, q9] at sg13
     refine RunS.s0t g13 ?_
     refine RunS.s0t g13 ?_
     refine RunS.s0t g13 ?_
     refine RunS.s0t g13 ?_
     refine RunS.s0t g13 ?_
     refine RunS.s0t g13 ?_
     refine RunS.s0t g13 ?_
     refine rA ?_ (x := pkT g13)
     refine sw_cond (t := 49) rfl (fun hb_ => ?_) (fun hb_ => nomatch hb_)
     have hbad : isCl c = false := isCl_head (fun x => by unfold headB at x; simp_all)
     refine sw_seq ?_
     refine sO [(1, _), (2, _), (3, _)] [(1, _)] ?_
     refine sw_reg ?_
     refine rA ?_ (x := kA)
     refine sw_ret ?_
     exact (And.intro (by refine bool_eq ?_; exact hbad.symm) True.intro)
    ·have sg13 := g13
     try simp only [q1, q2, q3, q4, q5, q6, q7, q8, q9] at sg13
     refine rB g13 ?_ (x := lF fd_60_7)
     refine rB g13 ?_ (x := lD [PV.sl .v _] ty_57)
     refine rB g13 ?_ (x := lN sl_57)
     refine rB g13 ?_ (x := lF fd_60_1)
     refine rB g13 ?_ (x := lD [PV.sl .v _] ty_57)
     refine rB g13 ?_ (x := lN sl_57)
     refine rB g13 ?_ (x := B_neq)
     refine rA ?_ (x := pkF g13)
     refine sw_cond (t := 49) rfl (fun hb15 => ?_) (fun hb15 => ?_)
     ·try simp only [q1, q2, q3, q4, q5, q6, q7, q8, q9] at hb15
      have hbad : isCl c = false := isCl_head (fun x => by unfold headB at x; simp_all)
      refine sw_seq ?_
      refine sO [(1, _), (2, _), (3, _)] [(1, _)] ?_
      refine sw_reg ?_
      refine rA ?_ (x := kA)
      refine sw_ret ?_
      exact (And.intro (by refine bool_eq ?_; exact hbad.symm) True.intro)
     ·try simp only [q1, q2, q3, q4, q5, q6, q7, q8, q9] at hb15
      have hh : headB c := by unfold headB; first | (simp_all; done) | (simp_all; omega)
      have hh2 := hh
      unfold headB at hh2
      obtain ⟨_, hh3, hh4, hh5, hh6⟩ := hh2
      refine sw_skip ?_
      refine sw_seq ?_
      refine sw_seq ?_
      refine sO [(1, _), (2, _), (3, _)] [(1, _)] ?_
      refine sw_reg ?_
      refine rA ?_ (x := lF fd_60_6)
      refine rA ?_ (x := lD [PV.sl .v _] ty_38)
      refine rA ?_ (x := lN sl_38)
      refine rA ?_ (x := kM)
      refine sw_block ?_
      refine sO [(1, _), (2, _), (3, _), (51, _), (52, _), (53, _)] [(1, _)] ?_
      refine sw_loop (l0 := [(1, RV.ptr 1 0), (3, RV.sv false [PV.val _]), (51, RV.sv false [PV.sl _ _]), (52, RV.sv false [PV.val _])]) (b0 := [(1, (60, [PV.val _, PV.val _, PV.sl _ _, PV.sl _ _, PV.sl _ _, PV.sl _ _, PV.sl _ _, PV.sl _ _, PV.sl _ _, PV.sl _ _, PV.sl _ _]))]) (fun k : Nat => k ≤ c.Done.length ∧ adjTo 0 (doneP c) ltI c.Done k = true) (fun k : Nat => [(53, RV.int (k : Int))]) (fun k : Nat => []) (fun k : Nat => c.Done.length - k) 0 (by exact ⟨by omega, rfl⟩) (by exact ⟨rfl, rfl, rfl, rfl, ⟨⟩⟩) (by exact ⟨rfl, ⟨⟩⟩) (by exact And.intro (by exact rfl) (True.intro)) (by exact ⟨⟩) ?_
      rintro k ⟨hk, ha⟩
      refine sw_seq ?_
      refine sw_reg ?_
      refine rA ?_ (x := B_lss)
      refine sw_seq ?_
      refine sw_cond (t := 54) rfl (fun hb16 => ?_) (fun hb16 => ?_)
      ·try simp only [q1, q2, q3, q4, q5, q6, q7, q8, q9] at hb16
       have hlt : k < c.Done.length := by omega
       have hgk : c.Done.getD k 0 = c.Done[k] := getD_at hlt
       have hgp : 0 < k → c.Done.getD (k - 1) 0 = c.Done[k - 1] := fun h => getD_at (by omega)
       refine sw_skip ?_
       refine sw_seq ?_
       refine sw_block ?_
       refine sw_seq ?_
       refine sO [(1, _), (3, _), (51, _), (52, _), (53, _)] [(1, (60, [PV.val _, PV.val _, PV.sl _ _, PV.sl _ _, PV.sl _ _, PV.sl _ _, PV.sl _ _, PV.sl _ _, PV.sl _ _, PV.sl _ _, PV.sl _ _]))] ?_
       refine sw_reg ?_
       refine rA ?_ (x := sM)
       refine rA ?_ (x := loc_index (by decide) sl_38 (by exact ⟨⟩) (by exact rfl) (by exact getm2 (by omega) rfl) (by exact rfl))
       refine rA ?_ (x := lE [PV.val _] ty_3)
       refine rA ?_ (x := sA)
       refine rA ?_ (x := sA)
       refine sw_seq ?_
       refine sO [(1, _), (3, _), (4, _), (5, _), (51, _), (52, _), (53, _)] [(1, _)] ?_
       refine sw_reg ?_
       refine rA ?_ (x := sM)
       refine rA ?_ (x := lF fd_60_1)
       refine rA ?_ (x := lD [PV.sl .v _] ty_57)
       refine rA ?_ (x := lN sl_57)
       refine rA ?_ (x := B_sub)
       refine rA ?_ (x := cL [(false, [PV.val _]), (false, [PV.val _]), (false, [PV.val _])] [(false, [PV.val _]), (false, [PV.val _]), (false, [PV.val _])] c_68 (hs := by exact impl_within))
       refine rA ?_ (x := nT)
       refine rA ?_ (x := sM)
       refine RunS.cases (s := 65) rfl (fun g17 => ?_) (fun g17 => ?_)
       ·have sg17 := g17
        try simp only [q1, q2, q3, q4, q5, q6, q7, q8, q9] at sg17
        refine RunS.s0t g17 ?_
        refine RunS.s0t g17 ?_
        refine RunS.s0t g17 ?_
        refine RunS.su ?_
        refine RunS.su ?_
        refine RunS.su ?_
        refine RunS.su ?_
        refine RunS.su ?_
        refine RunS.su ?_
        refine RunS.su ?_
        refine RunS.su ?_
        refine RunS.s0t g17 ?_
        refine rA ?_ (x := pkT g17)
        refine sw_cond (t := 78) rfl (fun hb_ => ?_) (fun hb_ => nomatch hb_)
        have hbad : adjAll 0 (doneP c) ltI c.Done = false := adj_no hlt (Bool.eq_false_iff.2 fun hx => by
         have hx := adjStep.1 hx
         rw [hgk] at hx
         obtain ⟨hx1, hx2⟩ := hx
         first
         | (simp_all [doneP]; done)
         | (simp only [decide_eq_true_eq, ltI, doneP] at *; by_cases h0 : k = 0 <;> (try rw [hgp (by omega)] at hx2) <;> omega))
        refine sw_seq ?_
        refine sO [(1, _), (3, _), (4, _), (5, _), (51, _), (52, _), (53, _)] [(1, _)] ?_
        refine sw_reg ?_
        refine rA ?_ (x := kA)
        refine sw_ret ?_
        exact (And.intro (by refine bool_eq ?_; exact (isCl_done hbad).symm) True.intro)
       ·have sg17 := g17
        try simp only [q1, q2, q3, q4, q5, q6, q7, q8, q9] at sg17
        refine rB g17 ?_ (x := sM)
        refine rB g17 ?_ (x := B_gtr)
        refine rB g17 ?_ (x := sM)
        refine RunS.cases (s := 68) rfl (fun g19 => ?_) (fun g19 => ?_)
        ·have sg19 := g19
         try simp only [q1, q2, q3, q4, q5, q6, q7, q8, q9] at sg19
         refine rB g19 ?_ (x := lF fd_60_6)
         refine rB g19 ?_ (x := lD [PV.sl .v _] ty_38)
         refine rB g19 ?_ (x := sM)
         refine rB g19 ?_ (x := B_sub)
         refine rB g19 ?_ (x := loc_index (k := k - 1) (by decide) sl_38 (by exact ⟨⟩) (by omega) (by exact getm2 (by omega) rfl) (by exact rfl))
         refine rB g19 ?_ (x := lE [PV.val _] ty_3)
         refine rB g19 ?_ (x := sM)
         refine rB g19 ?_ (x := B_geq)
         refine rB g17 ?_ (x := pkT g19)
         refine rA ?_ (x := pkF g17)
         refine sw_cond (t := 78) rfl (fun hb20 => ?_) (fun hb20 => ?_)
         ·try simp only [q1, q2, q3, q4, q5, q6, q7, q8, q9] at hb20
          have hbad : adjAll 0 (doneP c) ltI c.Done = false := adj_no hlt (Bool.eq_false_iff.2 fun hx => by
           have hx := adjStep.1 hx
           rw [hgk] at hx
           obtain ⟨hx1, hx2⟩ := hx
           first
           | (simp_all [doneP]; done)
           | (simp only [decide_eq_true_eq, ltI, doneP] at *; by_cases h0 : k = 0 <;> (try rw [hgp (by omega)] at hx2) <;> omega))
          refine sw_seq ?_
          refine sO [(1, _), (3, _), (4, _), (5, _), (51, _), (52, _), (53, _)] [(1, _)] ?_
          refine sw_reg ?_
          refine rA ?_ (x := kA)
          refine sw_ret ?_
          exact (And.intro (by refine bool_eq ?_; exact (isCl_done hbad).symm) True.intro)
         ·try simp only [q1, q2, q3, q4, q5, q6, q7, q8, q9] at hb20
          refine sw_skip ?_
          refine sO [(1, _), (3, _), (4, _), (5, _), (51, _), (52, _), (53, _)] [(1, _)] ?_
          refine sw_reg ?_
          refine rA ?_ (x := B_add)
          refine rA ?_ (x := sM)
          refine Exists.intro (k + 1) (And.intro (by exact ⟨by omega, by rw [adjTo_succ, ha, Bool.true_and]; refine adjStep.2 ⟨by rw [hgk]; first | assumption | simp_all, ?_⟩; rcases Nat.eq_zero_or_pos k with h0 | h0; (· exact .inl h0); (· right; rw [hgk, hgp h0]; first | (simp only [decide_eq_true_eq, ltI, doneP] at *; omega) | (simp_all; done))⟩) (And.intro (by omega) (And.intro (And.intro (by exact ⟨rfl, rfl, rfl, rfl, ⟨⟩⟩) (by exact ⟨rfl, ⟨⟩⟩)) (And.intro (by exact And.intro (by exact rfl) (True.intro)) (by exact ⟨⟩)))))
        ·have sg19 := g19
         try simp only [q1, q2, q3, q4, q5, q6, q7, q8, q9] at sg19
         refine RunS.s0f g19 ?_
         refine RunS.s0f g19 ?_
         refine RunS.s0f g19 ?_
         refine RunS.s0f g19 ?_
         refine RunS.s0f g19 ?_
         refine RunS.s0f g19 ?_
         refine RunS.s0f g19 ?_
         refine RunS.s0f g19 ?_
         refine rB g17 ?_ (x := pkF g19)
         refine rA ?_ (x := pkF g17)
         refine sw_cond (t := 78) rfl (fun hb_ => nomatch hb_) (fun hb_ => ?_)
         refine sw_skip ?_
         refine sO [(1, _), (3, _), (4, _), (5, _), (51, _), (52, _), (53, _)] [(1, _)] ?_
         refine sw_reg ?_
         refine rA ?_ (x := B_add)
         refine rA ?_ (x := sM)
         refine Exists.intro (k + 1) (And.intro (by exact ⟨by omega, by rw [adjTo_succ, ha, Bool.true_and]; refine adjStep.2 ⟨by rw [hgk]; first | assumption | simp_all, ?_⟩; rcases Nat.eq_zero_or_pos k with h0 | h0; (· exact .inl h0); (· right; rw [hgk, hgp h0]; first | (simp only [decide_eq_true_eq, ltI, doneP] at *; omega) | (simp_all; done))⟩) (And.intro (by omega) (And.intro (And.intro (by exact ⟨rfl, rfl, rfl, rfl, ⟨⟩⟩) (by exact ⟨rfl, ⟨⟩⟩)) (And.intro (by exact And.intro (by exact rfl) (True.intro)) (by exact ⟨⟩)))))
      ·try simp only [q1, q2, q3, q4, q5, q6, q7, q8, q9] at hb16
       have hend : k = c.Done.length := by omega
       have hdone : adjAll 0 (doneP c) ltI c.Done = true := adj_end ha hend
       refine sw_exit ?_
       refine sw_seq ?_
       refine sw_seq ?_
       refine sO [(1, _), (3, _), (51, _), (52, _), (53, _)] [(1, (60, [PV.val _, PV.val _, PV.sl _ _, PV.sl _ _, PV.sl _ _, PV.sl _ _, PV.sl _ _, PV.sl _ _, PV.sl _ _, PV.sl _ _, PV.sl _ _]))] ?_
       refine sw_reg ?_
       refine rA ?_ (x := lF fd_60_7)
       refine rA ?_ (x := lD [PV.sl .v _] ty_57)
       refine rA ?_ (x := lN sl_57)
       refine rA ?_ (x := kM)
       refine sw_block ?_
       refine sO [(1, _), (3, _), (51, _), (52, _), (53, _), (81, _), (82, _), (83, _)] [(1, _)] ?_
       refine sw_loop (l0 := [(1, RV.ptr 1 0), (3, RV.sv false [PV.val _]), (51, RV.sv false [PV.sl _ _]), (52, RV.sv false [PV.val _]), (53, RV.sv false [PV.val _]), (81, RV.sv false [PV.sl _ _]), (82, RV.sv false [PV.val _])]) (b0 := [(1, (60, [PV.val _, PV.val _, PV.sl _ _, PV.sl _ _, PV.sl _ _, PV.sl _ _, PV.sl _ _, PV.sl _ _, PV.sl _ _, PV.sl _ _, PV.sl _ _]))]) (fun k : Nat => k ≤ c.Rows.length ∧ (∀ i : Nat, i < k → rowOk c (i : Int) = true)) (fun k : Nat => [(83, RV.int (k : Int))]) (fun k : Nat => []) (fun k : Nat => c.Rows.length - k) 0 (by exact ⟨by omega, fun i hi => absurd hi (Nat.not_lt_zero _)⟩) (by exact ⟨rfl, rfl, rfl, rfl, rfl, rfl, rfl, ⟨⟩⟩) (by exact ⟨rfl, ⟨⟩⟩) (by exact And.intro (by exact rfl) (True.intro)) (by exact ⟨⟩) ?_
       rintro k ⟨hk, ha⟩
       refine sw_seq ?_
       refine sw_reg ?_
       refine rA ?_ (x := B_lss)
       refine sw_seq ?_
       refine sw_cond (t := 84) rfl (fun hb22 => ?_) (fun hb22 => ?_)
       ·try simp only [q1, q2, q3, q4, q5, q6, q7, q8, q9] at hb22
        have hlt : k < c.Rows.length := by omega
        have hlt2 : k < c.Parts.length := by omega
        refine sw_skip ?_
        refine sw_seq ?_
        refine sw_block ?_
        refine sw_seq ?_
        refine sO [(1, _), (3, _), (51, _), (52, _), (53, _), (81, _), (82, _), (83, _)] [(1, (60, [PV.val _, PV.val _, PV.sl _ _, PV.sl _ _, PV.sl _ _, PV.sl _ _, PV.sl _ _, PV.sl _ _, PV.sl _ _, PV.sl _ _, PV.sl _ _]))] ?_
        refine sw_reg ?_
        refine rA ?_ (x := sM)
        refine rA ?_ (x := loc_index (by decide) sl_57 (by exact ⟨⟩) (by exact rfl) (by exact getm2 (by omega) (by rw [rowsN (by omega)])) (by exact rfl))
        refine rA ?_ (x := lE [PV.sl .v _] ty_32)
        refine rA ?_ (x := sA)
        refine rA ?_ (x := vA false [PV.sl .v _])
        refine sw_seq ?_
        refine sO [(1, _), (3, _), (6, _), (7, _), (51, _), (52, _), (53, _), (81, _), (82, _), (83, _)] [(1, _)] ?_
        refine sw_reg ?_
        refine rA ?_ (x := loc_bslice (qs := []) (by decide) sl_32 z_87 (by decide) rfl rfl rfl rfl rfl (by exact Nat.le_of_ble_eq_true rfl) (by exact ⟨⟩) rfl)
        refine rA ?_ (x := tA)
        refine sw_seq ?_
        refine sw_seq ?_
        refine sO [(1, _), (3, _), (6, _), (7, _), (8, _), (51, _), (52, _), (53, _), (81, _), (82, _), (83, _)] [(1, _)] ?_
        refine sw_reg ?_
        refine rA ?_ (x := lF fd_60_6)
        refine rA ?_ (x := lD [PV.sl .v _] ty_38)
        refine rA ?_ (x := sM)
        refine rA ?_ (x := cL [(false, [PV.sl _ _]), (false, [PV.val _])] [(false, [PV.sl .v _]), (false, [PV.val _])] c_112 (hs := by exact impl_hasInt))
        refine sw_cond (t := 92) rfl (fun hb23 => ?_) (fun hb23 => ?_)
        ·try simp only [q1, q2, q3, q4, q5, q6, q7, q8, q9] at hb23
         have hdn := hb23
         refine sO [(1, _), (3, _), (6, _), (7, _), (8, _), (51, _), (52, _), (53, _), (81, _), (82, _), (83, _)] [(1, _)] ?_
         refine sw_draw hm_ ?_
         refine dA 0 ?_ (x := lF fd_60_0)
         refine dA 1 ?_ (x := lD [PV.val _, PV.val _, PV.sl .v _, PV.sl .v _] ty_56)
         refine dA 0 ?_ (x := lF fd_60_1)
         refine dA 4 ?_ (x := lD [PV.sl .v _] ty_57)
         refine dA 0 ?_ (x := sM)
         refine dA 28 ?_ (x := loc_index (by decide) sl_57 (by exact ⟨⟩) (by exact rfl) (by exact getm2 (by omega) (by rw [partN (by omega)])) (by exact rfl))
         refine dA 60 ?_ (x := lE [PV.sl .v _] ty_32)
         refine dA 127 ?_ (x := cL [(true, [PV.val _, PV.val _, PV.sl _ _, PV.sl _ _]), (false, [PV.sl _ _])] [(true, [PV.val _, PV.val _, PV.sl .v _, PV.sl .v _]), (false, [PV.sl .v _])] c_124 (hs := by exact impl_matching (by first | omega | exact hwp _)))
         refine dA 255 ?_ (x := tA)
         refine sw_seq ?_
         refine sO [(1, _), (3, _), (6, _), (7, _), (8, _), (51, _), (52, _), (53, _), (81, _), (82, _), (83, _)] [(1, _)] ?_
         refine sw_reg ?_
         refine rA ?_ (x := vM false [PV.sl .v _])
         refine rA ?_ (x := vM false [PV.sl .v _])
         refine rA ?_ (x := cL [(false, [PV.sl _ _]), (false, [PV.sl _ _])] [(false, [PV.sl .v _]), (false, [PV.sl .v _])] c_125 (hs := by exact (by first | exact impl_EqualRows | exact @impl_EqualRows _ .v _ [])))
         refine rA ?_ (x := nT)
         refine sw_cond (t := 104) rfl (fun hb24 => ?_) (fun hb24 => ?_)
         ·try simp only [q1, q2, q3, q4, q5, q6, q7, q8, q9] at hb24
          have hro : rowOk c (k : Int) = false := by simp_all [rowOk]
          have hbad : isCl c = false := isCl_row hlt2 hro
          refine sw_seq ?_
          refine sO [(1, _), (3, _), (6, _), (7, _), (8, _), (51, _), (52, _), (53, _), (81, _), (82, _), (83, _)] [(1, _)] ?_
          refine sw_reg ?_
          refine rA ?_ (x := kA)
          refine sw_ret ?_
          exact (And.intro (by refine bool_eq ?_; exact hbad.symm) True.intro)
         ·try simp only [q1, q2, q3, q4, q5, q6, q7, q8, q9] at hb24
          have hro : rowOk c (k : Int) = true := by simp_all [rowOk]
          refine sw_skip ?_
          refine sO [(1, _), (3, _), (6, _), (7, _), (8, _), (51, _), (52, _), (53, _), (81, _), (82, _), (83, _)] [(1, _)] ?_
          refine sw_reg ?_
          refine rA ?_ (x := B_add)
          refine rA ?_ (x := sM)
          refine Exists.intro (k + 1) (And.intro (by exact ⟨by omega, fun i hi => by by_cases e : i = k; (· subst e; exact hro); (· exact ha i (by omega))⟩) (And.intro (by omega) (And.intro (And.intro (by exact ⟨rfl, rfl, rfl, rfl, rfl, rfl, rfl, ⟨⟩⟩) (by exact ⟨rfl, ⟨⟩⟩)) (And.intro (by exact And.intro (by exact rfl) (True.intro)) (by exact ⟨⟩)))))
        ·try simp only [q1, q2, q3, q4, q5, q6, q7, q8, q9] at hb23
         have hdn := hb23
         refine sw_skip ?_
         refine sw_seq ?_
         refine sO [(1, _), (3, _), (6, _), (7, _), (8, _), (51, _), (52, _), (53, _), (81, _), (82, _), (83, _)] [(1, _)] ?_
         refine sw_reg ?_
         refine rA ?_ (x := vM false [PV.sl .v _])
         refine rA ?_ (x := vM false [PV.sl .v _])
         refine rA ?_ (x := cL [(false, [PV.sl _ _]), (false, [PV.sl _ _])] [(false, [PV.sl .v _]), (false, [PV.sl .v _])] c_125 (hs := by exact (by first | exact impl_EqualRows | exact @impl_EqualRows _ .v _ [])))
         refine rA ?_ (x := nT)
         refine sw_cond (t := 104) rfl (fun hb25 => ?_) (fun hb25 => ?_)
         ·try simp only [q1, q2, q3, q4, q5, q6, q7, q8, q9] at hb25
          have hro : rowOk c (k : Int) = false := by simp_all [rowOk]
          have hbad : isCl c = false := isCl_row hlt2 hro
          refine sw_seq ?_
          refine sO [(1, _), (3, _), (6, _), (7, _), (8, _), (51, _), (52, _), (53, _), (81, _), (82, _), (83, _)] [(1, _)] ?_
          refine sw_reg ?_
          refine rA ?_ (x := kA)
          refine sw_ret ?_
          exact (And.intro (by refine bool_eq ?_; exact hbad.symm) True.intro)
         ·try simp only [q1, q2, q3, q4, q5, q6, q7, q8, q9] at hb25
          have hro : rowOk c (k : Int) = true := by simp_all [rowOk]
          refine sw_skip ?_
          refine sO [(1, _), (3, _), (6, _), (7, _), (8, _), (51, _), (52, _), (53, _), (81, _), (82, _), (83, _)] [(1, _)] ?_
          refine sw_reg ?_
          refine rA ?_ (x := B_add)
          refine rA ?_ (x := sM)
          refine Exists.intro (k + 1) (And.intro (by exact ⟨by omega, fun i hi => by by_cases e : i = k; (· subst e; exact hro); (· exact ha i (by omega))⟩) (And.intro (by omega) (And.intro (And.intro (by exact ⟨rfl, rfl, rfl, rfl, rfl, rfl, rfl, ⟨⟩⟩) (by exact ⟨rfl, ⟨⟩⟩)) (And.intro (by exact And.intro (by exact rfl) (True.intro)) (by exact ⟨⟩)))))
       ·try simp only [q1, q2, q3, q4, q5, q6, q7, q8, q9] at hb22
        have hrows : ∀ i : Nat, i < c.Parts.length → rowOk c (i : Int) = true := fun i hi => ha i (by omega)
        refine sw_exit ?_
        refine sw_seq ?_
        refine sw_seq ?_
        refine sO [(1, _), (3, _), (51, _), (52, _), (53, _), (81, _), (82, _), (83, _)] [(1, (60, [PV.val _, PV.val _, PV.sl _ _, PV.sl _ _, PV.sl _ _, PV.sl _ _, PV.sl _ _, PV.sl _ _, PV.sl _ _, PV.sl _ _, PV.sl _ _]))] ?_
        refine sw_reg ?_
        refine rA ?_ (x := lF fd_60_3)
        refine rA ?_ (x := lD [PV.sl .v _] ty_38)
        refine rA ?_ (x := lN sl_38)
        refine rA ?_ (x := kM)
        refine sw_block ?_
        refine sO [(1, _), (3, _), (51, _), (52, _), (53, _), (81, _), (82, _), (83, _), (108, _), (109, _)] [(1, _)] ?_
        refine sw_loop (l0 := [(1, RV.ptr 1 0), (3, RV.sv false [PV.val _]), (51, RV.sv false [PV.sl _ _]), (52, RV.sv false [PV.val _]), (53, RV.sv false [PV.val _]), (81, RV.sv false [PV.sl _ _]), (82, RV.sv false [PV.val _]), (83, RV.sv false [PV.val _]), (108, RV.sv false [PV.val _])]) (b0 := [(1, (60, [PV.val _, PV.val _, PV.sl _ _, PV.sl _ _, PV.sl _ _, PV.sl _ _, PV.sl _ _, PV.sl _ _, PV.sl _ _, PV.sl _ _, PV.sl _ _]))]) (fun k : Nat => k ≤ c.At.length ∧ (∀ i : Nat, i < k → nodeI c (i : Int) = true)) (fun k : Nat => [(109, RV.int (k : Int))]) (fun k : Nat => []) (fun k : Nat => c.At.length - k) 0 (by exact ⟨by omega, fun i hi => absurd hi (Nat.not_lt_zero _)⟩) (by exact ⟨rfl, rfl, rfl, rfl, rfl, rfl, rfl, rfl, rfl, ⟨⟩⟩) (by exact ⟨rfl, ⟨⟩⟩) (by exact And.intro (by exact rfl) (True.intro)) (by exact ⟨⟩) ?_
        rintro k ⟨hk, ha⟩
        refine sw_seq ?_
        refine sw_reg ?_
        refine rA ?_ (x := B_lss)
        refine sw_seq ?_
        refine sw_cond (t := 110) rfl (fun hb26 => ?_) (fun hb26 => ?_)
        ·try simp only [q1, q2, q3, q4, q5, q6, q7, q8, q9] at hb26
         have hlt : k < c.Up.length := by omega
         refine sw_skip ?_
         refine sw_seq ?_
         refine sw_block ?_
         refine sw_seq ?_
         refine sO [(1, _), (3, _), (51, _), (52, _), (53, _), (81, _), (82, _), (83, _), (108, _), (109, _)] [(1, (60, [PV.val _, PV.val _, PV.sl _ _, PV.sl _ _, PV.sl _ _, PV.sl _ _, PV.sl _ _, PV.sl _ _, PV.sl _ _, PV.sl _ _, PV.sl _ _]))] ?_
         refine sw_reg ?_
         refine rA ?_ (x := sM)
         refine rA ?_ (x := sA)
         refine sw_seq ?_
         refine sO [(1, _), (3, _), (9, _), (51, _), (52, _), (53, _), (81, _), (82, _), (83, _), (108, _), (109, _)] [(1, _)] ?_
         refine sw_reg ?_
         refine rA ?_ (x := lD [PV.val _, PV.val _, PV.sl .v _, PV.sl .v _, PV.sl .v _, PV.sl .v _, PV.sl .v _, PV.sl .v _, PV.sl .v _, PV.sl .v _, PV.sl .v _] ty_60)
         refine rA ?_ (x := sM)
         refine rA ?_ (x := cL [(true, [PV.val _, PV.val _, PV.sl _ _, PV.sl _ _, PV.sl _ _, PV.sl _ _, PV.sl _ _, PV.sl _ _, PV.sl _ _, PV.sl _ _, PV.sl _ _]), (false, [PV.val _])] [(true, [PV.val _, PV.val _, PV.sl .v _, PV.sl .v _, PV.sl .v _, PV.sl .v _, PV.sl .v _, PV.sl .v _, PV.sl .v _, PV.sl .v _, PV.sl .v _]), (false, [PV.val _])] c_126 (hs := by exact impl_nodeOk (by omega) (by omega) (by omega)))
         refine rA ?_ (x := nT)
         refine sw_cond (t := 115) rfl (fun hb27 => ?_) (fun hb27 => ?_)
         ·try simp only [q1, q2, q3, q4, q5, q6, q7, q8, q9] at hb27
          have hbad : isCl c = false := isCl_node hlt (by simp_all)
          refine sw_seq ?_
          refine sO [(1, _), (3, _), (9, _), (51, _), (52, _), (53, _), (81, _), (82, _), (83, _), (108, _), (109, _)] [(1, _)] ?_
          refine sw_reg ?_
          refine rA ?_ (x := kA)
          refine sw_ret ?_
          exact (And.intro (by refine bool_eq ?_; exact hbad.symm) True.intro)
         ·try simp only [q1, q2, q3, q4, q5, q6, q7, q8, q9] at hb27
          have hno : nodeI c (k : Int) = true := by simp_all
          refine sw_skip ?_
          refine sO [(1, _), (3, _), (9, _), (51, _), (52, _), (53, _), (81, _), (82, _), (83, _), (108, _), (109, _)] [(1, _)] ?_
          refine sw_reg ?_
          refine rA ?_ (x := B_add)
          refine rA ?_ (x := sM)
          refine Exists.intro (k + 1) (And.intro (by exact ⟨by omega, fun i hi => by by_cases e : i = k; (· subst e; exact hno); (· exact ha i (by omega))⟩) (And.intro (by omega) (And.intro (And.intro (by exact ⟨rfl, rfl, rfl, rfl, rfl, rfl, rfl, rfl, rfl, ⟨⟩⟩) (by exact ⟨rfl, ⟨⟩⟩)) (And.intro (by exact And.intro (by exact rfl) (True.intro)) (by exact ⟨⟩)))))
        ·try simp only [q1, q2, q3, q4, q5, q6, q7, q8, q9] at hb26
         have hcl : isCl c = true := isCl_iff.2 ⟨hh, hdone, hrows, fun i hi => ha i (by omega)⟩
         refine sw_exit ?_
         refine sw_seq ?_
         refine sO [(1, _), (3, _), (51, _), (52, _), (53, _), (81, _), (82, _), (83, _), (108, _), (109, _)] [(1, (60, [PV.val _, PV.val _, PV.sl _ _, PV.sl _ _, PV.sl _ _, PV.sl _ _, PV.sl _ _, PV.sl _ _, PV.sl _ _, PV.sl _ _, PV.sl _ _]))] ?_
         refine sw_reg ?_
         refine rA ?_ (x := kA)
         refine sw_ret ?_
         exact (And.intro (by refine bool_eq ?_; exact hcl.symm) True.intro)
theorem spec_IsCluster {p3 p4 p9 p10 p13 p14 : Fl} {c : Cluster}  (hb : wtRowSS c.Parts ≤ 68719476736) : SCall Try.prog 98 [(true, [PV.val (vI c.Query.Id), PV.val (vI c.Query.Tenant), PV.sl .v (c.Query.Conds.map cCond), PV.sl .v (c.Query.Out.map cInt), PV.sl .v (c.Parts.map (cRowS p3 p4)), PV.sl .v (c.Up.map cBool), PV.sl .v (c.At.map cInt), PV.sl .v (c.Pos.map cInt), PV.sl .v (c.Buffer.map (cRowS p9 p10)), PV.sl .v (c.Done.map cInt), PV.sl .v (c.Rows.map (cRowS p13 p14))])] (resRV [(false, [PV.val (.bool (isCl c))])]) := by
 refine scall_of (rs := [(false, [PV.val (.bool (isCl c))])]) Try.func98 rfl (Nat.le_of_ble_eq_true rfl) (borA_cons (BorL.cons (PV.bor_val _) (BorL.cons (PV.bor_val _) (BorL.cons (PV.bor_sl _) (BorL.cons (PV.bor_sl _) (BorL.cons (PV.bor_sl _) (BorL.cons (PV.bor_sl _) (BorL.cons (PV.bor_sl _) (BorL.cons (PV.bor_sl _) (BorL.cons (PV.bor_sl _) (BorL.cons (PV.bor_sl _) (BorL.cons (PV.bor_sl _) BorL.nil))))))))))) borA_nil) ?_
 intro h0 w0 Fz0
 refine sw_slen (s := 0) (j := 2) rfl rfl fun hl0_2 => ?_
 try rw [List.length_map] at hl0_2
 refine sw_slen (s := 0) (j := 3) rfl rfl fun hl0_3 => ?_
 try rw [List.length_map] at hl0_3
 refine sw_slen (s := 0) (j := 4) rfl rfl fun hl0_4 => ?_
 try rw [List.length_map] at hl0_4
 refine sw_slen (s := 0) (j := 5) rfl rfl fun hl0_5 => ?_
 try rw [List.length_map] at hl0_5
 refine sw_slen (s := 0) (j := 6) rfl rfl fun hl0_6 => ?_
 try rw [List.length_map] at hl0_6
 refine sw_slen (s := 0) (j := 7) rfl rfl fun hl0_7 => ?_
 try rw [List.length_map] at hl0_7
 refine sw_slen (s := 0) (j := 8) rfl rfl fun hl0_8 => ?_
 try rw [List.length_map] at hl0_8
 refine sw_slen (s := 0) (j := 9) rfl rfl fun hl0_9 => ?_
 try rw [List.length_map] at hl0_9
 refine sw_slen (s := 0) (j := 10) rfl rfl fun hl0_10 => ?_
 try rw [List.length_map] at hl0_10
 have hwp : ∀ s : Int, wtRowS (partAt c s) ≤ 68719476736 := fun s => part_wt hb
 refine sw_seq ?_
 refine sw_reg ?_
 refine RunS.step (by exact ⟨rfl, ⟨⟩⟩) (by exact ⟨⟩) (LocG.of rfl (loc_box (ag := true) (cs := [PV.val _, PV.val _, PV.sl _ _, PV.sl _ _, PV.sl _ _, PV.sl _ _, PV.sl _ _, PV.sl _ _, PV.sl _ _, PV.sl _ _, PV.sl _ _]) (by decide) (by exact ⟨⟩))) (free1 (Free.of_ rfl)) ?_
 refine rA ?_ (x := kA)
 refine sw_seq ?_
 refine sO [(1, _), (2, _)] [(1, (60, [PV.val _, PV.val _, PV.sl _ _, PV.sl _ _, PV.sl _ _, PV.sl _ _, PV.sl _ _, PV.sl _ _, PV.sl _ _, PV.sl _ _, PV.sl _ _]))] ?_
 refine sw_reg ?_
 refine rA ?_ (x := lF fd_60_2)
 refine rA ?_ (x := lD [PV.sl .v _] ty_58)
 refine rA ?_ (x := lN sl_58)
 refine rA ?_ (x := sA)
 refine sw_seq ?_
 refine sw_seq ?_
 refine sO [(1, _), (2, _), (3, _)] [(1, _)] ?_
 refine sw_reg ?_
 refine rA ?_ (x := lF fd_60_0)
 refine rA ?_ (x := lD [PV.val _, PV.val _, PV.sl .v _, PV.sl .v _] ty_56)
 refine rA ?_ (x := cL [(true, [PV.val _, PV.val _, PV.sl _ _, PV.sl _ _])] [(true, [PV.val _, PV.val _, PV.sl .v _, PV.sl .v _])] c_81 (hs := by exact spec_IsQuery))
 refine rA ?_ (x := nT)
 refine rA ?_ (x := sM)
 refine RunS.cases (s := 16) rfl (fun g1 => ?_) (fun g1 => ?_)
 ·have sg1 := g1
  try simp only [q1, q2, q3, q4, q5, q6, q7, q8, q9] at sg1
  refine RunS.s0t g1 ?_
  refine RunS.s0t g1 ?_
  refine RunS.s0t g1 ?_
  refine RunS.s0t g1 ?_
  refine rA ?_ (x := pkT g1)
  refine rA ?_ (x := sM)
  refine RunS.cases (s := 22) rfl (fun g2 => ?_) (fun g2 => nomatch g2)
  refine RunS.s0t g2 ?_
  refine RunS.s0t g2 ?_
  refine RunS.s0t g2 ?_
  refine rA ?_ (x := pkT g2)
  refine rA ?_ (x := sM)
  refine RunS.cases (s := 27) rfl (fun g3 => ?_) (fun g3 => nomatch g3)
  refine RunS.s0t g3 ?_
  refine RunS.s0t g3 ?_
  refine RunS.s0t g3 ?_
  refine RunS.s0t g3 ?_
  refine RunS.s0t g3 ?_
  refine rA ?_ (x := pkT g3)
  refine rA ?_ (x := sM)
  refine RunS.cases (s := 34) rfl (fun g4 => ?_) (fun g4 => nomatch g4)
  refine RunS.s0t g4 ?_
  refine RunS.s0t g4 ?_
  refine RunS.s0t g4 ?_
  refine RunS.s0t g4 ?_
  refine RunS.s0t g4 ?_
  refine rA ?_ (x := pkT g4)
  refine rA ?_ (x := sM)
  refine RunS.cases (s := 41) rfl (fun g5 => ?_) (fun g5 => nomatch g5)
  refine RunS.s0t g5 ?_
  refine RunS.s0t g5 ?_
  refine RunS.s0t g5 ?_
  refine RunS.s0t g5 ?_
  refine RunS.s0t g5 ?_
  refine rA ?_ (x := pkT g5)
  refine rA ?_ (x := sM)
  refine RunS.cases (s := 48) rfl (fun g6 => ?_) (fun g6 => nomatch g6)
  refine RunS.s0t g6 ?_
  refine RunS.s0t g6 ?_
  refine RunS.s0t g6 ?_
  refine RunS.s0t g6 ?_
  refine RunS.s0t g6 ?_
  refine RunS.s0t g6 ?_
  refine RunS.s0t g6 ?_
  refine rA ?_ (x := pkT g6)
  refine sw_cond (t := 56) rfl (fun hb_ => ?_) (fun hb_ => nomatch hb_)
  have hbad : isCl c = false := isCl_head (fun x => by unfold headB at x; simp_all)
  refine sw_seq ?_
  refine sO [(1, _), (2, _), (3, _)] [(1, _)] ?_
  refine sw_reg ?_
  refine rA ?_ (x := kA)
  refine sw_ret ?_
  exact (And.intro (by refine bool_eq ?_; exact hbad.symm) True.intro)
 ·have sg1 := g1
  try simp only [q1, q2, q3, q4, q5, q6, q7, q8, q9] at sg1
  refine rB g1 ?_ (x := lF fd_60_1)
  refine rB g1 ?_ (x := lD [PV.sl .v _] ty_57)
  refine rB g1 ?_ (x := cL [(false, [PV.sl _ _])] [(false, [PV.sl .v _])] c_82 (hs := by exact spec_l18Parts (by omega)))
  refine rB g1 ?_ (x := nT)
  refine rA ?_ (x := pkF g1)
  refine rA ?_ (x := sM)
  refine RunS.cases (s := 22) rfl (fun g8 => ?_) (fun g8 => ?_)
  ·have sg8 := g8
   try simp only [q1, q2, q3, q4, q5, q6, q7, q8, q9] at sg8
   refine RunS.s0t g8 ?_
   refine RunS.s0t g8 ?_
   refine RunS.s0t g8 ?_
   refine rA ?_ (x := pkT g8)
   refine rA ?_ (x := sM)
   refine RunS.cases (s := 27) rfl (fun g9 => ?_) (fun g9 => nomatch g9)
   refine RunS.s0t g9 ?_
   refine RunS.s0t g9 ?_
   refine RunS.s0t g9 ?_
   refine RunS.s0t g9 ?_
   refine RunS.s0t g9 ?_
   refine rA ?_ (x := pkT g9)
   refine rA ?_ (x := sM)
   refine RunS.cases (s := 34) rfl (fun g10 => ?_) (fun g10 => nomatch g10)
   refine RunS.s0t g10 ?_
   refine RunS.s0t g10 ?_
   refine RunS.s0t g10 ?_
   refine RunS.s0t g10 ?_
   refine RunS.s0t g10 ?_
   refine rA ?_ (x := pkT g10)
   refine rA ?_ (x := sM)
   refine RunS.cases (s := 41) rfl (fun g11 => ?_) (fun g11 => nomatch g11)
   refine RunS.s0t g11 ?_
   refine RunS.s0t g11 ?_
   refine RunS.s0t g11 ?_
   refine RunS.s0t g11 ?_
   refine RunS.s0t g11 ?_
   refine rA ?_ (x := pkT g11)
   refine rA ?_ (x := sM)
   refine RunS.cases (s := 48) rfl (fun g12 => ?_) (fun g12 => nomatch g12)
   refine RunS.s0t g12 ?_
   refine RunS.s0t g12 ?_
   refine RunS.s0t g12 ?_
   refine RunS.s0t g12 ?_
   refine RunS.s0t g12 ?_
   refine RunS.s0t g12 ?_
   refine RunS.s0t g12 ?_
   refine rA ?_ (x := pkT g12)
   refine sw_cond (t := 56) rfl (fun hb_ => ?_) (fun hb_ => nomatch hb_)
   have hbad : isCl c = false := isCl_head (fun x => by unfold headB at x; simp_all)
   refine sw_seq ?_
   refine sO [(1, _), (2, _), (3, _)] [(1, _)] ?_
   refine sw_reg ?_
   refine rA ?_ (x := kA)
   refine sw_ret ?_
   exact (And.intro (by refine bool_eq ?_; exact hbad.symm) True.intro)
  ·have sg8 := g8
   try simp only [q1, q2, q3, q4, q5, q6, q7, q8, q9] at sg8
   refine rB g8 ?_ (x := sM)
   refine rB g8 ?_ (x := cL [(false, [PV.val _]), (false, [PV.val _]), (false, [PV.val _])] [(false, [PV.val _]), (false, [PV.val _]), (false, [PV.val _])] c_72 (hs := by exact spec_l1In))
   refine rB g8 ?_ (x := nT)
   refine rA ?_ (x := pkF g8)
   refine rA ?_ (x := sM)
   refine RunS.cases (s := 27) rfl (fun g14 => ?_) (fun g14 => ?_)
   ·have sg14 := g14
    try simp only [q1, q2, q3, q4, q5, q6, q7, q8, q9] at sg14
    refine RunS.s0t g14 ?_
    refine RunS.s0t g14 ?_
    refine RunS.s0t g14 ?_
    refine RunS.s0t g14 ?_
    refine RunS.s0t g14 ?_
    refine rA ?_ (x := pkT g14)
    refine rA ?_ (x := sM)
    refine RunS.cases (s := 34) rfl (fun g15 => ?_) (fun g15 => nomatch g15)
    refine RunS.s0t g15 ?_
    refine RunS.s0t g15 ?_
    refine RunS.s0t g15 ?_
    refine RunS.s0t g15 ?_
    refine RunS.s0t g15 ?_
    refine rA ?_ (x := pkT g15)
    refine rA ?_ (x := sM)
    refine RunS.cases (s := 41) rfl (fun g16 => ?_) (fun g16 => nomatch g16)
    refine RunS.s0t g16 ?_
    refine RunS.s0t g16 ?_
    refine RunS.s0t g16 ?_
    refine RunS.s0t g16 ?_
    refine RunS.s0t g16 ?_
    refine rA ?_ (x := pkT g16)
    refine rA ?_ (x := sM)
    refine RunS.cases (s := 48) rfl (fun g17 => ?_) (fun g17 => nomatch g17)
    refine RunS.s0t g17 ?_
    refine RunS.s0t g17 ?_
    refine RunS.s0t g17 ?_
    refine RunS.s0t g17 ?_
    refine RunS.s0t g17 ?_
    refine RunS.s0t g17 ?_
    refine RunS.s0t g17 ?_
    refine rA ?_ (x := pkT g17)
    refine sw_cond (t := 56) rfl (fun hb_ => ?_) (fun hb_ => nomatch hb_)
    have hbad : isCl c = false := isCl_head (fun x => by unfold headB at x; simp_all)
    refine sw_seq ?_
    refine sO [(1, _), (2, _), (3, _)] [(1, _)] ?_
    refine sw_reg ?_
    refine rA ?_ (x := kA)
    refine sw_ret ?_
    exact (And.intro (by refine bool_eq ?_; exact hbad.symm) True.intro)
   ·have sg14 := g14
    try simp only [q1, q2, q3, q4, q5, q6, q7, q8, q9] at sg14
    refine rB g14 ?_ (x := lF fd_60_3)
    refine rB g14 ?_ (x := lD [PV.sl .v _] ty_38)
    refine rB g14 ?_ (x := lN sl_38)
    refine rB g14 ?_ (x := sM)
    refine rB g14 ?_ (x := B_neq)
    refine rA ?_ (x := pkF g14)
    refine rA ?_ (x := sM)
    refine RunS.cases (s := 34) rfl (fun g19 => ?_) (fun g19 => ?_)
    ·have sg19 := g19
     try simp only [q1, q2, q3, q4, q5, q6, q7, q8, q9] at sg19
     refine RunS.s0t g19 ?_
     refine RunS.s0t g19 ?_
     refine RunS.s0t g19 ?_
     refine RunS.s0t g19 ?_
     refine RunS.s0t g19 ?_
     refine rA ?_ (x := pkT g19)
     refine rA ?_ (x := sM)
     refine RunS.cases (s := 41) rfl (fun g20 => ?_) (fun g20 => nomatch g20)
     refine RunS.s0t g20 ?_
     refine RunS.s0t g20 ?_
     refine RunS.s0t g20 ?_
     refine RunS.s0t g20 ?_
     refine RunS.s0t g20 ?_
     refine rA ?_ (x := pkT g20)
     refine rA ?_ (x := sM)
     refine RunS.cases (s := 48) rfl (fun g21 => ?_) (fun g21 => nomatch g21)
     refine RunS.s0t g21 ?_
     refine RunS.s0t g21 ?_
     refine RunS.s0t g21 ?_
     refine RunS.s0t g21 ?_
     refine RunS.s0t g21 ?_
     refine RunS.s0t g21 ?_
     refine RunS.s0t g21 ?_
     refine rA ?_ (x := pkT g21)
     refine sw_cond (t := 56) rfl (fun hb_ => ?_) (fun hb_ => nomatch hb_)
     have hbad : isCl c = false := isCl_head (fun x => by unfold headB at x; simp_all)
     refine sw_seq ?_
     refine sO [(1, _), (2, _), (3, _)] [(1, _)] ?_
     refine sw_reg ?_
     refine rA ?_ (x := kA)
     refine sw_ret ?_
     exact (And.intro (by refine bool_eq ?_; exact hbad.symm) True.intro)
    ·have sg19 := g19
     try simp only [q1, q2, q3, q4, q5, q6, q7, q8, q9] at sg19
     refine rB g19 ?_ (x := lF fd_60_4)
     refine rB g19 ?_ (x := lD [PV.sl .v _] ty_38)
     refine rB g19 ?_ (x := lN sl_38)
     refine rB g19 ?_ (x := sM)
     refine rB g19 ?_ (x := B_neq)
     refine rA ?_ (x := pkF g19)
     refine rA ?_ (x := sM)
     refine RunS.cases (s := 41) rfl (fun g23 => ?_) (fun g23 => ?_)
     ·have sg23 := g23
      try simp only [q1, q2, q3, q4, q5, q6, q7, q8, q9] at sg23
      refine RunS.s0t g23 ?_
      refine RunS.s0t g23 ?_
      refine RunS.s0t g23 ?_
      refine RunS.s0t g23 ?_
      refine RunS.s0t g23 ?_
      refine rA ?_ (x := pkT g23)
      refine rA ?_ (x := sM)
      refine RunS.cases (s := 48) rfl (fun g24 => ?_) (fun g24 => nomatch g24)
      refine RunS.s0t g24 ?_
      refine RunS.s0t g24 ?_
      refine RunS.s0t g24 ?_
      refine RunS.s0t g24 ?_
      refine RunS.s0t g24 ?_
      refine RunS.s0t g24 ?_
      refine RunS.s0t g24 ?_
      refine rA ?_ (x := pkT g24)
      refine sw_cond (t := 56) rfl (fun hb_ => ?_) (fun hb_ => nomatch hb_)
      have hbad : isCl c = false := isCl_head (fun x => by unfold headB at x; simp_all)
      refine sw_seq ?_
      refine sO [(1, _), (2, _), (3, _)] [(1, _)] ?_
      refine sw_reg ?_
      refine rA ?_ (x := kA)
      refine sw_ret ?_
      exact (And.intro (by refine bool_eq ?_; exact hbad.symm) True.intro)
     ·have sg23 := g23
      try simp only [q1, q2, q3, q4, q5, q6, q7, q8, q9] at sg23
      refine rB g23 ?_ (x := lF fd_60_5)
      refine rB g23 ?_ (x := lD [PV.sl .v _] ty_57)
      refine rB g23 ?_ (x := lN sl_57)
      refine rB g23 ?_ (x := sM)
      refine rB g23 ?_ (x := B_neq)
      refine rA ?_ (x := pkF g23)
      refine rA ?_ (x := sM)
      refine RunS.cases (s := 48) rfl (fun g26 => ?_) (fun g26 => ?_)
      ·have sg26 := g26
       try simp only [q1, q2, q3, q4, q5, q6, q7, q8, q9] at sg26
       refine RunS.s0t g26 ?_
       refine RunS.s0t g26 ?_
       refine RunS.s0t g26 ?_
       refine RunS.s0t g26 ?_
       refine RunS.s0t g26 ?_
       refine RunS.s0t g26 ?_
       refine RunS.s0t g26 ?_
       refine rA ?_ (x := pkT g26)
       refine sw_cond (t := 56) rfl (fun hb_ => ?_) (fun hb_ => nomatch hb_)
       have hbad : isCl c = false := isCl_head (fun x => by unfold headB at x; simp_all)
       refine sw_seq ?_
       refine sO [(1, _), (2, _), (3, _)] [(1, _)] ?_
       refine sw_reg ?_
       refine rA ?_ (x := kA)
       refine sw_ret ?_
       exact (And.intro (by refine bool_eq ?_; exact hbad.symm) True.intro)
      ·have sg26 := g26
       try simp only [q1, q2, q3, q4, q5, q6, q7, q8, q9] at sg26
       refine rB g26 ?_ (x := lF fd_60_7)
       refine rB g26 ?_ (x := lD [PV.sl .v _] ty_57)
       refine rB g26 ?_ (x := lN sl_57)
       refine rB g26 ?_ (x := lF fd_60_1)
       refine rB g26 ?_ (x := lD [PV.sl .v _] ty_57)
       refine rB g26 ?_ (x := lN sl_57)
       refine rB g26 ?_ (x := B_neq)
       refine rA ?_ (x := pkF g26)
       refine sw_cond (t := 56) rfl (fun hb28 => ?_) (fun hb28 => ?_)
       ·try simp only [q1, q2, q3, q4, q5, q6, q7, q8, q9] at hb28
        have hbad : isCl c = false := isCl_head (fun x => by unfold headB at x; simp_all)
        refine sw_seq ?_
        refine sO [(1, _), (2, _), (3, _)] [(1, _)] ?_
        refine sw_reg ?_
        refine rA ?_ (x := kA)
        refine sw_ret ?_
        exact (And.intro (by refine bool_eq ?_; exact hbad.symm) True.intro)
       ·try simp only [q1, q2, q3, q4, q5, q6, q7, q8, q9] at hb28
        have hh : headB c := by unfold headB; first | (simp_all; done) | (simp_all; omega)
        have hh2 := hh
        unfold headB at hh2
        obtain ⟨_, hh3, hh4, hh5, hh6⟩ := hh2
        refine sw_skip ?_
        refine sw_seq ?_
        refine sw_seq ?_
        refine sO [(1, _), (2, _), (3, _)] [(1, _)] ?_
        refine sw_reg ?_
        refine rA ?_ (x := kA)
        refine sw_block ?_
        refine sO [(1, _), (2, _), (3, _), (4, _)] [(1, _)] ?_
        refine sw_loop (l0 := [(1, RV.ptr 1 0), (3, RV.sv false [PV.val _])]) (b0 := [(1, (60, [PV.val _, PV.val _, PV.sl _ _, PV.sl _ _, PV.sl _ _, PV.sl _ _, PV.sl _ _, PV.sl _ _, PV.sl _ _, PV.sl _ _, PV.sl _ _]))]) (fun k : Nat => k ≤ c.Done.length ∧ adjTo 0 (doneP c) ltI c.Done k = true) (fun k : Nat => [(4, RV.int (k : Int))]) (fun k : Nat => []) (fun k : Nat => c.Done.length - k) 0 (by exact ⟨by omega, rfl⟩) (by exact ⟨rfl, rfl, ⟨⟩⟩) (by exact ⟨rfl, ⟨⟩⟩) (by exact And.intro (by exact rfl) (True.intro)) (by exact ⟨⟩) ?_
        rintro k ⟨hk, ha⟩
        refine sw_seq ?_
        refine sw_seq ?_
        refine sw_reg ?_
        refine rA ?_ (x := sM)
        refine rA ?_ (x := lF fd_60_6)
        refine rA ?_ (x := lD [PV.sl .v _] ty_38)
        refine rA ?_ (x := lN sl_38)
        refine rA ?_ (x := B_lss)
        refine sw_cond (t := 61) rfl (fun hb29 => ?_) (fun hb29 => ?_)
        ·try simp only [q1, q2, q3, q4, q5, q6, q7, q8, q9] at hb29
         have hlt : k < c.Done.length := by omega
         have hgk : c.Done.getD k 0 = c.Done[k] := getD_at hlt
         have hgp : 0 < k → c.Done.getD (k - 1) 0 = c.Done[k - 1] := fun h => getD_at (by omega)
         refine sw_skip ?_
         refine sw_seq ?_
         refine sw_block ?_
         refine sw_seq ?_
         refine sO [(1, _), (3, _), (4, _)] [(1, (60, [PV.val _, PV.val _, PV.sl _ _, PV.sl _ _, PV.sl _ _, PV.sl _ _, PV.sl _ _, PV.sl _ _, PV.sl _ _, PV.sl _ _, PV.sl _ _]))] ?_
         refine sw_draw hm_ ?_
         refine dA 0 ?_ (x := lF fd_60_6)
         refine dA 1 ?_ (x := lD [PV.sl .v _] ty_38)
         refine dA 0 ?_ (x := sM)
         refine dA 7 ?_ (x := loc_index (by decide) sl_38 (by exact ⟨⟩) (by exact rfl) (by exact getm2 (by omega) rfl) (by exact rfl))
         refine dA 15 ?_ (x := lE [PV.val _] ty_3)
         refine dA 0 ?_ (x := lF fd_60_1)
         refine dA 32 ?_ (x := lD [PV.sl .v _] ty_57)
         refine dA 96 ?_ (x := lN sl_57)
         refine dA 224 ?_ (x := B_sub)
         refine dA 511 ?_ (x := cL [(false, [PV.val _]), (false, [PV.val _]), (false, [PV.val _])] [(false, [PV.val _]), (false, [PV.val _]), (false, [PV.val _])] c_72 (hs := by exact spec_l1In))
         refine dA 1023 ?_ (x := nT)
         refine dA 2047 ?_ (x := sM)
         refine Run.cases (s := 75) rfl (fun g30 => ?_) (fun g30 => ?_)
         ·have sg30 := g30
          try simp only [q1, q2, q3, q4, q5, q6, q7, q8, q9] at sg30
          refine dT 4095 g30 ?_
          refine dT 8191 g30 ?_
          refine dT 16383 g30 ?_
          refine dU 32767 ?_
          refine dU 65535 ?_
          refine dU 32767 ?_
          refine dU 262143 ?_
          refine dU 524287 ?_
          refine dU 32767 ?_
          refine dU 1081343 ?_
          refine dU 32767 ?_
          refine dU 4227071 ?_
          refine dU 15761407 ?_
          refine dU 32538623 ?_
          refine dU 67108863 ?_
          refine dT 134217727 g30 ?_
          refine dA 268435455 ?_ (x := pkT g30)
          refine sw_cond (t := 92) rfl (fun hb_ => ?_) (fun hb_ => nomatch hb_)
          have hbad : adjAll 0 (doneP c) ltI c.Done = false := adj_no hlt (Bool.eq_false_iff.2 fun hx => by
           have hx := adjStep.1 hx
           rw [hgk] at hx
           obtain ⟨hx1, hx2⟩ := hx
           first
           | (simp_all [doneP]; done)
           | (simp only [decide_eq_true_eq, ltI, doneP] at *; by_cases h0 : k = 0 <;> (try rw [hgp (by omega)] at hx2) <;> omega))
          refine sw_seq ?_
          refine sO [(1, _), (3, _), (4, _)] [(1, _)] ?_
          refine sw_reg ?_
          refine rA ?_ (x := kA)
          refine sw_ret ?_
          exact (And.intro (by refine bool_eq ?_; exact (isCl_done hbad).symm) True.intro)
         ·have sg30 := g30
          try simp only [q1, q2, q3, q4, q5, q6, q7, q8, q9] at sg30
          refine dB 4095 g30 ?_ (x := sM)
          refine dB 8191 g30 ?_ (x := B_gtr)
          refine dB 16383 g30 ?_ (x := sM)
          refine Run.cases (s := 78) rfl (fun g32 => ?_) (fun g32 => ?_)
          ·have sg32 := g32
           try simp only [q1, q2, q3, q4, q5, q6, q7, q8, q9] at sg32
           refine dB 32767 g32 ?_ (x := lF fd_60_6)
           refine dB 65535 g32 ?_ (x := lD [PV.sl .v _] ty_38)
           refine dB 32767 g32 ?_ (x := sM)
           refine dB 262143 g32 ?_ (x := loc_index (by decide) sl_38 (by exact ⟨⟩) (by exact rfl) (by exact getm2 (by omega) rfl) (by exact rfl))
           refine dB 524287 g32 ?_ (x := lE [PV.val _] ty_3)
           refine dB 32767 g32 ?_ (x := lF fd_60_6)
           refine dB 1081343 g32 ?_ (x := lD [PV.sl .v _] ty_38)
           refine dB 32767 g32 ?_ (x := sM)
           refine dB 4227071 g32 ?_ (x := B_sub)
           refine dB 15761407 g32 ?_ (x := loc_index (k := k - 1) (by decide) sl_38 (by exact ⟨⟩) (by omega) (by exact getm2 (by omega) rfl) (by exact rfl))
           refine dB 32538623 g32 ?_ (x := lE [PV.val _] ty_3)
           refine dB 67108863 g32 ?_ (x := B_leq)
           refine dB 134217727 g30 ?_ (x := pkT g32)
           refine dA 268435455 ?_ (x := pkF g30)
           refine sw_cond (t := 92) rfl (fun hb33 => ?_) (fun hb33 => ?_)
           ·try simp only [q1, q2, q3, q4, q5, q6, q7, q8, q9] at hb33
            have hbad : adjAll 0 (doneP c) ltI c.Done = false := adj_no hlt (Bool.eq_false_iff.2 fun hx => by
             have hx := adjStep.1 hx
             rw [hgk] at hx
             obtain ⟨hx1, hx2⟩ := hx
             first
             | (simp_all [doneP]; done)
             | (simp only [decide_eq_true_eq, ltI, doneP] at *; by_cases h0 : k = 0 <;> (try rw [hgp (by omega)] at hx2) <;> omega))
            refine sw_seq ?_
            refine sO [(1, _), (3, _), (4, _)] [(1, _)] ?_
            refine sw_reg ?_
            refine rA ?_ (x := kA)
            refine sw_ret ?_
            exact (And.intro (by refine bool_eq ?_; exact (isCl_done hbad).symm) True.intro)
           ·try simp only [q1, q2, q3, q4, q5, q6, q7, q8, q9] at hb33
            refine sw_skip ?_
            refine sO [(1, _), (3, _), (4, _)] [(1, _)] ?_
            refine sw_reg ?_
            refine rA ?_ (x := sM)
            refine rA ?_ (x := B_add)
            refine rA ?_ (x := sA)
            refine Exists.intro (k + 1) (And.intro (by exact ⟨by omega, by rw [adjTo_succ, ha, Bool.true_and]; refine adjStep.2 ⟨by rw [hgk]; first | assumption | simp_all, ?_⟩; rcases Nat.eq_zero_or_pos k with h0 | h0; (· exact .inl h0); (· right; rw [hgk, hgp h0]; first | (simp only [decide_eq_true_eq, ltI, doneP] at *; omega) | (simp_all; done))⟩) (And.intro (by omega) (And.intro (And.intro (by exact ⟨rfl, rfl, ⟨⟩⟩) (by exact ⟨rfl, ⟨⟩⟩)) (And.intro (by exact And.intro (by exact rfl) (True.intro)) (by exact ⟨⟩)))))
          ·have sg32 := g32
           try simp only [q1, q2, q3, q4, q5, q6, q7, q8, q9] at sg32
           refine dF 32767 g32 ?_
           refine dF 65535 g32 ?_
           refine dF 32767 g32 ?_
           refine dF 262143 g32 ?_
           refine dF 524287 g32 ?_
           refine dF 32767 g32 ?_
           refine dF 1081343 g32 ?_
           refine dF 32767 g32 ?_
           refine dF 4227071 g32 ?_
           refine dF 15761407 g32 ?_
           refine dF 32538623 g32 ?_
           refine dF 67108863 g32 ?_
           refine dB 134217727 g30 ?_ (x := pkF g32)
           refine dA 268435455 ?_ (x := pkF g30)
           refine sw_cond (t := 92) rfl (fun hb_ => nomatch hb_) (fun hb_ => ?_)
           refine sw_skip ?_
           refine sO [(1, _), (3, _), (4, _)] [(1, _)] ?_
           refine sw_reg ?_
           refine rA ?_ (x := sM)
           refine rA ?_ (x := B_add)
           refine rA ?_ (x := sA)
           refine Exists.intro (k + 1) (And.intro (by exact ⟨by omega, by rw [adjTo_succ, ha, Bool.true_and]; refine adjStep.2 ⟨by rw [hgk]; first | assumption | simp_all, ?_⟩; rcases Nat.eq_zero_or_pos k with h0 | h0; (· exact .inl h0); (· right; rw [hgk, hgp h0]; first | (simp only [decide_eq_true_eq, ltI, doneP] at *; omega) | (simp_all; done))⟩) (And.intro (by omega) (And.intro (And.intro (by exact ⟨rfl, rfl, ⟨⟩⟩) (by exact ⟨rfl, ⟨⟩⟩)) (And.intro (by exact And.intro (by exact rfl) (True.intro)) (by exact ⟨⟩)))))
        ·try simp only [q1, q2, q3, q4, q5, q6, q7, q8, q9] at hb29
         have hend : k = c.Done.length := by omega
         have hdone : adjAll 0 (doneP c) ltI c.Done = true := adj_end ha hend
         refine sw_exit ?_
         refine sw_seq ?_
         refine sw_seq ?_
         refine sO [(1, _), (3, _), (4, _)] [(1, (60, [PV.val _, PV.val _, PV.sl _ _, PV.sl _ _, PV.sl _ _, PV.sl _ _, PV.sl _ _, PV.sl _ _, PV.sl _ _, PV.sl _ _, PV.sl _ _]))] ?_
         refine sw_reg ?_
         refine rA ?_ (x := kA)
         refine sw_block ?_
         refine sO [(1, _), (3, _), (4, _), (5, _)] [(1, _)] ?_
         refine sw_loop (l0 := [(1, RV.ptr 1 0), (3, RV.sv false [PV.val _]), (4, RV.sv false [PV.val _])]) (b0 := [(1, (60, [PV.val _, PV.val _, PV.sl _ _, PV.sl _ _, PV.sl _ _, PV.sl _ _, PV.sl _ _, PV.sl _ _, PV.sl _ _, PV.sl _ _, PV.sl _ _]))]) (fun k : Nat => k ≤ c.Parts.length ∧ (∀ i : Nat, i < k → rowOk c (i : Int) = true)) (fun k : Nat => [(5, RV.int (k : Int))]) (fun k : Nat => []) (fun k : Nat => c.Parts.length - k) 0 (by exact ⟨by omega, fun i hi => absurd hi (Nat.not_lt_zero _)⟩) (by exact ⟨rfl, rfl, rfl, ⟨⟩⟩) (by exact ⟨rfl, ⟨⟩⟩) (by exact And.intro (by exact rfl) (True.intro)) (by exact ⟨⟩) ?_
         rintro k ⟨hk, ha⟩
         refine sw_seq ?_
         refine sw_seq ?_
         refine sw_reg ?_
         refine rA ?_ (x := sM)
         refine rA ?_ (x := lF fd_60_1)
         refine rA ?_ (x := lD [PV.sl .v _] ty_57)
         refine rA ?_ (x := lN sl_57)
         refine rA ?_ (x := B_lss)
         refine sw_cond (t := 97) rfl (fun hb35 => ?_) (fun hb35 => ?_)
         ·try simp only [q1, q2, q3, q4, q5, q6, q7, q8, q9] at hb35
          have hlt : k < c.Rows.length := by omega
          have hlt2 : k < c.Parts.length := by omega
          refine sw_skip ?_
          refine sw_seq ?_
          refine sw_block ?_
          refine sw_seq ?_
          refine sO [(1, _), (3, _), (4, _), (5, _)] [(1, (60, [PV.val _, PV.val _, PV.sl _ _, PV.sl _ _, PV.sl _ _, PV.sl _ _, PV.sl _ _, PV.sl _ _, PV.sl _ _, PV.sl _ _, PV.sl _ _]))] ?_
          refine sw_reg ?_
          refine rA ?_ (x := loc_bslice (qs := []) (by decide) sl_32 z_87 (by decide) rfl rfl rfl rfl rfl (by exact Nat.le_of_ble_eq_true rfl) (by exact ⟨⟩) rfl)
          refine rA ?_ (x := tA)
          refine sw_seq ?_
          refine sw_seq ?_
          refine sO [(1, _), (3, _), (4, _), (5, _), (6, _)] [(1, _)] ?_
          refine sw_reg ?_
          refine rA ?_ (x := lF fd_60_6)
          refine rA ?_ (x := lD [PV.sl .v _] ty_38)
          refine rA ?_ (x := sM)
          refine rA ?_ (x := cL [(false, [PV.sl _ _]), (false, [PV.val _])] [(false, [PV.sl .v _]), (false, [PV.val _])] c_73 (hs := by exact spec_HasMember))
          refine sw_cond (t := 104) rfl (fun hb36 => ?_) (fun hb36 => ?_)
          ·try simp only [q1, q2, q3, q4, q5, q6, q7, q8, q9] at hb36
           have hdn := hb36
           refine sO [(1, _), (3, _), (4, _), (5, _), (6, _)] [(1, _)] ?_
           refine sw_draw hm_ ?_
           refine dA 0 ?_ (x := lD [PV.val _, PV.val _, PV.sl .v _, PV.sl .v _, PV.sl .v _, PV.sl .v _, PV.sl .v _, PV.sl .v _, PV.sl .v _, PV.sl .v _, PV.sl .v _] ty_60)
           refine dA 0 ?_ (x := sM)
           refine dA 0 ?_ (x := lF fd_60_1)
           refine dA 4 ?_ (x := lD [PV.sl .v _] ty_57)
           refine dA 0 ?_ (x := sM)
           refine dA 28 ?_ (x := loc_index (by decide) sl_57 (by exact ⟨⟩) (by exact rfl) (by exact getm2 (by omega) (by rw [partN (by omega)])) (by exact rfl))
           refine dA 60 ?_ (x := lE [PV.sl .v _] ty_32)
           refine dA 124 ?_ (x := lN sl_32)
           refine dA 255 ?_ (x := cL [(true, [PV.val _, PV.val _, PV.sl _ _, PV.sl _ _, PV.sl _ _, PV.sl _ _, PV.sl _ _, PV.sl _ _, PV.sl _ _, PV.sl _ _, PV.sl _ _]), (false, [PV.val _]), (false, [PV.val _])] [(true, [PV.val _, PV.val _, PV.sl .v _, PV.sl .v _, PV.sl .v _, PV.sl .v _, PV.sl .v _, PV.sl .v _, PV.sl .v _, PV.sl .v _, PV.sl .v _]), (false, [PV.val _]), (false, [PV.val _])] c_121 (hs := by exact spec_l18Found (by omega) (by first | omega | assumption)))
           refine dA 511 ?_ (x := tA)
           refine sw_seq ?_
           refine sO [(1, _), (3, _), (4, _), (5, _), (6, _)] [(1, _)] ?_
           refine sw_reg ?_
           refine rA ?_ (x := lF fd_60_7)
           refine rA ?_ (x := lD [PV.sl .v _] ty_57)
           refine rA ?_ (x := sM)
           refine rA ?_ (x := loc_index (by decide) sl_57 (by exact ⟨⟩) (by exact rfl) (by exact getm2 (by omega) (by rw [rowsN (by omega)])) (by exact rfl))
           refine rA ?_ (x := lE [PV.sl .v _] ty_32)
           refine rA ?_ (x := vM false [PV.sl .v _])
           refine rA ?_ (x := cL [(false, [PV.sl _ _]), (false, [PV.sl _ _])] [(false, [PV.sl .v _]), (false, [PV.sl .v _])] c_122 (hs := by exact (by first | exact spec_EqualRows | exact @spec_EqualRows _ .v _ [])))
           refine rA ?_ (x := nT)
           refine sw_cond (t := 121) rfl (fun hb37 => ?_) (fun hb37 => ?_)
           ·try simp only [q1, q2, q3, q4, q5, q6, q7, q8, q9] at hb37
            have hro : rowOk c (k : Int) = false := by simp_all [rowOk]
            have hbad : isCl c = false := isCl_row hlt2 hro
            refine sw_seq ?_
            refine sO [(1, _), (3, _), (4, _), (5, _), (6, _)] [(1, _)] ?_
            refine sw_reg ?_
            refine rA ?_ (x := kA)
            refine sw_ret ?_
            exact (And.intro (by refine bool_eq ?_; exact hbad.symm) True.intro)
           ·try simp only [q1, q2, q3, q4, q5, q6, q7, q8, q9] at hb37
            have hro : rowOk c (k : Int) = true := by simp_all [rowOk]
            refine sw_skip ?_
            refine sO [(1, _), (3, _), (4, _), (5, _), (6, _)] [(1, _)] ?_
            refine sw_reg ?_
            refine rA ?_ (x := sM)
            refine rA ?_ (x := B_add)
            refine rA ?_ (x := sA)
            refine Exists.intro (k + 1) (And.intro (by exact ⟨by omega, fun i hi => by by_cases e : i = k; (· subst e; exact hro); (· exact ha i (by omega))⟩) (And.intro (by omega) (And.intro (And.intro (by exact ⟨rfl, rfl, rfl, ⟨⟩⟩) (by exact ⟨rfl, ⟨⟩⟩)) (And.intro (by exact And.intro (by exact rfl) (True.intro)) (by exact ⟨⟩)))))
          ·try simp only [q1, q2, q3, q4, q5, q6, q7, q8, q9] at hb36
           have hdn := hb36
           refine sw_skip ?_
           refine sw_seq ?_
           refine sO [(1, _), (3, _), (4, _), (5, _), (6, _)] [(1, _)] ?_
           refine sw_reg ?_
           refine rA ?_ (x := lF fd_60_7)
           refine rA ?_ (x := lD [PV.sl .v _] ty_57)
           refine rA ?_ (x := sM)
           refine rA ?_ (x := loc_index (by decide) sl_57 (by exact ⟨⟩) (by exact rfl) (by exact getm2 (by omega) (by rw [rowsN (by omega)])) (by exact rfl))
           refine rA ?_ (x := lE [PV.sl .v _] ty_32)
           refine rA ?_ (x := vM false [PV.sl .v _])
           refine rA ?_ (x := cL [(false, [PV.sl _ _]), (false, [PV.sl _ _])] [(false, [PV.sl .v _]), (false, [PV.sl .v _])] c_122 (hs := by exact (by first | exact spec_EqualRows | exact @spec_EqualRows _ .v _ [])))
           refine rA ?_ (x := nT)
           refine sw_cond (t := 121) rfl (fun hb38 => ?_) (fun hb38 => ?_)
           ·try simp only [q1, q2, q3, q4, q5, q6, q7, q8, q9] at hb38
            have hro : rowOk c (k : Int) = false := by simp_all [rowOk]
            have hbad : isCl c = false := isCl_row hlt2 hro
            refine sw_seq ?_
            refine sO [(1, _), (3, _), (4, _), (5, _), (6, _)] [(1, _)] ?_
            refine sw_reg ?_
            refine rA ?_ (x := kA)
            refine sw_ret ?_
            exact (And.intro (by refine bool_eq ?_; exact hbad.symm) True.intro)
           ·try simp only [q1, q2, q3, q4, q5, q6, q7, q8, q9] at hb38
            have hro : rowOk c (k : Int) = true := by simp_all [rowOk]
            refine sw_skip ?_
            refine sO [(1, _), (3, _), (4, _), (5, _), (6, _)] [(1, _)] ?_
            refine sw_reg ?_
            refine rA ?_ (x := sM)
            refine rA ?_ (x := B_add)
            refine rA ?_ (x := sA)
            refine Exists.intro (k + 1) (And.intro (by exact ⟨by omega, fun i hi => by by_cases e : i = k; (· subst e; exact hro); (· exact ha i (by omega))⟩) (And.intro (by omega) (And.intro (And.intro (by exact ⟨rfl, rfl, rfl, ⟨⟩⟩) (by exact ⟨rfl, ⟨⟩⟩)) (And.intro (by exact And.intro (by exact rfl) (True.intro)) (by exact ⟨⟩)))))
         ·try simp only [q1, q2, q3, q4, q5, q6, q7, q8, q9] at hb35
          have hrows : ∀ i : Nat, i < c.Parts.length → rowOk c (i : Int) = true := fun i hi => ha i (by omega)
          refine sw_exit ?_
          refine sw_seq ?_
          refine sw_seq ?_
          refine sO [(1, _), (3, _), (4, _), (5, _)] [(1, (60, [PV.val _, PV.val _, PV.sl _ _, PV.sl _ _, PV.sl _ _, PV.sl _ _, PV.sl _ _, PV.sl _ _, PV.sl _ _, PV.sl _ _, PV.sl _ _]))] ?_
          refine sw_reg ?_
          refine rA ?_ (x := kA)
          refine sw_block ?_
          refine sO [(1, _), (3, _), (4, _), (5, _), (7, _)] [(1, _)] ?_
          refine sw_loop (l0 := [(1, RV.ptr 1 0), (3, RV.sv false [PV.val _]), (4, RV.sv false [PV.val _]), (5, RV.sv false [PV.val _])]) (b0 := [(1, (60, [PV.val _, PV.val _, PV.sl _ _, PV.sl _ _, PV.sl _ _, PV.sl _ _, PV.sl _ _, PV.sl _ _, PV.sl _ _, PV.sl _ _, PV.sl _ _]))]) (fun k : Nat => k ≤ c.Up.length ∧ (∀ i : Nat, i < k → nodeI c (i : Int) = true)) (fun k : Nat => [(7, RV.int (k : Int))]) (fun k : Nat => []) (fun k : Nat => c.Up.length - k) 0 (by exact ⟨by omega, fun i hi => absurd hi (Nat.not_lt_zero _)⟩) (by exact ⟨rfl, rfl, rfl, rfl, ⟨⟩⟩) (by exact ⟨rfl, ⟨⟩⟩) (by exact And.intro (by exact rfl) (True.intro)) (by exact ⟨⟩) ?_
          rintro k ⟨hk, ha⟩
          refine sw_seq ?_
          refine sw_seq ?_
          refine sw_reg ?_
          refine rA ?_ (x := sM)
          refine rA ?_ (x := sM)
          refine rA ?_ (x := B_lss)
          refine sw_cond (t := 124) rfl (fun hb39 => ?_) (fun hb39 => ?_)
          ·try simp only [q1, q2, q3, q4, q5, q6, q7, q8, q9] at hb39
           have hlt : k < c.Up.length := by omega
           refine sw_skip ?_
           refine sw_seq ?_
           refine sw_block ?_
           refine sw_seq ?_
           refine sw_seq ?_
           refine sO [(1, _), (3, _), (4, _), (5, _), (7, _)] [(1, (60, [PV.val _, PV.val _, PV.sl _ _, PV.sl _ _, PV.sl _ _, PV.sl _ _, PV.sl _ _, PV.sl _ _, PV.sl _ _, PV.sl _ _, PV.sl _ _]))] ?_
           refine sw_reg ?_
           refine rA ?_ (x := lD [PV.val _, PV.val _, PV.sl .v _, PV.sl .v _, PV.sl .v _, PV.sl .v _, PV.sl .v _, PV.sl .v _, PV.sl .v _, PV.sl .v _, PV.sl .v _] ty_60)
           refine rA ?_ (x := sM)
           refine rA ?_ (x := cL [(true, [PV.val _, PV.val _, PV.sl _ _, PV.sl _ _, PV.sl _ _, PV.sl _ _, PV.sl _ _, PV.sl _ _, PV.sl _ _, PV.sl _ _, PV.sl _ _]), (false, [PV.val _])] [(true, [PV.val _, PV.val _, PV.sl .v _, PV.sl .v _, PV.sl .v _, PV.sl .v _, PV.sl .v _, PV.sl .v _, PV.sl .v _, PV.sl .v _, PV.sl .v _]), (false, [PV.val _])] c_123 (hs := by exact spec_l18Node (by omega) (by omega) (by omega)))
           refine rA ?_ (x := nT)
           refine sw_cond (t := 130) rfl (fun hb40 => ?_) (fun hb40 => ?_)
           ·try simp only [q1, q2, q3, q4, q5, q6, q7, q8, q9] at hb40
            have hbad : isCl c = false := isCl_node hlt (by unfold nodeI; simp_all)
            refine sw_seq ?_
            refine sO [(1, _), (3, _), (4, _), (5, _), (7, _)] [(1, _)] ?_
            refine sw_reg ?_
            refine rA ?_ (x := kA)
            refine sw_ret ?_
            exact (And.intro (by refine bool_eq ?_; exact hbad.symm) True.intro)
           ·try simp only [q1, q2, q3, q4, q5, q6, q7, q8, q9] at hb40
            have hnb := hb40
            refine sw_skip ?_
            refine sw_seq ?_
            refine sO [(1, _), (3, _), (4, _), (5, _), (7, _)] [(1, _)] ?_
            refine sw_reg ?_
            refine rA ?_ (x := kA)
            refine sw_block ?_
            refine sO [(1, _), (3, _), (4, _), (5, _), (7, _), (8, _)] [(1, _)] ?_
            refine sw_loop (l0 := [(1, RV.ptr 1 0), (3, RV.sv false [PV.val _]), (4, RV.sv false [PV.val _]), (5, RV.sv false [PV.val _]), (7, RV.sv false [PV.val _])]) (b0 := [(1, (60, [PV.val _, PV.val _, PV.sl _ _, PV.sl _ _, PV.sl _ _, PV.sl _ _, PV.sl _ _, PV.sl _ _, PV.sl _ _, PV.sl _ _, PV.sl _ _]))]) (fun j : Nat => j ≤ k ∧ (∀ i : Nat, i < j → ¬ (atI c.At (k : Int) ≠ -1 ∧ atI c.At (k : Int) = atI c.At (i : Int)))) (fun j : Nat => [(8, RV.int (j : Int))]) (fun j : Nat => []) (fun j : Nat => k - j) 0 (by exact ⟨by omega, fun i hi => absurd hi (Nat.not_lt_zero _)⟩) (by exact ⟨rfl, rfl, rfl, rfl, rfl, ⟨⟩⟩) (by exact ⟨rfl, ⟨⟩⟩) (by exact And.intro (by exact rfl) (True.intro)) (by exact ⟨⟩) ?_
            rintro j ⟨hj, haj⟩
            refine sw_seq ?_
            refine sw_seq ?_
            refine sw_reg ?_
            refine rA ?_ (x := sM)
            refine rA ?_ (x := sM)
            refine rA ?_ (x := B_lss)
            refine sw_cond (t := 133) rfl (fun hb41 => ?_) (fun hb41 => ?_)
            ·try simp only [q1, q2, q3, q4, q5, q6, q7, q8, q9] at hb41
             have hltj : j < k := by omega
             refine sw_skip ?_
             refine sw_seq ?_
             refine sw_block ?_
             refine sw_seq ?_
             refine sO [(1, _), (3, _), (4, _), (5, _), (7, _), (8, _)] [(1, (60, [PV.val _, PV.val _, PV.sl _ _, PV.sl _ _, PV.sl _ _, PV.sl _ _, PV.sl _ _, PV.sl _ _, PV.sl _ _, PV.sl _ _, PV.sl _ _]))] ?_
             refine sw_draw hm_ ?_
             refine dA 0 ?_ (x := lF fd_60_3)
             refine dA 1 ?_ (x := lD [PV.sl .v _] ty_38)
             refine dA 0 ?_ (x := sM)
             refine dA 7 ?_ (x := loc_index (by decide) sl_38 (by exact ⟨⟩) (by exact rfl) (by exact getm2 (by omega) (by rw [atN (by omega)])) (by exact rfl))
             refine dA 15 ?_ (x := lE [PV.val _] ty_3)
             refine dA 31 ?_ (x := B_neq)
             refine dA 63 ?_ (x := sM)
             refine Run.cases (s := 142) rfl (fun g42 => ?_) (fun g42 => ?_)
             ·have sg42 := g42
              try simp only [q1, q2, q3, q4, q5, q6, q7, q8, q9] at sg42
              refine dB 127 g42 ?_ (x := lF fd_60_3)
              refine dB 255 g42 ?_ (x := lD [PV.sl .v _] ty_38)
              refine dB 127 g42 ?_ (x := sM)
              refine dB 1023 g42 ?_ (x := loc_index (by decide) sl_38 (by exact ⟨⟩) (by exact rfl) (by exact getm2 (by omega) (by rw [atN (by omega)])) (by exact rfl))
              refine dB 2047 g42 ?_ (x := lE [PV.val _] ty_3)
              refine dB 127 g42 ?_ (x := lF fd_60_3)
              refine dB 4223 g42 ?_ (x := lD [PV.sl .v _] ty_38)
              refine dB 127 g42 ?_ (x := sM)
              refine dB 28799 g42 ?_ (x := loc_index (by decide) sl_38 (by exact ⟨⟩) (by exact rfl) (by exact getm2 (by omega) (by rw [atN (by omega)])) (by exact rfl))
              refine dB 61567 g42 ?_ (x := lE [PV.val _] ty_3)
              refine dB 131071 g42 ?_ (x := B_eql)
              refine dA 262143 ?_ (x := pkT g42)
              refine sw_cond (t := 154) rfl (fun hb43 => ?_) (fun hb43 => ?_)
              ·try simp only [q1, q2, q3, q4, q5, q6, q7, q8, q9] at hb43
               have hbad : isCl c = false := isCl_node hlt (lone_no hltj (by omega) (by first | assumption | (simp_all; done)) (by first | assumption | (simp_all; done)))
               refine sw_seq ?_
               refine sO [(1, _), (3, _), (4, _), (5, _), (7, _), (8, _)] [(1, _)] ?_
               refine sw_reg ?_
               refine rA ?_ (x := kA)
               refine sw_ret ?_
               exact (And.intro (by refine bool_eq ?_; exact hbad.symm) True.intro)
              ·try simp only [q1, q2, q3, q4, q5, q6, q7, q8, q9] at hb43
               have hne : ¬ (atI c.At (k : Int) ≠ -1 ∧ atI c.At (k : Int) = atI c.At (j : Int)) := by simp_all
               refine sw_skip ?_
               refine sO [(1, _), (3, _), (4, _), (5, _), (7, _), (8, _)] [(1, _)] ?_
               refine sw_reg ?_
               refine rA ?_ (x := sM)
               refine rA ?_ (x := B_add)
               refine rA ?_ (x := sA)
               refine Exists.intro (j + 1) (And.intro (by exact ⟨by omega, fun i hi => by by_cases e : i = j; (· subst e; exact hne); (· exact haj i (by omega))⟩) (And.intro (by omega) (And.intro (And.intro (by exact ⟨rfl, rfl, rfl, rfl, rfl, ⟨⟩⟩) (by exact ⟨rfl, ⟨⟩⟩)) (And.intro (by exact And.intro (by exact rfl) (True.intro)) (by exact ⟨⟩)))))
             ·have sg42 := g42
              try simp only [q1, q2, q3, q4, q5, q6, q7, q8, q9] at sg42
              refine dF 127 g42 ?_
              refine dF 255 g42 ?_
              refine dF 127 g42 ?_
              refine dF 1023 g42 ?_
              refine dF 2047 g42 ?_
              refine dF 127 g42 ?_
              refine dF 4223 g42 ?_
              refine dF 127 g42 ?_
              refine dF 28799 g42 ?_
              refine dF 61567 g42 ?_
              refine dF 131071 g42 ?_
              refine dA 262143 ?_ (x := pkF g42)
              refine sw_cond (t := 154) rfl (fun hb_ => nomatch hb_) (fun hb_ => ?_)
              have hne : ¬ (atI c.At (k : Int) ≠ -1 ∧ atI c.At (k : Int) = atI c.At (j : Int)) := by simp_all
              refine sw_skip ?_
              refine sO [(1, _), (3, _), (4, _), (5, _), (7, _), (8, _)] [(1, _)] ?_
              refine sw_reg ?_
              refine rA ?_ (x := sM)
              refine rA ?_ (x := B_add)
              refine rA ?_ (x := sA)
              refine Exists.intro (j + 1) (And.intro (by exact ⟨by omega, fun i hi => by by_cases e : i = j; (· subst e; exact hne); (· exact haj i (by omega))⟩) (And.intro (by omega) (And.intro (And.intro (by exact ⟨rfl, rfl, rfl, rfl, rfl, ⟨⟩⟩) (by exact ⟨rfl, ⟨⟩⟩)) (And.intro (by exact And.intro (by exact rfl) (True.intro)) (by exact ⟨⟩)))))
            ·try simp only [q1, q2, q3, q4, q5, q6, q7, q8, q9] at hb41
             have hno : nodeI c (k : Int) = true := by unfold nodeI; rw [lone_yes (fun i hi => haj i (by omega))]; simp_all
             refine sw_exit ?_
             refine sO [(1, _), (3, _), (4, _), (5, _), (7, _), (8, _)] [(1, (60, [PV.val _, PV.val _, PV.sl _ _, PV.sl _ _, PV.sl _ _, PV.sl _ _, PV.sl _ _, PV.sl _ _, PV.sl _ _, PV.sl _ _, PV.sl _ _]))] ?_
             refine sw_reg ?_
             refine rA ?_ (x := sM)
             refine rA ?_ (x := B_add)
             refine rA ?_ (x := sA)
             refine Exists.intro (k + 1) (And.intro (by exact ⟨by omega, fun i hi => by by_cases e : i = k; (· subst e; exact hno); (· exact ha i (by omega))⟩) (And.intro (by omega) (And.intro (And.intro (by exact ⟨rfl, rfl, rfl, rfl, ⟨⟩⟩) (by exact ⟨rfl, ⟨⟩⟩)) (And.intro (by exact And.intro (by exact rfl) (True.intro)) (by exact ⟨⟩)))))
          ·try simp only [q1, q2, q3, q4, q5, q6, q7, q8, q9] at hb39
           have hcl : isCl c = true := isCl_iff.2 ⟨hh, hdone, hrows, fun i hi => ha i (by omega)⟩
           refine sw_exit ?_
           refine sw_seq ?_
           refine sO [(1, _), (3, _), (4, _), (5, _), (7, _)] [(1, (60, [PV.val _, PV.val _, PV.sl _ _, PV.sl _ _, PV.sl _ _, PV.sl _ _, PV.sl _ _, PV.sl _ _, PV.sl _ _, PV.sl _ _, PV.sl _ _]))] ?_
           refine sw_reg ?_
           refine rA ?_ (x := kA)
           refine sw_ret ?_
           exact (And.intro (by refine bool_eq ?_; exact hcl.symm) True.intro)
end Go.Proofs.Ytloipjaiceifbaa
