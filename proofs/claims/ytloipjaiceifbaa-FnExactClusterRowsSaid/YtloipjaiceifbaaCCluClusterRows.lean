/- What functions of the program compute. No condition. -/
import Derived.Test.YtloipjaiceifbaaCEqCClusterRows
import Derived.Test.YtloipjaiceifbaaCQuerClusterRows
import Derived.KernelRfl
set_option linter.unusedVariables false
set_option linter.unusedSimpArgs false
namespace Go.Proofs.Ytloipjaiceifbaa
open Go Go.RowKit M
set_option maxRecDepth 10000
attribute [local irreducible] PV.Lcl PV.LclR RV.Lcl
theorem impl_HomeOf {s : Int} {n : Int}  : SCall Try.prog 141 [(false, [PV.val (vI s)]), (false, [PV.val (vI n)])] (resRV [(false, [PV.val (vI (homeOf s n))])]) := by
 refine scall_of (rs := [(false, [PV.val (vI (homeOf s n))])]) Try.func141 rfl (Nat.le_of_ble_eq_true rfl) (borA_cons (BorL.cons (PV.bor_val _) BorL.nil) (borA_cons (BorL.cons (PV.bor_val _) BorL.nil) borA_nil)) ?_
 intro h0 w0 Fz0
 refine sw_seq ?_
 refine sw_reg ?_
 refine rA ?_ (x := kA)
 refine sw_seq ?_
 refine sw_seq ?_
 refine sO [(0, _), (1, _), (4, _)] [] ?_
 refine sw_reg ?_
 refine rA ?_ (x := sM)
 refine rA ?_ (x := cL [(false, [PV.val _]), (false, [PV.val _]), (false, [PV.val _])] [(false, [PV.val _]), (false, [PV.val _]), (false, [PV.val _])] c_68 (hs := by exact impl_within))
 refine rA ?_ (x := nT)
 refine rA ?_ (x := sM)
 refine RunS.cases (s := 8) rfl (fun g1 => ?_) (fun g1 => ?_)
 ·have sg1 := g1
  try simp only [q1, q2, q3, q4, q5, q6, q7, q8, q9] at sg1
  refine RunS.s0t g1 ?_
  refine RunS.s0t g1 ?_
  refine rA ?_ (x := pkT g1)
  refine sw_cond (t := 11) rfl (fun hb_ => ?_) (fun hb_ => nomatch hb_)
  refine sw_seq ?_
  refine sO [(0, _), (1, _), (4, _)] [] ?_
  refine sw_reg ?_
  refine rA ?_ (x := kA)
  refine sw_ret ?_
  exact (And.intro (by refine int_eq ?_; unfold homeOf; rw [if_neg (by simp_all)]) True.intro)
 ·have sg1 := g1
  try simp only [q1, q2, q3, q4, q5, q6, q7, q8, q9] at sg1
  refine rB g1 ?_ (x := sM)
  refine rB g1 ?_ (x := B_lss)
  refine rA ?_ (x := pkF g1)
  refine sw_cond (t := 11) rfl (fun hb3 => ?_) (fun hb3 => ?_)
  ·try simp only [q1, q2, q3, q4, q5, q6, q7, q8, q9] at hb3
   refine sw_seq ?_
   refine sO [(0, _), (1, _), (4, _)] [] ?_
   refine sw_reg ?_
   refine rA ?_ (x := kA)
   refine sw_ret ?_
   exact (And.intro (by refine int_eq ?_; unfold homeOf; rw [if_neg (by simp_all)]) True.intro)
  ·try simp only [q1, q2, q3, q4, q5, q6, q7, q8, q9] at hb3
   have hin : inB n 2 4 = true ∧ 0 ≤ s := by simp_all
   have hn : 2 ≤ n ∧ n ≤ 4 := by simpa [inB] using hin.1
   have htm := tmod_in hn.1 hn.2 hin.2
   refine sw_skip ?_
   refine sw_seq ?_
   refine sO [(0, _), (1, _), (4, _)] [] ?_
   refine sw_reg ?_
   refine rA ?_ (x := sM)
   refine rA ?_ (x := sM)
   refine rA ?_ (x := loc_rem (by decide) (by exact ⟨⟩) (by exact ⟨⟩) (by omega))
   refine rA ?_ (x := sA)
   refine sw_ret ?_
   exact (And.intro (by refine int_eq ?_; unfold homeOf; rw [if_pos hin]) True.intro)
theorem spec_HomeOf {s : Int} {n : Int}  : SCall Try.prog 136 [(false, [PV.val (vI s)]), (false, [PV.val (vI n)])] (resRV [(false, [PV.val (vI (homeOf s n))])]) := by
 refine scall_of (rs := [(false, [PV.val (vI (homeOf s n))])]) Try.func136 rfl (Nat.le_of_ble_eq_true rfl) (borA_cons (BorL.cons (PV.bor_val _) BorL.nil) (borA_cons (BorL.cons (PV.bor_val _) BorL.nil) borA_nil)) ?_
 intro h0 w0 Fz0
 refine sw_seq ?_
 refine sw_reg ?_
 refine rA ?_ (x := kA)
 refine sw_seq ?_
 refine sw_seq ?_
 refine sO [(0, _), (1, _), (4, _)] [] ?_
 refine sw_reg ?_
 refine rA ?_ (x := sM)
 refine rA ?_ (x := cL [(false, [PV.val _]), (false, [PV.val _]), (false, [PV.val _])] [(false, [PV.val _]), (false, [PV.val _]), (false, [PV.val _])] c_72 (hs := by exact spec_l1In))
 refine rA ?_ (x := nT)
 refine rA ?_ (x := sM)
 refine RunS.cases (s := 8) rfl (fun g1 => ?_) (fun g1 => ?_)
 ·have sg1 := g1
  try simp only [q1, q2, q3, q4, q5, q6, q7, q8, q9] at sg1
  refine RunS.s0t g1 ?_
  refine RunS.s0t g1 ?_
  refine rA ?_ (x := pkT g1)
  refine sw_cond (t := 11) rfl (fun hb_ => ?_) (fun hb_ => nomatch hb_)
  refine sw_seq ?_
  refine sO [(0, _), (1, _), (4, _)] [] ?_
  refine sw_reg ?_
  refine rA ?_ (x := kA)
  refine sw_ret ?_
  exact (And.intro (by refine int_eq ?_; unfold homeOf; rw [if_neg (by simp_all)]) True.intro)
 ·have sg1 := g1
  try simp only [q1, q2, q3, q4, q5, q6, q7, q8, q9] at sg1
  refine rB g1 ?_ (x := sM)
  refine rB g1 ?_ (x := B_lss)
  refine rA ?_ (x := pkF g1)
  refine sw_cond (t := 11) rfl (fun hb3 => ?_) (fun hb3 => ?_)
  ·try simp only [q1, q2, q3, q4, q5, q6, q7, q8, q9] at hb3
   refine sw_seq ?_
   refine sO [(0, _), (1, _), (4, _)] [] ?_
   refine sw_reg ?_
   refine rA ?_ (x := kA)
   refine sw_ret ?_
   exact (And.intro (by refine int_eq ?_; unfold homeOf; rw [if_neg (by simp_all)]) True.intro)
  ·try simp only [q1, q2, q3, q4, q5, q6, q7, q8, q9] at hb3
   have hin : inB n 2 4 = true ∧ 0 ≤ s := by simp_all
   have hn : 2 ≤ n ∧ n ≤ 4 := by simpa [inB] using hin.1
   have htm := tmod_in hn.1 hn.2 hin.2
   refine sw_skip ?_
   refine sw_seq ?_
   refine sO [(0, _), (1, _), (4, _)] [] ?_
   refine sw_reg ?_
   refine rA ?_ (x := sM)
   refine rA ?_ (x := sM)
   refine rA ?_ (x := loc_rem (by decide) (by exact ⟨⟩) (by exact ⟨⟩) (by omega))
   refine rA ?_ (x := sA)
   refine sw_ret ?_
   exact (And.intro (by refine int_eq ?_; unfold homeOf; rw [if_pos hin]) True.intro)
theorem impl_BackupOf {s : Int} {n : Int}  : SCall Try.prog 142 [(false, [PV.val (vI s)]), (false, [PV.val (vI n)])] (resRV [(false, [PV.val (vI (backupOf s n))])]) := by
 refine scall_of (rs := [(false, [PV.val (vI (backupOf s n))])]) Try.func142 rfl (Nat.le_of_ble_eq_true rfl) (borA_cons (BorL.cons (PV.bor_val _) BorL.nil) (borA_cons (BorL.cons (PV.bor_val _) BorL.nil) borA_nil)) ?_
 intro h0 w0 Fz0
 refine sw_seq ?_
 refine sw_reg ?_
 refine rA ?_ (x := kA)
 refine sw_seq ?_
 refine sw_seq ?_
 refine sO [(0, _), (1, _), (4, _)] [] ?_
 refine sw_reg ?_
 refine rA ?_ (x := sM)
 refine rA ?_ (x := cL [(false, [PV.val _]), (false, [PV.val _]), (false, [PV.val _])] [(false, [PV.val _]), (false, [PV.val _]), (false, [PV.val _])] c_68 (hs := by exact impl_within))
 refine rA ?_ (x := nT)
 refine rA ?_ (x := sM)
 refine RunS.cases (s := 8) rfl (fun g1 => ?_) (fun g1 => ?_)
 ·have sg1 := g1
  try simp only [q1, q2, q3, q4, q5, q6, q7, q8, q9] at sg1
  refine RunS.s0t g1 ?_
  refine RunS.s0t g1 ?_
  refine rA ?_ (x := pkT g1)
  refine sw_cond (t := 11) rfl (fun hb_ => ?_) (fun hb_ => nomatch hb_)
  refine sw_seq ?_
  refine sO [(0, _), (1, _), (4, _)] [] ?_
  refine sw_reg ?_
  refine rA ?_ (x := kA)
  refine sw_ret ?_
  exact (And.intro (by refine int_eq ?_; unfold backupOf; rw [if_neg (by simp_all)]) True.intro)
 ·have sg1 := g1
  try simp only [q1, q2, q3, q4, q5, q6, q7, q8, q9] at sg1
  refine rB g1 ?_ (x := sM)
  refine rB g1 ?_ (x := B_lss)
  refine rA ?_ (x := pkF g1)
  refine sw_cond (t := 11) rfl (fun hb3 => ?_) (fun hb3 => ?_)
  ·try simp only [q1, q2, q3, q4, q5, q6, q7, q8, q9] at hb3
   refine sw_seq ?_
   refine sO [(0, _), (1, _), (4, _)] [] ?_
   refine sw_reg ?_
   refine rA ?_ (x := kA)
   refine sw_ret ?_
   exact (And.intro (by refine int_eq ?_; unfold backupOf; rw [if_neg (by simp_all)]) True.intro)
  ·try simp only [q1, q2, q3, q4, q5, q6, q7, q8, q9] at hb3
   have hin : inB n 2 4 = true ∧ 0 ≤ s := by simp_all
   have hn : 2 ≤ n ∧ n ≤ 4 := by simpa [inB] using hin.1
   have htm := tmod_in hn.1 hn.2 hin.2
   refine sw_skip ?_
   refine sw_seq ?_
   refine sO [(0, _), (1, _), (4, _)] [] ?_
   refine sw_reg ?_
   refine rA ?_ (x := sM)
   refine rA ?_ (x := sM)
   refine rA ?_ (x := loc_rem (by decide) (by exact ⟨⟩) (by exact ⟨⟩) (by omega))
   refine rA ?_ (x := B_add)
   refine rA ?_ (x := sM)
   refine rA ?_ (x := loc_rem (by decide) (by exact ⟨⟩) (by exact ⟨⟩) (by omega))
   refine rA ?_ (x := sA)
   refine sw_ret ?_
   exact (And.intro (by refine int_eq ?_; unfold backupOf; rw [if_pos hin]) True.intro)
theorem spec_BackupOf {s : Int} {n : Int}  : SCall Try.prog 137 [(false, [PV.val (vI s)]), (false, [PV.val (vI n)])] (resRV [(false, [PV.val (vI (backupOf s n))])]) := by
 refine scall_of (rs := [(false, [PV.val (vI (backupOf s n))])]) Try.func137 rfl (Nat.le_of_ble_eq_true rfl) (borA_cons (BorL.cons (PV.bor_val _) BorL.nil) (borA_cons (BorL.cons (PV.bor_val _) BorL.nil) borA_nil)) ?_
 intro h0 w0 Fz0
 refine sw_seq ?_
 refine sw_reg ?_
 refine rA ?_ (x := kA)
 refine sw_seq ?_
 refine sw_seq ?_
 refine sO [(0, _), (1, _), (4, _)] [] ?_
 refine sw_reg ?_
 refine rA ?_ (x := sM)
 refine rA ?_ (x := cL [(false, [PV.val _]), (false, [PV.val _]), (false, [PV.val _])] [(false, [PV.val _]), (false, [PV.val _]), (false, [PV.val _])] c_72 (hs := by exact spec_l1In))
 refine rA ?_ (x := nT)
 refine rA ?_ (x := sM)
 refine RunS.cases (s := 8) rfl (fun g1 => ?_) (fun g1 => ?_)
 ·have sg1 := g1
  try simp only [q1, q2, q3, q4, q5, q6, q7, q8, q9] at sg1
  refine RunS.s0t g1 ?_
  refine RunS.s0t g1 ?_
  refine rA ?_ (x := pkT g1)
  refine sw_cond (t := 11) rfl (fun hb_ => ?_) (fun hb_ => nomatch hb_)
  refine sw_seq ?_
  refine sO [(0, _), (1, _), (4, _)] [] ?_
  refine sw_reg ?_
  refine rA ?_ (x := kA)
  refine sw_ret ?_
  exact (And.intro (by refine int_eq ?_; unfold backupOf; rw [if_neg (by simp_all)]) True.intro)
 ·have sg1 := g1
  try simp only [q1, q2, q3, q4, q5, q6, q7, q8, q9] at sg1
  refine rB g1 ?_ (x := sM)
  refine rB g1 ?_ (x := B_lss)
  refine rA ?_ (x := pkF g1)
  refine sw_cond (t := 11) rfl (fun hb3 => ?_) (fun hb3 => ?_)
  ·try simp only [q1, q2, q3, q4, q5, q6, q7, q8, q9] at hb3
   refine sw_seq ?_
   refine sO [(0, _), (1, _), (4, _)] [] ?_
   refine sw_reg ?_
   refine rA ?_ (x := kA)
   refine sw_ret ?_
   exact (And.intro (by refine int_eq ?_; unfold backupOf; rw [if_neg (by simp_all)]) True.intro)
  ·try simp only [q1, q2, q3, q4, q5, q6, q7, q8, q9] at hb3
   have hin : inB n 2 4 = true ∧ 0 ≤ s := by simp_all
   have hn : 2 ≤ n ∧ n ≤ 4 := by simpa [inB] using hin.1
   have htm := tmod_in hn.1 hn.2 hin.2
   refine sw_skip ?_
   refine sw_seq ?_
   refine sO [(0, _), (1, _), (4, _)] [] ?_
   refine sw_reg ?_
   refine rA ?_ (x := sM)
   refine rA ?_ (x := sM)
   refine rA ?_ (x := loc_rem (by decide) (by exact ⟨⟩) (by exact ⟨⟩) (by omega))
   refine rA ?_ (x := B_add)
   refine rA ?_ (x := sM)
   refine rA ?_ (x := loc_rem (by decide) (by exact ⟨⟩) (by exact ⟨⟩) (by omega))
   refine rA ?_ (x := sA)
   refine sw_ret ?_
   exact (And.intro (by refine int_eq ?_; unfold backupOf; rw [if_pos hin]) True.intro)
theorem impl_admits {q : Query} {f : Int} {v : Int}  : SCall Try.prog 147 [(true, [PV.val (vI q.Id), PV.val (vI q.Tenant), PV.sl .v (q.Conds.map cCond), PV.sl .v (q.Out.map cInt)]), (false, [PV.val (vI f)]), (false, [PV.val (vI v)])] (resRV [(false, [PV.val (.bool (admitsV q f v))])]) := by
 refine scall_of (rs := [(false, [PV.val (.bool (admitsV q f v))])]) Try.func147 rfl (Nat.le_of_ble_eq_true rfl) (borA_cons (BorL.cons (PV.bor_val _) (BorL.cons (PV.bor_val _) (BorL.cons (PV.bor_sl _) (BorL.cons (PV.bor_sl _) BorL.nil)))) (borA_cons (BorL.cons (PV.bor_val _) BorL.nil) (borA_cons (BorL.cons (PV.bor_val _) BorL.nil) borA_nil))) ?_
 intro h0 w0 Fz0
 refine sw_slen (s := 0) (j := 2) rfl rfl fun hl0_2 => ?_
 try rw [List.length_map] at hl0_2
 refine sw_slen (s := 0) (j := 3) rfl rfl fun hl0_3 => ?_
 try rw [List.length_map] at hl0_3
 refine sw_seq ?_
 refine sw_reg ?_
 refine RunS.step (by exact ⟨rfl, ⟨⟩⟩) (by exact ⟨⟩) (LocG.of rfl (loc_box (ag := true) (cs := [PV.val _, PV.val _, PV.sl _ _, PV.sl _ _]) (by decide) (by exact ⟨⟩))) (free1 (Free.of_ rfl)) ?_
 refine rA ?_ (x := kA)
 refine sw_seq ?_
 refine sw_seq ?_
 refine sO [(1, _), (2, _), (3, _), (6, _)] [(3, (56, [PV.val _, PV.val _, PV.sl _ _, PV.sl _ _]))] ?_
 refine sw_reg ?_
 refine rA ?_ (x := lF fd_56_2)
 refine rA ?_ (x := lD [PV.sl .v _] ty_54)
 refine rA ?_ (x := lN sl_54)
 refine rA ?_ (x := kM)
 refine sw_block ?_
 refine sO [(1, _), (2, _), (3, _), (6, _), (10, _), (11, _), (12, _)] [(3, _)] ?_
 refine sw_loop (l0 := [(1, RV.sv false [PV.val _]), (2, RV.sv false [PV.val _]), (3, RV.ptr 3 0), (10, RV.sv false [PV.sl _ _]), (11, RV.sv false [PV.val _])]) (b0 := [(3, (56, [PV.val _, PV.val _, PV.sl _ _, PV.sl _ _]))]) (fun k : Nat => k ≤ q.Conds.length ∧ (q.Conds.take k).all (admC f v) = true) (fun k : Nat => [(12, RV.int (k : Int))]) (fun k : Nat => []) (fun k : Nat => q.Conds.length - k) 0 (by exact ⟨by omega, by simp⟩) (by exact ⟨rfl, rfl, rfl, rfl, rfl, ⟨⟩⟩) (by exact ⟨rfl, ⟨⟩⟩) (by exact And.intro (by exact rfl) (True.intro)) (by exact ⟨⟩) ?_
 rintro k ⟨hk, ha⟩
 refine sw_seq ?_
 refine sw_reg ?_
 refine rA ?_ (x := B_lss)
 refine sw_seq ?_
 refine sw_cond (t := 13) rfl (fun hb1 => ?_) (fun hb1 => ?_)
 ·try simp only [q1, q2, q3, q4, q5, q6, q7, q8, q9] at hb1
  have hlt : k < q.Conds.length := by omega
  refine sw_skip ?_
  refine sw_seq ?_
  refine sw_block ?_
  refine sw_seq ?_
  refine sO [(1, _), (2, _), (3, _), (10, _), (11, _), (12, _)] [(3, (56, [PV.val _, PV.val _, PV.sl _ _, PV.sl _ _]))] ?_
  refine sw_reg ?_
  refine rA ?_ (x := loc_index (by decide) sl_54 (by exact ⟨⟩) (by exact rfl) (by exact getm2 (by omega) rfl) (by exact rfl))
  refine rA ?_ (x := lE [PV.val _, PV.val _, PV.val _] ty_130)
  refine RunS.step (by exact ⟨⟩) (by exact ⟨⟩) (LocG.of rfl (loc_alloc (by decide) z_130 zo_130)) (free1 (Free.app (Free.app (Free.of_ rfl) rfl) rfl)) ?_
  refine rA ?_ (x := loc_store (ag := true) (vs := [PV.val _, PV.val _, PV.val _]) ty_130 (by exact ⟨⟩) (by exact rfl) (by exact Nat.le_of_ble_eq_true rfl))
  refine sw_seq ?_
  refine sO [(1, _), (2, _), (3, _), (8, _), (10, _), (11, _), (12, _)] [(3, _), (8, (130, [PV.val _, PV.val _, PV.val _]))] ?_
  refine sw_reg ?_
  refine rA ?_ (x := lF fd_130_0)
  refine rA ?_ (x := lD [PV.val _] ty_3)
  refine rA ?_ (x := sM)
  refine rA ?_ (x := B_eql)
  refine rA ?_ (x := sM)
  refine RunS.cases (s := 20) rfl (fun g2 => ?_) (fun g2 => ?_)
  ·have sg2 := g2
   try simp only [q1, q2, q3, q4, q5, q6, q7, q8, q9] at sg2
   refine rB g2 ?_ (x := sM)
   refine rB g2 ?_ (x := lF fd_130_1)
   refine rB g2 ?_ (x := lD [PV.val _] ty_3)
   refine rB g2 ?_ (x := lF fd_130_2)
   refine rB g2 ?_ (x := lD [PV.val _] ty_3)
   refine rB g2 ?_ (x := cL [(false, [PV.val _]), (false, [PV.val _]), (false, [PV.val _])] [(false, [PV.val _]), (false, [PV.val _]), (false, [PV.val _])] c_68 (hs := by exact impl_within))
   refine rB g2 ?_ (x := nT)
   refine rA ?_ (x := pkT g2)
   refine sw_cond (t := 28) rfl (fun hb3 => ?_) (fun hb3 => ?_)
   ·try simp only [q1, q2, q3, q4, q5, q6, q7, q8, q9] at hb3
    have hno : admC f v q.Conds[k] = false := by simp_all [admC]
    refine sw_seq ?_
    refine sO [(1, _), (2, _), (3, _), (8, _), (10, _), (11, _), (12, _)] [(3, _), (8, _)] ?_
    refine sw_reg ?_
    refine rA ?_ (x := kA)
    refine sw_ret ?_
    exact (And.intro (by refine bool_eq ?_; simp [admitsV, all_no (P := (admC f v)) hlt hno]) True.intro)
   ·try simp only [q1, q2, q3, q4, q5, q6, q7, q8, q9] at hb3
    have hyes : admC f v q.Conds[k] = true := by simp_all [admC]
    refine sw_skip ?_
    refine sO [(1, _), (2, _), (3, _), (8, _), (10, _), (11, _), (12, _)] [(3, _), (8, _)] ?_
    refine sw_reg ?_
    refine rA ?_ (x := B_add)
    refine rA ?_ (x := sM)
    refine Exists.intro (k + 1) (And.intro (by exact ⟨by omega, all_succ ha hlt hyes⟩) (And.intro (by omega) (And.intro (And.intro (by exact ⟨rfl, rfl, rfl, rfl, rfl, ⟨⟩⟩) (by exact ⟨rfl, ⟨⟩⟩)) (And.intro (by exact And.intro (by exact rfl) (True.intro)) (by exact ⟨⟩)))))
  ·have sg2 := g2
   try simp only [q1, q2, q3, q4, q5, q6, q7, q8, q9] at sg2
   refine RunS.s0f g2 ?_
   refine RunS.s0f g2 ?_
   refine RunS.s0f g2 ?_
   refine RunS.s0f g2 ?_
   refine RunS.s0f g2 ?_
   refine RunS.s0f g2 ?_
   refine RunS.s0f g2 ?_
   refine rA ?_ (x := pkF g2)
   refine sw_cond (t := 28) rfl (fun hb_ => nomatch hb_) (fun hb_ => ?_)
   have hyes : admC f v q.Conds[k] = true := by simp_all [admC]
   refine sw_skip ?_
   refine sO [(1, _), (2, _), (3, _), (8, _), (10, _), (11, _), (12, _)] [(3, _), (8, _)] ?_
   refine sw_reg ?_
   refine rA ?_ (x := B_add)
   refine rA ?_ (x := sM)
   refine Exists.intro (k + 1) (And.intro (by exact ⟨by omega, all_succ ha hlt hyes⟩) (And.intro (by omega) (And.intro (And.intro (by exact ⟨rfl, rfl, rfl, rfl, rfl, ⟨⟩⟩) (by exact ⟨rfl, ⟨⟩⟩)) (And.intro (by exact And.intro (by exact rfl) (True.intro)) (by exact ⟨⟩)))))
 ·try simp only [q1, q2, q3, q4, q5, q6, q7, q8, q9] at hb1
  have hall : q.Conds.all (admC f v) = true := all_end (by rw [show q.Conds.length = k by omega]; exact ha)
  refine sw_exit ?_
  refine sw_seq ?_
  refine sO [(1, _), (2, _), (3, _), (10, _), (11, _), (12, _)] [(3, (56, [PV.val _, PV.val _, PV.sl _ _, PV.sl _ _]))] ?_
  refine sw_reg ?_
  refine rA ?_ (x := kA)
  refine sw_ret ?_
  exact (And.intro (by refine bool_eq ?_; simp [admitsV, hall, *]) True.intro)
theorem impl_MatchesRow {q : Query} {r : Row}  : SCall Try.prog 138 [(true, [PV.val (vI q.Id), PV.val (vI q.Tenant), PV.sl .v (q.Conds.map cCond), PV.sl .v (q.Out.map cInt)]), (true, [PV.val (vI r.Id), PV.sl .v (r.Values.map cInt)])] (resRV [(false, [PV.val (.bool (matchRow q r))])]) := by
 refine scall_of (rs := [(false, [PV.val (.bool (matchRow q r))])]) Try.func138 rfl (Nat.le_of_ble_eq_true rfl) (borA_cons (BorL.cons (PV.bor_val _) (BorL.cons (PV.bor_val _) (BorL.cons (PV.bor_sl _) (BorL.cons (PV.bor_sl _) BorL.nil)))) (borA_cons (BorL.cons (PV.bor_val _) (BorL.cons (PV.bor_sl _) BorL.nil)) borA_nil)) ?_
 intro h0 w0 Fz0
 refine sw_slen (s := 0) (j := 2) rfl rfl fun hl0_2 => ?_
 try rw [List.length_map] at hl0_2
 refine sw_slen (s := 0) (j := 3) rfl rfl fun hl0_3 => ?_
 try rw [List.length_map] at hl0_3
 refine sw_slen (s := 1) (j := 1) rfl rfl fun hl1_1 => ?_
 try rw [List.length_map] at hl1_1
 refine sw_seq ?_
 refine sw_reg ?_
 refine RunS.step (by exact ⟨rfl, ⟨⟩⟩) (by exact ⟨⟩) (LocG.of rfl (loc_box (ag := true) (cs := [PV.val _, PV.val _, PV.sl _ _, PV.sl _ _]) (by decide) (by exact ⟨⟩))) (free1 (Free.of_ rfl)) ?_
 refine RunS.step (by exact ⟨rfl, ⟨⟩⟩) (by exact ⟨⟩) (LocG.of rfl (loc_box (ag := true) (cs := [PV.val _, PV.sl _ _]) (by decide) (by exact ⟨⟩))) (free1 (Free.app (Free.of_ rfl) rfl)) ?_
 refine rA ?_ (x := kA)
 refine sw_seq ?_
 refine sw_seq ?_
 refine sO [(2, _), (3, _), (4, _)] [(2, (56, [PV.val _, PV.val _, PV.sl _ _, PV.sl _ _])), (3, (87, [PV.val _, PV.sl _ _]))] ?_
 refine sw_reg ?_
 refine rA ?_ (x := lD [PV.val _, PV.val _, PV.sl .v _, PV.sl .v _] ty_56)
 refine rA ?_ (x := cL [(true, [PV.val _, PV.val _, PV.sl _ _, PV.sl _ _])] [(true, [PV.val _, PV.val _, PV.sl .v _, PV.sl .v _])] c_116 (hs := by exact impl_IsQuery))
 refine rA ?_ (x := nT)
 refine rA ?_ (x := sM)
 refine RunS.cases (s := 10) rfl (fun g1 => ?_) (fun g1 => ?_)
 ·have sg1 := g1
  try simp only [q1, q2, q3, q4, q5, q6, q7, q8, q9] at sg1
  refine RunS.s0t g1 ?_
  refine RunS.s0t g1 ?_
  refine RunS.s0t g1 ?_
  refine rA ?_ (x := pkT g1)
  refine sw_cond (t := 14) rfl (fun hb_ => ?_) (fun hb_ => nomatch hb_)
  have hbad : matchRow q r = false := by simp_all [matchRow]
  refine sw_seq ?_
  refine sO [(2, _), (3, _), (4, _)] [(2, _), (3, _)] ?_
  refine sw_reg ?_
  refine rA ?_ (x := kA)
  refine sw_ret ?_
  exact (And.intro (by refine bool_eq ?_; exact hbad.symm) True.intro)
 ·have sg1 := g1
  try simp only [q1, q2, q3, q4, q5, q6, q7, q8, q9] at sg1
  refine rB g1 ?_ (x := lD [PV.val _, PV.sl .v _] ty_87)
  refine rB g1 ?_ (x := cL [(true, [PV.val _, PV.sl _ _])] [(true, [PV.val _, PV.sl .v _])] c_108 (hs := by exact impl_IsRow))
  refine rB g1 ?_ (x := nT)
  refine rA ?_ (x := pkF g1)
  refine sw_cond (t := 14) rfl (fun hb3 => ?_) (fun hb3 => ?_)
  ·try simp only [q1, q2, q3, q4, q5, q6, q7, q8, q9] at hb3
   have hbad : matchRow q r = false := by simp_all [matchRow]
   refine sw_seq ?_
   refine sO [(2, _), (3, _), (4, _)] [(2, _), (3, _)] ?_
   refine sw_reg ?_
   refine rA ?_ (x := kA)
   refine sw_ret ?_
   exact (And.intro (by refine bool_eq ?_; exact hbad.symm) True.intro)
  ·try simp only [q1, q2, q3, q4, q5, q6, q7, q8, q9] at hb3
   have hok : okQuery q = true ∧ okRow r = true := by simp_all
   refine sw_skip ?_
   refine sw_seq ?_
   refine sw_seq ?_
   refine sO [(2, _), (3, _), (4, _)] [(2, _), (3, _)] ?_
   refine sw_reg ?_
   refine rA ?_ (x := lF fd_87_1)
   refine rA ?_ (x := lD [PV.sl .v _] ty_38)
   refine rA ?_ (x := lN sl_38)
   refine rA ?_ (x := kM)
   refine sw_block ?_
   refine sO [(2, _), (3, _), (4, _), (16, _), (17, _), (18, _)] [(2, _), (3, _)] ?_
   refine sw_loop (l0 := [(2, RV.ptr 2 0), (3, RV.ptr 3 0), (16, RV.sv false [PV.sl _ _]), (17, RV.sv false [PV.val _])]) (b0 := [(2, (56, [PV.val _, PV.val _, PV.sl _ _, PV.sl _ _])), (3, (87, [PV.val _, PV.sl _ _]))]) (fun k : Nat => k ≤ r.Values.length ∧ (∀ i : Nat, i < k → admitsV q (i : Int) (r.Values.getD i 0) = true)) (fun k : Nat => [(18, RV.int (k : Int))]) (fun k : Nat => []) (fun k : Nat => r.Values.length - k) 0 (by exact ⟨by omega, fun i hi => absurd hi (Nat.not_lt_zero _)⟩) (by exact ⟨rfl, rfl, rfl, rfl, ⟨⟩⟩) (by exact ⟨rfl, rfl, ⟨⟩⟩) (by exact And.intro (by exact rfl) (True.intro)) (by exact ⟨⟩) ?_
   rintro k ⟨hk, ha⟩
   refine sw_seq ?_
   refine sw_reg ?_
   refine rA ?_ (x := B_lss)
   refine sw_seq ?_
   refine sw_cond (t := 19) rfl (fun hb4 => ?_) (fun hb4 => ?_)
   ·try simp only [q1, q2, q3, q4, q5, q6, q7, q8, q9] at hb4
    have hlt : k < r.Values.length := by omega
    refine sw_skip ?_
    refine sw_seq ?_
    refine sw_block ?_
    refine sw_seq ?_
    refine sO [(2, _), (3, _), (16, _), (17, _), (18, _)] [(2, (56, [PV.val _, PV.val _, PV.sl _ _, PV.sl _ _])), (3, (87, [PV.val _, PV.sl _ _]))] ?_
    refine sw_reg ?_
    refine rA ?_ (x := sM)
    refine rA ?_ (x := loc_index (by decide) sl_38 (by exact ⟨⟩) (by exact rfl) (by exact getm2 (by omega) rfl) (by exact rfl))
    refine rA ?_ (x := lE [PV.val _] ty_3)
    refine rA ?_ (x := sA)
    refine rA ?_ (x := sA)
    refine sw_seq ?_
    refine sO [(2, _), (3, _), (5, _), (6, _), (16, _), (17, _), (18, _)] [(2, _), (3, _)] ?_
    refine sw_reg ?_
    refine rA ?_ (x := lD [PV.val _, PV.val _, PV.sl .v _, PV.sl .v _] ty_56)
    refine rA ?_ (x := sM)
    refine rA ?_ (x := sM)
    refine rA ?_ (x := cL [(true, [PV.val _, PV.val _, PV.sl _ _, PV.sl _ _]), (false, [PV.val _]), (false, [PV.val _])] [(true, [PV.val _, PV.val _, PV.sl .v _, PV.sl .v _]), (false, [PV.val _]), (false, [PV.val _])] c_147 (hs := by exact impl_admits))
    refine rA ?_ (x := nT)
    refine sw_cond (t := 27) rfl (fun hb5 => ?_) (fun hb5 => ?_)
    ·try simp only [q1, q2, q3, q4, q5, q6, q7, q8, q9] at hb5
     have hno : matchRow q r = false := match_no (i := k) (by rw [← gDt hlt]; simpa using hb5)
     refine sw_seq ?_
     refine sO [(2, _), (3, _), (5, _), (6, _), (16, _), (17, _), (18, _)] [(2, _), (3, _)] ?_
     refine sw_reg ?_
     refine rA ?_ (x := kA)
     refine sw_ret ?_
     exact (And.intro (by refine bool_eq ?_; exact hno.symm) True.intro)
    ·try simp only [q1, q2, q3, q4, q5, q6, q7, q8, q9] at hb5
     have hyes : admitsV q (k : Int) (r.Values.getD k 0) = true := by rw [← gDt hlt]; simpa using hb5
     refine sw_skip ?_
     refine sO [(2, _), (3, _), (5, _), (6, _), (16, _), (17, _), (18, _)] [(2, _), (3, _)] ?_
     refine sw_reg ?_
     refine rA ?_ (x := B_add)
     refine rA ?_ (x := sM)
     refine Exists.intro (k + 1) (And.intro (by exact ⟨by omega, fun i hi => by by_cases e : i = k; (· subst e; exact hyes); (· exact ha i (by omega))⟩) (And.intro (by omega) (And.intro (And.intro (by exact ⟨rfl, rfl, rfl, rfl, ⟨⟩⟩) (by exact ⟨rfl, rfl, ⟨⟩⟩)) (And.intro (by exact And.intro (by exact rfl) (True.intro)) (by exact ⟨⟩)))))
   ·try simp only [q1, q2, q3, q4, q5, q6, q7, q8, q9] at hb4
    have hall := match_yes hok.1 hok.2 (fun i hi => ha i (by omega))
    refine sw_exit ?_
    refine sw_seq ?_
    refine sO [(2, _), (3, _), (16, _), (17, _), (18, _)] [(2, (56, [PV.val _, PV.val _, PV.sl _ _, PV.sl _ _])), (3, (87, [PV.val _, PV.sl _ _]))] ?_
    refine sw_reg ?_
    refine rA ?_ (x := kA)
    refine sw_ret ?_
    exact (And.intro (by refine bool_eq ?_; exact hall.symm) True.intro)
theorem spec_MatchesRow {q : Query} {r : Row}  : SCall Try.prog 134 [(true, [PV.val (vI q.Id), PV.val (vI q.Tenant), PV.sl .v (q.Conds.map cCond), PV.sl .v (q.Out.map cInt)]), (true, [PV.val (vI r.Id), PV.sl .v (r.Values.map cInt)])] (resRV [(false, [PV.val (.bool (matchRow q r))])]) := by
 refine scall_of (rs := [(false, [PV.val (.bool (matchRow q r))])]) Try.func134 rfl (Nat.le_of_ble_eq_true rfl) (borA_cons (BorL.cons (PV.bor_val _) (BorL.cons (PV.bor_val _) (BorL.cons (PV.bor_sl _) (BorL.cons (PV.bor_sl _) BorL.nil)))) (borA_cons (BorL.cons (PV.bor_val _) (BorL.cons (PV.bor_sl _) BorL.nil)) borA_nil)) ?_
 intro h0 w0 Fz0
 refine sw_slen (s := 0) (j := 2) rfl rfl fun hl0_2 => ?_
 try rw [List.length_map] at hl0_2
 refine sw_slen (s := 0) (j := 3) rfl rfl fun hl0_3 => ?_
 try rw [List.length_map] at hl0_3
 refine sw_slen (s := 1) (j := 1) rfl rfl fun hl1_1 => ?_
 try rw [List.length_map] at hl1_1
 refine sw_seq ?_
 refine sw_reg ?_
 refine RunS.step (by exact ⟨rfl, ⟨⟩⟩) (by exact ⟨⟩) (LocG.of rfl (loc_box (ag := true) (cs := [PV.val _, PV.val _, PV.sl _ _, PV.sl _ _]) (by decide) (by exact ⟨⟩))) (free1 (Free.of_ rfl)) ?_
 refine RunS.step (by exact ⟨rfl, ⟨⟩⟩) (by exact ⟨⟩) (LocG.of rfl (loc_box (ag := true) (cs := [PV.val _, PV.sl _ _]) (by decide) (by exact ⟨⟩))) (free1 (Free.app (Free.of_ rfl) rfl)) ?_
 refine rA ?_ (x := kA)
 refine sw_seq ?_
 refine sw_seq ?_
 refine sO [(2, _), (3, _), (4, _)] [(2, (56, [PV.val _, PV.val _, PV.sl _ _, PV.sl _ _])), (3, (87, [PV.val _, PV.sl _ _]))] ?_
 refine sw_reg ?_
 refine rA ?_ (x := kA)
 refine sw_block ?_
 refine sO [(2, _), (3, _), (4, _), (5, _)] [(2, _), (3, _)] ?_
 refine sw_loop (l0 := [(2, RV.ptr 2 0), (3, RV.ptr 3 0)]) (b0 := [(2, (56, [PV.val _, PV.val _, PV.sl _ _, PV.sl _ _])), (3, (87, [PV.val _, PV.sl _ _]))]) (fun k : Nat => k ≤ q.Conds.length ∧ (q.Conds.take k).all (condOk r) = true) (fun k : Nat => [(5, RV.int (k : Int))]) (fun k : Nat => []) (fun k : Nat => q.Conds.length - k) 0 (by exact ⟨by omega, by simp⟩) (by exact ⟨rfl, rfl, ⟨⟩⟩) (by exact ⟨rfl, rfl, ⟨⟩⟩) (by exact And.intro (by exact rfl) (True.intro)) (by exact ⟨⟩) ?_
 rintro k ⟨hk, ha⟩
 refine sw_seq ?_
 refine sw_seq ?_
 refine sw_reg ?_
 refine rA ?_ (x := sM)
 refine rA ?_ (x := lF fd_56_2)
 refine rA ?_ (x := lD [PV.sl .v _] ty_54)
 refine rA ?_ (x := lN sl_54)
 refine rA ?_ (x := B_lss)
 refine rA ?_ (x := sM)
 refine RunS.cases (s := 12) rfl (fun g1 => ?_) (fun g1 => ?_)
 ·have sg1 := g1
  try simp only [q1, q2, q3, q4, q5, q6, q7, q8, q9] at sg1
  refine rB g1 ?_ (x := lD [PV.val _, PV.sl .v _] ty_87)
  refine rB g1 ?_ (x := cL [(true, [PV.val _, PV.sl _ _])] [(true, [PV.val _, PV.sl .v _])] c_107 (hs := by exact spec_IsRow))
  refine rA ?_ (x := pkT g1)
  refine rA ?_ (x := sM)
  refine RunS.cases (s := 16) rfl (fun g2 => ?_) (fun g2 => ?_)
  ·have sg2 := g2
   try simp only [q1, q2, q3, q4, q5, q6, q7, q8, q9] at sg2
   refine rB g2 ?_ (x := lD [PV.val _, PV.val _, PV.sl .v _, PV.sl .v _] ty_56)
   refine rB g2 ?_ (x := cL [(true, [PV.val _, PV.val _, PV.sl _ _, PV.sl _ _])] [(true, [PV.val _, PV.val _, PV.sl .v _, PV.sl .v _])] c_81 (hs := by exact spec_IsQuery))
   refine rA ?_ (x := pkT g2)
   refine sw_cond (t := 19) rfl (fun hb3 => ?_) (fun hb3 => ?_)
   ·try simp only [q1, q2, q3, q4, q5, q6, q7, q8, q9] at hb3
    have hlt : k < q.Conds.length := by first | (simp_all; done) | (simp_all; omega)
    have hok : okRow r = true ∧ okQuery q = true := by simp_all
    have hf := condField hok.2 (List.getElem_mem hlt)
    have hl := rowLen hok.1
    refine sw_skip ?_
    refine sw_seq ?_
    refine sw_block ?_
    refine sw_seq ?_
    refine sO [(2, _), (3, _), (5, _)] [(2, (56, [PV.val _, PV.val _, PV.sl _ _, PV.sl _ _])), (3, (87, [PV.val _, PV.sl _ _]))] ?_
    refine sw_reg ?_
    refine rA ?_ (x := lF fd_56_2)
    refine rA ?_ (x := lD [PV.sl .v _] ty_54)
    refine rA ?_ (x := sM)
    refine rA ?_ (x := loc_index (by decide) sl_54 (by exact ⟨⟩) (by exact rfl) (by exact getm2 (by omega) rfl) (by exact rfl))
    refine rA ?_ (x := lE [PV.val _, PV.val _, PV.val _] ty_130)
    refine RunS.step (by exact ⟨⟩) (by exact ⟨⟩) (LocG.of rfl (loc_alloc (by decide) z_130 zo_130)) (free1 (Free.app (Free.app (Free.app (Free.app (Free.app (Free.of_ rfl) rfl) rfl) rfl) rfl) rfl)) ?_
    refine rA ?_ (x := loc_store (ag := true) (vs := [PV.val _, PV.val _, PV.val _]) ty_130 (by exact ⟨⟩) (by exact rfl) (by exact Nat.le_of_ble_eq_true rfl))
    refine sw_seq ?_
    refine sO [(2, _), (3, _), (5, _), (6, _)] [(2, _), (3, _), (6, (130, [PV.val _, PV.val _, PV.val _]))] ?_
    refine sw_draw hm_ ?_
    refine dA 0 ?_ (x := lF fd_87_1)
    refine dA 1 ?_ (x := lD [PV.sl .v _] ty_38)
    refine dA 0 ?_ (x := lF fd_130_0)
    refine dA 4 ?_ (x := lD [PV.val _] ty_3)
    refine dA 15 ?_ (x := loc_index (k := q.Conds[k].Field.toNat) (by decide) sl_38 (by exact ⟨⟩) (by omega) (by exact getm2 (by omega) (by rw [gDt (d := 0) (by omega)])) (by exact rfl))
    refine dA 31 ?_ (x := lE [PV.val _] ty_3)
    refine dA 0 ?_ (x := lF fd_130_1)
    refine dA 64 ?_ (x := lD [PV.val _] ty_3)
    refine dA 0 ?_ (x := lF fd_130_2)
    refine dA 256 ?_ (x := lD [PV.val _] ty_3)
    refine dA 1023 ?_ (x := cL [(false, [PV.val _]), (false, [PV.val _]), (false, [PV.val _])] [(false, [PV.val _]), (false, [PV.val _]), (false, [PV.val _])] c_72 (hs := by exact spec_l1In))
    refine dA 2047 ?_ (x := nT)
    refine sw_cond (t := 38) rfl (fun hb4 => ?_) (fun hb4 => ?_)
    ·try simp only [q1, q2, q3, q4, q5, q6, q7, q8, q9] at hb4
     have hno : condOk r q.Conds[k] = false := by simpa [condOk, atI] using hb4
     refine sw_seq ?_
     refine sO [(2, _), (3, _), (5, _), (6, _)] [(2, _), (3, _), (6, _)] ?_
     refine sw_reg ?_
     refine rA ?_ (x := kA)
     refine sw_ret ?_
     exact (And.intro (by refine bool_eq ?_; simp [matchRow, all_no hlt hno]) True.intro)
    ·try simp only [q1, q2, q3, q4, q5, q6, q7, q8, q9] at hb4
     have hyes : condOk r q.Conds[k] = true := by simpa [condOk, atI] using hb4
     refine sw_skip ?_
     refine sO [(2, _), (3, _), (5, _), (6, _)] [(2, _), (3, _), (6, _)] ?_
     refine sw_reg ?_
     refine rA ?_ (x := sM)
     refine rA ?_ (x := B_add)
     refine rA ?_ (x := sA)
     refine Exists.intro (k + 1) (And.intro (by exact ⟨by omega, all_succ ha hlt hyes⟩) (And.intro (by omega) (And.intro (And.intro (by exact ⟨rfl, rfl, ⟨⟩⟩) (by exact ⟨rfl, rfl, ⟨⟩⟩)) (And.intro (by exact And.intro (by exact rfl) (True.intro)) (by exact ⟨⟩)))))
   ·try simp only [q1, q2, q3, q4, q5, q6, q7, q8, q9] at hb3
    have hend : okRow r = true → okQuery q = true → q.Conds.all (condOk r) = true := fun h1 h2 => all_end (by rw [show q.Conds.length = k by first | (simp_all; done) | (simp_all; omega)]; exact ha)
    refine sw_exit ?_
    refine sw_seq ?_
    refine sO [(2, _), (3, _), (5, _)] [(2, (56, [PV.val _, PV.val _, PV.sl _ _, PV.sl _ _])), (3, (87, [PV.val _, PV.sl _ _]))] ?_
    refine sw_reg ?_
    refine rA ?_ (x := lD [PV.val _, PV.sl .v _] ty_87)
    refine rA ?_ (x := cL [(true, [PV.val _, PV.sl _ _])] [(true, [PV.val _, PV.sl .v _])] c_107 (hs := by exact spec_IsRow))
    refine rA ?_ (x := sM)
    refine RunS.cases (s := 41) rfl (fun g5 => ?_) (fun g5 => ?_)
    ·have sg5 := g5
     try simp only [q1, q2, q3, q4, q5, q6, q7, q8, q9] at sg5
     refine rB g5 ?_ (x := lD [PV.val _, PV.val _, PV.sl .v _, PV.sl .v _] ty_56)
     refine rB g5 ?_ (x := cL [(true, [PV.val _, PV.val _, PV.sl _ _, PV.sl _ _])] [(true, [PV.val _, PV.val _, PV.sl .v _, PV.sl .v _])] c_81 (hs := by exact spec_IsQuery))
     refine rA ?_ (x := pkT g5)
     refine rA ?_ (x := sA)
     refine sw_ret ?_
     exact (And.intro (by refine bool_eq ?_; first | (simp_all [matchRow]; done) | (unfold matchRow; simp_all)) True.intro)
    ·have sg5 := g5
     try simp only [q1, q2, q3, q4, q5, q6, q7, q8, q9] at sg5
     refine RunS.s0f g5 ?_
     refine RunS.s0f g5 ?_
     refine rA ?_ (x := pkF g5)
     refine rA ?_ (x := sA)
     refine sw_ret ?_
     exact (And.intro (by refine bool_eq ?_; first | (simp_all [matchRow]; done) | (unfold matchRow; simp_all)) True.intro)
  ·have sg2 := g2
   try simp only [q1, q2, q3, q4, q5, q6, q7, q8, q9] at sg2
   refine RunS.s0f g2 ?_
   refine RunS.s0f g2 ?_
   refine rA ?_ (x := pkF g2)
   refine sw_cond (t := 19) rfl (fun hb_ => nomatch hb_) (fun hb_ => ?_)
   have hend : okRow r = true → okQuery q = true → q.Conds.all (condOk r) = true := fun h1 h2 => all_end (by rw [show q.Conds.length = k by first | (simp_all; done) | (simp_all; omega)]; exact ha)
   refine sw_exit ?_
   refine sw_seq ?_
   refine sO [(2, _), (3, _), (5, _)] [(2, (56, [PV.val _, PV.val _, PV.sl _ _, PV.sl _ _])), (3, (87, [PV.val _, PV.sl _ _]))] ?_
   refine sw_reg ?_
   refine rA ?_ (x := lD [PV.val _, PV.sl .v _] ty_87)
   refine rA ?_ (x := cL [(true, [PV.val _, PV.sl _ _])] [(true, [PV.val _, PV.sl .v _])] c_107 (hs := by exact spec_IsRow))
   refine rA ?_ (x := sM)
   refine RunS.cases (s := 41) rfl (fun g7 => ?_) (fun g7 => ?_)
   ·have sg7 := g7
    try simp only [q1, q2, q3, q4, q5, q6, q7, q8, q9] at sg7
    refine rB g7 ?_ (x := lD [PV.val _, PV.val _, PV.sl .v _, PV.sl .v _] ty_56)
    refine rB g7 ?_ (x := cL [(true, [PV.val _, PV.val _, PV.sl _ _, PV.sl _ _])] [(true, [PV.val _, PV.val _, PV.sl .v _, PV.sl .v _])] c_81 (hs := by exact spec_IsQuery))
    refine rA ?_ (x := pkT g7)
    refine rA ?_ (x := sA)
    refine sw_ret ?_
    exact (And.intro (by refine bool_eq ?_; first | (simp_all [matchRow]; done) | (unfold matchRow; simp_all)) True.intro)
   ·have sg7 := g7
    try simp only [q1, q2, q3, q4, q5, q6, q7, q8, q9] at sg7
    refine RunS.s0f g7 ?_
    refine RunS.s0f g7 ?_
    refine rA ?_ (x := pkF g7)
    refine rA ?_ (x := sA)
    refine sw_ret ?_
    exact (And.intro (by refine bool_eq ?_; first | (simp_all [matchRow]; done) | (unfold matchRow; simp_all)) True.intro)
 ·have sg1 := g1
  try simp only [q1, q2, q3, q4, q5, q6, q7, q8, q9] at sg1
  refine RunS.s0f g1 ?_
  refine RunS.s0f g1 ?_
  refine rA ?_ (x := pkF g1)
  refine rA ?_ (x := sM)
  refine RunS.cases (s := 16) rfl (fun g8 => nomatch g8) (fun g8 => ?_)
  refine RunS.s0f g8 ?_
  refine RunS.s0f g8 ?_
  refine rA ?_ (x := pkF g8)
  refine sw_cond (t := 19) rfl (fun hb_ => nomatch hb_) (fun hb_ => ?_)
  have hend : okRow r = true → okQuery q = true → q.Conds.all (condOk r) = true := fun h1 h2 => all_end (by rw [show q.Conds.length = k by first | (simp_all; done) | (simp_all; omega)]; exact ha)
  refine sw_exit ?_
  refine sw_seq ?_
  refine sO [(2, _), (3, _), (5, _)] [(2, (56, [PV.val _, PV.val _, PV.sl _ _, PV.sl _ _])), (3, (87, [PV.val _, PV.sl _ _]))] ?_
  refine sw_reg ?_
  refine rA ?_ (x := lD [PV.val _, PV.sl .v _] ty_87)
  refine rA ?_ (x := cL [(true, [PV.val _, PV.sl _ _])] [(true, [PV.val _, PV.sl .v _])] c_107 (hs := by exact spec_IsRow))
  refine rA ?_ (x := sM)
  refine RunS.cases (s := 41) rfl (fun g10 => ?_) (fun g10 => ?_)
  ·have sg10 := g10
   try simp only [q1, q2, q3, q4, q5, q6, q7, q8, q9] at sg10
   refine rB g10 ?_ (x := lD [PV.val _, PV.val _, PV.sl .v _, PV.sl .v _] ty_56)
   refine rB g10 ?_ (x := cL [(true, [PV.val _, PV.val _, PV.sl _ _, PV.sl _ _])] [(true, [PV.val _, PV.val _, PV.sl .v _, PV.sl .v _])] c_81 (hs := by exact spec_IsQuery))
   refine rA ?_ (x := pkT g10)
   refine rA ?_ (x := sA)
   refine sw_ret ?_
   exact (And.intro (by refine bool_eq ?_; first | (simp_all [matchRow]; done) | (unfold matchRow; simp_all)) True.intro)
  ·have sg10 := g10
   try simp only [q1, q2, q3, q4, q5, q6, q7, q8, q9] at sg10
   refine RunS.s0f g10 ?_
   refine RunS.s0f g10 ?_
   refine rA ?_ (x := pkF g10)
   refine rA ?_ (x := sA)
   refine sw_ret ?_
   exact (And.intro (by refine bool_eq ?_; first | (simp_all [matchRow]; done) | (unfold matchRow; simp_all)) True.intro)
theorem impl_matching {p3 : Fl} {q : Query} {l : List Row}  (hb : wtRowS l ≤ 68719476736) : SCall Try.prog 124 [(true, [PV.val (vI q.Id), PV.val (vI q.Tenant), PV.sl .v (q.Conds.map cCond), PV.sl .v (q.Out.map cInt)]), (false, [PV.sl .v (l.map (cRow p3))])] (resRV [(false, [PV.sl (.own 87 2) ((found q l).map (cRow (.own 3 1)))])]) := by
 refine scall_of (rs := [(false, [PV.sl (.own 87 2) ((found q l).map (cRow (.own 3 1)))])]) Try.func124 rfl (Nat.le_of_ble_eq_true rfl) (borA_cons (BorL.cons (PV.bor_val _) (BorL.cons (PV.bor_val _) (BorL.cons (PV.bor_sl _) (BorL.cons (PV.bor_sl _) BorL.nil)))) (borA_cons (BorL.cons (PV.bor_sl _) BorL.nil) borA_nil)) ?_
 intro h0 w0 Fz0
 refine sw_slen (s := 0) (j := 2) rfl rfl fun hl0_2 => ?_
 try rw [List.length_map] at hl0_2
 refine sw_slen (s := 0) (j := 3) rfl rfl fun hl0_3 => ?_
 try rw [List.length_map] at hl0_3
 refine sw_len (s := 1) rfl fun hl1 => ?_
 try rw [List.length_map] at hl1
 have hbu := hb
 simp only [wtRowS] at hbu
 refine sw_seq ?_
 refine sw_reg ?_
 refine RunS.step (by exact ⟨rfl, ⟨⟩⟩) (by exact ⟨⟩) (LocG.of rfl (loc_box (ag := true) (cs := [PV.val _, PV.val _, PV.sl _ _, PV.sl _ _]) (by decide) (by exact ⟨⟩))) (free1 (Free.of_ rfl)) ?_
 refine rA ?_ (x := loc_const (.inr rfl) (by decide) (ok_nil (t := 87) (e := 2)))
 refine sw_seq ?_
 refine sO [(1, _), (2, _), (4, _)] [(2, (56, [PV.val _, PV.val _, PV.sl _ _, PV.sl _ _]))] ?_
 refine sw_reg ?_
 refine rA ?_ (x := loc_bslice (qs := []) (by decide) sl_32 z_87 (by decide) rfl rfl rfl rfl rfl (by exact Nat.le_of_ble_eq_true rfl) (by exact ⟨⟩) rfl)
 refine rA ?_ (x := tA)
 refine sw_seq ?_
 refine sw_seq ?_
 refine sO [(1, _), (2, _), (4, _), (5, _)] [(2, _)] ?_
 refine sw_reg ?_
 refine rA ?_ (x := vM false [PV.sl .v _])
 refine rA ?_ (x := lN sl_32)
 refine rA ?_ (x := kM)
 refine sw_block ?_
 refine sO [(1, _), (2, _), (4, _), (5, _), (9, _), (10, _), (11, _)] [(2, _)] ?_
 refine sw_loop (l0 := [(1, RV.sv false [PV.sl _ _]), (2, RV.ptr 2 0), (4, RV.sv false [PV.sl _ _]), (9, RV.sv false [PV.sl _ _]), (10, RV.sv false [PV.val _])]) (b0 := [(2, (56, [PV.val _, PV.val _, PV.sl _ _, PV.sl _ _]))]) (fun k : Nat => k ≤ l.length) (fun k : Nat => [(5, RV.slc (.own 87 2) ((found q (l.take k)).map (cRow (.own 3 1)))), (11, RV.int (k : Int))]) (fun k : Nat => []) (fun k : Nat => l.length - k) 0 (by omega) (by exact ⟨rfl, rfl, rfl, rfl, rfl, ⟨⟩⟩) (by exact ⟨rfl, ⟨⟩⟩) (by exact And.intro (by first | exact rfl | simp) (And.intro (by exact rfl) (True.intro))) (by exact ⟨⟩) ?_
 rintro k hk
 refine sw_seq ?_
 refine sw_reg ?_
 refine rA ?_ (x := B_lss)
 refine sw_seq ?_
 refine sw_cond (t := 12) rfl (fun hb1 => ?_) (fun hb1 => ?_)
 ·try simp only [q1, q2, q3, q4, q5, q6, q7, q8, q9] at hb1
  have hlt : k < l.length := by omega
  have hwm := wt_mem (f := wtRow) hlt
  have hfl := found_le (q := q) (l := l) (k := k)
  refine sw_skip ?_
  refine sw_seq ?_
  refine sw_block ?_
  refine sw_seq ?_
  refine sO [(1, _), (2, _), (4, _), (5, _), (9, _), (10, _), (11, _)] [(2, (56, [PV.val _, PV.val _, PV.sl _ _, PV.sl _ _]))] ?_
  refine sw_reg ?_
  refine rA ?_ (x := loc_index (by decide) sl_32 (by exact ⟨⟩) (by exact rfl) (by exact getm2 (by omega) rfl) (by exact rfl))
  refine rA ?_ (x := lE [PV.val _, PV.sl .v _] ty_87)
  refine RunS.step (by exact ⟨⟩) (by exact ⟨⟩) (LocG.of rfl (loc_alloc (by decide) z_87 zo_87)) (free1 (Free.app (Free.app (Free.of_ rfl) rfl) rfl)) ?_
  refine rA ?_ (x := loc_store (ag := true) (vs := [PV.val _, PV.sl _ _]) ty_87 (by exact ⟨⟩) (by exact rfl) (by exact Nat.le_of_ble_eq_true rfl))
  refine sw_seq ?_
  refine sO [(1, _), (2, _), (4, _), (5, _), (7, _), (9, _), (10, _), (11, _)] [(2, _), (7, (87, [PV.val _, PV.sl _ _]))] ?_
  refine sw_reg ?_
  refine rA ?_ (x := lD [PV.val _, PV.val _, PV.sl .v _, PV.sl .v _] ty_56)
  refine rA ?_ (x := lD [PV.val _, PV.sl .v _] ty_87)
  refine rA ?_ (x := cL [(true, [PV.val _, PV.val _, PV.sl _ _, PV.sl _ _]), (true, [PV.val _, PV.sl _ _])] [(true, [PV.val _, PV.val _, PV.sl .v _, PV.sl .v _]), (true, [PV.val _, PV.sl .v _])] c_138 (hs := by exact impl_MatchesRow))
  refine sw_cond (t := 17) rfl (fun hb2 => ?_) (fun hb2 => ?_)
  ·try simp only [q1, q2, q3, q4, q5, q6, q7, q8, q9] at hb2
   have hc := hb2
   refine sO [(1, _), (2, _), (4, _), (5, _), (7, _), (9, _), (10, _), (11, _)] [(2, _), (7, _)] ?_
   refine sw_reg ?_
   refine rA ?_ (x := tM)
   refine rA ?_ (x := lD [PV.val _, PV.sl .v _] ty_87)
   refine rA ?_ (x := cL [(true, [PV.val _, PV.sl _ _])] [(true, [PV.val _, PV.sl .v _])] c_59 (hs := by exact impl_copyRow (by omega)))
   refine rA ?_ (x := loc_bslice (qs := [(true, [PV.val _, PV.sl _ _])]) (by decide) sl_32 z_87 (by decide) rfl rfl rfl rfl rfl (by exact Nat.le_of_ble_eq_true rfl) (by exact (And.intro (by exact ⟨⟩) True.intro)) rfl)
   refine rA ?_ (x := loc_append (by decide) sl_32 z_87 rfl rfl (by decide) rfl (by simp only [List.length_map, List.length_append, List.length_cons, List.length_nil]; omega) (by simp only [List.length_map, List.length_append, List.length_cons, List.length_nil]; omega))
   refine rA ?_ (x := tA)
   refine sO [(1, _), (2, _), (4, _), (5, _), (7, _), (9, _), (10, _), (11, _)] [(2, _), (7, _)] ?_
   refine sw_reg ?_
   refine rA ?_ (x := B_add)
   refine rA ?_ (x := sM)
   refine Exists.intro (k + 1) (And.intro (by omega) (And.intro (by omega) (And.intro (And.intro (by exact ⟨rfl, rfl, rfl, rfl, rfl, ⟨⟩⟩) (by exact ⟨rfl, ⟨⟩⟩)) (And.intro (by exact And.intro (by first | exact slc_eq (by rw [found_yes hlt hc, List.map_append]; rfl) | exact slc_eq (by rw [found_no hlt hc])) (And.intro (by exact rfl) (True.intro))) (by exact ⟨⟩)))))
  ·try simp only [q1, q2, q3, q4, q5, q6, q7, q8, q9] at hb2
   have hc := hb2
   refine sw_skip ?_
   refine sO [(1, _), (2, _), (4, _), (5, _), (7, _), (9, _), (10, _), (11, _)] [(2, _), (7, _)] ?_
   refine sw_reg ?_
   refine rA ?_ (x := B_add)
   refine rA ?_ (x := sM)
   refine Exists.intro (k + 1) (And.intro (by omega) (And.intro (by omega) (And.intro (And.intro (by exact ⟨rfl, rfl, rfl, rfl, rfl, ⟨⟩⟩) (by exact ⟨rfl, ⟨⟩⟩)) (And.intro (by exact And.intro (by first | exact slc_eq (by rw [found_yes hlt hc, List.map_append]; rfl) | exact slc_eq (by rw [found_no hlt hc])) (And.intro (by exact rfl) (True.intro))) (by exact ⟨⟩)))))
 ·try simp only [q1, q2, q3, q4, q5, q6, q7, q8, q9] at hb1
  have hend : k = l.length := by omega
  refine sw_exit ?_
  refine sw_seq ?_
  refine sO [(1, _), (2, _), (4, _), (5, _), (9, _), (10, _), (11, _)] [(2, (56, [PV.val _, PV.val _, PV.sl _ _, PV.sl _ _]))] ?_
  refine sw_reg ?_
  refine rA ?_ (x := tM)
  refine rA ?_ (x := tA)
  refine sw_ret ?_
  exact (And.intro (by refine slc_eq ?_; rw [hend, List.take_length]) True.intro)
end Go.Proofs.Ytloipjaiceifbaa
