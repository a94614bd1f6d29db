/- What functions of the program compute. No condition. -/
import Derived.Test.YtaomckpfgmhapaaCEqPFnTops
import Derived.Test.YtaomckpfgmhapaaCDs
import Derived.KernelRfl
set_option linter.unusedVariables false
set_option linter.unusedSimpArgs false
namespace Go.Proofs.Ytaomckpfgmhapaa
open Go Go.RowKit M
set_option maxRecDepth 10000
attribute [local irreducible] PV.Lcl PV.LclR RV.Lcl
theorem cmp_isNaN {x : Int}  : SCall Try.prog 66 [(false, [PV.val (vI x)])] (resRV [(false, [PV.val (.bool false)])]) := by
 refine scall_of (rs := [(false, [PV.val (.bool false)])]) Try.func66 rfl (Nat.le_of_ble_eq_true rfl) (borA_cons (BorL.cons (PV.bor_val _) BorL.nil) borA_nil) ?_
 intro h0 w0 Fz0
 refine sw_seq ?_
 refine sw_reg ?_
 refine rA ?_ (x := kA)
 refine sw_seq ?_
 refine sO [(0, _), (2, _)] [] ?_
 refine sw_reg ?_
 refine rA ?_ (x := sM)
 refine rA ?_ (x := sM)
 refine rA ?_ (x := B_neq)
 refine rA ?_ (x := sA)
 refine sw_ret ?_
 exact (And.intro (by refine bool_eq ?_; simp) True.intro)
theorem cmp_Compare {x : Int} {y : Int}  : SCall Try.prog 50 [(false, [PV.val (vI x)]), (false, [PV.val (vI y)])] (resRV [(false, [PV.val (vI (cmpI x y))])]) := by
 refine scall_of (rs := [(false, [PV.val (vI (cmpI x y))])]) Try.func50 rfl (Nat.le_of_ble_eq_true rfl) (borA_cons (BorL.cons (PV.bor_val _) BorL.nil) (borA_cons (BorL.cons (PV.bor_val _) BorL.nil) borA_nil)) ?_
 intro h0 w0 Fz0
 refine sw_seq ?_
 refine sw_reg ?_
 refine rA ?_ (x := kA)
 refine sw_seq ?_
 refine sO [(0, _), (1, _), (4, _)] [] ?_
 refine sw_reg ?_
 refine rA ?_ (x := sM)
 refine rA ?_ (x := cL [(false, [PV.val _])] [(false, [PV.val _])] c_66 (hs := by exact cmp_isNaN))
 refine rA ?_ (x := sA)
 refine sw_seq ?_
 refine sO [(0, _), (1, _), (4, _), (5, _)] [] ?_
 refine sw_reg ?_
 refine rA ?_ (x := sM)
 refine rA ?_ (x := cL [(false, [PV.val _])] [(false, [PV.val _])] c_66 (hs := by exact cmp_isNaN))
 refine rA ?_ (x := sA)
 refine sw_seq ?_
 refine sw_seq ?_
 refine sO [(0, _), (1, _), (4, _), (5, _), (6, _)] [] ?_
 refine sw_reg ?_
 refine rA ?_ (x := sM)
 refine sw_cond (t := 11) rfl (fun hb1 => ?_) (fun hb1 => ?_)
 ·try simp only [q1, q2, q3, q4, q5, q6, q7, q8, q9] at hb1
  refine sw_seq ?_
  refine sw_seq ?_
  refine sO [(0, _), (1, _), (4, _), (5, _), (6, _)] [] ?_
  refine sw_reg ?_
  refine rA ?_ (x := sM)
  refine sw_cond (t := 12) rfl (fun hb2 => ?_) (fun hb2 => ?_)
  ·try simp only [q1, q2, q3, q4, q5, q6, q7, q8, q9] at hb2
   refine sw_seq ?_
   refine sO [(0, _), (1, _), (4, _), (5, _), (6, _)] [] ?_
   refine sw_reg ?_
   refine rA ?_ (x := kA)
   refine sw_ret ?_
   exact (And.intro (by refine int_eq ?_; first | (exfalso; simp_all; done) | (unfold cmpI lexI; repeat' split) <;> (first | omega | simp_all)) True.intro)
  ·try simp only [q1, q2, q3, q4, q5, q6, q7, q8, q9] at hb2
   refine sw_skip ?_
   refine sw_seq ?_
   refine sO [(0, _), (1, _), (4, _), (5, _), (6, _)] [] ?_
   refine sw_reg ?_
   refine rA ?_ (x := kA)
   refine sw_ret ?_
   exact (And.intro (by refine int_eq ?_; first | (exfalso; simp_all; done) | (unfold cmpI lexI; repeat' split) <;> (first | omega | simp_all)) True.intro)
 ·try simp only [q1, q2, q3, q4, q5, q6, q7, q8, q9] at hb1
  refine sw_skip ?_
  refine sw_seq ?_
  refine sw_seq ?_
  refine sO [(0, _), (1, _), (4, _), (5, _), (6, _)] [] ?_
  refine sw_reg ?_
  refine rA ?_ (x := sM)
  refine sw_cond (t := 13) rfl (fun hb3 => ?_) (fun hb3 => ?_)
  ·try simp only [q1, q2, q3, q4, q5, q6, q7, q8, q9] at hb3
   refine sw_seq ?_
   refine sO [(0, _), (1, _), (4, _), (5, _), (6, _)] [] ?_
   refine sw_reg ?_
   refine rA ?_ (x := kA)
   refine sw_ret ?_
   exact (And.intro (by refine int_eq ?_; first | (exfalso; simp_all; done) | (unfold cmpI lexI; repeat' split) <;> (first | omega | simp_all)) True.intro)
  ·try simp only [q1, q2, q3, q4, q5, q6, q7, q8, q9] at hb3
   refine sw_skip ?_
   refine sw_seq ?_
   refine sw_seq ?_
   refine sO [(0, _), (1, _), (4, _), (5, _), (6, _)] [] ?_
   refine sw_reg ?_
   refine rA ?_ (x := sM)
   refine rA ?_ (x := sM)
   refine rA ?_ (x := B_lss)
   refine sw_cond (t := 16) rfl (fun hb4 => ?_) (fun hb4 => ?_)
   ·try simp only [q1, q2, q3, q4, q5, q6, q7, q8, q9] at hb4
    refine sw_seq ?_
    refine sO [(0, _), (1, _), (4, _), (5, _), (6, _)] [] ?_
    refine sw_reg ?_
    refine rA ?_ (x := kA)
    refine sw_ret ?_
    exact (And.intro (by refine int_eq ?_; first | (exfalso; simp_all; done) | (unfold cmpI lexI; repeat' split) <;> (first | omega | simp_all)) True.intro)
   ·try simp only [q1, q2, q3, q4, q5, q6, q7, q8, q9] at hb4
    refine sw_skip ?_
    refine sw_seq ?_
    refine sw_seq ?_
    refine sO [(0, _), (1, _), (4, _), (5, _), (6, _)] [] ?_
    refine sw_reg ?_
    refine rA ?_ (x := sM)
    refine rA ?_ (x := sM)
    refine rA ?_ (x := B_gtr)
    refine sw_cond (t := 19) rfl (fun hb5 => ?_) (fun hb5 => ?_)
    ·try simp only [q1, q2, q3, q4, q5, q6, q7, q8, q9] at hb5
     refine sw_seq ?_
     refine sO [(0, _), (1, _), (4, _), (5, _), (6, _)] [] ?_
     refine sw_reg ?_
     refine rA ?_ (x := kA)
     refine sw_ret ?_
     exact (And.intro (by refine int_eq ?_; first | (exfalso; simp_all; done) | (unfold cmpI lexI; repeat' split) <;> (first | omega | simp_all)) True.intro)
    ·try simp only [q1, q2, q3, q4, q5, q6, q7, q8, q9] at hb5
     refine sw_skip ?_
     refine sw_seq ?_
     refine sO [(0, _), (1, _), (4, _), (5, _), (6, _)] [] ?_
     refine sw_reg ?_
     refine rA ?_ (x := kA)
     refine sw_ret ?_
     exact (And.intro (by refine int_eq ?_; first | (exfalso; simp_all; done) | (unfold cmpI lexI; repeat' split) <;> (first | omega | simp_all)) True.intro)
end Go.Proofs.Ytaomckpfgmhapaa
