/- What functions of the program compute. No condition. -/
import Derived.Test.YtloipjaiceifbaaCCluClusterRows
import Derived.KernelRfl
set_option linter.unusedVariables false
set_option linter.unusedSimpArgs false
namespace Go.Proofs.Ytloipjaiceifbaa
open Go Go.RowKit M
set_option maxRecDepth 10000
attribute [local irreducible] PV.Lcl PV.LclR RV.Lcl
theorem impl_startOk {p3 p4 : Fl} {q : Query} {l : List (List Row)} {m : Int}  (hb : wtRowSS l ≤ 68719476736) : SCall Try.prog 86 [(true, [PV.val (vI q.Id), PV.val (vI q.Tenant), PV.sl .v (q.Conds.map cCond), PV.sl .v (q.Out.map cInt)]), (false, [PV.sl .v (l.map (cRowS p3 p4))]), (false, [PV.val (vI m)])] (resRV [(false, [PV.val (.bool (okQuery q && (okParts l && inB m 2 4)))])]) := by
 refine scall_of (rs := [(false, [PV.val (.bool (okQuery q && (okParts l && inB m 2 4)))])]) Try.func86 rfl (Nat.le_of_ble_eq_true rfl) (borA_cons (BorL.cons (PV.bor_val _) (BorL.cons (PV.bor_val _) (BorL.cons (PV.bor_sl _) (BorL.cons (PV.bor_sl _) BorL.nil)))) (borA_cons (BorL.cons (PV.bor_sl _) BorL.nil) (borA_cons (BorL.cons (PV.bor_val _) BorL.nil) borA_nil))) ?_
 intro h0 w0 Fz0
 refine sw_slen (s := 0) (j := 2) rfl rfl fun hl0_2 => ?_
 try rw [List.length_map] at hl0_2
 refine sw_slen (s := 0) (j := 3) rfl rfl fun hl0_3 => ?_
 try rw [List.length_map] at hl0_3
 refine sw_len (s := 1) rfl fun hl1 => ?_
 try rw [List.length_map] at hl1
 have hbu := hb
 simp only [wtRowSS] at hbu
 refine sw_seq ?_
 refine sw_reg ?_
 refine RunS.step (by exact ⟨rfl, ⟨⟩⟩) (by exact ⟨⟩) (LocG.of rfl (loc_box (ag := true) (cs := [PV.val _, PV.val _, PV.sl _ _, PV.sl _ _]) (by decide) (by exact ⟨⟩))) (free1 (Free.of_ rfl)) ?_
 refine rA ?_ (x := kA)
 refine sw_seq ?_
 refine sw_seq ?_
 refine sO [(1, _), (2, _), (3, _), (6, _)] [(3, (56, [PV.val _, PV.val _, PV.sl _ _, PV.sl _ _]))] ?_
 refine sw_reg ?_
 refine rA ?_ (x := lD [PV.val _, PV.val _, PV.sl .v _, PV.sl .v _] ty_56)
 refine rA ?_ (x := cL [(true, [PV.val _, PV.val _, PV.sl _ _, PV.sl _ _])] [(true, [PV.val _, PV.val _, PV.sl .v _, PV.sl .v _])] c_116 (hs := by exact impl_IsQuery))
 refine rA ?_ (x := nT)
 refine rA ?_ (x := sM)
 refine RunS.cases (s := 15) rfl (fun g1 => ?_) (fun g1 => ?_)
 ·have sg1 := g1
  try simp only [q1, q2, q3, q4, q5, q6, q7, q8, q9] at sg1
  refine RunS.s0t g1 ?_
  refine RunS.s0t g1 ?_
  refine RunS.s0t g1 ?_
  refine RunS.s0t g1 ?_
  refine rA ?_ (x := pkT g1)
  refine rA ?_ (x := sM)
  refine RunS.cases (s := 21) rfl (fun g2 => ?_) (fun g2 => nomatch g2)
  refine RunS.s0t g2 ?_
  refine RunS.s0t g2 ?_
  refine RunS.s0t g2 ?_
  refine rA ?_ (x := pkT g2)
  refine sw_cond (t := 25) rfl (fun hb_ => ?_) (fun hb_ => nomatch hb_)
  have hbad : (okQuery q && (okParts l && inB m 2 4)) = false := by simp_all [okParts]; try omega
  refine sw_seq ?_
  refine sO [(1, _), (2, _), (3, _), (6, _)] [(3, _)] ?_
  refine sw_reg ?_
  refine rA ?_ (x := kA)
  refine sw_ret ?_
  exact (And.intro (by refine bool_eq ?_; exact hbad.symm) True.intro)
 ·have sg1 := g1
  try simp only [q1, q2, q3, q4, q5, q6, q7, q8, q9] at sg1
  refine rB g1 ?_ (x := vM false [PV.sl .v _])
  refine rB g1 ?_ (x := lN sl_57)
  refine rB g1 ?_ (x := cL [(false, [PV.val _]), (false, [PV.val _]), (false, [PV.val _])] [(false, [PV.val _]), (false, [PV.val _]), (false, [PV.val _])] c_68 (hs := by exact impl_within))
  refine rB g1 ?_ (x := nT)
  refine rA ?_ (x := pkF g1)
  refine rA ?_ (x := sM)
  refine RunS.cases (s := 21) rfl (fun g4 => ?_) (fun g4 => ?_)
  ·have sg4 := g4
   try simp only [q1, q2, q3, q4, q5, q6, q7, q8, q9] at sg4
   refine RunS.s0t g4 ?_
   refine RunS.s0t g4 ?_
   refine RunS.s0t g4 ?_
   refine rA ?_ (x := pkT g4)
   refine sw_cond (t := 25) rfl (fun hb_ => ?_) (fun hb_ => nomatch hb_)
   have hbad : (okQuery q && (okParts l && inB m 2 4)) = false := by simp_all [okParts]; try omega
   refine sw_seq ?_
   refine sO [(1, _), (2, _), (3, _), (6, _)] [(3, _)] ?_
   refine sw_reg ?_
   refine rA ?_ (x := kA)
   refine sw_ret ?_
   exact (And.intro (by refine bool_eq ?_; exact hbad.symm) True.intro)
  ·have sg4 := g4
   try simp only [q1, q2, q3, q4, q5, q6, q7, q8, q9] at sg4
   refine rB g4 ?_ (x := sM)
   refine rB g4 ?_ (x := cL [(false, [PV.val _]), (false, [PV.val _]), (false, [PV.val _])] [(false, [PV.val _]), (false, [PV.val _]), (false, [PV.val _])] c_68 (hs := by exact impl_within))
   refine rB g4 ?_ (x := nT)
   refine rA ?_ (x := pkF g4)
   refine sw_cond (t := 25) rfl (fun hb6 => ?_) (fun hb6 => ?_)
   ·try simp only [q1, q2, q3, q4, q5, q6, q7, q8, q9] at hb6
    have hbad : (okQuery q && (okParts l && inB m 2 4)) = false := by simp_all [okParts]; try omega
    refine sw_seq ?_
    refine sO [(1, _), (2, _), (3, _), (6, _)] [(3, _)] ?_
    refine sw_reg ?_
    refine rA ?_ (x := kA)
    refine sw_ret ?_
    exact (And.intro (by refine bool_eq ?_; exact hbad.symm) True.intro)
   ·try simp only [q1, q2, q3, q4, q5, q6, q7, q8, q9] at hb6
    have hok : okQuery q = true ∧ inB l.length 1 8 = true ∧ inB m 2 4 = true := by simp_all
    refine sw_skip ?_
    refine sw_seq ?_
    refine sO [(1, _), (2, _), (3, _), (6, _)] [(3, _)] ?_
    refine sw_reg ?_
    refine rA ?_ (x := loc_bslice (qs := []) (by decide) sl_38 z_3 (by decide) rfl rfl rfl rfl rfl (by exact Nat.le_of_ble_eq_true rfl) (by exact ⟨⟩) rfl)
    refine rA ?_ (x := tA)
    refine sw_seq ?_
    refine sw_seq ?_
    refine sO [(1, _), (2, _), (3, _), (6, _), (7, _)] [(3, _)] ?_
    refine sw_reg ?_
    refine rA ?_ (x := vM false [PV.sl .v _])
    refine rA ?_ (x := lN sl_57)
    refine rA ?_ (x := kM)
    refine sw_block ?_
    refine sO [(1, _), (2, _), (3, _), (6, _), (7, _), (27, _), (28, _), (29, _)] [(3, _)] ?_
    refine sw_loop (l0 := [(1, RV.sv false [PV.sl _ _]), (2, RV.sv false [PV.val _]), (3, RV.ptr 3 0), (27, RV.sv false [PV.sl _ _]), (28, RV.sv false [PV.val _])]) (b0 := [(3, (56, [PV.val _, PV.val _, PV.sl _ _, PV.sl _ _]))]) (fun k : Nat => k ≤ l.length ∧ (∀ i : Nat, (h : i < k) → (h2 : i < l.length) → segB l[i] = true) ∧ (idsOf (l.take k)).Nodup) (fun k : Nat => [(7, RV.slc (.own 3 1) ((idsOf (l.take k)).map cInt)), (29, RV.int (k : Int))]) (fun k : Nat => []) (fun k : Nat => l.length - k) 0 (by exact ⟨by omega, ⟨fun i hi => absurd hi (Nat.not_lt_zero _), by simp [idsOf]⟩⟩) (by exact ⟨rfl, rfl, rfl, rfl, rfl, ⟨⟩⟩) (by exact ⟨rfl, ⟨⟩⟩) (by exact And.intro (by first | exact rfl | simp) (And.intro (by exact rfl) (True.intro))) (by exact ⟨⟩) ?_
    rintro k ⟨hk, hsg, hnd⟩
    refine sw_seq ?_
    refine sw_reg ?_
    refine rA ?_ (x := B_lss)
    refine sw_seq ?_
    refine sw_cond (t := 30) rfl (fun hb7 => ?_) (fun hb7 => ?_)
    ·try simp only [q1, q2, q3, q4, q5, q6, q7, q8, q9] at hb7
     have hlt : k < l.length := by omega
     refine sw_skip ?_
     refine sw_seq ?_
     refine sw_block ?_
     refine sw_seq ?_
     refine sO [(1, _), (2, _), (3, _), (7, _), (27, _), (28, _), (29, _)] [(3, (56, [PV.val _, PV.val _, PV.sl _ _, PV.sl _ _]))] ?_
     refine sw_reg ?_
     refine rA ?_ (x := loc_index (by decide) sl_57 (by exact ⟨⟩) (by exact rfl) (by exact getm2 (by omega) rfl) (by exact rfl))
     refine rA ?_ (x := lE [PV.sl .v _] ty_32)
     refine rA ?_ (x := vA false [PV.sl .v _])
     refine sw_seq ?_
     refine sw_seq ?_
     refine sO [(1, _), (2, _), (3, _), (7, _), (9, _), (27, _), (28, _), (29, _)] [(3, _)] ?_
     refine sw_reg ?_
     refine rA ?_ (x := vM false [PV.sl .v _])
     refine rA ?_ (x := lN sl_32)
     refine rA ?_ (x := B_gtr)
     refine rA ?_ (x := sM)
     refine RunS.cases (s := 36) rfl (fun g8 => ?_) (fun g8 => ?_)
     ·have sg8 := g8
      try simp only [q1, q2, q3, q4, q5, q6, q7, q8, q9] at sg8
      refine RunS.s0t g8 ?_
      refine RunS.s0t g8 ?_
      refine RunS.s0t g8 ?_
      refine rA ?_ (x := pkT g8)
      refine sw_cond (t := 40) rfl (fun hb_ => ?_) (fun hb_ => nomatch hb_)
      have hbad : okParts l = false := okParts_seg hlt (Bool.eq_false_iff.2 fun e => by unfold segB at e; rw [Bool.and_eq_true] at e; first | (have e1 := of_decide_eq_true e.1; omega) | (simp_all; done))
      refine sw_seq ?_
      refine sO [(1, _), (2, _), (3, _), (7, _), (9, _), (27, _), (28, _), (29, _)] [(3, _)] ?_
      refine sw_reg ?_
      refine rA ?_ (x := kA)
      refine sw_ret ?_
      exact (And.intro (by refine bool_eq ?_; simp [hbad]) True.intro)
     ·have sg8 := g8
      try simp only [q1, q2, q3, q4, q5, q6, q7, q8, q9] at sg8
      refine rB g8 ?_ (x := vM false [PV.sl .v _])
      refine rB g8 ?_ (x := cL [(false, [PV.sl _ _])] [(false, [PV.sl .v _])] c_117 (hs := by exact impl_allRows))
      refine rB g8 ?_ (x := nT)
      refine rA ?_ (x := pkF g8)
      refine sw_cond (t := 40) rfl (fun hb10 => ?_) (fun hb10 => ?_)
      ·try simp only [q1, q2, q3, q4, q5, q6, q7, q8, q9] at hb10
       have hbad : okParts l = false := okParts_seg hlt (Bool.eq_false_iff.2 fun e => by unfold segB at e; rw [Bool.and_eq_true] at e; first | (have e1 := of_decide_eq_true e.1; omega) | (simp_all; done))
       refine sw_seq ?_
       refine sO [(1, _), (2, _), (3, _), (7, _), (9, _), (27, _), (28, _), (29, _)] [(3, _)] ?_
       refine sw_reg ?_
       refine rA ?_ (x := kA)
       refine sw_ret ?_
       exact (And.intro (by refine bool_eq ?_; simp [hbad]) True.intro)
      ·try simp only [q1, q2, q3, q4, q5, q6, q7, q8, q9] at hb10
       have hseg : segB l[k] = true := by simp_all [segB]
       have hwm := wt_mem (f := wtRowS) hlt
       refine sw_skip ?_
       refine sw_seq ?_
       refine sO [(1, _), (2, _), (3, _), (7, _), (9, _), (27, _), (28, _), (29, _)] [(3, _)] ?_
       refine sw_reg ?_
       refine rA ?_ (x := vM false [PV.sl .v _])
       refine rA ?_ (x := lN sl_32)
       refine rA ?_ (x := kM)
       refine sw_block ?_
       refine sO [(1, _), (2, _), (3, _), (7, _), (9, _), (27, _), (28, _), (29, _), (41, _), (42, _), (43, _)] [(3, _)] ?_
       refine sw_loop (l0 := [(1, RV.sv false [PV.sl _ _]), (2, RV.sv false [PV.val _]), (3, RV.ptr 3 0), (9, RV.sv false [PV.sl _ _]), (27, RV.sv false [PV.sl _ _]), (28, RV.sv false [PV.val _]), (29, RV.sv false [PV.val _]), (41, RV.sv false [PV.sl _ _]), (42, RV.sv false [PV.val _])]) (b0 := [(3, (56, [PV.val _, PV.val _, PV.sl _ _, PV.sl _ _]))]) (fun k2 : Nat => k2 ≤ l[k].length ∧ (idsOf (l.take k) ++ (l[k].take k2).map Row.Id).Nodup) (fun k2 : Nat => [(7, RV.slc (.own 3 1) ((idsOf (l.take k) ++ (l[k].take k2).map Row.Id).map cInt)), (43, RV.int (k2 : Int))]) (fun k2 : Nat => []) (fun k2 : Nat => l[k].length - k2) 0 (by exact ⟨by omega, by simpa using hnd⟩) (by exact ⟨rfl, rfl, rfl, rfl, rfl, rfl, rfl, rfl, rfl, ⟨⟩⟩) (by exact ⟨rfl, ⟨⟩⟩) (by exact And.intro (by exact slc_eq (by simp)) (And.intro (by exact rfl) (True.intro))) (by exact ⟨⟩) ?_
       rintro k2 ⟨hk2, ha2⟩
       refine sw_seq ?_
       refine sw_reg ?_
       refine rA ?_ (x := B_lss)
       refine sw_seq ?_
       refine sw_cond (t := 44) rfl (fun hb11 => ?_) (fun hb11 => ?_)
       ·try simp only [q1, q2, q3, q4, q5, q6, q7, q8, q9] at hb11
        have hlt2 : k2 < l[k].length := by omega
        have hil := ids_le2 (l := l) (k := k) (j := k2) hlt
        simp only [List.length_append, List.length_map] at hil
        refine sw_skip ?_
        refine sw_seq ?_
        refine sw_block ?_
        refine sw_seq ?_
        refine sO [(1, _), (2, _), (3, _), (7, _), (9, _), (27, _), (28, _), (29, _), (41, _), (42, _), (43, _)] [(3, (56, [PV.val _, PV.val _, PV.sl _ _, PV.sl _ _]))] ?_
        refine sw_reg ?_
        refine rA ?_ (x := loc_index (by decide) sl_32 (by exact ⟨⟩) (by exact rfl) (by exact getm2 (by omega) rfl) (by exact rfl))
        refine rA ?_ (x := lE [PV.val _, PV.sl .v _] ty_87)
        refine RunS.step (by exact ⟨⟩) (by exact ⟨⟩) (LocG.of rfl (loc_alloc (by decide) z_87 zo_87)) (free1 (Free.app (Free.app (Free.of_ rfl) rfl) rfl)) ?_
        refine rA ?_ (x := loc_store (ag := true) (vs := [PV.val _, PV.sl _ _]) ty_87 (by exact ⟨⟩) (by exact rfl) (by exact Nat.le_of_ble_eq_true rfl))
        refine sw_seq ?_
        refine sw_seq ?_
        refine sO [(1, _), (2, _), (3, _), (7, _), (9, _), (11, _), (27, _), (28, _), (29, _), (41, _), (42, _), (43, _)] [(3, _), (11, (87, [PV.val _, PV.sl _ _]))] ?_
        refine sw_reg ?_
        refine rA ?_ (x := vM false [PV.sl .v _])
        refine rA ?_ (x := lF fd_87_0)
        refine rA ?_ (x := lD [PV.val _] ty_3)
        refine rA ?_ (x := cL [(false, [PV.sl _ _]), (false, [PV.val _])] [(false, [PV.sl .v _]), (false, [PV.val _])] c_112 (hs := by exact impl_hasInt))
        refine sw_cond (t := 50) rfl (fun hb12 => ?_) (fun hb12 => ?_)
        ·try simp only [q1, q2, q3, q4, q5, q6, q7, q8, q9] at hb12
         have hbad : okParts l = false := okParts_dup hlt hlt2 hb12
         refine sw_seq ?_
         refine sO [(1, _), (2, _), (3, _), (7, _), (9, _), (11, _), (27, _), (28, _), (29, _), (41, _), (42, _), (43, _)] [(3, _), (11, _)] ?_
         refine sw_reg ?_
         refine rA ?_ (x := kA)
         refine sw_ret ?_
         exact (And.intro (by refine bool_eq ?_; simp [hbad]) True.intro)
        ·try simp only [q1, q2, q3, q4, q5, q6, q7, q8, q9] at hb12
         have hdu := hb12
         refine sw_skip ?_
         refine sO [(1, _), (2, _), (3, _), (7, _), (9, _), (11, _), (27, _), (28, _), (29, _), (41, _), (42, _), (43, _)] [(3, _), (11, _)] ?_
         refine sw_reg ?_
         refine rA ?_ (x := tM)
         refine rA ?_ (x := lF fd_87_0)
         refine rA ?_ (x := lD [PV.val _] ty_3)
         refine rA ?_ (x := loc_bslice (qs := [(false, [PV.val _])]) (by decide) sl_38 z_3 (by decide) rfl rfl rfl rfl rfl (by exact Nat.le_of_ble_eq_true rfl) (by exact (And.intro (by exact ⟨⟩) True.intro)) rfl)
         refine rA ?_ (x := loc_append (by decide) sl_38 z_3 rfl rfl (by decide) rfl (by simp only [List.length_map, List.length_append, List.length_cons, List.length_nil]; omega) (by simp only [List.length_map, List.length_append, List.length_cons, List.length_nil]; omega))
         refine rA ?_ (x := tA)
         refine sO [(1, _), (2, _), (3, _), (7, _), (9, _), (11, _), (27, _), (28, _), (29, _), (41, _), (42, _), (43, _)] [(3, _), (11, _)] ?_
         refine sw_reg ?_
         refine rA ?_ (x := B_add)
         refine rA ?_ (x := sM)
         refine Exists.intro (k2 + 1) (And.intro (by exact ⟨by omega, by rw [ids_row hlt hlt2]; exact nodup_snoc ha2 hdu⟩) (And.intro (by omega) (And.intro (And.intro (by exact ⟨rfl, rfl, rfl, rfl, rfl, rfl, rfl, rfl, rfl, ⟨⟩⟩) (by exact ⟨rfl, ⟨⟩⟩)) (And.intro (by exact And.intro (by exact slc_eq (by rw [ids_row hlt hlt2]; simp [cInt])) (And.intro (by exact rfl) (True.intro))) (by exact ⟨⟩)))))
       ·try simp only [q1, q2, q3, q4, q5, q6, q7, q8, q9] at hb11
        have hsegs : ∀ i : Nat, (h : i < k + 1) → (h2 : i < l.length) → segB l[i] = true := fun i h h2 => by by_cases e : i = k; (· subst e; exact hseg); (· exact hsg i (by omega) h2)
        have hnd2 : (idsOf (l.take (k + 1))).Nodup := by rw [ids_seg hlt, show l[k].length = k2 by omega]; exact ha2
        refine sw_exit ?_
        refine sO [(1, _), (2, _), (3, _), (7, _), (9, _), (27, _), (28, _), (29, _), (41, _), (42, _), (43, _)] [(3, (56, [PV.val _, PV.val _, PV.sl _ _, PV.sl _ _]))] ?_
        refine sw_reg ?_
        refine rA ?_ (x := B_add)
        refine rA ?_ (x := sM)
        refine Exists.intro (k + 1) (And.intro (by exact ⟨by omega, hsegs, hnd2⟩) (And.intro (by omega) (And.intro (And.intro (by exact ⟨rfl, rfl, rfl, rfl, rfl, ⟨⟩⟩) (by exact ⟨rfl, ⟨⟩⟩)) (And.intro (by exact And.intro (by exact slc_eq (by rw [ids_seg hlt, show l[k].length = k2 by omega])) (And.intro (by exact rfl) (True.intro))) (by exact ⟨⟩)))))
    ·try simp only [q1, q2, q3, q4, q5, q6, q7, q8, q9] at hb7
     have hall : okParts l = true := okParts_iff.2 ⟨hok.2.1, fun s hs => by obtain ⟨i, hi, rfl⟩ := List.mem_iff_getElem.1 hs; exact hsg i (by omega) hi, by have := hnd; rwa [List.take_of_length_le (by omega)] at this⟩
     refine sw_exit ?_
     refine sw_seq ?_
     refine sO [(1, _), (2, _), (3, _), (7, _), (27, _), (28, _), (29, _)] [(3, (56, [PV.val _, PV.val _, PV.sl _ _, PV.sl _ _]))] ?_
     refine sw_reg ?_
     refine rA ?_ (x := kA)
     refine sw_ret ?_
     exact (And.intro (by refine bool_eq ?_; simp [hall, hok]) True.intro)
theorem spec_l18Parts {p1 p2 : Fl} {l : List (List Row)}  (hb : wtRowSS l ≤ 68719476736) : SCall Try.prog 82 [(false, [PV.sl .v (l.map (cRowS p1 p2))])] (resRV [(false, [PV.val (.bool (okParts l))])]) := by
 refine scall_of (rs := [(false, [PV.val (.bool (okParts l))])]) Try.func82 rfl (Nat.le_of_ble_eq_true rfl) (borA_cons (BorL.cons (PV.bor_sl _) BorL.nil) borA_nil) ?_
 intro h0 w0 Fz0
 refine sw_len (s := 0) rfl fun hl0 => ?_
 try rw [List.length_map] at hl0
 have hbu := hb
 simp only [wtRowSS] at hbu
 refine sw_seq ?_
 refine sw_reg ?_
 refine rA ?_ (x := kA)
 refine sw_seq ?_
 refine sO [(0, _), (2, _)] [] ?_
 refine sw_reg ?_
 refine rA ?_ (x := loc_bslice (qs := []) (by decide) sl_38 z_3 (by decide) rfl rfl rfl rfl rfl (by exact Nat.le_of_ble_eq_true rfl) (by exact ⟨⟩) rfl)
 refine rA ?_ (x := tA)
 refine sw_seq ?_
 refine sw_seq ?_
 refine sO [(0, _), (2, _), (3, _)] [] ?_
 refine sw_reg ?_
 refine rA ?_ (x := kA)
 refine sw_block ?_
 refine sO [(0, _), (2, _), (3, _), (4, _)] [] ?_
 refine sw_loop (l0 := [(0, RV.sv false [PV.sl _ _])]) (b0 := []) (fun k : Nat => k ≤ l.length ∧ (∀ i : Nat, (h : i < k) → (h2 : i < l.length) → segB l[i] = true) ∧ (idsOf (l.take k)).Nodup) (fun k : Nat => [(3, RV.slc (.own 3 1) ((idsOf (l.take k)).map cInt)), (4, RV.int (k : Int))]) (fun k : Nat => []) (fun k : Nat => l.length - k) 0 (by exact ⟨by omega, ⟨fun i hi => absurd hi (Nat.not_lt_zero _), by simp [idsOf]⟩⟩) (by exact ⟨rfl, ⟨⟩⟩) (by exact ⟨⟩) (by exact And.intro (by first | exact rfl | simp) (And.intro (by exact rfl) (True.intro))) (by exact ⟨⟩) ?_
 rintro k ⟨hk, hsg, hnd⟩
 refine sw_seq ?_
 refine sw_seq ?_
 refine sw_reg ?_
 refine rA ?_ (x := sM)
 refine rA ?_ (x := vM false [PV.sl .v _])
 refine rA ?_ (x := lN sl_57)
 refine rA ?_ (x := B_lss)
 refine sw_cond (t := 10) rfl (fun hb1 => ?_) (fun hb1 => ?_)
 ·try simp only [q1, q2, q3, q4, q5, q6, q7, q8, q9] at hb1
  have hlt : k < l.length := by omega
  refine sw_skip ?_
  refine sw_seq ?_
  refine sw_block ?_
  refine sw_seq ?_
  refine sw_seq ?_
  refine sO [(0, _), (3, _), (4, _)] [] ?_
  refine sw_reg ?_
  refine rA ?_ (x := vM false [PV.sl .v _])
  refine rA ?_ (x := sM)
  refine rA ?_ (x := loc_index (by decide) sl_57 (by exact ⟨⟩) (by exact rfl) (by exact getm2 (by omega) rfl) (by exact rfl))
  refine rA ?_ (x := lE [PV.sl .v _] ty_32)
  refine rA ?_ (x := lN sl_32)
  refine rA ?_ (x := B_gtr)
  refine sw_cond (t := 18) rfl (fun hb2 => ?_) (fun hb2 => ?_)
  ·try simp only [q1, q2, q3, q4, q5, q6, q7, q8, q9] at hb2
   have hbad : okParts l = false := okParts_seg hlt (Bool.eq_false_iff.2 fun e => by unfold segB at e; rw [Bool.and_eq_true] at e; have e1 := of_decide_eq_true e.1; omega)
   refine sw_seq ?_
   refine sO [(0, _), (3, _), (4, _)] [] ?_
   refine sw_reg ?_
   refine rA ?_ (x := kA)
   refine sw_ret ?_
   exact (And.intro (by refine bool_eq ?_; exact hbad.symm) True.intro)
  ·try simp only [q1, q2, q3, q4, q5, q6, q7, q8, q9] at hb2
   have hwm := wt_mem (f := wtRowS) hlt
   refine sw_skip ?_
   refine sw_seq ?_
   refine sO [(0, _), (3, _), (4, _)] [] ?_
   refine sw_reg ?_
   refine rA ?_ (x := kA)
   refine sw_block ?_
   refine sO [(0, _), (3, _), (4, _), (5, _)] [] ?_
   refine sw_loop (l0 := [(0, RV.sv false [PV.sl _ _]), (4, RV.sv false [PV.val _])]) (b0 := []) (fun k2 : Nat => k2 ≤ l[k].length ∧ (idsOf (l.take k) ++ (l[k].take k2).map Row.Id).Nodup ∧ (l[k].take k2).all okRow = true) (fun k2 : Nat => [(3, RV.slc (.own 3 1) ((idsOf (l.take k) ++ (l[k].take k2).map Row.Id).map cInt)), (5, RV.int (k2 : Int))]) (fun k2 : Nat => []) (fun k2 : Nat => l[k].length - k2) 0 (by exact ⟨by omega, ⟨by simpa using hnd, by simp⟩⟩) (by exact ⟨rfl, rfl, ⟨⟩⟩) (by exact ⟨⟩) (by exact And.intro (by exact slc_eq (by simp)) (And.intro (by exact rfl) (True.intro))) (by exact ⟨⟩) ?_
   rintro k2 ⟨hk2, ha2, har⟩
   refine sw_seq ?_
   refine sw_seq ?_
   refine sw_reg ?_
   refine rA ?_ (x := sM)
   refine rA ?_ (x := vM false [PV.sl .v _])
   refine rA ?_ (x := sM)
   refine rA ?_ (x := loc_index (by decide) sl_57 (by exact ⟨⟩) (by exact rfl) (by exact getm2 (by omega) rfl) (by exact rfl))
   refine rA ?_ (x := lE [PV.sl .v _] ty_32)
   refine rA ?_ (x := lN sl_32)
   refine rA ?_ (x := B_lss)
   refine sw_cond (t := 25) rfl (fun hb3 => ?_) (fun hb3 => ?_)
   ·try simp only [q1, q2, q3, q4, q5, q6, q7, q8, q9] at hb3
    have hlt2 : k2 < l[k].length := by omega
    have hil := ids_le2 (l := l) (k := k) (j := k2) hlt
    simp only [List.length_append, List.length_map] at hil
    refine sw_skip ?_
    refine sw_seq ?_
    refine sw_block ?_
    refine sw_seq ?_
    refine sw_seq ?_
    refine sO [(0, _), (3, _), (4, _), (5, _)] [] ?_
    refine sw_reg ?_
    refine rA ?_ (x := vM false [PV.sl .v _])
    refine rA ?_ (x := sM)
    refine rA ?_ (x := loc_index (by decide) sl_57 (by exact ⟨⟩) (by exact rfl) (by exact getm2 (by omega) rfl) (by exact rfl))
    refine rA ?_ (x := lE [PV.sl .v _] ty_32)
    refine rA ?_ (x := sM)
    refine rA ?_ (x := loc_index (by decide) sl_32 (by exact ⟨⟩) (by exact rfl) (by exact getm2 (by omega) rfl) (by exact rfl))
    refine rA ?_ (x := lE [PV.val _, PV.sl .v _] ty_87)
    refine rA ?_ (x := cL [(true, [PV.val _, PV.sl _ _])] [(true, [PV.val _, PV.sl .v _])] c_107 (hs := by exact spec_IsRow))
    refine rA ?_ (x := nT)
    refine rA ?_ (x := sM)
    refine RunS.cases (s := 37) rfl (fun g4 => ?_) (fun g4 => ?_)
    ·have sg4 := g4
     try simp only [q1, q2, q3, q4, q5, q6, q7, q8, q9] at sg4
     refine RunS.s0t g4 ?_
     refine RunS.s0t g4 ?_
     refine RunS.s0t g4 ?_
     refine RunS.s0t g4 ?_
     refine RunS.s0t g4 ?_
     refine RunS.s0t g4 ?_
     refine RunS.s0t g4 ?_
     refine RunS.s0t g4 ?_
     refine RunS.s0t g4 ?_
     refine RunS.s0t g4 ?_
     refine rA ?_ (x := pkT g4)
     refine sw_cond (t := 48) rfl (fun hb_ => ?_) (fun hb_ => nomatch hb_)
     have hbad : okParts l = false := by
      by_cases hr : okRow l[k][k2] = true
      ·exact okParts_dup hlt hlt2 (by first | assumption | (simp_all; done))
      ·exact okParts_seg hlt (by unfold segB; rw [all_no hlt2 (by simpa using hr)]; simp)
     refine sw_seq ?_
     refine sO [(0, _), (3, _), (4, _), (5, _)] [] ?_
     refine sw_reg ?_
     refine rA ?_ (x := kA)
     refine sw_ret ?_
     exact (And.intro (by refine bool_eq ?_; exact hbad.symm) True.intro)
    ·have sg4 := g4
     try simp only [q1, q2, q3, q4, q5, q6, q7, q8, q9] at sg4
     refine rB g4 ?_ (x := vM false [PV.sl .v _])
     refine rB g4 ?_ (x := vM false [PV.sl .v _])
     refine rB g4 ?_ (x := sM)
     refine rB g4 ?_ (x := loc_index (by decide) sl_57 (by exact ⟨⟩) (by exact rfl) (by exact getm2 (by omega) rfl) (by exact rfl))
     refine rB g4 ?_ (x := lE [PV.sl .v _] ty_32)
     refine rB g4 ?_ (x := sM)
     refine rB g4 ?_ (x := loc_index (by decide) sl_32 (by exact ⟨⟩) (by exact rfl) (by exact getm2 (by omega) rfl) (by exact rfl))
     refine rB g4 ?_ (x := loc_efield (by decide) fd_87_0 (by exact Nat.le_of_ble_eq_true rfl))
     refine rB g4 ?_ (x := lE [PV.val _] ty_3)
     refine rB g4 ?_ (x := cL [(false, [PV.sl _ _]), (false, [PV.val _])] [(false, [PV.sl .v _]), (false, [PV.val _])] c_73 (hs := by exact spec_HasMember))
     refine rA ?_ (x := pkF g4)
     refine sw_cond (t := 48) rfl (fun hb6 => ?_) (fun hb6 => ?_)
     ·try simp only [q1, q2, q3, q4, q5, q6, q7, q8, q9] at hb6
      have hbad : okParts l = false := by
       by_cases hr : okRow l[k][k2] = true
       ·exact okParts_dup hlt hlt2 (by first | assumption | (simp_all; done))
       ·exact okParts_seg hlt (by unfold segB; rw [all_no hlt2 (by simpa using hr)]; simp)
      refine sw_seq ?_
      refine sO [(0, _), (3, _), (4, _), (5, _)] [] ?_
      refine sw_reg ?_
      refine rA ?_ (x := kA)
      refine sw_ret ?_
      exact (And.intro (by refine bool_eq ?_; exact hbad.symm) True.intro)
     ·try simp only [q1, q2, q3, q4, q5, q6, q7, q8, q9] at hb6
      have hyes : okRow l[k][k2] = true := by simp_all
      have hdu : hasI (idsOf (l.take k) ++ (l[k].take k2).map Row.Id) l[k][k2].Id = false := by first | assumption | (simp_all; done)
      refine sw_skip ?_
      refine sO [(0, _), (3, _), (4, _), (5, _)] [] ?_
      refine sw_reg ?_
      refine rA ?_ (x := tM)
      refine rA ?_ (x := vM false [PV.sl .v _])
      refine rA ?_ (x := sM)
      refine rA ?_ (x := loc_index (by decide) sl_57 (by exact ⟨⟩) (by exact rfl) (by exact getm2 (by omega) rfl) (by exact rfl))
      refine rA ?_ (x := lE [PV.sl .v _] ty_32)
      refine rA ?_ (x := sM)
      refine rA ?_ (x := loc_index (by decide) sl_32 (by exact ⟨⟩) (by exact rfl) (by exact getm2 (by omega) rfl) (by exact rfl))
      refine rA ?_ (x := loc_efield (by decide) fd_87_0 (by exact Nat.le_of_ble_eq_true rfl))
      refine rA ?_ (x := lE [PV.val _] ty_3)
      refine rA ?_ (x := loc_bslice (qs := [(false, [PV.val _])]) (by decide) sl_38 z_3 (by decide) rfl rfl rfl rfl rfl (by exact Nat.le_of_ble_eq_true rfl) (by exact (And.intro (by exact ⟨⟩) True.intro)) rfl)
      refine rA ?_ (x := loc_append (by decide) sl_38 z_3 rfl rfl (by decide) rfl (by simp only [List.length_map, List.length_append, List.length_cons, List.length_nil]; omega) (by simp only [List.length_map, List.length_append, List.length_cons, List.length_nil]; omega))
      refine rA ?_ (x := tA)
      refine sO [(0, _), (3, _), (4, _), (5, _)] [] ?_
      refine sw_reg ?_
      refine rA ?_ (x := sM)
      refine rA ?_ (x := B_add)
      refine rA ?_ (x := sA)
      refine Exists.intro (k2 + 1) (And.intro (by exact ⟨by omega, ⟨by rw [ids_row hlt hlt2]; exact nodup_snoc ha2 hdu, all_succ har hlt2 hyes⟩⟩) (And.intro (by omega) (And.intro (And.intro (by exact ⟨rfl, rfl, ⟨⟩⟩) (by exact ⟨⟩)) (And.intro (by exact And.intro (by exact slc_eq (by rw [ids_row hlt hlt2]; simp [cInt])) (And.intro (by exact rfl) (True.intro))) (by exact ⟨⟩)))))
   ·try simp only [q1, q2, q3, q4, q5, q6, q7, q8, q9] at hb3
    have hseg : segB l[k] = true := by unfold segB; rw [Bool.and_eq_true]; exact ⟨decide_eq_true (by omega), all_end (by rw [show l[k].length = k2 by omega]; exact har)⟩
    have hsegs : ∀ i : Nat, (h : i < k + 1) → (h2 : i < l.length) → segB l[i] = true := fun i h h2 => by by_cases e : i = k; (· subst e; exact hseg); (· exact hsg i (by omega) h2)
    have hnd2 : (idsOf (l.take (k + 1))).Nodup := by rw [ids_seg hlt, show l[k].length = k2 by omega]; exact ha2
    refine sw_exit ?_
    refine sO [(0, _), (3, _), (4, _), (5, _)] [] ?_
    refine sw_reg ?_
    refine rA ?_ (x := sM)
    refine rA ?_ (x := B_add)
    refine rA ?_ (x := sA)
    refine Exists.intro (k + 1) (And.intro (by exact ⟨by omega, hsegs, hnd2⟩) (And.intro (by omega) (And.intro (And.intro (by exact ⟨rfl, ⟨⟩⟩) (by exact ⟨⟩)) (And.intro (by exact And.intro (by exact slc_eq (by rw [ids_seg hlt, show l[k].length = k2 by omega])) (And.intro (by exact rfl) (True.intro))) (by exact ⟨⟩)))))
 ·try simp only [q1, q2, q3, q4, q5, q6, q7, q8, q9] at hb1
  have hend : (∀ s ∈ l, segB s = true) ∧ (idsOf l).Nodup := ⟨fun s hs => by obtain ⟨i, hi, rfl⟩ := List.mem_iff_getElem.1 hs; exact hsg i (by omega) hi, by have := hnd; rwa [List.take_of_length_le (by omega)] at this⟩
  refine sw_exit ?_
  refine sw_seq ?_
  refine sO [(0, _), (3, _), (4, _)] [] ?_
  refine sw_reg ?_
  refine rA ?_ (x := vM false [PV.sl .v _])
  refine rA ?_ (x := lN sl_57)
  refine rA ?_ (x := cL [(false, [PV.val _]), (false, [PV.val _]), (false, [PV.val _])] [(false, [PV.val _]), (false, [PV.val _]), (false, [PV.val _])] c_72 (hs := by exact spec_l1In))
  refine rA ?_ (x := sA)
  refine sw_ret ?_
  exact (And.intro (by refine bool_eq ?_; rw [Bool.eq_iff_iff, okParts_iff]; exact ⟨fun h => ⟨h, hend⟩, fun h => h.1⟩) True.intro)
end Go.Proofs.Ytloipjaiceifbaa
