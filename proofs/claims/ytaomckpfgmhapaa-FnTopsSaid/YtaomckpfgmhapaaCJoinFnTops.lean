/- What functions of the program compute. No condition. -/
import Derived.Test.YtaomckpfgmhapaaCSetFnTops
import Derived.KernelRfl
set_option linter.unusedVariables false
set_option linter.unusedSimpArgs false
namespace Go.Proofs.Ytaomckpfgmhapaa
open Go Go.RowKit M
set_option maxRecDepth 10000
attribute [local irreducible] PV.Lcl PV.LclR RV.Lcl
theorem spec_MeetSets {a : List Int} {b : List Int}  : SCall Try.prog 31 [(false, [PV.sl .v (a.map cInt)]), (false, [PV.sl .v (b.map cInt)])] (resRV [(false, [PV.sl (.own 3 1) ((MeetSetsF a b).map cInt)])]) := by
 refine scall_of (rs := [(false, [PV.sl (.own 3 1) ((MeetSetsF a b).map cInt)])]) Try.func31 rfl (Nat.le_of_ble_eq_true rfl) (borA_cons (BorL.cons (PV.bor_sl _) BorL.nil) (borA_cons (BorL.cons (PV.bor_sl _) BorL.nil) borA_nil)) ?_
 intro h0 w0 Fz0
 refine sw_len (s := 0) rfl fun hl0 => ?_
 try rw [List.length_map] at hl0
 refine sw_len (s := 1) rfl fun hl1 => ?_
 try rw [List.length_map] at hl1
 refine sw_seq ?_
 refine sw_reg ?_
 refine rA ?_ (x := loc_const (.inr rfl) (by decide) (ok_nil (t := 3) (e := 1)))
 refine sw_seq ?_
 refine sO [(0, _), (1, _), (4, _)] [] ?_
 refine sw_reg ?_
 refine rA ?_ (x := loc_bslice (qs := []) (by decide) sl_31 z_3 (by decide) rfl rfl rfl rfl rfl (by exact Nat.le_of_ble_eq_true rfl) (by exact ⟨⟩) rfl)
 refine rA ?_ (x := tA)
 refine sw_seq ?_
 refine sw_seq ?_
 refine sO [(0, _), (1, _), (4, _), (5, _)] [] ?_
 refine sw_reg ?_
 refine rA ?_ (x := kA)
 refine sw_block ?_
 refine sO [(0, _), (1, _), (4, _), (5, _), (6, _)] [] ?_
 refine sw_loop (l0 := [(0, RV.sv false [PV.sl _ _]), (1, RV.sv false [PV.sl _ _]), (4, RV.sv false [PV.sl _ _])]) (b0 := []) (fun k : Nat => k ≤ a.length ∧ (0 < k → (okSet a && okSet b) = true)) (fun k : Nat => [(5, RV.slc (.own 3 1) (((a.take k).filter (fun x => hasI b x)).map cInt)), (6, RV.int (k : Int))]) (fun k : Nat => []) (fun k : Nat => a.length - k) 0 (by exact ⟨by omega, fun h => absurd h (Nat.lt_irrefl 0)⟩) (by exact ⟨rfl, rfl, rfl, ⟨⟩⟩) (by exact ⟨⟩) (by exact And.intro (by first | exact rfl | simp) (And.intro (by exact rfl) (True.intro))) (by exact ⟨⟩) ?_
 rintro k ⟨hk, ha⟩
 refine sw_seq ?_
 refine sw_seq ?_
 refine sw_reg ?_
 refine rA ?_ (x := sM)
 refine rA ?_ (x := vM false [PV.sl .v _])
 refine rA ?_ (x := lN sl_31)
 refine rA ?_ (x := B_lss)
 refine rA ?_ (x := sM)
 refine RunS.cases (s := 12) rfl (fun g1 => ?_) (fun g1 => ?_)
 ·have sg1 := g1
  try simp only [q1, q2, q3, q4, q5, q6, q7, q8, q9] at sg1
  refine rB g1 ?_ (x := vM false [PV.sl .v _])
  refine rB g1 ?_ (x := cL [(false, [PV.sl _ _])] [(false, [PV.sl .v _])] c_11 (hs := by exact spec_IsSet))
  refine rA ?_ (x := pkT g1)
  refine rA ?_ (x := sM)
  refine RunS.cases (s := 16) rfl (fun g2 => ?_) (fun g2 => ?_)
  ·have sg2 := g2
   try simp only [q1, q2, q3, q4, q5, q6, q7, q8, q9] at sg2
   refine rB g2 ?_ (x := vM false [PV.sl .v _])
   refine rB g2 ?_ (x := cL [(false, [PV.sl _ _])] [(false, [PV.sl .v _])] c_11 (hs := by exact spec_IsSet))
   refine rA ?_ (x := pkT g2)
   refine sw_cond (t := 19) rfl (fun hb3 => ?_) (fun hb3 => ?_)
   ·try simp only [q1, q2, q3, q4, q5, q6, q7, q8, q9] at hb3
    have hlt : k < a.length := by simp at *; omega
    have hok2 : (okSet a && okSet b) = true := by simp_all
    have h24 := okSet_len ((Bool.and_eq_true_iff).1 hok2).1
    have hln : ((a.take k).filter (fun x => hasI b x)).length ≤ k := Nat.le_trans (List.length_filter_le _ _) (by rw [List.length_take]; omega)
    refine sw_skip ?_
    refine sw_seq ?_
    refine sw_block ?_
    refine sw_seq ?_
    refine sO [(0, _), (1, _), (4, _), (5, _), (6, _)] [] ?_
    refine sw_reg ?_
    refine rA ?_ (x := vM false [PV.sl .v _])
    refine rA ?_ (x := vM false [PV.sl .v _])
    refine rA ?_ (x := sM)
    refine rA ?_ (x := loc_index (by decide) sl_31 (by exact ⟨⟩) (by exact rfl) (by exact getm2 (by omega) rfl) (by exact rfl))
    refine rA ?_ (x := lE [PV.val _] ty_3)
    refine rA ?_ (x := cL [(false, [PV.sl _ _]), (false, [PV.val _])] [(false, [PV.sl .v _]), (false, [PV.val _])] c_37 (hs := by exact spec_HasMember))
    refine sw_cond (t := 27) rfl (fun hb4 => ?_) (fun hb4 => ?_)
    ·try simp only [q1, q2, q3, q4, q5, q6, q7, q8, q9] at hb4
     have hc := hb4
     refine sO [(0, _), (1, _), (4, _), (5, _), (6, _)] [] ?_
     refine sw_reg ?_
     refine rA ?_ (x := tM)
     refine rA ?_ (x := vM false [PV.sl .v _])
     refine rA ?_ (x := sM)
     refine rA ?_ (x := loc_index (by decide) sl_31 (by exact ⟨⟩) (by exact rfl) (by exact getm2 (by omega) rfl) (by exact rfl))
     refine rA ?_ (x := lE [PV.val _] ty_3)
     refine rA ?_ (x := loc_bslice (qs := [(false, [PV.val _])]) (by decide) sl_31 z_3 (by decide) rfl rfl rfl rfl rfl (by exact Nat.le_of_ble_eq_true rfl) (by exact (And.intro (by exact ⟨⟩) True.intro)) rfl)
     refine rA ?_ (x := loc_append (by decide) sl_31 z_3 rfl rfl (by decide) rfl (by simp only [List.length_map, List.length_append, List.length_cons, List.length_nil]; omega) (by simp only [List.length_map, List.length_append, List.length_cons, List.length_nil]; omega))
     refine rA ?_ (x := tA)
     refine sO [(0, _), (1, _), (4, _), (5, _), (6, _)] [] ?_
     refine sw_reg ?_
     refine rA ?_ (x := sM)
     refine rA ?_ (x := B_add)
     refine rA ?_ (x := sA)
     refine Exists.intro (k + 1) (And.intro (by exact ⟨by omega, fun _ => hok2⟩) (And.intro (by omega) (And.intro (And.intro (by exact ⟨rfl, rfl, rfl, ⟨⟩⟩) (by exact ⟨⟩)) (And.intro (by exact And.intro (by exact slc_eq (by rw [tk_succ hlt, List.filter_append, List.map_append]; simp [hc, cInt])) (And.intro (by exact rfl) (True.intro))) (by exact ⟨⟩)))))
    ·try simp only [q1, q2, q3, q4, q5, q6, q7, q8, q9] at hb4
     have hc := hb4
     refine sw_skip ?_
     refine sO [(0, _), (1, _), (4, _), (5, _), (6, _)] [] ?_
     refine sw_reg ?_
     refine rA ?_ (x := sM)
     refine rA ?_ (x := B_add)
     refine rA ?_ (x := sA)
     refine Exists.intro (k + 1) (And.intro (by exact ⟨by omega, fun _ => hok2⟩) (And.intro (by omega) (And.intro (And.intro (by exact ⟨rfl, rfl, rfl, ⟨⟩⟩) (by exact ⟨⟩)) (And.intro (by exact And.intro (by exact slc_eq (by rw [tk_succ hlt, List.filter_append, List.map_append]; simp [hc, cInt])) (And.intro (by exact rfl) (True.intro))) (by exact ⟨⟩)))))
   ·try simp only [q1, q2, q3, q4, q5, q6, q7, q8, q9] at hb3
    have hfin : (k = a.length ∧ (okSet a && okSet b) = true) ∨ (k = 0 ∧ (a.length = 0 ∨ (okSet a && okSet b) = false)) := by
     by_cases h0k : 0 < k
     ·left
      have := ha h0k
      refine ⟨?_, this⟩
      rw [Bool.and_eq_true] at this
      by_cases hka : k = a.length
      ·exact hka
      ·have : k < a.length := by omega
       simp_all
     ·right
      refine ⟨by omega, ?_⟩
      by_cases hka : a.length = 0
      ·exact .inl hka
      ·right
       have : k < a.length := by omega
       cases h1 : okSet a <;> cases h2 : okSet b <;> simp_all
    refine sw_exit ?_
    refine sw_seq ?_
    refine sO [(0, _), (1, _), (4, _), (5, _), (6, _)] [] ?_
    refine sw_reg ?_
    refine rA ?_ (x := tM)
    refine rA ?_ (x := tA)
    refine sw_ret ?_
    exact (And.intro (by refine slc_eq ?_; rw [meet_end ha hfin]) True.intro)
  ·have sg2 := g2
   try simp only [q1, q2, q3, q4, q5, q6, q7, q8, q9] at sg2
   refine RunS.s0f g2 ?_
   refine RunS.s0f g2 ?_
   refine rA ?_ (x := pkF g2)
   refine sw_cond (t := 19) rfl (fun hb_ => nomatch hb_) (fun hb_ => ?_)
   have hfin : (k = a.length ∧ (okSet a && okSet b) = true) ∨ (k = 0 ∧ (a.length = 0 ∨ (okSet a && okSet b) = false)) := by
    by_cases h0k : 0 < k
    ·left
     have := ha h0k
     refine ⟨?_, this⟩
     rw [Bool.and_eq_true] at this
     by_cases hka : k = a.length
     ·exact hka
     ·have : k < a.length := by omega
      simp_all
    ·right
     refine ⟨by omega, ?_⟩
     by_cases hka : a.length = 0
     ·exact .inl hka
     ·right
      have : k < a.length := by omega
      cases h1 : okSet a <;> cases h2 : okSet b <;> simp_all
   refine sw_exit ?_
   refine sw_seq ?_
   refine sO [(0, _), (1, _), (4, _), (5, _), (6, _)] [] ?_
   refine sw_reg ?_
   refine rA ?_ (x := tM)
   refine rA ?_ (x := tA)
   refine sw_ret ?_
   exact (And.intro (by refine slc_eq ?_; rw [meet_end ha hfin]) True.intro)
 ·have sg1 := g1
  try simp only [q1, q2, q3, q4, q5, q6, q7, q8, q9] at sg1
  refine RunS.s0f g1 ?_
  refine RunS.s0f g1 ?_
  refine rA ?_ (x := pkF g1)
  refine rA ?_ (x := sM)
  refine RunS.cases (s := 16) rfl (fun g6 => nomatch g6) (fun g6 => ?_)
  refine RunS.s0f g6 ?_
  refine RunS.s0f g6 ?_
  refine rA ?_ (x := pkF g6)
  refine sw_cond (t := 19) rfl (fun hb_ => nomatch hb_) (fun hb_ => ?_)
  have hfin : (k = a.length ∧ (okSet a && okSet b) = true) ∨ (k = 0 ∧ (a.length = 0 ∨ (okSet a && okSet b) = false)) := by
   by_cases h0k : 0 < k
   ·left
    have := ha h0k
    refine ⟨?_, this⟩
    rw [Bool.and_eq_true] at this
    by_cases hka : k = a.length
    ·exact hka
    ·have : k < a.length := by omega
     simp_all
   ·right
    refine ⟨by omega, ?_⟩
    by_cases hka : a.length = 0
    ·exact .inl hka
    ·right
     have : k < a.length := by omega
     cases h1 : okSet a <;> cases h2 : okSet b <;> simp_all
  refine sw_exit ?_
  refine sw_seq ?_
  refine sO [(0, _), (1, _), (4, _), (5, _), (6, _)] [] ?_
  refine sw_reg ?_
  refine rA ?_ (x := tM)
  refine rA ?_ (x := tA)
  refine sw_ret ?_
  exact (And.intro (by refine slc_eq ?_; rw [meet_end ha hfin]) True.intro)
end Go.Proofs.Ytaomckpfgmhapaa
