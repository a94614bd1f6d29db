/- What functions of the program compute. No condition. -/
import Derived.Test.YteflgldonmgejaaGreatCSetProbeWork
import Derived.KernelRfl
set_option linter.unusedVariables false
set_option linter.unusedSimpArgs false
namespace Go.Proofs.YteflgldonmgejaaGreat
open Go Go.RowKit M
set_option maxRecDepth 10000
attribute [local irreducible] PV.Lcl PV.LclR RV.Lcl
theorem impl_pick {q : Int → Bool}  : SCall Tryz.prog 226 [(false, [PV.clo Tryz.prog asI (rsB q)])] (resRV [(false, [PV.sl (.own 3 1) ((pickL q 24).map cInt)])]) := by
 refine scall_of (rs := [(false, [PV.sl (.own 3 1) ((pickL q 24).map cInt)])]) Tryz.func226 rfl (Nat.le_of_ble_eq_true rfl) (borA_cons (BorL.cons (PV.bor_clo _ _) BorL.nil) borA_nil) ?_
 intro h0 w0 Fz0
 refine sw_seq ?_
 refine sw_reg ?_
 refine rA ?_ (x := loc_const (.inr rfl) (by decide) (ok_nil (t := 3) (e := 1)))
 refine sw_seq ?_
 refine sO [(0, _), (2, _)] [] ?_
 refine sw_reg ?_
 refine rA ?_ (x := loc_bslice (qs := []) (by decide) sl_25 z_3 (by decide) rfl rfl rfl rfl rfl (by exact Nat.le_of_ble_eq_true rfl) (by exact ⟨⟩) rfl)
 refine rA ?_ (x := tA)
 refine sw_seq ?_
 refine sw_seq ?_
 refine sO [(0, _), (2, _), (3, _)] [] ?_
 refine sw_reg ?_
 refine rA ?_ (x := kA)
 refine sw_block ?_
 refine sO [(0, _), (2, _), (3, _), (4, _)] [] ?_
 refine sw_loop (l0 := [(0, RV.sv false [PV.clo _ _ _]), (2, RV.sv false [PV.sl _ _])]) (b0 := []) (fun k : Nat => k ≤ 24) (fun k : Nat => [(3, RV.slc (.own 3 1) ((pickL q k).map cInt)), (4, RV.int (k : Int))]) (fun k : Nat => []) (fun k : Nat => 24 - k) 0 (by omega) (by exact ⟨rfl, rfl, ⟨⟩⟩) (by exact ⟨⟩) (by exact And.intro (by exact rfl) (And.intro (by exact rfl) (True.intro))) (by exact ⟨⟩) ?_
 rintro k hk
 refine sw_seq ?_
 refine sw_seq ?_
 refine sw_reg ?_
 refine rA ?_ (x := sM)
 refine rA ?_ (x := B_lss)
 refine sw_cond (t := 7) rfl (fun hb1 => ?_) (fun hb1 => ?_)
 ·try simp only [q1, q2, q3, q4, q5, q6, q7, q8, q9] at hb1
  have hlt : k < 24 := by omega
  have hpl := pickL_len q k
  refine sw_skip ?_
  refine sw_seq ?_
  refine sw_block ?_
  refine sw_seq ?_
  refine sO [(0, _), (2, _), (3, _), (4, _)] [] ?_
  refine sw_reg ?_
  refine rA ?_ (x := loc_copy (r' := RV.sv false [PV.clo _ _ _]) (.inl rfl) (by decide) (by exact Cp.sv (ToL.cons (PV.To.refl _) ToL.nil) (BorL.cons (PV.bor_clo _ _) BorL.nil)))
  refine rA ?_ (x := sM)
  refine rA ?_ (x := loc_callp (k : Int) (qs := [(false, [PV.val _])]) (r := RV.sv false [PV.val _]) (by decide) (by exact (And.intro (by exact ⟨⟩) True.intro)) (by exact (And.intro (And.intro rfl (ToL.cons (PV.To.refl _) ToL.nil)) True.intro)) (by exact rfl))
  refine sw_cond (t := 12) rfl (fun hb2 => ?_) (fun hb2 => ?_)
  ·try simp only [q1, q2, q3, q4, q5, q6, q7, q8, q9] at hb2
   have hc := hb2
   refine sO [(0, _), (2, _), (3, _), (4, _)] [] ?_
   refine sw_reg ?_
   refine rA ?_ (x := tM)
   refine rA ?_ (x := sM)
   refine rA ?_ (x := loc_bslice (qs := [(false, [PV.val _])]) (by decide) sl_25 z_3 (by decide) rfl rfl rfl rfl rfl (by exact Nat.le_of_ble_eq_true rfl) (by exact (And.intro (by exact ⟨⟩) True.intro)) rfl)
   refine rA ?_ (x := loc_append (by decide) sl_25 z_3 rfl rfl (by decide) rfl (by simp only [List.length_map, List.length_append, List.length_cons, List.length_nil]; omega) (by simp only [List.length_map, List.length_append, List.length_cons, List.length_nil]; omega))
   refine rA ?_ (x := tA)
   refine sO [(0, _), (2, _), (3, _), (4, _)] [] ?_
   refine sw_reg ?_
   refine rA ?_ (x := sM)
   refine rA ?_ (x := B_add)
   refine rA ?_ (x := sA)
   refine Exists.intro (k + 1) (And.intro (by omega) (And.intro (by omega) (And.intro (And.intro (by exact ⟨rfl, rfl, ⟨⟩⟩) (by exact ⟨⟩)) (And.intro (by exact And.intro (by exact slc_eq (by rw [pickL_succ]; simp [hc, cInt])) (And.intro (by exact rfl) (True.intro))) (by exact ⟨⟩)))))
  ·try simp only [q1, q2, q3, q4, q5, q6, q7, q8, q9] at hb2
   have hc := hb2
   refine sw_skip ?_
   refine sO [(0, _), (2, _), (3, _), (4, _)] [] ?_
   refine sw_reg ?_
   refine rA ?_ (x := sM)
   refine rA ?_ (x := B_add)
   refine rA ?_ (x := sA)
   refine Exists.intro (k + 1) (And.intro (by omega) (And.intro (by omega) (And.intro (And.intro (by exact ⟨rfl, rfl, ⟨⟩⟩) (by exact ⟨⟩)) (And.intro (by exact And.intro (by exact slc_eq (by rw [pickL_succ]; simp [hc, cInt])) (And.intro (by exact rfl) (True.intro))) (by exact ⟨⟩)))))
 ·try simp only [q1, q2, q3, q4, q5, q6, q7, q8, q9] at hb1
  have hend : k = 24 := by omega
  refine sw_exit ?_
  refine sw_seq ?_
  refine sO [(0, _), (2, _), (3, _), (4, _)] [] ?_
  refine sw_reg ?_
  refine rA ?_ (x := tM)
  refine rA ?_ (x := tA)
  refine sw_ret ?_
  exact (And.intro (by refine slc_eq ?_; rw [hend]) True.intro)
theorem impl_MeetSets_1 {a b : List Int} {x : Int}  : SCall Tryz.prog 227 [(false, [PV.val (vI x)]), (false, [PV.ep [PV.sl .v (a.map cInt)]]), (false, [PV.ep [PV.sl .v (b.map cInt)]])] (resRV [(false, [PV.val (.bool (hasI a x && hasI b x))])]) := by
 refine scall_of (rs := [(false, [PV.val (.bool (hasI a x && hasI b x))])]) Tryz.func227 rfl (Nat.le_of_ble_eq_true rfl) (borA_cons (BorL.cons (PV.bor_val _) BorL.nil) (borA_cons (BorL.cons (PV.bor_ep _) BorL.nil) (borA_cons (BorL.cons (PV.bor_ep _) BorL.nil) borA_nil))) ?_
 intro h0 w0 Fz0
 refine sw_seq ?_
 refine sw_reg ?_
 refine rA ?_ (x := kA)
 refine sw_seq ?_
 refine sO [(0, _), (1, _), (2, _), (4, _)] [] ?_
 refine sw_reg ?_
 refine rA ?_ (x := loc_epload (qs := [PV.sl .v _]) (by decide) ty_25 (fun _ => rfl) (by exact Nat.le_of_ble_eq_true rfl) (by exact (ToL.cons PV.to_none ToL.nil)) (by exact (BorL.cons (PV.bor_sl _) BorL.nil)))
 refine rA ?_ (x := sM)
 refine rA ?_ (x := cL [(false, [PV.sl _ _]), (false, [PV.val _])] [(false, [PV.sl .v _]), (false, [PV.val _])] c_228 (hs := by exact impl_HasMember))
 refine rA ?_ (x := sM)
 refine RunS.cases (s := 8) rfl (fun g1 => ?_) (fun g1 => ?_)
 ·have sg1 := g1
  try simp only [q1, q2, q3, q4, q5, q6, q7, q8, q9] at sg1
  refine rB g1 ?_ (x := loc_epload (qs := [PV.sl .v _]) (by decide) ty_25 (fun _ => rfl) (by exact Nat.le_of_ble_eq_true rfl) (by exact (ToL.cons PV.to_none ToL.nil)) (by exact (BorL.cons (PV.bor_sl _) BorL.nil)))
  refine rB g1 ?_ (x := sM)
  refine rB g1 ?_ (x := cL [(false, [PV.sl _ _]), (false, [PV.val _])] [(false, [PV.sl .v _]), (false, [PV.val _])] c_228 (hs := by exact impl_HasMember))
  refine rA ?_ (x := pkT g1)
  refine rA ?_ (x := sA)
  refine sw_ret ?_
  exact (And.intro (by refine bool_eq ?_; simp [*]) True.intro)
 ·have sg1 := g1
  try simp only [q1, q2, q3, q4, q5, q6, q7, q8, q9] at sg1
  refine RunS.s0f g1 ?_
  refine RunS.s0f g1 ?_
  refine RunS.s0f g1 ?_
  refine rA ?_ (x := pkF g1)
  refine rA ?_ (x := sA)
  refine sw_ret ?_
  exact (And.intro (by refine bool_eq ?_; simp [*]) True.intro)
theorem impl_MeetSets {a : List Int} {b : List Int}  : SCall Tryz.prog 200 [(false, [PV.sl .v (a.map cInt)]), (false, [PV.sl .v (b.map cInt)])] (resRV [(false, [PV.sl (.own 3 1) ((MeetSetsF a b).map cInt)])]) := by
 refine scall_of (rs := [(false, [PV.sl (.own 3 1) ((MeetSetsF a b).map cInt)])]) Tryz.func200 rfl (Nat.le_of_ble_eq_true rfl) (borA_cons (BorL.cons (PV.bor_sl _) BorL.nil) (borA_cons (BorL.cons (PV.bor_sl _) BorL.nil) borA_nil)) ?_
 intro h0 w0 Fz0
 refine sw_len (s := 0) rfl fun hl0 => ?_
 try rw [List.length_map] at hl0
 refine sw_len (s := 1) rfl fun hl1 => ?_
 try rw [List.length_map] at hl1
 refine sw_seq ?_
 refine sw_reg ?_
 refine RunS.step (by exact ⟨rfl, ⟨⟩⟩) (by exact ⟨⟩) (LocG.of rfl (loc_box (ag := false) (cs := [PV.sl _ _]) (by decide) (by exact ⟨⟩))) (free1 (Free.of_ rfl)) ?_
 refine RunS.step (by exact ⟨rfl, ⟨⟩⟩) (by exact ⟨⟩) (LocG.of rfl (loc_box (ag := false) (cs := [PV.sl _ _]) (by decide) (by exact ⟨⟩))) (free1 (Free.app (Free.of_ rfl) rfl)) ?_
 refine rA ?_ (x := loc_const (.inr rfl) (by decide) (ok_nil (t := 3) (e := 1)))
 refine sw_seq ?_
 refine sw_seq ?_
 refine sO [(2, _), (3, _), (4, _)] [(2, (25, [PV.sl _ _])), (3, (25, [PV.sl _ _]))] ?_
 refine sw_reg ?_
 refine rA ?_ (x := lD [PV.sl .v _] ty_25)
 refine rA ?_ (x := cL [(false, [PV.sl _ _])] [(false, [PV.sl .v _])] c_193 (hs := by exact impl_IsSet))
 refine rA ?_ (x := nT)
 refine rA ?_ (x := sM)
 refine RunS.cases (s := 8) rfl (fun g1 => ?_) (fun g1 => ?_)
 ·have sg1 := g1
  try simp only [q1, q2, q3, q4, q5, q6, q7, q8, q9] at sg1
  refine RunS.s0t g1 ?_
  refine RunS.s0t g1 ?_
  refine RunS.s0t g1 ?_
  refine rA ?_ (x := pkT g1)
  refine sw_cond (t := 12) rfl (fun hb_ => ?_) (fun hb_ => nomatch hb_)
  refine sw_seq ?_
  refine sO [(2, _), (3, _), (4, _)] [(2, _), (3, _)] ?_
  refine sw_reg ?_
  refine rA ?_ (x := loc_const (.inr rfl) (by decide) (ok_nil (t := 3) (e := 1)))
  refine sw_ret ?_
  exact (And.intro (by refine slc_eq ?_; simp [MeetSetsF, *]) True.intro)
 ·have sg1 := g1
  try simp only [q1, q2, q3, q4, q5, q6, q7, q8, q9] at sg1
  refine rB g1 ?_ (x := lD [PV.sl .v _] ty_25)
  refine rB g1 ?_ (x := cL [(false, [PV.sl _ _])] [(false, [PV.sl .v _])] c_193 (hs := by exact impl_IsSet))
  refine rB g1 ?_ (x := nT)
  refine rA ?_ (x := pkF g1)
  refine sw_cond (t := 12) rfl (fun hb3 => ?_) (fun hb3 => ?_)
  ·try simp only [q1, q2, q3, q4, q5, q6, q7, q8, q9] at hb3
   refine sw_seq ?_
   refine sO [(2, _), (3, _), (4, _)] [(2, _), (3, _)] ?_
   refine sw_reg ?_
   refine rA ?_ (x := loc_const (.inr rfl) (by decide) (ok_nil (t := 3) (e := 1)))
   refine sw_ret ?_
   exact (And.intro (by refine slc_eq ?_; simp [MeetSetsF, *]) True.intro)
  ·try simp only [q1, q2, q3, q4, q5, q6, q7, q8, q9] at hb3
   refine sw_skip ?_
   refine sw_seq ?_
   refine sO [(2, _), (3, _), (4, _)] [(2, _), (3, _)] ?_
   refine sw_frzB (s := 2) (b := 2) (by exact rfl) (by exact rfl) ?_
   refine sO [(2, _), (3, _), (4, _)] [(3, _)] ?_
   refine sw_frzB (s := 3) (b := 3) (by exact rfl) (by exact rfl) ?_
   refine sO [(2, _), (3, _), (4, _)] [] ?_
   refine sw_reg ?_
   refine rA ?_ (x := loc_mkfn (asf := asI) (rf := (rsB (fun x : Int => hasI a x && hasI b x))) (qs := [(false, [PV.ep [PV.sl _ _]]), (false, [PV.ep [PV.sl _ _]])]) (caps := [(false, [PV.ep [PV.sl _ _]]), (false, [PV.ep [PV.sl _ _]])]) (by decide) c_227 (by exact (And.intro (by exact ⟨⟩) (And.intro (by exact ⟨⟩) True.intro))) (by exact (And.intro (And.intro rfl (ToL.cons (PV.To.refl _) ToL.nil)) (And.intro (And.intro rfl (ToL.cons (PV.To.refl _) ToL.nil)) True.intro))) (fun x => by exact impl_MeetSets_1))
   refine rA ?_ (x := cL [(false, [PV.clo _ _ _])] [(false, [PV.clo _ _ _])] c_226 (hs := by exact impl_pick))
   refine rA ?_ (x := tA)
   refine sw_ret ?_
   exact (And.intro (by refine slc_eq ?_; simp [MeetSetsF, *]) True.intro)
theorem spec_MeetSets {a : List Int} {b : List Int}  : SCall Tryz.prog 185 [(false, [PV.sl .v (a.map cInt)]), (false, [PV.sl .v (b.map cInt)])] (resRV [(false, [PV.sl (.own 3 1) ((MeetSetsF a b).map cInt)])]) := by
 refine scall_of (rs := [(false, [PV.sl (.own 3 1) ((MeetSetsF a b).map cInt)])]) Tryz.func185 rfl (Nat.le_of_ble_eq_true rfl) (borA_cons (BorL.cons (PV.bor_sl _) BorL.nil) (borA_cons (BorL.cons (PV.bor_sl _) BorL.nil) borA_nil)) ?_
 intro h0 w0 Fz0
 refine sw_len (s := 0) rfl fun hl0 => ?_
 try rw [List.length_map] at hl0
 refine sw_len (s := 1) rfl fun hl1 => ?_
 try rw [List.length_map] at hl1
 refine sw_seq ?_
 refine sw_reg ?_
 refine rA ?_ (x := loc_const (.inr rfl) (by decide) (ok_nil (t := 3) (e := 1)))
 refine sw_seq ?_
 refine sO [(0, _), (1, _), (4, _)] [] ?_
 refine sw_reg ?_
 refine rA ?_ (x := loc_bslice (qs := []) (by decide) sl_25 z_3 (by decide) rfl rfl rfl rfl rfl (by exact Nat.le_of_ble_eq_true rfl) (by exact ⟨⟩) rfl)
 refine rA ?_ (x := tA)
 refine sw_seq ?_
 refine sw_seq ?_
 refine sO [(0, _), (1, _), (4, _), (5, _)] [] ?_
 refine sw_reg ?_
 refine rA ?_ (x := kA)
 refine sw_block ?_
 refine sO [(0, _), (1, _), (4, _), (5, _), (6, _)] [] ?_
 refine sw_loop (l0 := [(0, RV.sv false [PV.sl _ _]), (1, RV.sv false [PV.sl _ _]), (4, RV.sv false [PV.sl _ _])]) (b0 := []) (fun k : Nat => k ≤ a.length ∧ (0 < k → (okSet a && okSet b) = true)) (fun k : Nat => [(5, RV.slc (.own 3 1) (((a.take k).filter (fun x => hasI b x)).map cInt)), (6, RV.int (k : Int))]) (fun k : Nat => []) (fun k : Nat => a.length - k) 0 (by exact ⟨by omega, fun h => absurd h (Nat.lt_irrefl 0)⟩) (by exact ⟨rfl, rfl, rfl, ⟨⟩⟩) (by exact ⟨⟩) (by exact And.intro (by first | exact rfl | simp) (And.intro (by exact rfl) (True.intro))) (by exact ⟨⟩) ?_
 rintro k ⟨hk, ha⟩
 refine sw_seq ?_
 refine sw_seq ?_
 refine sw_reg ?_
 refine rA ?_ (x := sM)
 refine rA ?_ (x := vM false [PV.sl .v _])
 refine rA ?_ (x := lN sl_25)
 refine rA ?_ (x := B_lss)
 refine rA ?_ (x := sM)
 refine RunS.cases (s := 12) rfl (fun g1 => ?_) (fun g1 => ?_)
 ·have sg1 := g1
  try simp only [q1, q2, q3, q4, q5, q6, q7, q8, q9] at sg1
  refine rB g1 ?_ (x := vM false [PV.sl .v _])
  refine rB g1 ?_ (x := cL [(false, [PV.sl _ _])] [(false, [PV.sl .v _])] c_177 (hs := by exact spec_IsSet))
  refine rA ?_ (x := pkT g1)
  refine rA ?_ (x := sM)
  refine RunS.cases (s := 16) rfl (fun g2 => ?_) (fun g2 => ?_)
  ·have sg2 := g2
   try simp only [q1, q2, q3, q4, q5, q6, q7, q8, q9] at sg2
   refine rB g2 ?_ (x := vM false [PV.sl .v _])
   refine rB g2 ?_ (x := cL [(false, [PV.sl _ _])] [(false, [PV.sl .v _])] c_177 (hs := by exact spec_IsSet))
   refine rA ?_ (x := pkT g2)
   refine sw_cond (t := 19) rfl (fun hb3 => ?_) (fun hb3 => ?_)
   ·try simp only [q1, q2, q3, q4, q5, q6, q7, q8, q9] at hb3
    have hlt : k < a.length := by simp at *; omega
    have hok2 : (okSet a && okSet b) = true := by simp_all
    have h24 := okSet_len ((Bool.and_eq_true_iff).1 hok2).1
    have hln : ((a.take k).filter (fun x => hasI b x)).length ≤ k := Nat.le_trans (List.length_filter_le _ _) (by rw [List.length_take]; omega)
    refine sw_skip ?_
    refine sw_seq ?_
    refine sw_block ?_
    refine sw_seq ?_
    refine sO [(0, _), (1, _), (4, _), (5, _), (6, _)] [] ?_
    refine sw_reg ?_
    refine rA ?_ (x := vM false [PV.sl .v _])
    refine rA ?_ (x := vM false [PV.sl .v _])
    refine rA ?_ (x := sM)
    refine rA ?_ (x := loc_index (by decide) sl_25 (by exact ⟨⟩) (by exact rfl) (by exact getm2 (by omega) rfl) (by exact rfl))
    refine rA ?_ (x := lE [PV.val _] ty_3)
    refine rA ?_ (x := cL [(false, [PV.sl _ _]), (false, [PV.val _])] [(false, [PV.sl .v _]), (false, [PV.val _])] c_173 (hs := by exact spec_HasMember))
    refine sw_cond (t := 27) rfl (fun hb4 => ?_) (fun hb4 => ?_)
    ·try simp only [q1, q2, q3, q4, q5, q6, q7, q8, q9] at hb4
     have hc := hb4
     refine sO [(0, _), (1, _), (4, _), (5, _), (6, _)] [] ?_
     refine sw_reg ?_
     refine rA ?_ (x := tM)
     refine rA ?_ (x := vM false [PV.sl .v _])
     refine rA ?_ (x := sM)
     refine rA ?_ (x := loc_index (by decide) sl_25 (by exact ⟨⟩) (by exact rfl) (by exact getm2 (by omega) rfl) (by exact rfl))
     refine rA ?_ (x := lE [PV.val _] ty_3)
     refine rA ?_ (x := loc_bslice (qs := [(false, [PV.val _])]) (by decide) sl_25 z_3 (by decide) rfl rfl rfl rfl rfl (by exact Nat.le_of_ble_eq_true rfl) (by exact (And.intro (by exact ⟨⟩) True.intro)) rfl)
     refine rA ?_ (x := loc_append (by decide) sl_25 z_3 rfl rfl (by decide) rfl (by simp only [List.length_map, List.length_append, List.length_cons, List.length_nil]; omega) (by simp only [List.length_map, List.length_append, List.length_cons, List.length_nil]; omega))
     refine rA ?_ (x := tA)
     refine sO [(0, _), (1, _), (4, _), (5, _), (6, _)] [] ?_
     refine sw_reg ?_
     refine rA ?_ (x := sM)
     refine rA ?_ (x := B_add)
     refine rA ?_ (x := sA)
     refine Exists.intro (k + 1) (And.intro (by exact ⟨by omega, fun _ => hok2⟩) (And.intro (by omega) (And.intro (And.intro (by exact ⟨rfl, rfl, rfl, ⟨⟩⟩) (by exact ⟨⟩)) (And.intro (by exact And.intro (by exact slc_eq (by rw [tk_succ hlt, List.filter_append, List.map_append]; simp [hc, cInt])) (And.intro (by exact rfl) (True.intro))) (by exact ⟨⟩)))))
    ·try simp only [q1, q2, q3, q4, q5, q6, q7, q8, q9] at hb4
     have hc := hb4
     refine sw_skip ?_
     refine sO [(0, _), (1, _), (4, _), (5, _), (6, _)] [] ?_
     refine sw_reg ?_
     refine rA ?_ (x := sM)
     refine rA ?_ (x := B_add)
     refine rA ?_ (x := sA)
     refine Exists.intro (k + 1) (And.intro (by exact ⟨by omega, fun _ => hok2⟩) (And.intro (by omega) (And.intro (And.intro (by exact ⟨rfl, rfl, rfl, ⟨⟩⟩) (by exact ⟨⟩)) (And.intro (by exact And.intro (by exact slc_eq (by rw [tk_succ hlt, List.filter_append, List.map_append]; simp [hc, cInt])) (And.intro (by exact rfl) (True.intro))) (by exact ⟨⟩)))))
   ·try simp only [q1, q2, q3, q4, q5, q6, q7, q8, q9] at hb3
    have hfin : (k = a.length ∧ (okSet a && okSet b) = true) ∨ (k = 0 ∧ (a.length = 0 ∨ (okSet a && okSet b) = false)) := by
     by_cases h0k : 0 < k
     ·left
      have := ha h0k
      refine ⟨?_, this⟩
      rw [Bool.and_eq_true] at this
      by_cases hka : k = a.length
      ·exact hka
      ·have : k < a.length := by omega
       simp_all
     ·right
      refine ⟨by omega, ?_⟩
      by_cases hka : a.length = 0
      ·exact .inl hka
      ·right
       have : k < a.length := by omega
       cases h1 : okSet a <;> cases h2 : okSet b <;> simp_all
    refine sw_exit ?_
    refine sw_seq ?_
    refine sO [(0, _), (1, _), (4, _), (5, _), (6, _)] [] ?_
    refine sw_reg ?_
    refine rA ?_ (x := tM)
    refine rA ?_ (x := tA)
    refine sw_ret ?_
    exact (And.intro (by refine slc_eq ?_; rw [meet_end ha hfin]) True.intro)
  ·have sg2 := g2
   try simp only [q1, q2, q3, q4, q5, q6, q7, q8, q9] at sg2
   refine RunS.s0f g2 ?_
   refine RunS.s0f g2 ?_
   refine rA ?_ (x := pkF g2)
   refine sw_cond (t := 19) rfl (fun hb_ => nomatch hb_) (fun hb_ => ?_)
   have hfin : (k = a.length ∧ (okSet a && okSet b) = true) ∨ (k = 0 ∧ (a.length = 0 ∨ (okSet a && okSet b) = false)) := by
    by_cases h0k : 0 < k
    ·left
     have := ha h0k
     refine ⟨?_, this⟩
     rw [Bool.and_eq_true] at this
     by_cases hka : k = a.length
     ·exact hka
     ·have : k < a.length := by omega
      simp_all
    ·right
     refine ⟨by omega, ?_⟩
     by_cases hka : a.length = 0
     ·exact .inl hka
     ·right
      have : k < a.length := by omega
      cases h1 : okSet a <;> cases h2 : okSet b <;> simp_all
   refine sw_exit ?_
   refine sw_seq ?_
   refine sO [(0, _), (1, _), (4, _), (5, _), (6, _)] [] ?_
   refine sw_reg ?_
   refine rA ?_ (x := tM)
   refine rA ?_ (x := tA)
   refine sw_ret ?_
   exact (And.intro (by refine slc_eq ?_; rw [meet_end ha hfin]) True.intro)
 ·have sg1 := g1
  try simp only [q1, q2, q3, q4, q5, q6, q7, q8, q9] at sg1
  refine RunS.s0f g1 ?_
  refine RunS.s0f g1 ?_
  refine rA ?_ (x := pkF g1)
  refine rA ?_ (x := sM)
  refine RunS.cases (s := 16) rfl (fun g6 => nomatch g6) (fun g6 => ?_)
  refine RunS.s0f g6 ?_
  refine RunS.s0f g6 ?_
  refine rA ?_ (x := pkF g6)
  refine sw_cond (t := 19) rfl (fun hb_ => nomatch hb_) (fun hb_ => ?_)
  have hfin : (k = a.length ∧ (okSet a && okSet b) = true) ∨ (k = 0 ∧ (a.length = 0 ∨ (okSet a && okSet b) = false)) := by
   by_cases h0k : 0 < k
   ·left
    have := ha h0k
    refine ⟨?_, this⟩
    rw [Bool.and_eq_true] at this
    by_cases hka : k = a.length
    ·exact hka
    ·have : k < a.length := by omega
     simp_all
   ·right
    refine ⟨by omega, ?_⟩
    by_cases hka : a.length = 0
    ·exact .inl hka
    ·right
     have : k < a.length := by omega
     cases h1 : okSet a <;> cases h2 : okSet b <;> simp_all
  refine sw_exit ?_
  refine sw_seq ?_
  refine sO [(0, _), (1, _), (4, _), (5, _), (6, _)] [] ?_
  refine sw_reg ?_
  refine rA ?_ (x := tM)
  refine rA ?_ (x := tA)
  refine sw_ret ?_
  exact (And.intro (by refine slc_eq ?_; rw [meet_end ha hfin]) True.intro)
end Go.Proofs.YteflgldonmgejaaGreat
