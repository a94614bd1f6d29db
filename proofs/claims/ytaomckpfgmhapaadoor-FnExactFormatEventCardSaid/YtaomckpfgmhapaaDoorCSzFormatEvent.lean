/- What functions of the program compute. No condition. -/
import Derived.Test.YtaomckpfgmhapaaDoorCDb
import Derived.KernelRfl
set_option linter.unusedVariables false
set_option linter.unusedSimpArgs false
namespace Go.Proofs.YtaomckpfgmhapaaDoor
open Go Go.RowKit M
set_option maxRecDepth 10000
attribute [local irreducible] PV.Lcl PV.LclR RV.Lcl
theorem wt0_IntS (x : List Int) : (wtIntS x : Int) = x.length := by
 have h : ∀ l : List Int, (l.map wtInt).sum = 0 := by
  intro l
  induction l with
  | nil => rfl
  | cons a l ih => rw [List.map_cons, List.sum_cons, ih]; rfl
 simp [wtIntS, h]
theorem sz_IntS {x : List Int} {l : Int}  (h0l : 0 ≤ l) (h1l : l ≤ 1048576) : SCall Tryd.prog 71 [(false, [PV.sl .v (x.map cInt)]), (false, [PV.val (vI l)])] (resRV [(false, [PV.val (vI (szR l (wtIntS x)))])]) := by
 refine scall_of (rs := [(false, [PV.val (vI (szR l (wtIntS x)))])]) Tryd.func71 rfl (Nat.le_of_ble_eq_true rfl) (borA_cons (BorL.cons (PV.bor_sl _) BorL.nil) (borA_cons (BorL.cons (PV.bor_val _) BorL.nil) borA_nil)) ?_
 intro h0 w0 Fz0
 refine sw_len (s := 0) rfl fun hl0 => ?_
 try rw [List.length_map] at hl0
 refine sw_seq ?_
 refine sw_reg ?_
 refine rA ?_ (x := kA)
 refine sw_seq ?_
 refine sO [(0, _), (1, _), (4, _)] [] ?_
 refine sw_reg ?_
 refine rA ?_ (x := sM)
 refine rA ?_ (x := vM false [PV.sl .v _])
 refine rA ?_ (x := lN sl_41)
 refine rA ?_ (x := B_sub)
 refine rA ?_ (x := sA)
 refine sw_seq ?_
 refine sw_seq ?_
 refine sO [(0, _), (1, _), (4, _)] [] ?_
 refine sw_reg ?_
 refine rA ?_ (x := sM)
 refine rA ?_ (x := B_lss)
 refine sw_cond (t := 10) rfl (fun hb1 => ?_) (fun hb1 => ?_)
 ·try simp only [q1, q2, q3, q4, q5, q6, q7, q8, q9] at hb1
  refine sw_seq ?_
  refine sO [(0, _), (1, _), (4, _)] [] ?_
  refine sw_reg ?_
  refine rA ?_ (x := kA)
  refine sw_ret ?_
  exact (And.intro (by refine int_eq ?_; exact (szR_no (by have := wt0_IntS x; omega)).symm) True.intro)
 ·try simp only [q1, q2, q3, q4, q5, q6, q7, q8, q9] at hb1
  refine sw_skip ?_
  refine sw_seq ?_
  refine sO [(0, _), (1, _), (4, _)] [] ?_
  refine sw_reg ?_
  refine rA ?_ (x := sM)
  refine rA ?_ (x := sA)
  refine sw_ret ?_
  exact (And.intro (by refine int_eq ?_; exact (by have := wt0_IntS x; rw [szR_yes (by omega), this])) True.intro)
theorem wt0_CondS (x : List Cond) : (wtCondS x : Int) = x.length := by
 have h : ∀ l : List Cond, (l.map wtCond).sum = 0 := by
  intro l
  induction l with
  | nil => rfl
  | cons a l ih => rw [List.map_cons, List.sum_cons, ih]; rfl
 simp [wtCondS, h]
theorem sz_CondS {x : List Cond} {l : Int}  (h0l : 0 ≤ l) (h1l : l ≤ 1048576) : SCall Tryd.prog 92 [(false, [PV.sl .v (x.map cCond)]), (false, [PV.val (vI l)])] (resRV [(false, [PV.val (vI (szR l (wtCondS x)))])]) := by
 refine scall_of (rs := [(false, [PV.val (vI (szR l (wtCondS x)))])]) Tryd.func92 rfl (Nat.le_of_ble_eq_true rfl) (borA_cons (BorL.cons (PV.bor_sl _) BorL.nil) (borA_cons (BorL.cons (PV.bor_val _) BorL.nil) borA_nil)) ?_
 intro h0 w0 Fz0
 refine sw_len (s := 0) rfl fun hl0 => ?_
 try rw [List.length_map] at hl0
 refine sw_seq ?_
 refine sw_reg ?_
 refine rA ?_ (x := kA)
 refine sw_seq ?_
 refine sO [(0, _), (1, _), (4, _)] [] ?_
 refine sw_reg ?_
 refine rA ?_ (x := sM)
 refine rA ?_ (x := vM false [PV.sl .v _])
 refine rA ?_ (x := lN sl_40)
 refine rA ?_ (x := B_sub)
 refine rA ?_ (x := sA)
 refine sw_seq ?_
 refine sw_seq ?_
 refine sO [(0, _), (1, _), (4, _)] [] ?_
 refine sw_reg ?_
 refine rA ?_ (x := sM)
 refine rA ?_ (x := B_lss)
 refine sw_cond (t := 10) rfl (fun hb1 => ?_) (fun hb1 => ?_)
 ·try simp only [q1, q2, q3, q4, q5, q6, q7, q8, q9] at hb1
  refine sw_seq ?_
  refine sO [(0, _), (1, _), (4, _)] [] ?_
  refine sw_reg ?_
  refine rA ?_ (x := kA)
  refine sw_ret ?_
  exact (And.intro (by refine int_eq ?_; exact (szR_no (by have := wt0_CondS x; omega)).symm) True.intro)
 ·try simp only [q1, q2, q3, q4, q5, q6, q7, q8, q9] at hb1
  refine sw_skip ?_
  refine sw_seq ?_
  refine sO [(0, _), (1, _), (4, _)] [] ?_
  refine sw_reg ?_
  refine rA ?_ (x := sM)
  refine rA ?_ (x := sA)
  refine sw_ret ?_
  exact (And.intro (by refine int_eq ?_; exact (by have := wt0_CondS x; rw [szR_yes (by omega), this])) True.intro)
theorem sz_Row {x : Row} {l : Int}  (h0l : 0 ≤ l) (h1l : l ≤ 1048576) : SCall Tryd.prog 93 [(true, [PV.val (vI x.Id), PV.sl .v (x.Values.map cInt)]), (false, [PV.val (vI l)])] (resRV [(false, [PV.val (vI (szR l (wtRow x)))])]) := by
 refine scall_of (rs := [(false, [PV.val (vI (szR l (wtRow x)))])]) Tryd.func93 rfl (Nat.le_of_ble_eq_true rfl) (borA_cons (BorL.cons (PV.bor_val _) (BorL.cons (PV.bor_sl _) BorL.nil)) (borA_cons (BorL.cons (PV.bor_val _) BorL.nil) borA_nil)) ?_
 intro h0 w0 Fz0
 refine sw_slen (s := 0) (j := 1) rfl rfl fun hl0_1 => ?_
 try rw [List.length_map] at hl0_1
 have hw : (wtRow x : Int) = (wtIntS x.Values : Int) := by simp [wtRow, wtInt]
 refine sw_seq ?_
 refine sw_reg ?_
 refine RunS.step (by exact ⟨rfl, ⟨⟩⟩) (by exact ⟨⟩) (LocG.of rfl (loc_box (ag := true) (cs := [PV.val _, PV.sl _ _]) (by decide) (by exact ⟨⟩))) (free1 (Free.of_ rfl)) ?_
 refine rA ?_ (x := kA)
 refine sw_seq ?_
 refine sO [(1, _), (2, _), (4, _)] [(2, (59, [PV.val _, PV.sl _ _]))] ?_
 refine sw_reg ?_
 refine rA ?_ (x := lF fd_59_1)
 refine rA ?_ (x := lD [PV.sl .v _] ty_41)
 refine rA ?_ (x := sM)
 refine rA ?_ (x := cL [(false, [PV.sl _ _]), (false, [PV.val _])] [(false, [PV.sl .v _]), (false, [PV.val _])] c_71 (hs := by exact sz_IntS (by omega) (by omega)))
 refine rA ?_ (x := sA)
 refine sw_seq ?_
 refine sw_seq ?_
 refine sO [(1, _), (2, _), (4, _)] [(2, _)] ?_
 refine sw_reg ?_
 refine rA ?_ (x := sM)
 refine rA ?_ (x := B_lss)
 refine sw_cond (t := 10) rfl (fun hb1 => ?_) (fun hb1 => ?_)
 ·try simp only [q1, q2, q3, q4, q5, q6, q7, q8, q9] at hb1
  have hn0 := szR_neg (w := wtIntS x.Values) (l := l) (by omega) hb1
  refine sw_seq ?_
  refine sO [(1, _), (2, _), (4, _)] [(2, _)] ?_
  refine sw_reg ?_
  refine rA ?_ (x := kA)
  refine sw_ret ?_
  exact (And.intro (by refine int_eq ?_; exact (szR_no (by omega)).symm) True.intro)
 ·try simp only [q1, q2, q3, q4, q5, q6, q7, q8, q9] at hb1
  have hp0 := szR_pos (w := wtIntS x.Values) (l := l) hb1
  have he0 := szR_yes hp0
  refine sw_skip ?_
  refine sw_seq ?_
  refine sO [(1, _), (2, _), (4, _)] [(2, _)] ?_
  refine sw_reg ?_
  refine rA ?_ (x := sM)
  refine rA ?_ (x := sA)
  refine sw_ret ?_
  exact (And.intro (by refine int_eq ?_; (have hz := szR_yes (l := l) (n := (wtRow x : Int)) (by omega); omega)) True.intro)
theorem sz_Query {x : Query} {l : Int}  (h0l : 0 ≤ l) (h1l : l ≤ 1048576) : SCall Tryd.prog 48 [(true, [PV.val (vI x.Id), PV.val (vI x.Tenant), PV.sl .v (x.Conds.map cCond), PV.sl .v (x.Out.map cInt)]), (false, [PV.val (vI l)])] (resRV [(false, [PV.val (vI (szR l (wtQuery x)))])]) := by
 refine scall_of (rs := [(false, [PV.val (vI (szR l (wtQuery x)))])]) Tryd.func48 rfl (Nat.le_of_ble_eq_true rfl) (borA_cons (BorL.cons (PV.bor_val _) (BorL.cons (PV.bor_val _) (BorL.cons (PV.bor_sl _) (BorL.cons (PV.bor_sl _) BorL.nil)))) (borA_cons (BorL.cons (PV.bor_val _) BorL.nil) borA_nil)) ?_
 intro h0 w0 Fz0
 refine sw_slen (s := 0) (j := 2) rfl rfl fun hl0_2 => ?_
 try rw [List.length_map] at hl0_2
 refine sw_slen (s := 0) (j := 3) rfl rfl fun hl0_3 => ?_
 try rw [List.length_map] at hl0_3
 have hw : (wtQuery x : Int) = (wtCondS x.Conds : Int) + (wtIntS x.Out : Int) := by simp [wtQuery, wtInt]
 refine sw_seq ?_
 refine sw_reg ?_
 refine RunS.step (by exact ⟨rfl, ⟨⟩⟩) (by exact ⟨⟩) (LocG.of rfl (loc_box (ag := true) (cs := [PV.val _, PV.val _, PV.sl _ _, PV.sl _ _]) (by decide) (by exact ⟨⟩))) (free1 (Free.of_ rfl)) ?_
 refine rA ?_ (x := kA)
 refine sw_seq ?_
 refine sO [(1, _), (2, _), (4, _)] [(2, (43, [PV.val _, PV.val _, PV.sl _ _, PV.sl _ _]))] ?_
 refine sw_reg ?_
 refine rA ?_ (x := lF fd_43_2)
 refine rA ?_ (x := lD [PV.sl .v _] ty_40)
 refine rA ?_ (x := sM)
 refine rA ?_ (x := cL [(false, [PV.sl _ _]), (false, [PV.val _])] [(false, [PV.sl .v _]), (false, [PV.val _])] c_92 (hs := by exact sz_CondS (by omega) (by omega)))
 refine rA ?_ (x := sA)
 refine sw_seq ?_
 refine sw_seq ?_
 refine sO [(1, _), (2, _), (4, _)] [(2, _)] ?_
 refine sw_reg ?_
 refine rA ?_ (x := sM)
 refine rA ?_ (x := B_lss)
 refine sw_cond (t := 10) rfl (fun hb1 => ?_) (fun hb1 => ?_)
 ·try simp only [q1, q2, q3, q4, q5, q6, q7, q8, q9] at hb1
  have hn0 := szR_neg (w := wtCondS x.Conds) (l := l) (by omega) hb1
  refine sw_seq ?_
  refine sO [(1, _), (2, _), (4, _)] [(2, _)] ?_
  refine sw_reg ?_
  refine rA ?_ (x := kA)
  refine sw_ret ?_
  exact (And.intro (by refine int_eq ?_; exact (szR_no (by omega)).symm) True.intro)
 ·try simp only [q1, q2, q3, q4, q5, q6, q7, q8, q9] at hb1
  have hp0 := szR_pos (w := wtCondS x.Conds) (l := l) hb1
  have he0 := szR_yes hp0
  refine sw_skip ?_
  refine sw_seq ?_
  refine sO [(1, _), (2, _), (4, _)] [(2, _)] ?_
  refine sw_reg ?_
  refine rA ?_ (x := lF fd_43_3)
  refine rA ?_ (x := lD [PV.sl .v _] ty_41)
  refine rA ?_ (x := sM)
  refine rA ?_ (x := cL [(false, [PV.sl _ _]), (false, [PV.val _])] [(false, [PV.sl .v _]), (false, [PV.val _])] c_71 (hs := by exact sz_IntS (by omega) (by omega)))
  refine rA ?_ (x := sA)
  refine sw_seq ?_
  refine sw_seq ?_
  refine sO [(1, _), (2, _), (4, _)] [(2, _)] ?_
  refine sw_reg ?_
  refine rA ?_ (x := sM)
  refine rA ?_ (x := B_lss)
  refine sw_cond (t := 16) rfl (fun hb2 => ?_) (fun hb2 => ?_)
  ·try simp only [q1, q2, q3, q4, q5, q6, q7, q8, q9] at hb2
   have hn1 := szR_neg (w := wtIntS x.Out) (l := (szR l (wtCondS x.Conds))) (by omega) hb2
   refine sw_seq ?_
   refine sO [(1, _), (2, _), (4, _)] [(2, _)] ?_
   refine sw_reg ?_
   refine rA ?_ (x := kA)
   refine sw_ret ?_
   exact (And.intro (by refine int_eq ?_; exact (szR_no (by omega)).symm) True.intro)
  ·try simp only [q1, q2, q3, q4, q5, q6, q7, q8, q9] at hb2
   have hp1 := szR_pos (w := wtIntS x.Out) (l := (szR l (wtCondS x.Conds))) hb2
   have he1 := szR_yes hp1
   refine sw_skip ?_
   refine sw_seq ?_
   refine sO [(1, _), (2, _), (4, _)] [(2, _)] ?_
   refine sw_reg ?_
   refine rA ?_ (x := sM)
   refine rA ?_ (x := sA)
   refine sw_ret ?_
   exact (And.intro (by refine int_eq ?_; (have hz := szR_yes (l := l) (n := (wtQuery x : Int)) (by omega); omega)) True.intro)
theorem sz_Update {x : Update} {l : Int}  (h0l : 0 ≤ l) (h1l : l ≤ 1048576) : SCall Tryd.prog 62 [(true, [PV.val (vI x.Kind), PV.val (vI x.Row.Id), PV.sl .v (x.Row.Values.map cInt), PV.val (vI x.Field), PV.val (vI x.Value)]), (false, [PV.val (vI l)])] (resRV [(false, [PV.val (vI (szR l (wtUpdate x)))])]) := by
 refine scall_of (rs := [(false, [PV.val (vI (szR l (wtUpdate x)))])]) Tryd.func62 rfl (Nat.le_of_ble_eq_true rfl) (borA_cons (BorL.cons (PV.bor_val _) (BorL.cons (PV.bor_val _) (BorL.cons (PV.bor_sl _) (BorL.cons (PV.bor_val _) (BorL.cons (PV.bor_val _) BorL.nil))))) (borA_cons (BorL.cons (PV.bor_val _) BorL.nil) borA_nil)) ?_
 intro h0 w0 Fz0
 refine sw_slen (s := 0) (j := 2) rfl rfl fun hl0_2 => ?_
 try rw [List.length_map] at hl0_2
 have hw : (wtUpdate x : Int) = (wtRow x.Row : Int) := by simp [wtUpdate, wtInt]
 refine sw_seq ?_
 refine sw_reg ?_
 refine RunS.step (by exact ⟨rfl, ⟨⟩⟩) (by exact ⟨⟩) (LocG.of rfl (loc_box (ag := true) (cs := [PV.val _, PV.val _, PV.sl _ _, PV.val _, PV.val _]) (by decide) (by exact ⟨⟩))) (free1 (Free.of_ rfl)) ?_
 refine rA ?_ (x := kA)
 refine sw_seq ?_
 refine sO [(1, _), (2, _), (4, _)] [(2, (61, [PV.val _, PV.val _, PV.sl _ _, PV.val _, PV.val _]))] ?_
 refine sw_reg ?_
 refine rA ?_ (x := lF fd_61_1)
 refine rA ?_ (x := lD [PV.val _, PV.sl .v _] ty_59)
 refine rA ?_ (x := sM)
 refine rA ?_ (x := cL [(true, [PV.val _, PV.sl _ _]), (false, [PV.val _])] [(true, [PV.val _, PV.sl .v _]), (false, [PV.val _])] c_93 (hs := by exact sz_Row (by omega) (by omega)))
 refine rA ?_ (x := sA)
 refine sw_seq ?_
 refine sw_seq ?_
 refine sO [(1, _), (2, _), (4, _)] [(2, _)] ?_
 refine sw_reg ?_
 refine rA ?_ (x := sM)
 refine rA ?_ (x := B_lss)
 refine sw_cond (t := 10) rfl (fun hb1 => ?_) (fun hb1 => ?_)
 ·try simp only [q1, q2, q3, q4, q5, q6, q7, q8, q9] at hb1
  have hn0 := szR_neg (w := wtRow x.Row) (l := l) (by omega) hb1
  refine sw_seq ?_
  refine sO [(1, _), (2, _), (4, _)] [(2, _)] ?_
  refine sw_reg ?_
  refine rA ?_ (x := kA)
  refine sw_ret ?_
  exact (And.intro (by refine int_eq ?_; exact (szR_no (by omega)).symm) True.intro)
 ·try simp only [q1, q2, q3, q4, q5, q6, q7, q8, q9] at hb1
  have hp0 := szR_pos (w := wtRow x.Row) (l := l) hb1
  have he0 := szR_yes hp0
  refine sw_skip ?_
  refine sw_seq ?_
  refine sO [(1, _), (2, _), (4, _)] [(2, _)] ?_
  refine sw_reg ?_
  refine rA ?_ (x := sM)
  refine rA ?_ (x := sA)
  refine sw_ret ?_
  exact (And.intro (by refine int_eq ?_; (have hz := szR_yes (l := l) (n := (wtUpdate x : Int)) (by omega); omega)) True.intro)
theorem sz_Event {x : Event} {l : Int}  (h0l : 0 ≤ l) (h1l : l ≤ 1048576) : SCall Tryd.prog 22 [(true, [PV.val (vI x.Kind), PV.val (vI x.Query.Id), PV.val (vI x.Query.Tenant), PV.sl .v (x.Query.Conds.map cCond), PV.sl .v (x.Query.Out.map cInt), PV.val (vI x.Limit), PV.val (vI x.Id), PV.val (vI x.Update.Kind), PV.val (vI x.Update.Row.Id), PV.sl .v (x.Update.Row.Values.map cInt), PV.val (vI x.Update.Field), PV.val (vI x.Update.Value), PV.val (vI x.Steps)]), (false, [PV.val (vI l)])] (resRV [(false, [PV.val (vI (szR l (wtEvent x)))])]) := by
 refine scall_of (rs := [(false, [PV.val (vI (szR l (wtEvent x)))])]) Tryd.func22 rfl (Nat.le_of_ble_eq_true rfl) (borA_cons (BorL.cons (PV.bor_val _) (BorL.cons (PV.bor_val _) (BorL.cons (PV.bor_val _) (BorL.cons (PV.bor_sl _) (BorL.cons (PV.bor_sl _) (BorL.cons (PV.bor_val _) (BorL.cons (PV.bor_val _) (BorL.cons (PV.bor_val _) (BorL.cons (PV.bor_val _) (BorL.cons (PV.bor_sl _) (BorL.cons (PV.bor_val _) (BorL.cons (PV.bor_val _) (BorL.cons (PV.bor_val _) BorL.nil))))))))))))) (borA_cons (BorL.cons (PV.bor_val _) BorL.nil) borA_nil)) ?_
 intro h0 w0 Fz0
 refine sw_slen (s := 0) (j := 3) rfl rfl fun hl0_3 => ?_
 try rw [List.length_map] at hl0_3
 refine sw_slen (s := 0) (j := 4) rfl rfl fun hl0_4 => ?_
 try rw [List.length_map] at hl0_4
 refine sw_slen (s := 0) (j := 9) rfl rfl fun hl0_9 => ?_
 try rw [List.length_map] at hl0_9
 have hw : (wtEvent x : Int) = (wtQuery x.Query : Int) + (wtUpdate x.Update : Int) := by simp [wtEvent, wtInt]
 refine sw_seq ?_
 refine sw_reg ?_
 refine RunS.step (by exact ⟨rfl, ⟨⟩⟩) (by exact ⟨⟩) (LocG.of rfl (loc_box (ag := true) (cs := [PV.val _, PV.val _, PV.val _, PV.sl _ _, PV.sl _ _, PV.val _, PV.val _, PV.val _, PV.val _, PV.sl _ _, PV.val _, PV.val _, PV.val _]) (by decide) (by exact ⟨⟩))) (free1 (Free.of_ rfl)) ?_
 refine rA ?_ (x := kA)
 refine sw_seq ?_
 refine sO [(1, _), (2, _), (4, _)] [(2, (63, [PV.val _, PV.val _, PV.val _, PV.sl _ _, PV.sl _ _, PV.val _, PV.val _, PV.val _, PV.val _, PV.sl _ _, PV.val _, PV.val _, PV.val _]))] ?_
 refine sw_reg ?_
 refine rA ?_ (x := lF fd_63_1)
 refine rA ?_ (x := lD [PV.val _, PV.val _, PV.sl .v _, PV.sl .v _] ty_43)
 refine rA ?_ (x := sM)
 refine rA ?_ (x := cL [(true, [PV.val _, PV.val _, PV.sl _ _, PV.sl _ _]), (false, [PV.val _])] [(true, [PV.val _, PV.val _, PV.sl .v _, PV.sl .v _]), (false, [PV.val _])] c_48 (hs := by exact sz_Query (by omega) (by omega)))
 refine rA ?_ (x := sA)
 refine sw_seq ?_
 refine sw_seq ?_
 refine sO [(1, _), (2, _), (4, _)] [(2, _)] ?_
 refine sw_reg ?_
 refine rA ?_ (x := sM)
 refine rA ?_ (x := B_lss)
 refine sw_cond (t := 10) rfl (fun hb1 => ?_) (fun hb1 => ?_)
 ·try simp only [q1, q2, q3, q4, q5, q6, q7, q8, q9] at hb1
  have hn0 := szR_neg (w := wtQuery x.Query) (l := l) (by omega) hb1
  refine sw_seq ?_
  refine sO [(1, _), (2, _), (4, _)] [(2, _)] ?_
  refine sw_reg ?_
  refine rA ?_ (x := kA)
  refine sw_ret ?_
  exact (And.intro (by refine int_eq ?_; exact (szR_no (by omega)).symm) True.intro)
 ·try simp only [q1, q2, q3, q4, q5, q6, q7, q8, q9] at hb1
  have hp0 := szR_pos (w := wtQuery x.Query) (l := l) hb1
  have he0 := szR_yes hp0
  refine sw_skip ?_
  refine sw_seq ?_
  refine sO [(1, _), (2, _), (4, _)] [(2, _)] ?_
  refine sw_reg ?_
  refine rA ?_ (x := lF fd_63_4)
  refine rA ?_ (x := lD [PV.val _, PV.val _, PV.sl .v _, PV.val _, PV.val _] ty_61)
  refine rA ?_ (x := sM)
  refine rA ?_ (x := cL [(true, [PV.val _, PV.val _, PV.sl _ _, PV.val _, PV.val _]), (false, [PV.val _])] [(true, [PV.val _, PV.val _, PV.sl .v _, PV.val _, PV.val _]), (false, [PV.val _])] c_62 (hs := by exact sz_Update (by omega) (by omega)))
  refine rA ?_ (x := sA)
  refine sw_seq ?_
  refine sw_seq ?_
  refine sO [(1, _), (2, _), (4, _)] [(2, _)] ?_
  refine sw_reg ?_
  refine rA ?_ (x := sM)
  refine rA ?_ (x := B_lss)
  refine sw_cond (t := 16) rfl (fun hb2 => ?_) (fun hb2 => ?_)
  ·try simp only [q1, q2, q3, q4, q5, q6, q7, q8, q9] at hb2
   have hn1 := szR_neg (w := wtUpdate x.Update) (l := (szR l (wtQuery x.Query))) (by omega) hb2
   refine sw_seq ?_
   refine sO [(1, _), (2, _), (4, _)] [(2, _)] ?_
   refine sw_reg ?_
   refine rA ?_ (x := kA)
   refine sw_ret ?_
   exact (And.intro (by refine int_eq ?_; exact (szR_no (by omega)).symm) True.intro)
  ·try simp only [q1, q2, q3, q4, q5, q6, q7, q8, q9] at hb2
   have hp1 := szR_pos (w := wtUpdate x.Update) (l := (szR l (wtQuery x.Query))) hb2
   have he1 := szR_yes hp1
   refine sw_skip ?_
   refine sw_seq ?_
   refine sO [(1, _), (2, _), (4, _)] [(2, _)] ?_
   refine sw_reg ?_
   refine rA ?_ (x := sM)
   refine rA ?_ (x := sA)
   refine sw_ret ?_
   exact (And.intro (by refine int_eq ?_; (have hz := szR_yes (l := l) (n := (wtEvent x : Int)) (by omega); omega)) True.intro)
end Go.Proofs.YtaomckpfgmhapaaDoor
