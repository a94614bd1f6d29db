/- What functions of the program compute. No condition. -/
import Derived.Test.YteflgldonmgejaaGreatDoorCDb
import Derived.KernelRfl
set_option linter.unusedVariables false
set_option linter.unusedSimpArgs false
namespace Go.Proofs.YteflgldonmgejaaGreatDoor
open Go Go.RowKit M
set_option maxRecDepth 10000
attribute [local irreducible] PV.Lcl PV.LclR RV.Lcl
theorem wt0_IntS (x : List Int) : (wtIntS x : Int) = x.length := by
 have h : ∀ l : List Int, (l.map wtInt).sum = 0 := by
  intro l
  induction l with
  | nil => rfl
  | cons a l ih => rw [List.map_cons, List.sum_cons, ih]; rfl
 simp [wtIntS, h]
theorem sz_IntS {x : List Int} {l : Int}  (h0l : 0 ≤ l) (h1l : l ≤ 1048576) : SCall Tryz.prog 26 [(false, [PV.sl .v (x.map cInt)]), (false, [PV.val (vI l)])] (resRV [(false, [PV.val (vI (szR l (wtIntS x)))])]) := by
 refine scall_of (rs := [(false, [PV.val (vI (szR l (wtIntS x)))])]) Tryz.func26 rfl (Nat.le_of_ble_eq_true rfl) (borA_cons (BorL.cons (PV.bor_sl _) BorL.nil) (borA_cons (BorL.cons (PV.bor_val _) BorL.nil) borA_nil)) ?_
 intro h0 w0 Fz0
 refine sw_len (s := 0) rfl fun hl0 => ?_
 try rw [List.length_map] at hl0
 refine sw_seq ?_
 refine sw_reg ?_
 refine rA ?_ (x := kA)
 refine sw_seq ?_
 refine sO [(0, _), (1, _), (4, _)] [] ?_
 refine sw_reg ?_
 refine rA ?_ (x := sM)
 refine rA ?_ (x := vM false [PV.sl .v _])
 refine rA ?_ (x := lN sl_25)
 refine rA ?_ (x := B_sub)
 refine rA ?_ (x := sA)
 refine sw_seq ?_
 refine sw_seq ?_
 refine sO [(0, _), (1, _), (4, _)] [] ?_
 refine sw_reg ?_
 refine rA ?_ (x := sM)
 refine rA ?_ (x := B_lss)
 refine sw_cond (t := 10) rfl (fun hb1 => ?_) (fun hb1 => ?_)
 ·try simp only [q1, q2, q3, q4, q5, q6, q7, q8, q9] at hb1
  refine sw_seq ?_
  refine sO [(0, _), (1, _), (4, _)] [] ?_
  refine sw_reg ?_
  refine rA ?_ (x := kA)
  refine sw_ret ?_
  exact (And.intro (by refine int_eq ?_; exact (szR_no (by have := wt0_IntS x; omega)).symm) True.intro)
 ·try simp only [q1, q2, q3, q4, q5, q6, q7, q8, q9] at hb1
  refine sw_skip ?_
  refine sw_seq ?_
  refine sO [(0, _), (1, _), (4, _)] [] ?_
  refine sw_reg ?_
  refine rA ?_ (x := sM)
  refine rA ?_ (x := sA)
  refine sw_ret ?_
  exact (And.intro (by refine int_eq ?_; exact (by have := wt0_IntS x; rw [szR_yes (by omega), this])) True.intro)
theorem sz_Charge {x : Charge} {l : Int}  (h0l : 0 ≤ l) (h1l : l ≤ 1048576) : SCall Tryz.prog 78 [(true, [PV.val (vI x.Segment), PV.val (vI x.Base), PV.sl .v (x.Ids.map cInt), PV.sl .v (x.Tenants.map cInt), PV.sl .v (x.Rows.map cInt)]), (false, [PV.val (vI l)])] (resRV [(false, [PV.val (vI (szR l (wtCharge x)))])]) := by
 refine scall_of (rs := [(false, [PV.val (vI (szR l (wtCharge x)))])]) Tryz.func78 rfl (Nat.le_of_ble_eq_true rfl) (borA_cons (BorL.cons (PV.bor_val _) (BorL.cons (PV.bor_val _) (BorL.cons (PV.bor_sl _) (BorL.cons (PV.bor_sl _) (BorL.cons (PV.bor_sl _) BorL.nil))))) (borA_cons (BorL.cons (PV.bor_val _) BorL.nil) borA_nil)) ?_
 intro h0 w0 Fz0
 refine sw_slen (s := 0) (j := 2) rfl rfl fun hl0_2 => ?_
 try rw [List.length_map] at hl0_2
 refine sw_slen (s := 0) (j := 3) rfl rfl fun hl0_3 => ?_
 try rw [List.length_map] at hl0_3
 refine sw_slen (s := 0) (j := 4) rfl rfl fun hl0_4 => ?_
 try rw [List.length_map] at hl0_4
 have hw : (wtCharge x : Int) = (wtIntS x.Ids : Int) + (wtIntS x.Tenants : Int) + (wtIntS x.Rows : Int) := by simp [wtCharge, wtInt]
 refine sw_seq ?_
 refine sw_reg ?_
 refine RunS.step (by exact ⟨rfl, ⟨⟩⟩) (by exact ⟨⟩) (LocG.of rfl (loc_box (ag := true) (cs := [PV.val _, PV.val _, PV.sl _ _, PV.sl _ _, PV.sl _ _]) (by decide) (by exact ⟨⟩))) (free1 (Free.of_ rfl)) ?_
 refine rA ?_ (x := kA)
 refine sw_seq ?_
 refine sO [(1, _), (2, _), (4, _)] [(2, (126, [PV.val _, PV.val _, PV.sl _ _, PV.sl _ _, PV.sl _ _]))] ?_
 refine sw_reg ?_
 refine rA ?_ (x := lF fd_126_2)
 refine rA ?_ (x := lD [PV.sl .v _] ty_25)
 refine rA ?_ (x := sM)
 refine rA ?_ (x := cL [(false, [PV.sl _ _]), (false, [PV.val _])] [(false, [PV.sl .v _]), (false, [PV.val _])] c_26 (hs := by exact sz_IntS (by omega) (by omega)))
 refine rA ?_ (x := sA)
 refine sw_seq ?_
 refine sw_seq ?_
 refine sO [(1, _), (2, _), (4, _)] [(2, _)] ?_
 refine sw_reg ?_
 refine rA ?_ (x := sM)
 refine rA ?_ (x := B_lss)
 refine sw_cond (t := 10) rfl (fun hb1 => ?_) (fun hb1 => ?_)
 ·try simp only [q1, q2, q3, q4, q5, q6, q7, q8, q9] at hb1
  have hn0 := szR_neg (w := wtIntS x.Ids) (l := l) (by omega) hb1
  refine sw_seq ?_
  refine sO [(1, _), (2, _), (4, _)] [(2, _)] ?_
  refine sw_reg ?_
  refine rA ?_ (x := kA)
  refine sw_ret ?_
  exact (And.intro (by refine int_eq ?_; exact (szR_no (by omega)).symm) True.intro)
 ·try simp only [q1, q2, q3, q4, q5, q6, q7, q8, q9] at hb1
  have hp0 := szR_pos (w := wtIntS x.Ids) (l := l) hb1
  have he0 := szR_yes hp0
  refine sw_skip ?_
  refine sw_seq ?_
  refine sO [(1, _), (2, _), (4, _)] [(2, _)] ?_
  refine sw_reg ?_
  refine rA ?_ (x := lF fd_126_3)
  refine rA ?_ (x := lD [PV.sl .v _] ty_25)
  refine rA ?_ (x := sM)
  refine rA ?_ (x := cL [(false, [PV.sl _ _]), (false, [PV.val _])] [(false, [PV.sl .v _]), (false, [PV.val _])] c_26 (hs := by exact sz_IntS (by omega) (by omega)))
  refine rA ?_ (x := sA)
  refine sw_seq ?_
  refine sw_seq ?_
  refine sO [(1, _), (2, _), (4, _)] [(2, _)] ?_
  refine sw_reg ?_
  refine rA ?_ (x := sM)
  refine rA ?_ (x := B_lss)
  refine sw_cond (t := 16) rfl (fun hb2 => ?_) (fun hb2 => ?_)
  ·try simp only [q1, q2, q3, q4, q5, q6, q7, q8, q9] at hb2
   have hn1 := szR_neg (w := wtIntS x.Tenants) (l := (szR l (wtIntS x.Ids))) (by omega) hb2
   refine sw_seq ?_
   refine sO [(1, _), (2, _), (4, _)] [(2, _)] ?_
   refine sw_reg ?_
   refine rA ?_ (x := kA)
   refine sw_ret ?_
   exact (And.intro (by refine int_eq ?_; exact (szR_no (by omega)).symm) True.intro)
  ·try simp only [q1, q2, q3, q4, q5, q6, q7, q8, q9] at hb2
   have hp1 := szR_pos (w := wtIntS x.Tenants) (l := (szR l (wtIntS x.Ids))) hb2
   have he1 := szR_yes hp1
   refine sw_skip ?_
   refine sw_seq ?_
   refine sO [(1, _), (2, _), (4, _)] [(2, _)] ?_
   refine sw_reg ?_
   refine rA ?_ (x := lF fd_126_4)
   refine rA ?_ (x := lD [PV.sl .v _] ty_25)
   refine rA ?_ (x := sM)
   refine rA ?_ (x := cL [(false, [PV.sl _ _]), (false, [PV.val _])] [(false, [PV.sl .v _]), (false, [PV.val _])] c_26 (hs := by exact sz_IntS (by omega) (by omega)))
   refine rA ?_ (x := sA)
   refine sw_seq ?_
   refine sw_seq ?_
   refine sO [(1, _), (2, _), (4, _)] [(2, _)] ?_
   refine sw_reg ?_
   refine rA ?_ (x := sM)
   refine rA ?_ (x := B_lss)
   refine sw_cond (t := 22) rfl (fun hb3 => ?_) (fun hb3 => ?_)
   ·try simp only [q1, q2, q3, q4, q5, q6, q7, q8, q9] at hb3
    have hn2 := szR_neg (w := wtIntS x.Rows) (l := (szR (szR l (wtIntS x.Ids)) (wtIntS x.Tenants))) (by omega) hb3
    refine sw_seq ?_
    refine sO [(1, _), (2, _), (4, _)] [(2, _)] ?_
    refine sw_reg ?_
    refine rA ?_ (x := kA)
    refine sw_ret ?_
    exact (And.intro (by refine int_eq ?_; exact (szR_no (by omega)).symm) True.intro)
   ·try simp only [q1, q2, q3, q4, q5, q6, q7, q8, q9] at hb3
    have hp2 := szR_pos (w := wtIntS x.Rows) (l := (szR (szR l (wtIntS x.Ids)) (wtIntS x.Tenants))) hb3
    have he2 := szR_yes hp2
    refine sw_skip ?_
    refine sw_seq ?_
    refine sO [(1, _), (2, _), (4, _)] [(2, _)] ?_
    refine sw_reg ?_
    refine rA ?_ (x := sM)
    refine rA ?_ (x := sA)
    refine sw_ret ?_
    exact (And.intro (by refine int_eq ?_; (have hz := szR_yes (l := l) (n := (wtCharge x : Int)) (by omega); omega)) True.intro)
theorem sz_Version {x : Version} {l : Int}  (h0l : 0 ≤ l) (h1l : l ≤ 1048576) : SCall Tryz.prog 220 [(true, [PV.val (vI x.Id), PV.sl .v (x.Values.map cInt), PV.val (vI x.Born), PV.val (vI x.Died)]), (false, [PV.val (vI l)])] (resRV [(false, [PV.val (vI (szR l (wtVersion x)))])]) := by
 refine scall_of (rs := [(false, [PV.val (vI (szR l (wtVersion x)))])]) Tryz.func220 rfl (Nat.le_of_ble_eq_true rfl) (borA_cons (BorL.cons (PV.bor_val _) (BorL.cons (PV.bor_sl _) (BorL.cons (PV.bor_val _) (BorL.cons (PV.bor_val _) BorL.nil)))) (borA_cons (BorL.cons (PV.bor_val _) BorL.nil) borA_nil)) ?_
 intro h0 w0 Fz0
 refine sw_slen (s := 0) (j := 1) rfl rfl fun hl0_1 => ?_
 try rw [List.length_map] at hl0_1
 have hw : (wtVersion x : Int) = (wtIntS x.Values : Int) := by simp [wtVersion, wtInt]
 refine sw_seq ?_
 refine sw_reg ?_
 refine RunS.step (by exact ⟨rfl, ⟨⟩⟩) (by exact ⟨⟩) (LocG.of rfl (loc_box (ag := true) (cs := [PV.val _, PV.sl _ _, PV.val _, PV.val _]) (by decide) (by exact ⟨⟩))) (free1 (Free.of_ rfl)) ?_
 refine rA ?_ (x := kA)
 refine sw_seq ?_
 refine sO [(1, _), (2, _), (4, _)] [(2, (231, [PV.val _, PV.sl _ _, PV.val _, PV.val _]))] ?_
 refine sw_reg ?_
 refine rA ?_ (x := lF fd_231_1)
 refine rA ?_ (x := lD [PV.sl .v _] ty_25)
 refine rA ?_ (x := sM)
 refine rA ?_ (x := cL [(false, [PV.sl _ _]), (false, [PV.val _])] [(false, [PV.sl .v _]), (false, [PV.val _])] c_26 (hs := by exact sz_IntS (by omega) (by omega)))
 refine rA ?_ (x := sA)
 refine sw_seq ?_
 refine sw_seq ?_
 refine sO [(1, _), (2, _), (4, _)] [(2, _)] ?_
 refine sw_reg ?_
 refine rA ?_ (x := sM)
 refine rA ?_ (x := B_lss)
 refine sw_cond (t := 10) rfl (fun hb1 => ?_) (fun hb1 => ?_)
 ·try simp only [q1, q2, q3, q4, q5, q6, q7, q8, q9] at hb1
  have hn0 := szR_neg (w := wtIntS x.Values) (l := l) (by omega) hb1
  refine sw_seq ?_
  refine sO [(1, _), (2, _), (4, _)] [(2, _)] ?_
  refine sw_reg ?_
  refine rA ?_ (x := kA)
  refine sw_ret ?_
  exact (And.intro (by refine int_eq ?_; exact (szR_no (by omega)).symm) True.intro)
 ·try simp only [q1, q2, q3, q4, q5, q6, q7, q8, q9] at hb1
  have hp0 := szR_pos (w := wtIntS x.Values) (l := l) hb1
  have he0 := szR_yes hp0
  refine sw_skip ?_
  refine sw_seq ?_
  refine sO [(1, _), (2, _), (4, _)] [(2, _)] ?_
  refine sw_reg ?_
  refine rA ?_ (x := sM)
  refine rA ?_ (x := sA)
  refine sw_ret ?_
  exact (And.intro (by refine int_eq ?_; (have hz := szR_yes (l := l) (n := (wtVersion x : Int)) (by omega); omega)) True.intro)
theorem wt0_CondS (x : List Cond) : (wtCondS x : Int) = x.length := by
 have h : ∀ l : List Cond, (l.map wtCond).sum = 0 := by
  intro l
  induction l with
  | nil => rfl
  | cons a l ih => rw [List.map_cons, List.sum_cons, ih]; rfl
 simp [wtCondS, h]
theorem sz_CondS {x : List Cond} {l : Int}  (h0l : 0 ≤ l) (h1l : l ≤ 1048576) : SCall Tryz.prog 221 [(false, [PV.sl .v (x.map cCond)]), (false, [PV.val (vI l)])] (resRV [(false, [PV.val (vI (szR l (wtCondS x)))])]) := by
 refine scall_of (rs := [(false, [PV.val (vI (szR l (wtCondS x)))])]) Tryz.func221 rfl (Nat.le_of_ble_eq_true rfl) (borA_cons (BorL.cons (PV.bor_sl _) BorL.nil) (borA_cons (BorL.cons (PV.bor_val _) BorL.nil) borA_nil)) ?_
 intro h0 w0 Fz0
 refine sw_len (s := 0) rfl fun hl0 => ?_
 try rw [List.length_map] at hl0
 refine sw_seq ?_
 refine sw_reg ?_
 refine rA ?_ (x := kA)
 refine sw_seq ?_
 refine sO [(0, _), (1, _), (4, _)] [] ?_
 refine sw_reg ?_
 refine rA ?_ (x := sM)
 refine rA ?_ (x := vM false [PV.sl .v _])
 refine rA ?_ (x := lN sl_115)
 refine rA ?_ (x := B_sub)
 refine rA ?_ (x := sA)
 refine sw_seq ?_
 refine sw_seq ?_
 refine sO [(0, _), (1, _), (4, _)] [] ?_
 refine sw_reg ?_
 refine rA ?_ (x := sM)
 refine rA ?_ (x := B_lss)
 refine sw_cond (t := 10) rfl (fun hb1 => ?_) (fun hb1 => ?_)
 ·try simp only [q1, q2, q3, q4, q5, q6, q7, q8, q9] at hb1
  refine sw_seq ?_
  refine sO [(0, _), (1, _), (4, _)] [] ?_
  refine sw_reg ?_
  refine rA ?_ (x := kA)
  refine sw_ret ?_
  exact (And.intro (by refine int_eq ?_; exact (szR_no (by have := wt0_CondS x; omega)).symm) True.intro)
 ·try simp only [q1, q2, q3, q4, q5, q6, q7, q8, q9] at hb1
  refine sw_skip ?_
  refine sw_seq ?_
  refine sO [(0, _), (1, _), (4, _)] [] ?_
  refine sw_reg ?_
  refine rA ?_ (x := sM)
  refine rA ?_ (x := sA)
  refine sw_ret ?_
  exact (And.intro (by refine int_eq ?_; exact (by have := wt0_CondS x; rw [szR_yes (by omega), this])) True.intro)
theorem sz_Row {x : Row} {l : Int}  (h0l : 0 ≤ l) (h1l : l ≤ 1048576) : SCall Tryz.prog 222 [(true, [PV.val (vI x.Id), PV.sl .v (x.Values.map cInt)]), (false, [PV.val (vI l)])] (resRV [(false, [PV.val (vI (szR l (wtRow x)))])]) := by
 refine scall_of (rs := [(false, [PV.val (vI (szR l (wtRow x)))])]) Tryz.func222 rfl (Nat.le_of_ble_eq_true rfl) (borA_cons (BorL.cons (PV.bor_val _) (BorL.cons (PV.bor_sl _) BorL.nil)) (borA_cons (BorL.cons (PV.bor_val _) BorL.nil) borA_nil)) ?_
 intro h0 w0 Fz0
 refine sw_slen (s := 0) (j := 1) rfl rfl fun hl0_1 => ?_
 try rw [List.length_map] at hl0_1
 have hw : (wtRow x : Int) = (wtIntS x.Values : Int) := by simp [wtRow, wtInt]
 refine sw_seq ?_
 refine sw_reg ?_
 refine RunS.step (by exact ⟨rfl, ⟨⟩⟩) (by exact ⟨⟩) (LocG.of rfl (loc_box (ag := true) (cs := [PV.val _, PV.sl _ _]) (by decide) (by exact ⟨⟩))) (free1 (Free.of_ rfl)) ?_
 refine rA ?_ (x := kA)
 refine sw_seq ?_
 refine sO [(1, _), (2, _), (4, _)] [(2, (234, [PV.val _, PV.sl _ _]))] ?_
 refine sw_reg ?_
 refine rA ?_ (x := lF fd_234_1)
 refine rA ?_ (x := lD [PV.sl .v _] ty_25)
 refine rA ?_ (x := sM)
 refine rA ?_ (x := cL [(false, [PV.sl _ _]), (false, [PV.val _])] [(false, [PV.sl .v _]), (false, [PV.val _])] c_26 (hs := by exact sz_IntS (by omega) (by omega)))
 refine rA ?_ (x := sA)
 refine sw_seq ?_
 refine sw_seq ?_
 refine sO [(1, _), (2, _), (4, _)] [(2, _)] ?_
 refine sw_reg ?_
 refine rA ?_ (x := sM)
 refine rA ?_ (x := B_lss)
 refine sw_cond (t := 10) rfl (fun hb1 => ?_) (fun hb1 => ?_)
 ·try simp only [q1, q2, q3, q4, q5, q6, q7, q8, q9] at hb1
  have hn0 := szR_neg (w := wtIntS x.Values) (l := l) (by omega) hb1
  refine sw_seq ?_
  refine sO [(1, _), (2, _), (4, _)] [(2, _)] ?_
  refine sw_reg ?_
  refine rA ?_ (x := kA)
  refine sw_ret ?_
  exact (And.intro (by refine int_eq ?_; exact (szR_no (by omega)).symm) True.intro)
 ·try simp only [q1, q2, q3, q4, q5, q6, q7, q8, q9] at hb1
  have hp0 := szR_pos (w := wtIntS x.Values) (l := l) hb1
  have he0 := szR_yes hp0
  refine sw_skip ?_
  refine sw_seq ?_
  refine sO [(1, _), (2, _), (4, _)] [(2, _)] ?_
  refine sw_reg ?_
  refine rA ?_ (x := sM)
  refine rA ?_ (x := sA)
  refine sw_ret ?_
  exact (And.intro (by refine int_eq ?_; (have hz := szR_yes (l := l) (n := (wtRow x : Int)) (by omega); omega)) True.intro)
theorem sz_ChargeS {p1 p2 p3 : Fl} {x : List Charge} {l : Int}  (h0l : 0 ≤ l) (h1l : l ≤ 1048576) : SCall Tryz.prog 29 [(false, [PV.sl .v (x.map (cCharge p1 p2 p3))]), (false, [PV.val (vI l)])] (resRV [(false, [PV.val (vI (szR l (wtChargeS x)))])]) := by
 refine scall_of (rs := [(false, [PV.val (vI (szR l (wtChargeS x)))])]) Tryz.func29 rfl (Nat.le_of_ble_eq_true rfl) (borA_cons (BorL.cons (PV.bor_sl _) BorL.nil) (borA_cons (BorL.cons (PV.bor_val _) BorL.nil) borA_nil)) ?_
 intro h0 w0 Fz0
 refine sw_len (s := 0) rfl fun hl0 => ?_
 try rw [List.length_map] at hl0
 refine sw_seq ?_
 refine sw_reg ?_
 refine rA ?_ (x := kA)
 refine sw_seq ?_
 refine sO [(0, _), (1, _), (4, _)] [] ?_
 refine sw_reg ?_
 refine rA ?_ (x := sM)
 refine rA ?_ (x := vM false [PV.sl .v _])
 refine rA ?_ (x := lN sl_28)
 refine rA ?_ (x := B_sub)
 refine rA ?_ (x := sA)
 refine sw_seq ?_
 refine sw_seq ?_
 refine sO [(0, _), (1, _), (4, _)] [] ?_
 refine sw_reg ?_
 refine rA ?_ (x := sM)
 refine rA ?_ (x := B_lss)
 refine sw_cond (t := 11) rfl (fun hb1 => ?_) (fun hb1 => ?_)
 ·try simp only [q1, q2, q3, q4, q5, q6, q7, q8, q9] at hb1
  refine sw_seq ?_
  refine sO [(0, _), (1, _), (4, _)] [] ?_
  refine sw_reg ?_
  refine rA ?_ (x := kA)
  refine sw_ret ?_
  exact (And.intro (by refine int_eq ?_; exact (szR_no (by simp only [wtChargeS]; omega)).symm) True.intro)
 ·try simp only [q1, q2, q3, q4, q5, q6, q7, q8, q9] at hb1
  refine sw_skip ?_
  refine sw_seq ?_
  refine sw_seq ?_
  refine sO [(0, _), (1, _), (4, _)] [] ?_
  refine sw_reg ?_
  refine rA ?_ (x := kA)
  refine sw_block ?_
  refine sO [(0, _), (1, _), (4, _), (5, _)] [] ?_
  refine sw_loop (l0 := [(0, RV.sv false [PV.sl _ _])]) (b0 := []) (fun q : Nat × Int => q.1 ≤ x.length ∧ 0 ≤ q.2 ∧ q.2 + x.length + ((x.take q.1).map wtCharge).sum = l) (fun q : Nat × Int => [(1, RV.int q.2), (5, RV.int (q.1 : Int))]) (fun q : Nat × Int => []) (fun q : Nat × Int => x.length - q.1) (0, l - x.length) (by exact ⟨by simp, by dsimp only; omega, by simp⟩) (by exact ⟨rfl, ⟨⟩⟩) (by exact ⟨⟩) (by exact And.intro (by exact rfl) (And.intro (by exact rfl) (True.intro))) (by exact ⟨⟩) ?_
  rintro ⟨k, ll⟩ ⟨hk, hll, hw⟩
  dsimp only at hk hll hw
  refine sw_seq ?_
  refine sw_seq ?_
  refine sw_reg ?_
  refine rA ?_ (x := sM)
  refine rA ?_ (x := vM false [PV.sl .v _])
  refine rA ?_ (x := lN sl_28)
  refine rA ?_ (x := B_lss)
  refine sw_cond (t := 15) rfl (fun hb2 => ?_) (fun hb2 => ?_)
  ·try simp only [q1, q2, q3, q4, q5, q6, q7, q8, q9] at hb2
   have hlt : k < x.length := by omega
   refine sw_skip ?_
   refine sw_seq ?_
   refine sw_block ?_
   refine sw_seq ?_
   refine sO [(0, _), (1, _), (5, _)] [] ?_
   refine sw_reg ?_
   refine rA ?_ (x := vM false [PV.sl .v _])
   refine rA ?_ (x := sM)
   refine rA ?_ (x := loc_index (by decide) sl_28 (by exact ⟨⟩) (by exact rfl) (by exact getm2 (by omega) rfl) (by exact rfl))
   refine rA ?_ (x := lE [PV.val _, PV.val _, PV.sl .v _, PV.sl .v _, PV.sl .v _] ty_126)
   refine rA ?_ (x := sM)
   refine rA ?_ (x := cL [(true, [PV.val _, PV.val _, PV.sl _ _, PV.sl _ _, PV.sl _ _]), (false, [PV.val _])] [(true, [PV.val _, PV.val _, PV.sl .v _, PV.sl .v _, PV.sl .v _]), (false, [PV.val _])] c_78 (hs := by exact sz_Charge (by omega) (by omega)))
   refine rA ?_ (x := sA)
   refine sw_seq ?_
   refine sO [(0, _), (1, _), (5, _)] [] ?_
   refine sw_reg ?_
   refine rA ?_ (x := sM)
   refine rA ?_ (x := B_lss)
   refine sw_cond (t := 25) rfl (fun hb3 => ?_) (fun hb3 => ?_)
   ·try simp only [q1, q2, q3, q4, q5, q6, q7, q8, q9] at hb3
    have hlt : k < x.length := by omega
    have hneg := szR_neg (w := wtCharge x[k]) (l := ll) (by omega) hb3
    have hwk := wtk (f := wtCharge) hlt
    refine sw_seq ?_
    refine sO [(0, _), (1, _), (5, _)] [] ?_
    refine sw_reg ?_
    refine rA ?_ (x := kA)
    refine sw_ret ?_
    exact (And.intro (by refine int_eq ?_; exact (szR_no (by have := wtk_le (f := wtCharge) x (k + 1); simp only [wtChargeS]; omega)).symm) True.intro)
   ·try simp only [q1, q2, q3, q4, q5, q6, q7, q8, q9] at hb3
    have hlt : k < x.length := by omega
    have hpos := szR_pos (w := wtCharge x[k]) (l := ll) hb3
    have hwk := wtk (f := wtCharge) hlt
    refine sw_skip ?_
    refine sO [(0, _), (1, _), (5, _)] [] ?_
    refine sw_reg ?_
    refine rA ?_ (x := sM)
    refine rA ?_ (x := B_add)
    refine rA ?_ (x := sA)
    refine Exists.intro (k + 1, ll - wtCharge x[k]) (And.intro (by exact ⟨by dsimp only; omega, by dsimp only; omega, by dsimp only; have := wtk (f := wtCharge) hlt; omega⟩) (And.intro (by dsimp only; omega) (And.intro (And.intro (by exact ⟨rfl, ⟨⟩⟩) (by exact ⟨⟩)) (And.intro (by exact And.intro (by exact int_eq (szR_yes hpos)) (And.intro (by exact rfl) (True.intro))) (by exact ⟨⟩)))))
  ·try simp only [q1, q2, q3, q4, q5, q6, q7, q8, q9] at hb2
   refine sw_exit ?_
   refine sw_seq ?_
   refine sO [(0, _), (1, _), (5, _)] [] ?_
   refine sw_reg ?_
   refine rA ?_ (x := sM)
   refine rA ?_ (x := sA)
   refine sw_ret ?_
   exact (And.intro (by refine int_eq ?_; (rw [szR_yes (by have : (x.take k) = x := List.take_of_length_le (by omega); rw [this] at hw; simp only [wtChargeS]; omega)]; have : (x.take k) = x := List.take_of_length_le (by omega); rw [this] at hw; simp only [wtChargeS]; omega)) True.intro)
theorem sz_VersionS {p1 : Fl} {x : List Version} {l : Int}  (h0l : 0 ≤ l) (h1l : l ≤ 1048576) : SCall Tryz.prog 146 [(false, [PV.sl .v (x.map (cVersion p1))]), (false, [PV.val (vI l)])] (resRV [(false, [PV.val (vI (szR l (wtVersionS x)))])]) := by
 refine scall_of (rs := [(false, [PV.val (vI (szR l (wtVersionS x)))])]) Tryz.func146 rfl (Nat.le_of_ble_eq_true rfl) (borA_cons (BorL.cons (PV.bor_sl _) BorL.nil) (borA_cons (BorL.cons (PV.bor_val _) BorL.nil) borA_nil)) ?_
 intro h0 w0 Fz0
 refine sw_len (s := 0) rfl fun hl0 => ?_
 try rw [List.length_map] at hl0
 refine sw_seq ?_
 refine sw_reg ?_
 refine rA ?_ (x := kA)
 refine sw_seq ?_
 refine sO [(0, _), (1, _), (4, _)] [] ?_
 refine sw_reg ?_
 refine rA ?_ (x := sM)
 refine rA ?_ (x := vM false [PV.sl .v _])
 refine rA ?_ (x := lN sl_190)
 refine rA ?_ (x := B_sub)
 refine rA ?_ (x := sA)
 refine sw_seq ?_
 refine sw_seq ?_
 refine sO [(0, _), (1, _), (4, _)] [] ?_
 refine sw_reg ?_
 refine rA ?_ (x := sM)
 refine rA ?_ (x := B_lss)
 refine sw_cond (t := 11) rfl (fun hb1 => ?_) (fun hb1 => ?_)
 ·try simp only [q1, q2, q3, q4, q5, q6, q7, q8, q9] at hb1
  refine sw_seq ?_
  refine sO [(0, _), (1, _), (4, _)] [] ?_
  refine sw_reg ?_
  refine rA ?_ (x := kA)
  refine sw_ret ?_
  exact (And.intro (by refine int_eq ?_; exact (szR_no (by simp only [wtVersionS]; omega)).symm) True.intro)
 ·try simp only [q1, q2, q3, q4, q5, q6, q7, q8, q9] at hb1
  refine sw_skip ?_
  refine sw_seq ?_
  refine sw_seq ?_
  refine sO [(0, _), (1, _), (4, _)] [] ?_
  refine sw_reg ?_
  refine rA ?_ (x := kA)
  refine sw_block ?_
  refine sO [(0, _), (1, _), (4, _), (5, _)] [] ?_
  refine sw_loop (l0 := [(0, RV.sv false [PV.sl _ _])]) (b0 := []) (fun q : Nat × Int => q.1 ≤ x.length ∧ 0 ≤ q.2 ∧ q.2 + x.length + ((x.take q.1).map wtVersion).sum = l) (fun q : Nat × Int => [(1, RV.int q.2), (5, RV.int (q.1 : Int))]) (fun q : Nat × Int => []) (fun q : Nat × Int => x.length - q.1) (0, l - x.length) (by exact ⟨by simp, by dsimp only; omega, by simp⟩) (by exact ⟨rfl, ⟨⟩⟩) (by exact ⟨⟩) (by exact And.intro (by exact rfl) (And.intro (by exact rfl) (True.intro))) (by exact ⟨⟩) ?_
  rintro ⟨k, ll⟩ ⟨hk, hll, hw⟩
  dsimp only at hk hll hw
  refine sw_seq ?_
  refine sw_seq ?_
  refine sw_reg ?_
  refine rA ?_ (x := sM)
  refine rA ?_ (x := vM false [PV.sl .v _])
  refine rA ?_ (x := lN sl_190)
  refine rA ?_ (x := B_lss)
  refine sw_cond (t := 15) rfl (fun hb2 => ?_) (fun hb2 => ?_)
  ·try simp only [q1, q2, q3, q4, q5, q6, q7, q8, q9] at hb2
   have hlt : k < x.length := by omega
   refine sw_skip ?_
   refine sw_seq ?_
   refine sw_block ?_
   refine sw_seq ?_
   refine sO [(0, _), (1, _), (5, _)] [] ?_
   refine sw_reg ?_
   refine rA ?_ (x := vM false [PV.sl .v _])
   refine rA ?_ (x := sM)
   refine rA ?_ (x := loc_index (by decide) sl_190 (by exact ⟨⟩) (by exact rfl) (by exact getm2 (by omega) rfl) (by exact rfl))
   refine rA ?_ (x := lE [PV.val _, PV.sl .v _, PV.val _, PV.val _] ty_231)
   refine rA ?_ (x := sM)
   refine rA ?_ (x := cL [(true, [PV.val _, PV.sl _ _, PV.val _, PV.val _]), (false, [PV.val _])] [(true, [PV.val _, PV.sl .v _, PV.val _, PV.val _]), (false, [PV.val _])] c_220 (hs := by exact sz_Version (by omega) (by omega)))
   refine rA ?_ (x := sA)
   refine sw_seq ?_
   refine sO [(0, _), (1, _), (5, _)] [] ?_
   refine sw_reg ?_
   refine rA ?_ (x := sM)
   refine rA ?_ (x := B_lss)
   refine sw_cond (t := 25) rfl (fun hb3 => ?_) (fun hb3 => ?_)
   ·try simp only [q1, q2, q3, q4, q5, q6, q7, q8, q9] at hb3
    have hlt : k < x.length := by omega
    have hneg := szR_neg (w := wtVersion x[k]) (l := ll) (by omega) hb3
    have hwk := wtk (f := wtVersion) hlt
    refine sw_seq ?_
    refine sO [(0, _), (1, _), (5, _)] [] ?_
    refine sw_reg ?_
    refine rA ?_ (x := kA)
    refine sw_ret ?_
    exact (And.intro (by refine int_eq ?_; exact (szR_no (by have := wtk_le (f := wtVersion) x (k + 1); simp only [wtVersionS]; omega)).symm) True.intro)
   ·try simp only [q1, q2, q3, q4, q5, q6, q7, q8, q9] at hb3
    have hlt : k < x.length := by omega
    have hpos := szR_pos (w := wtVersion x[k]) (l := ll) hb3
    have hwk := wtk (f := wtVersion) hlt
    refine sw_skip ?_
    refine sO [(0, _), (1, _), (5, _)] [] ?_
    refine sw_reg ?_
    refine rA ?_ (x := sM)
    refine rA ?_ (x := B_add)
    refine rA ?_ (x := sA)
    refine Exists.intro (k + 1, ll - wtVersion x[k]) (And.intro (by exact ⟨by dsimp only; omega, by dsimp only; omega, by dsimp only; have := wtk (f := wtVersion) hlt; omega⟩) (And.intro (by dsimp only; omega) (And.intro (And.intro (by exact ⟨rfl, ⟨⟩⟩) (by exact ⟨⟩)) (And.intro (by exact And.intro (by exact int_eq (szR_yes hpos)) (And.intro (by exact rfl) (True.intro))) (by exact ⟨⟩)))))
  ·try simp only [q1, q2, q3, q4, q5, q6, q7, q8, q9] at hb2
   refine sw_exit ?_
   refine sw_seq ?_
   refine sO [(0, _), (1, _), (5, _)] [] ?_
   refine sw_reg ?_
   refine rA ?_ (x := sM)
   refine rA ?_ (x := sA)
   refine sw_ret ?_
   exact (And.intro (by refine int_eq ?_; (rw [szR_yes (by have : (x.take k) = x := List.take_of_length_le (by omega); rw [this] at hw; simp only [wtVersionS]; omega)]; have : (x.take k) = x := List.take_of_length_le (by omega); rw [this] at hw; simp only [wtVersionS]; omega)) True.intro)
theorem sz_Query {x : Query} {l : Int}  (h0l : 0 ≤ l) (h1l : l ≤ 1048576) : SCall Tryz.prog 147 [(true, [PV.val (vI x.Id), PV.val (vI x.Tenant), PV.sl .v (x.Conds.map cCond), PV.sl .v (x.Out.map cInt)]), (false, [PV.val (vI l)])] (resRV [(false, [PV.val (vI (szR l (wtQuery x)))])]) := by
 refine scall_of (rs := [(false, [PV.val (vI (szR l (wtQuery x)))])]) Tryz.func147 rfl (Nat.le_of_ble_eq_true rfl) (borA_cons (BorL.cons (PV.bor_val _) (BorL.cons (PV.bor_val _) (BorL.cons (PV.bor_sl _) (BorL.cons (PV.bor_sl _) BorL.nil)))) (borA_cons (BorL.cons (PV.bor_val _) BorL.nil) borA_nil)) ?_
 intro h0 w0 Fz0
 refine sw_slen (s := 0) (j := 2) rfl rfl fun hl0_2 => ?_
 try rw [List.length_map] at hl0_2
 refine sw_slen (s := 0) (j := 3) rfl rfl fun hl0_3 => ?_
 try rw [List.length_map] at hl0_3
 have hw : (wtQuery x : Int) = (wtCondS x.Conds : Int) + (wtIntS x.Out : Int) := by simp [wtQuery, wtInt]
 refine sw_seq ?_
 refine sw_reg ?_
 refine RunS.step (by exact ⟨rfl, ⟨⟩⟩) (by exact ⟨⟩) (LocG.of rfl (loc_box (ag := true) (cs := [PV.val _, PV.val _, PV.sl _ _, PV.sl _ _]) (by decide) (by exact ⟨⟩))) (free1 (Free.of_ rfl)) ?_
 refine rA ?_ (x := kA)
 refine sw_seq ?_
 refine sO [(1, _), (2, _), (4, _)] [(2, (117, [PV.val _, PV.val _, PV.sl _ _, PV.sl _ _]))] ?_
 refine sw_reg ?_
 refine rA ?_ (x := lF fd_117_2)
 refine rA ?_ (x := lD [PV.sl .v _] ty_115)
 refine rA ?_ (x := sM)
 refine rA ?_ (x := cL [(false, [PV.sl _ _]), (false, [PV.val _])] [(false, [PV.sl .v _]), (false, [PV.val _])] c_221 (hs := by exact sz_CondS (by omega) (by omega)))
 refine rA ?_ (x := sA)
 refine sw_seq ?_
 refine sw_seq ?_
 refine sO [(1, _), (2, _), (4, _)] [(2, _)] ?_
 refine sw_reg ?_
 refine rA ?_ (x := sM)
 refine rA ?_ (x := B_lss)
 refine sw_cond (t := 10) rfl (fun hb1 => ?_) (fun hb1 => ?_)
 ·try simp only [q1, q2, q3, q4, q5, q6, q7, q8, q9] at hb1
  have hn0 := szR_neg (w := wtCondS x.Conds) (l := l) (by omega) hb1
  refine sw_seq ?_
  refine sO [(1, _), (2, _), (4, _)] [(2, _)] ?_
  refine sw_reg ?_
  refine rA ?_ (x := kA)
  refine sw_ret ?_
  exact (And.intro (by refine int_eq ?_; exact (szR_no (by omega)).symm) True.intro)
 ·try simp only [q1, q2, q3, q4, q5, q6, q7, q8, q9] at hb1
  have hp0 := szR_pos (w := wtCondS x.Conds) (l := l) hb1
  have he0 := szR_yes hp0
  refine sw_skip ?_
  refine sw_seq ?_
  refine sO [(1, _), (2, _), (4, _)] [(2, _)] ?_
  refine sw_reg ?_
  refine rA ?_ (x := lF fd_117_3)
  refine rA ?_ (x := lD [PV.sl .v _] ty_25)
  refine rA ?_ (x := sM)
  refine rA ?_ (x := cL [(false, [PV.sl _ _]), (false, [PV.val _])] [(false, [PV.sl .v _]), (false, [PV.val _])] c_26 (hs := by exact sz_IntS (by omega) (by omega)))
  refine rA ?_ (x := sA)
  refine sw_seq ?_
  refine sw_seq ?_
  refine sO [(1, _), (2, _), (4, _)] [(2, _)] ?_
  refine sw_reg ?_
  refine rA ?_ (x := sM)
  refine rA ?_ (x := B_lss)
  refine sw_cond (t := 16) rfl (fun hb2 => ?_) (fun hb2 => ?_)
  ·try simp only [q1, q2, q3, q4, q5, q6, q7, q8, q9] at hb2
   have hn1 := szR_neg (w := wtIntS x.Out) (l := (szR l (wtCondS x.Conds))) (by omega) hb2
   refine sw_seq ?_
   refine sO [(1, _), (2, _), (4, _)] [(2, _)] ?_
   refine sw_reg ?_
   refine rA ?_ (x := kA)
   refine sw_ret ?_
   exact (And.intro (by refine int_eq ?_; exact (szR_no (by omega)).symm) True.intro)
  ·try simp only [q1, q2, q3, q4, q5, q6, q7, q8, q9] at hb2
   have hp1 := szR_pos (w := wtIntS x.Out) (l := (szR l (wtCondS x.Conds))) hb2
   have he1 := szR_yes hp1
   refine sw_skip ?_
   refine sw_seq ?_
   refine sO [(1, _), (2, _), (4, _)] [(2, _)] ?_
   refine sw_reg ?_
   refine rA ?_ (x := sM)
   refine rA ?_ (x := sA)
   refine sw_ret ?_
   exact (And.intro (by refine int_eq ?_; (have hz := szR_yes (l := l) (n := (wtQuery x : Int)) (by omega); omega)) True.intro)
theorem sz_RowS {p1 : Fl} {x : List Row} {l : Int}  (h0l : 0 ≤ l) (h1l : l ≤ 1048576) : SCall Tryz.prog 148 [(false, [PV.sl .v (x.map (cRow p1))]), (false, [PV.val (vI l)])] (resRV [(false, [PV.val (vI (szR l (wtRowS x)))])]) := by
 refine scall_of (rs := [(false, [PV.val (vI (szR l (wtRowS x)))])]) Tryz.func148 rfl (Nat.le_of_ble_eq_true rfl) (borA_cons (BorL.cons (PV.bor_sl _) BorL.nil) (borA_cons (BorL.cons (PV.bor_val _) BorL.nil) borA_nil)) ?_
 intro h0 w0 Fz0
 refine sw_len (s := 0) rfl fun hl0 => ?_
 try rw [List.length_map] at hl0
 refine sw_seq ?_
 refine sw_reg ?_
 refine rA ?_ (x := kA)
 refine sw_seq ?_
 refine sO [(0, _), (1, _), (4, _)] [] ?_
 refine sw_reg ?_
 refine rA ?_ (x := sM)
 refine rA ?_ (x := vM false [PV.sl .v _])
 refine rA ?_ (x := lN sl_118)
 refine rA ?_ (x := B_sub)
 refine rA ?_ (x := sA)
 refine sw_seq ?_
 refine sw_seq ?_
 refine sO [(0, _), (1, _), (4, _)] [] ?_
 refine sw_reg ?_
 refine rA ?_ (x := sM)
 refine rA ?_ (x := B_lss)
 refine sw_cond (t := 11) rfl (fun hb1 => ?_) (fun hb1 => ?_)
 ·try simp only [q1, q2, q3, q4, q5, q6, q7, q8, q9] at hb1
  refine sw_seq ?_
  refine sO [(0, _), (1, _), (4, _)] [] ?_
  refine sw_reg ?_
  refine rA ?_ (x := kA)
  refine sw_ret ?_
  exact (And.intro (by refine int_eq ?_; exact (szR_no (by simp only [wtRowS]; omega)).symm) True.intro)
 ·try simp only [q1, q2, q3, q4, q5, q6, q7, q8, q9] at hb1
  refine sw_skip ?_
  refine sw_seq ?_
  refine sw_seq ?_
  refine sO [(0, _), (1, _), (4, _)] [] ?_
  refine sw_reg ?_
  refine rA ?_ (x := kA)
  refine sw_block ?_
  refine sO [(0, _), (1, _), (4, _), (5, _)] [] ?_
  refine sw_loop (l0 := [(0, RV.sv false [PV.sl _ _])]) (b0 := []) (fun q : Nat × Int => q.1 ≤ x.length ∧ 0 ≤ q.2 ∧ q.2 + x.length + ((x.take q.1).map wtRow).sum = l) (fun q : Nat × Int => [(1, RV.int q.2), (5, RV.int (q.1 : Int))]) (fun q : Nat × Int => []) (fun q : Nat × Int => x.length - q.1) (0, l - x.length) (by exact ⟨by simp, by dsimp only; omega, by simp⟩) (by exact ⟨rfl, ⟨⟩⟩) (by exact ⟨⟩) (by exact And.intro (by exact rfl) (And.intro (by exact rfl) (True.intro))) (by exact ⟨⟩) ?_
  rintro ⟨k, ll⟩ ⟨hk, hll, hw⟩
  dsimp only at hk hll hw
  refine sw_seq ?_
  refine sw_seq ?_
  refine sw_reg ?_
  refine rA ?_ (x := sM)
  refine rA ?_ (x := vM false [PV.sl .v _])
  refine rA ?_ (x := lN sl_118)
  refine rA ?_ (x := B_lss)
  refine sw_cond (t := 15) rfl (fun hb2 => ?_) (fun hb2 => ?_)
  ·try simp only [q1, q2, q3, q4, q5, q6, q7, q8, q9] at hb2
   have hlt : k < x.length := by omega
   refine sw_skip ?_
   refine sw_seq ?_
   refine sw_block ?_
   refine sw_seq ?_
   refine sO [(0, _), (1, _), (5, _)] [] ?_
   refine sw_reg ?_
   refine rA ?_ (x := vM false [PV.sl .v _])
   refine rA ?_ (x := sM)
   refine rA ?_ (x := loc_index (by decide) sl_118 (by exact ⟨⟩) (by exact rfl) (by exact getm2 (by omega) rfl) (by exact rfl))
   refine rA ?_ (x := lE [PV.val _, PV.sl .v _] ty_234)
   refine rA ?_ (x := sM)
   refine rA ?_ (x := cL [(true, [PV.val _, PV.sl _ _]), (false, [PV.val _])] [(true, [PV.val _, PV.sl .v _]), (false, [PV.val _])] c_222 (hs := by exact sz_Row (by omega) (by omega)))
   refine rA ?_ (x := sA)
   refine sw_seq ?_
   refine sO [(0, _), (1, _), (5, _)] [] ?_
   refine sw_reg ?_
   refine rA ?_ (x := sM)
   refine rA ?_ (x := B_lss)
   refine sw_cond (t := 25) rfl (fun hb3 => ?_) (fun hb3 => ?_)
   ·try simp only [q1, q2, q3, q4, q5, q6, q7, q8, q9] at hb3
    have hlt : k < x.length := by omega
    have hneg := szR_neg (w := wtRow x[k]) (l := ll) (by omega) hb3
    have hwk := wtk (f := wtRow) hlt
    refine sw_seq ?_
    refine sO [(0, _), (1, _), (5, _)] [] ?_
    refine sw_reg ?_
    refine rA ?_ (x := kA)
    refine sw_ret ?_
    exact (And.intro (by refine int_eq ?_; exact (szR_no (by have := wtk_le (f := wtRow) x (k + 1); simp only [wtRowS]; omega)).symm) True.intro)
   ·try simp only [q1, q2, q3, q4, q5, q6, q7, q8, q9] at hb3
    have hlt : k < x.length := by omega
    have hpos := szR_pos (w := wtRow x[k]) (l := ll) hb3
    have hwk := wtk (f := wtRow) hlt
    refine sw_skip ?_
    refine sO [(0, _), (1, _), (5, _)] [] ?_
    refine sw_reg ?_
    refine rA ?_ (x := sM)
    refine rA ?_ (x := B_add)
    refine rA ?_ (x := sA)
    refine Exists.intro (k + 1, ll - wtRow x[k]) (And.intro (by exact ⟨by dsimp only; omega, by dsimp only; omega, by dsimp only; have := wtk (f := wtRow) hlt; omega⟩) (And.intro (by dsimp only; omega) (And.intro (And.intro (by exact ⟨rfl, ⟨⟩⟩) (by exact ⟨⟩)) (And.intro (by exact And.intro (by exact int_eq (szR_yes hpos)) (And.intro (by exact rfl) (True.intro))) (by exact ⟨⟩)))))
  ·try simp only [q1, q2, q3, q4, q5, q6, q7, q8, q9] at hb2
   refine sw_exit ?_
   refine sw_seq ?_
   refine sO [(0, _), (1, _), (5, _)] [] ?_
   refine sw_reg ?_
   refine rA ?_ (x := sM)
   refine rA ?_ (x := sA)
   refine sw_ret ?_
   exact (And.intro (by refine int_eq ?_; (rw [szR_yes (by have : (x.take k) = x := List.take_of_length_le (by omega); rw [this] at hw; simp only [wtRowS]; omega)]; have : (x.take k) = x := List.take_of_length_le (by omega); rw [this] at hw; simp only [wtRowS]; omega)) True.intro)
theorem sz_VersionSS {p1 p2 : Fl} {x : List (List Version)} {l : Int}  (h0l : 0 ≤ l) (h1l : l ≤ 1048576) : SCall Tryz.prog 75 [(false, [PV.sl .v (x.map (cVersionS p1 p2))]), (false, [PV.val (vI l)])] (resRV [(false, [PV.val (vI (szR l (wtVersionSS x)))])]) := by
 refine scall_of (rs := [(false, [PV.val (vI (szR l (wtVersionSS x)))])]) Tryz.func75 rfl (Nat.le_of_ble_eq_true rfl) (borA_cons (BorL.cons (PV.bor_sl _) BorL.nil) (borA_cons (BorL.cons (PV.bor_val _) BorL.nil) borA_nil)) ?_
 intro h0 w0 Fz0
 refine sw_len (s := 0) rfl fun hl0 => ?_
 try rw [List.length_map] at hl0
 refine sw_seq ?_
 refine sw_reg ?_
 refine rA ?_ (x := kA)
 refine sw_seq ?_
 refine sO [(0, _), (1, _), (4, _)] [] ?_
 refine sw_reg ?_
 refine rA ?_ (x := sM)
 refine rA ?_ (x := vM false [PV.sl .v _])
 refine rA ?_ (x := lN sl_22)
 refine rA ?_ (x := B_sub)
 refine rA ?_ (x := sA)
 refine sw_seq ?_
 refine sw_seq ?_
 refine sO [(0, _), (1, _), (4, _)] [] ?_
 refine sw_reg ?_
 refine rA ?_ (x := sM)
 refine rA ?_ (x := B_lss)
 refine sw_cond (t := 11) rfl (fun hb1 => ?_) (fun hb1 => ?_)
 ·try simp only [q1, q2, q3, q4, q5, q6, q7, q8, q9] at hb1
  refine sw_seq ?_
  refine sO [(0, _), (1, _), (4, _)] [] ?_
  refine sw_reg ?_
  refine rA ?_ (x := kA)
  refine sw_ret ?_
  exact (And.intro (by refine int_eq ?_; exact (szR_no (by simp only [wtVersionSS]; omega)).symm) True.intro)
 ·try simp only [q1, q2, q3, q4, q5, q6, q7, q8, q9] at hb1
  refine sw_skip ?_
  refine sw_seq ?_
  refine sw_seq ?_
  refine sO [(0, _), (1, _), (4, _)] [] ?_
  refine sw_reg ?_
  refine rA ?_ (x := kA)
  refine sw_block ?_
  refine sO [(0, _), (1, _), (4, _), (5, _)] [] ?_
  refine sw_loop (l0 := [(0, RV.sv false [PV.sl _ _])]) (b0 := []) (fun q : Nat × Int => q.1 ≤ x.length ∧ 0 ≤ q.2 ∧ q.2 + x.length + ((x.take q.1).map wtVersionS).sum = l) (fun q : Nat × Int => [(1, RV.int q.2), (5, RV.int (q.1 : Int))]) (fun q : Nat × Int => []) (fun q : Nat × Int => x.length - q.1) (0, l - x.length) (by exact ⟨by simp, by dsimp only; omega, by simp⟩) (by exact ⟨rfl, ⟨⟩⟩) (by exact ⟨⟩) (by exact And.intro (by exact rfl) (And.intro (by exact rfl) (True.intro))) (by exact ⟨⟩) ?_
  rintro ⟨k, ll⟩ ⟨hk, hll, hw⟩
  dsimp only at hk hll hw
  refine sw_seq ?_
  refine sw_seq ?_
  refine sw_reg ?_
  refine rA ?_ (x := sM)
  refine rA ?_ (x := vM false [PV.sl .v _])
  refine rA ?_ (x := lN sl_22)
  refine rA ?_ (x := B_lss)
  refine sw_cond (t := 15) rfl (fun hb2 => ?_) (fun hb2 => ?_)
  ·try simp only [q1, q2, q3, q4, q5, q6, q7, q8, q9] at hb2
   have hlt : k < x.length := by omega
   refine sw_skip ?_
   refine sw_seq ?_
   refine sw_block ?_
   refine sw_seq ?_
   refine sO [(0, _), (1, _), (5, _)] [] ?_
   refine sw_reg ?_
   refine rA ?_ (x := vM false [PV.sl .v _])
   refine rA ?_ (x := sM)
   refine rA ?_ (x := loc_index (by decide) sl_22 (by exact ⟨⟩) (by exact rfl) (by exact getm2 (by omega) rfl) (by exact rfl))
   refine rA ?_ (x := lE [PV.sl .v _] ty_190)
   refine rA ?_ (x := sM)
   refine rA ?_ (x := cL [(false, [PV.sl _ _]), (false, [PV.val _])] [(false, [PV.sl .v _]), (false, [PV.val _])] c_146 (hs := by exact sz_VersionS (by omega) (by omega)))
   refine rA ?_ (x := sA)
   refine sw_seq ?_
   refine sO [(0, _), (1, _), (5, _)] [] ?_
   refine sw_reg ?_
   refine rA ?_ (x := sM)
   refine rA ?_ (x := B_lss)
   refine sw_cond (t := 25) rfl (fun hb3 => ?_) (fun hb3 => ?_)
   ·try simp only [q1, q2, q3, q4, q5, q6, q7, q8, q9] at hb3
    have hlt : k < x.length := by omega
    have hneg := szR_neg (w := wtVersionS x[k]) (l := ll) (by omega) hb3
    have hwk := wtk (f := wtVersionS) hlt
    refine sw_seq ?_
    refine sO [(0, _), (1, _), (5, _)] [] ?_
    refine sw_reg ?_
    refine rA ?_ (x := kA)
    refine sw_ret ?_
    exact (And.intro (by refine int_eq ?_; exact (szR_no (by have := wtk_le (f := wtVersionS) x (k + 1); simp only [wtVersionSS]; omega)).symm) True.intro)
   ·try simp only [q1, q2, q3, q4, q5, q6, q7, q8, q9] at hb3
    have hlt : k < x.length := by omega
    have hpos := szR_pos (w := wtVersionS x[k]) (l := ll) hb3
    have hwk := wtk (f := wtVersionS) hlt
    refine sw_skip ?_
    refine sO [(0, _), (1, _), (5, _)] [] ?_
    refine sw_reg ?_
    refine rA ?_ (x := sM)
    refine rA ?_ (x := B_add)
    refine rA ?_ (x := sA)
    refine Exists.intro (k + 1, ll - wtVersionS x[k]) (And.intro (by exact ⟨by dsimp only; omega, by dsimp only; omega, by dsimp only; have := wtk (f := wtVersionS) hlt; omega⟩) (And.intro (by dsimp only; omega) (And.intro (And.intro (by exact ⟨rfl, ⟨⟩⟩) (by exact ⟨⟩)) (And.intro (by exact And.intro (by exact int_eq (szR_yes hpos)) (And.intro (by exact rfl) (True.intro))) (by exact ⟨⟩)))))
  ·try simp only [q1, q2, q3, q4, q5, q6, q7, q8, q9] at hb2
   refine sw_exit ?_
   refine sw_seq ?_
   refine sO [(0, _), (1, _), (5, _)] [] ?_
   refine sw_reg ?_
   refine rA ?_ (x := sM)
   refine rA ?_ (x := sA)
   refine sw_ret ?_
   exact (And.intro (by refine int_eq ?_; (rw [szR_yes (by have : (x.take k) = x := List.take_of_length_le (by omega); rw [this] at hw; simp only [wtVersionSS]; omega)]; have : (x.take k) = x := List.take_of_length_le (by omega); rw [this] at hw; simp only [wtVersionSS]; omega)) True.intro)
theorem sz_Active {p4 : Fl} {x : Active} {l : Int}  (h0l : 0 ≤ l) (h1l : l ≤ 1048576) : SCall Tryz.prog 76 [(true, [PV.val (vI x.Query.Id), PV.val (vI x.Query.Tenant), PV.sl .v (x.Query.Conds.map cCond), PV.sl .v (x.Query.Out.map cInt), PV.val (vI x.Time), PV.sl .v (x.Todo.map cInt), PV.val (vI x.Age), PV.val (vI x.Sent), PV.val (vI x.Cap), PV.sl .v (x.Rows.map (cRow p4))]), (false, [PV.val (vI l)])] (resRV [(false, [PV.val (vI (szR l (wtActive x)))])]) := by
 refine scall_of (rs := [(false, [PV.val (vI (szR l (wtActive x)))])]) Tryz.func76 rfl (Nat.le_of_ble_eq_true rfl) (borA_cons (BorL.cons (PV.bor_val _) (BorL.cons (PV.bor_val _) (BorL.cons (PV.bor_sl _) (BorL.cons (PV.bor_sl _) (BorL.cons (PV.bor_val _) (BorL.cons (PV.bor_sl _) (BorL.cons (PV.bor_val _) (BorL.cons (PV.bor_val _) (BorL.cons (PV.bor_val _) (BorL.cons (PV.bor_sl _) BorL.nil)))))))))) (borA_cons (BorL.cons (PV.bor_val _) BorL.nil) borA_nil)) ?_
 intro h0 w0 Fz0
 refine sw_slen (s := 0) (j := 2) rfl rfl fun hl0_2 => ?_
 try rw [List.length_map] at hl0_2
 refine sw_slen (s := 0) (j := 3) rfl rfl fun hl0_3 => ?_
 try rw [List.length_map] at hl0_3
 refine sw_slen (s := 0) (j := 5) rfl rfl fun hl0_5 => ?_
 try rw [List.length_map] at hl0_5
 refine sw_slen (s := 0) (j := 9) rfl rfl fun hl0_9 => ?_
 try rw [List.length_map] at hl0_9
 have hw : (wtActive x : Int) = (wtQuery x.Query : Int) + (wtIntS x.Todo : Int) + (wtRowS x.Rows : Int) := by simp [wtActive, wtInt]
 refine sw_seq ?_
 refine sw_reg ?_
 refine RunS.step (by exact ⟨rfl, ⟨⟩⟩) (by exact ⟨⟩) (LocG.of rfl (loc_box (ag := true) (cs := [PV.val _, PV.val _, PV.sl _ _, PV.sl _ _, PV.val _, PV.sl _ _, PV.val _, PV.val _, PV.val _, PV.sl _ _]) (by decide) (by exact ⟨⟩))) (free1 (Free.of_ rfl)) ?_
 refine rA ?_ (x := kA)
 refine sw_seq ?_
 refine sO [(1, _), (2, _), (4, _)] [(2, (120, [PV.val _, PV.val _, PV.sl _ _, PV.sl _ _, PV.val _, PV.sl _ _, PV.val _, PV.val _, PV.val _, PV.sl _ _]))] ?_
 refine sw_reg ?_
 refine rA ?_ (x := lF fd_120_0)
 refine rA ?_ (x := lD [PV.val _, PV.val _, PV.sl .v _, PV.sl .v _] ty_117)
 refine rA ?_ (x := sM)
 refine rA ?_ (x := cL [(true, [PV.val _, PV.val _, PV.sl _ _, PV.sl _ _]), (false, [PV.val _])] [(true, [PV.val _, PV.val _, PV.sl .v _, PV.sl .v _]), (false, [PV.val _])] c_147 (hs := by exact sz_Query (by omega) (by omega)))
 refine rA ?_ (x := sA)
 refine sw_seq ?_
 refine sw_seq ?_
 refine sO [(1, _), (2, _), (4, _)] [(2, _)] ?_
 refine sw_reg ?_
 refine rA ?_ (x := sM)
 refine rA ?_ (x := B_lss)
 refine sw_cond (t := 10) rfl (fun hb1 => ?_) (fun hb1 => ?_)
 ·try simp only [q1, q2, q3, q4, q5, q6, q7, q8, q9] at hb1
  have hn0 := szR_neg (w := wtQuery x.Query) (l := l) (by omega) hb1
  refine sw_seq ?_
  refine sO [(1, _), (2, _), (4, _)] [(2, _)] ?_
  refine sw_reg ?_
  refine rA ?_ (x := kA)
  refine sw_ret ?_
  exact (And.intro (by refine int_eq ?_; exact (szR_no (by omega)).symm) True.intro)
 ·try simp only [q1, q2, q3, q4, q5, q6, q7, q8, q9] at hb1
  have hp0 := szR_pos (w := wtQuery x.Query) (l := l) hb1
  have he0 := szR_yes hp0
  refine sw_skip ?_
  refine sw_seq ?_
  refine sO [(1, _), (2, _), (4, _)] [(2, _)] ?_
  refine sw_reg ?_
  refine rA ?_ (x := lF fd_120_2)
  refine rA ?_ (x := lD [PV.sl .v _] ty_25)
  refine rA ?_ (x := sM)
  refine rA ?_ (x := cL [(false, [PV.sl _ _]), (false, [PV.val _])] [(false, [PV.sl .v _]), (false, [PV.val _])] c_26 (hs := by exact sz_IntS (by omega) (by omega)))
  refine rA ?_ (x := sA)
  refine sw_seq ?_
  refine sw_seq ?_
  refine sO [(1, _), (2, _), (4, _)] [(2, _)] ?_
  refine sw_reg ?_
  refine rA ?_ (x := sM)
  refine rA ?_ (x := B_lss)
  refine sw_cond (t := 16) rfl (fun hb2 => ?_) (fun hb2 => ?_)
  ·try simp only [q1, q2, q3, q4, q5, q6, q7, q8, q9] at hb2
   have hn1 := szR_neg (w := wtIntS x.Todo) (l := (szR l (wtQuery x.Query))) (by omega) hb2
   refine sw_seq ?_
   refine sO [(1, _), (2, _), (4, _)] [(2, _)] ?_
   refine sw_reg ?_
   refine rA ?_ (x := kA)
   refine sw_ret ?_
   exact (And.intro (by refine int_eq ?_; exact (szR_no (by omega)).symm) True.intro)
  ·try simp only [q1, q2, q3, q4, q5, q6, q7, q8, q9] at hb2
   have hp1 := szR_pos (w := wtIntS x.Todo) (l := (szR l (wtQuery x.Query))) hb2
   have he1 := szR_yes hp1
   refine sw_skip ?_
   refine sw_seq ?_
   refine sO [(1, _), (2, _), (4, _)] [(2, _)] ?_
   refine sw_reg ?_
   refine rA ?_ (x := lF fd_120_6)
   refine rA ?_ (x := lD [PV.sl .v _] ty_118)
   refine rA ?_ (x := sM)
   refine rA ?_ (x := cL [(false, [PV.sl _ _]), (false, [PV.val _])] [(false, [PV.sl .v _]), (false, [PV.val _])] c_148 (hs := by exact sz_RowS (by omega) (by omega)))
   refine rA ?_ (x := sA)
   refine sw_seq ?_
   refine sw_seq ?_
   refine sO [(1, _), (2, _), (4, _)] [(2, _)] ?_
   refine sw_reg ?_
   refine rA ?_ (x := sM)
   refine rA ?_ (x := B_lss)
   refine sw_cond (t := 22) rfl (fun hb3 => ?_) (fun hb3 => ?_)
   ·try simp only [q1, q2, q3, q4, q5, q6, q7, q8, q9] at hb3
    have hn2 := szR_neg (w := wtRowS x.Rows) (l := (szR (szR l (wtQuery x.Query)) (wtIntS x.Todo))) (by omega) hb3
    refine sw_seq ?_
    refine sO [(1, _), (2, _), (4, _)] [(2, _)] ?_
    refine sw_reg ?_
    refine rA ?_ (x := kA)
    refine sw_ret ?_
    exact (And.intro (by refine int_eq ?_; exact (szR_no (by omega)).symm) True.intro)
   ·try simp only [q1, q2, q3, q4, q5, q6, q7, q8, q9] at hb3
    have hp2 := szR_pos (w := wtRowS x.Rows) (l := (szR (szR l (wtQuery x.Query)) (wtIntS x.Todo))) hb3
    have he2 := szR_yes hp2
    refine sw_skip ?_
    refine sw_seq ?_
    refine sO [(1, _), (2, _), (4, _)] [(2, _)] ?_
    refine sw_reg ?_
    refine rA ?_ (x := sM)
    refine rA ?_ (x := sA)
    refine sw_ret ?_
    exact (And.intro (by refine int_eq ?_; (have hz := szR_yes (l := l) (n := (wtActive x : Int)) (by omega); omega)) True.intro)
theorem sz_Finished {p3 : Fl} {x : Finished} {l : Int}  (h0l : 0 ≤ l) (h1l : l ≤ 1048576) : SCall Tryz.prog 77 [(true, [PV.val (vI x.Query.Id), PV.val (vI x.Query.Tenant), PV.sl .v (x.Query.Conds.map cCond), PV.sl .v (x.Query.Out.map cInt), PV.val (vI x.Time), PV.val (vI x.Steps), PV.sl .v (x.Rows.map (cRow p3))]), (false, [PV.val (vI l)])] (resRV [(false, [PV.val (vI (szR l (wtFinished x)))])]) := by
 refine scall_of (rs := [(false, [PV.val (vI (szR l (wtFinished x)))])]) Tryz.func77 rfl (Nat.le_of_ble_eq_true rfl) (borA_cons (BorL.cons (PV.bor_val _) (BorL.cons (PV.bor_val _) (BorL.cons (PV.bor_sl _) (BorL.cons (PV.bor_sl _) (BorL.cons (PV.bor_val _) (BorL.cons (PV.bor_val _) (BorL.cons (PV.bor_sl _) BorL.nil))))))) (borA_cons (BorL.cons (PV.bor_val _) BorL.nil) borA_nil)) ?_
 intro h0 w0 Fz0
 refine sw_slen (s := 0) (j := 2) rfl rfl fun hl0_2 => ?_
 try rw [List.length_map] at hl0_2
 refine sw_slen (s := 0) (j := 3) rfl rfl fun hl0_3 => ?_
 try rw [List.length_map] at hl0_3
 refine sw_slen (s := 0) (j := 6) rfl rfl fun hl0_6 => ?_
 try rw [List.length_map] at hl0_6
 have hw : (wtFinished x : Int) = (wtQuery x.Query : Int) + (wtRowS x.Rows : Int) := by simp [wtFinished, wtInt]
 refine sw_seq ?_
 refine sw_reg ?_
 refine RunS.step (by exact ⟨rfl, ⟨⟩⟩) (by exact ⟨⟩) (LocG.of rfl (loc_box (ag := true) (cs := [PV.val _, PV.val _, PV.sl _ _, PV.sl _ _, PV.val _, PV.val _, PV.sl _ _]) (by decide) (by exact ⟨⟩))) (free1 (Free.of_ rfl)) ?_
 refine rA ?_ (x := kA)
 refine sw_seq ?_
 refine sO [(1, _), (2, _), (4, _)] [(2, (123, [PV.val _, PV.val _, PV.sl _ _, PV.sl _ _, PV.val _, PV.val _, PV.sl _ _]))] ?_
 refine sw_reg ?_
 refine rA ?_ (x := lF fd_123_0)
 refine rA ?_ (x := lD [PV.val _, PV.val _, PV.sl .v _, PV.sl .v _] ty_117)
 refine rA ?_ (x := sM)
 refine rA ?_ (x := cL [(true, [PV.val _, PV.val _, PV.sl _ _, PV.sl _ _]), (false, [PV.val _])] [(true, [PV.val _, PV.val _, PV.sl .v _, PV.sl .v _]), (false, [PV.val _])] c_147 (hs := by exact sz_Query (by omega) (by omega)))
 refine rA ?_ (x := sA)
 refine sw_seq ?_
 refine sw_seq ?_
 refine sO [(1, _), (2, _), (4, _)] [(2, _)] ?_
 refine sw_reg ?_
 refine rA ?_ (x := sM)
 refine rA ?_ (x := B_lss)
 refine sw_cond (t := 10) rfl (fun hb1 => ?_) (fun hb1 => ?_)
 ·try simp only [q1, q2, q3, q4, q5, q6, q7, q8, q9] at hb1
  have hn0 := szR_neg (w := wtQuery x.Query) (l := l) (by omega) hb1
  refine sw_seq ?_
  refine sO [(1, _), (2, _), (4, _)] [(2, _)] ?_
  refine sw_reg ?_
  refine rA ?_ (x := kA)
  refine sw_ret ?_
  exact (And.intro (by refine int_eq ?_; exact (szR_no (by omega)).symm) True.intro)
 ·try simp only [q1, q2, q3, q4, q5, q6, q7, q8, q9] at hb1
  have hp0 := szR_pos (w := wtQuery x.Query) (l := l) hb1
  have he0 := szR_yes hp0
  refine sw_skip ?_
  refine sw_seq ?_
  refine sO [(1, _), (2, _), (4, _)] [(2, _)] ?_
  refine sw_reg ?_
  refine rA ?_ (x := lF fd_123_3)
  refine rA ?_ (x := lD [PV.sl .v _] ty_118)
  refine rA ?_ (x := sM)
  refine rA ?_ (x := cL [(false, [PV.sl _ _]), (false, [PV.val _])] [(false, [PV.sl .v _]), (false, [PV.val _])] c_148 (hs := by exact sz_RowS (by omega) (by omega)))
  refine rA ?_ (x := sA)
  refine sw_seq ?_
  refine sw_seq ?_
  refine sO [(1, _), (2, _), (4, _)] [(2, _)] ?_
  refine sw_reg ?_
  refine rA ?_ (x := sM)
  refine rA ?_ (x := B_lss)
  refine sw_cond (t := 16) rfl (fun hb2 => ?_) (fun hb2 => ?_)
  ·try simp only [q1, q2, q3, q4, q5, q6, q7, q8, q9] at hb2
   have hn1 := szR_neg (w := wtRowS x.Rows) (l := (szR l (wtQuery x.Query))) (by omega) hb2
   refine sw_seq ?_
   refine sO [(1, _), (2, _), (4, _)] [(2, _)] ?_
   refine sw_reg ?_
   refine rA ?_ (x := kA)
   refine sw_ret ?_
   exact (And.intro (by refine int_eq ?_; exact (szR_no (by omega)).symm) True.intro)
  ·try simp only [q1, q2, q3, q4, q5, q6, q7, q8, q9] at hb2
   have hp1 := szR_pos (w := wtRowS x.Rows) (l := (szR l (wtQuery x.Query))) hb2
   have he1 := szR_yes hp1
   refine sw_skip ?_
   refine sw_seq ?_
   refine sO [(1, _), (2, _), (4, _)] [(2, _)] ?_
   refine sw_reg ?_
   refine rA ?_ (x := sM)
   refine rA ?_ (x := sA)
   refine sw_ret ?_
   exact (And.intro (by refine int_eq ?_; (have hz := szR_yes (l := l) (n := (wtFinished x : Int)) (by omega); omega)) True.intro)
theorem sz_Store {p1 p2 : Fl} {x : Store} {l : Int}  (h0l : 0 ≤ l) (h1l : l ≤ 1048576) : SCall Tryz.prog 25 [(true, [PV.sl .v (x.Segments.map (cVersionS p1 p2)), PV.val (vI x.Now)]), (false, [PV.val (vI l)])] (resRV [(false, [PV.val (vI (szR l (wtStore x)))])]) := by
 refine scall_of (rs := [(false, [PV.val (vI (szR l (wtStore x)))])]) Tryz.func25 rfl (Nat.le_of_ble_eq_true rfl) (borA_cons (BorL.cons (PV.bor_sl _) (BorL.cons (PV.bor_val _) BorL.nil)) (borA_cons (BorL.cons (PV.bor_val _) BorL.nil) borA_nil)) ?_
 intro h0 w0 Fz0
 refine sw_slen (s := 0) (j := 0) rfl rfl fun hl0_0 => ?_
 try rw [List.length_map] at hl0_0
 have hw : (wtStore x : Int) = (wtVersionSS x.Segments : Int) := by simp [wtStore, wtInt]
 refine sw_seq ?_
 refine sw_reg ?_
 refine RunS.step (by exact ⟨rfl, ⟨⟩⟩) (by exact ⟨⟩) (LocG.of rfl (loc_box (ag := true) (cs := [PV.sl _ _, PV.val _]) (by decide) (by exact ⟨⟩))) (free1 (Free.of_ rfl)) ?_
 refine rA ?_ (x := kA)
 refine sw_seq ?_
 refine sO [(1, _), (2, _), (4, _)] [(2, (24, [PV.sl _ _, PV.val _]))] ?_
 refine sw_reg ?_
 refine rA ?_ (x := lF fd_24_0)
 refine rA ?_ (x := lD [PV.sl .v _] ty_22)
 refine rA ?_ (x := sM)
 refine rA ?_ (x := cL [(false, [PV.sl _ _]), (false, [PV.val _])] [(false, [PV.sl .v _]), (false, [PV.val _])] c_75 (hs := by exact sz_VersionSS (by omega) (by omega)))
 refine rA ?_ (x := sA)
 refine sw_seq ?_
 refine sw_seq ?_
 refine sO [(1, _), (2, _), (4, _)] [(2, _)] ?_
 refine sw_reg ?_
 refine rA ?_ (x := sM)
 refine rA ?_ (x := B_lss)
 refine sw_cond (t := 10) rfl (fun hb1 => ?_) (fun hb1 => ?_)
 ·try simp only [q1, q2, q3, q4, q5, q6, q7, q8, q9] at hb1
  have hn0 := szR_neg (w := wtVersionSS x.Segments) (l := l) (by omega) hb1
  refine sw_seq ?_
  refine sO [(1, _), (2, _), (4, _)] [(2, _)] ?_
  refine sw_reg ?_
  refine rA ?_ (x := kA)
  refine sw_ret ?_
  exact (And.intro (by refine int_eq ?_; exact (szR_no (by omega)).symm) True.intro)
 ·try simp only [q1, q2, q3, q4, q5, q6, q7, q8, q9] at hb1
  have hp0 := szR_pos (w := wtVersionSS x.Segments) (l := l) hb1
  have he0 := szR_yes hp0
  refine sw_skip ?_
  refine sw_seq ?_
  refine sO [(1, _), (2, _), (4, _)] [(2, _)] ?_
  refine sw_reg ?_
  refine rA ?_ (x := sM)
  refine rA ?_ (x := sA)
  refine sw_ret ?_
  exact (And.intro (by refine int_eq ?_; (have hz := szR_yes (l := l) (n := (wtStore x : Int)) (by omega); omega)) True.intro)
theorem sz_ActiveS {p1 p2 p3 p4 p5 : Fl} {x : List Active} {l : Int}  (h0l : 0 ≤ l) (h1l : l ≤ 1048576) : SCall Tryz.prog 27 [(false, [PV.sl .v (x.map (cActive p1 p2 p3 p4 p5))]), (false, [PV.val (vI l)])] (resRV [(false, [PV.val (vI (szR l (wtActiveS x)))])]) := by
 refine scall_of (rs := [(false, [PV.val (vI (szR l (wtActiveS x)))])]) Tryz.func27 rfl (Nat.le_of_ble_eq_true rfl) (borA_cons (BorL.cons (PV.bor_sl _) BorL.nil) (borA_cons (BorL.cons (PV.bor_val _) BorL.nil) borA_nil)) ?_
 intro h0 w0 Fz0
 refine sw_len (s := 0) rfl fun hl0 => ?_
 try rw [List.length_map] at hl0
 refine sw_seq ?_
 refine sw_reg ?_
 refine rA ?_ (x := kA)
 refine sw_seq ?_
 refine sO [(0, _), (1, _), (4, _)] [] ?_
 refine sw_reg ?_
 refine rA ?_ (x := sM)
 refine rA ?_ (x := vM false [PV.sl .v _])
 refine rA ?_ (x := lN sl_26)
 refine rA ?_ (x := B_sub)
 refine rA ?_ (x := sA)
 refine sw_seq ?_
 refine sw_seq ?_
 refine sO [(0, _), (1, _), (4, _)] [] ?_
 refine sw_reg ?_
 refine rA ?_ (x := sM)
 refine rA ?_ (x := B_lss)
 refine sw_cond (t := 11) rfl (fun hb1 => ?_) (fun hb1 => ?_)
 ·try simp only [q1, q2, q3, q4, q5, q6, q7, q8, q9] at hb1
  refine sw_seq ?_
  refine sO [(0, _), (1, _), (4, _)] [] ?_
  refine sw_reg ?_
  refine rA ?_ (x := kA)
  refine sw_ret ?_
  exact (And.intro (by refine int_eq ?_; exact (szR_no (by simp only [wtActiveS]; omega)).symm) True.intro)
 ·try simp only [q1, q2, q3, q4, q5, q6, q7, q8, q9] at hb1
  refine sw_skip ?_
  refine sw_seq ?_
  refine sw_seq ?_
  refine sO [(0, _), (1, _), (4, _)] [] ?_
  refine sw_reg ?_
  refine rA ?_ (x := kA)
  refine sw_block ?_
  refine sO [(0, _), (1, _), (4, _), (5, _)] [] ?_
  refine sw_loop (l0 := [(0, RV.sv false [PV.sl _ _])]) (b0 := []) (fun q : Nat × Int => q.1 ≤ x.length ∧ 0 ≤ q.2 ∧ q.2 + x.length + ((x.take q.1).map wtActive).sum = l) (fun q : Nat × Int => [(1, RV.int q.2), (5, RV.int (q.1 : Int))]) (fun q : Nat × Int => []) (fun q : Nat × Int => x.length - q.1) (0, l - x.length) (by exact ⟨by simp, by dsimp only; omega, by simp⟩) (by exact ⟨rfl, ⟨⟩⟩) (by exact ⟨⟩) (by exact And.intro (by exact rfl) (And.intro (by exact rfl) (True.intro))) (by exact ⟨⟩) ?_
  rintro ⟨k, ll⟩ ⟨hk, hll, hw⟩
  dsimp only at hk hll hw
  refine sw_seq ?_
  refine sw_seq ?_
  refine sw_reg ?_
  refine rA ?_ (x := sM)
  refine rA ?_ (x := vM false [PV.sl .v _])
  refine rA ?_ (x := lN sl_26)
  refine rA ?_ (x := B_lss)
  refine sw_cond (t := 15) rfl (fun hb2 => ?_) (fun hb2 => ?_)
  ·try simp only [q1, q2, q3, q4, q5, q6, q7, q8, q9] at hb2
   have hlt : k < x.length := by omega
   refine sw_skip ?_
   refine sw_seq ?_
   refine sw_block ?_
   refine sw_seq ?_
   refine sO [(0, _), (1, _), (5, _)] [] ?_
   refine sw_reg ?_
   refine rA ?_ (x := vM false [PV.sl .v _])
   refine rA ?_ (x := sM)
   refine rA ?_ (x := loc_index (by decide) sl_26 (by exact ⟨⟩) (by exact rfl) (by exact getm2 (by omega) rfl) (by exact rfl))
   refine rA ?_ (x := lE [PV.val _, PV.val _, PV.sl .v _, PV.sl .v _, PV.val _, PV.sl .v _, PV.val _, PV.val _, PV.val _, PV.sl .v _] ty_120)
   refine rA ?_ (x := sM)
   refine rA ?_ (x := cL [(true, [PV.val _, PV.val _, PV.sl _ _, PV.sl _ _, PV.val _, PV.sl _ _, PV.val _, PV.val _, PV.val _, PV.sl _ _]), (false, [PV.val _])] [(true, [PV.val _, PV.val _, PV.sl .v _, PV.sl .v _, PV.val _, PV.sl .v _, PV.val _, PV.val _, PV.val _, PV.sl .v _]), (false, [PV.val _])] c_76 (hs := by exact sz_Active (by omega) (by omega)))
   refine rA ?_ (x := sA)
   refine sw_seq ?_
   refine sO [(0, _), (1, _), (5, _)] [] ?_
   refine sw_reg ?_
   refine rA ?_ (x := sM)
   refine rA ?_ (x := B_lss)
   refine sw_cond (t := 25) rfl (fun hb3 => ?_) (fun hb3 => ?_)
   ·try simp only [q1, q2, q3, q4, q5, q6, q7, q8, q9] at hb3
    have hlt : k < x.length := by omega
    have hneg := szR_neg (w := wtActive x[k]) (l := ll) (by omega) hb3
    have hwk := wtk (f := wtActive) hlt
    refine sw_seq ?_
    refine sO [(0, _), (1, _), (5, _)] [] ?_
    refine sw_reg ?_
    refine rA ?_ (x := kA)
    refine sw_ret ?_
    exact (And.intro (by refine int_eq ?_; exact (szR_no (by have := wtk_le (f := wtActive) x (k + 1); simp only [wtActiveS]; omega)).symm) True.intro)
   ·try simp only [q1, q2, q3, q4, q5, q6, q7, q8, q9] at hb3
    have hlt : k < x.length := by omega
    have hpos := szR_pos (w := wtActive x[k]) (l := ll) hb3
    have hwk := wtk (f := wtActive) hlt
    refine sw_skip ?_
    refine sO [(0, _), (1, _), (5, _)] [] ?_
    refine sw_reg ?_
    refine rA ?_ (x := sM)
    refine rA ?_ (x := B_add)
    refine rA ?_ (x := sA)
    refine Exists.intro (k + 1, ll - wtActive x[k]) (And.intro (by exact ⟨by dsimp only; omega, by dsimp only; omega, by dsimp only; have := wtk (f := wtActive) hlt; omega⟩) (And.intro (by dsimp only; omega) (And.intro (And.intro (by exact ⟨rfl, ⟨⟩⟩) (by exact ⟨⟩)) (And.intro (by exact And.intro (by exact int_eq (szR_yes hpos)) (And.intro (by exact rfl) (True.intro))) (by exact ⟨⟩)))))
  ·try simp only [q1, q2, q3, q4, q5, q6, q7, q8, q9] at hb2
   refine sw_exit ?_
   refine sw_seq ?_
   refine sO [(0, _), (1, _), (5, _)] [] ?_
   refine sw_reg ?_
   refine rA ?_ (x := sM)
   refine rA ?_ (x := sA)
   refine sw_ret ?_
   exact (And.intro (by refine int_eq ?_; (rw [szR_yes (by have : (x.take k) = x := List.take_of_length_le (by omega); rw [this] at hw; simp only [wtActiveS]; omega)]; have : (x.take k) = x := List.take_of_length_le (by omega); rw [this] at hw; simp only [wtActiveS]; omega)) True.intro)
theorem sz_FinishedS {p1 p2 p3 p4 : Fl} {x : List Finished} {l : Int}  (h0l : 0 ≤ l) (h1l : l ≤ 1048576) : SCall Tryz.prog 28 [(false, [PV.sl .v (x.map (cFinished p1 p2 p3 p4))]), (false, [PV.val (vI l)])] (resRV [(false, [PV.val (vI (szR l (wtFinishedS x)))])]) := by
 refine scall_of (rs := [(false, [PV.val (vI (szR l (wtFinishedS x)))])]) Tryz.func28 rfl (Nat.le_of_ble_eq_true rfl) (borA_cons (BorL.cons (PV.bor_sl _) BorL.nil) (borA_cons (BorL.cons (PV.bor_val _) BorL.nil) borA_nil)) ?_
 intro h0 w0 Fz0
 refine sw_len (s := 0) rfl fun hl0 => ?_
 try rw [List.length_map] at hl0
 refine sw_seq ?_
 refine sw_reg ?_
 refine rA ?_ (x := kA)
 refine sw_seq ?_
 refine sO [(0, _), (1, _), (4, _)] [] ?_
 refine sw_reg ?_
 refine rA ?_ (x := sM)
 refine rA ?_ (x := vM false [PV.sl .v _])
 refine rA ?_ (x := lN sl_27)
 refine rA ?_ (x := B_sub)
 refine rA ?_ (x := sA)
 refine sw_seq ?_
 refine sw_seq ?_
 refine sO [(0, _), (1, _), (4, _)] [] ?_
 refine sw_reg ?_
 refine rA ?_ (x := sM)
 refine rA ?_ (x := B_lss)
 refine sw_cond (t := 11) rfl (fun hb1 => ?_) (fun hb1 => ?_)
 ·try simp only [q1, q2, q3, q4, q5, q6, q7, q8, q9] at hb1
  refine sw_seq ?_
  refine sO [(0, _), (1, _), (4, _)] [] ?_
  refine sw_reg ?_
  refine rA ?_ (x := kA)
  refine sw_ret ?_
  exact (And.intro (by refine int_eq ?_; exact (szR_no (by simp only [wtFinishedS]; omega)).symm) True.intro)
 ·try simp only [q1, q2, q3, q4, q5, q6, q7, q8, q9] at hb1
  refine sw_skip ?_
  refine sw_seq ?_
  refine sw_seq ?_
  refine sO [(0, _), (1, _), (4, _)] [] ?_
  refine sw_reg ?_
  refine rA ?_ (x := kA)
  refine sw_block ?_
  refine sO [(0, _), (1, _), (4, _), (5, _)] [] ?_
  refine sw_loop (l0 := [(0, RV.sv false [PV.sl _ _])]) (b0 := []) (fun q : Nat × Int => q.1 ≤ x.length ∧ 0 ≤ q.2 ∧ q.2 + x.length + ((x.take q.1).map wtFinished).sum = l) (fun q : Nat × Int => [(1, RV.int q.2), (5, RV.int (q.1 : Int))]) (fun q : Nat × Int => []) (fun q : Nat × Int => x.length - q.1) (0, l - x.length) (by exact ⟨by simp, by dsimp only; omega, by simp⟩) (by exact ⟨rfl, ⟨⟩⟩) (by exact ⟨⟩) (by exact And.intro (by exact rfl) (And.intro (by exact rfl) (True.intro))) (by exact ⟨⟩) ?_
  rintro ⟨k, ll⟩ ⟨hk, hll, hw⟩
  dsimp only at hk hll hw
  refine sw_seq ?_
  refine sw_seq ?_
  refine sw_reg ?_
  refine rA ?_ (x := sM)
  refine rA ?_ (x := vM false [PV.sl .v _])
  refine rA ?_ (x := lN sl_27)
  refine rA ?_ (x := B_lss)
  refine sw_cond (t := 15) rfl (fun hb2 => ?_) (fun hb2 => ?_)
  ·try simp only [q1, q2, q3, q4, q5, q6, q7, q8, q9] at hb2
   have hlt : k < x.length := by omega
   refine sw_skip ?_
   refine sw_seq ?_
   refine sw_block ?_
   refine sw_seq ?_
   refine sO [(0, _), (1, _), (5, _)] [] ?_
   refine sw_reg ?_
   refine rA ?_ (x := vM false [PV.sl .v _])
   refine rA ?_ (x := sM)
   refine rA ?_ (x := loc_index (by decide) sl_27 (by exact ⟨⟩) (by exact rfl) (by exact getm2 (by omega) rfl) (by exact rfl))
   refine rA ?_ (x := lE [PV.val _, PV.val _, PV.sl .v _, PV.sl .v _, PV.val _, PV.val _, PV.sl .v _] ty_123)
   refine rA ?_ (x := sM)
   refine rA ?_ (x := cL [(true, [PV.val _, PV.val _, PV.sl _ _, PV.sl _ _, PV.val _, PV.val _, PV.sl _ _]), (false, [PV.val _])] [(true, [PV.val _, PV.val _, PV.sl .v _, PV.sl .v _, PV.val _, PV.val _, PV.sl .v _]), (false, [PV.val _])] c_77 (hs := by exact sz_Finished (by omega) (by omega)))
   refine rA ?_ (x := sA)
   refine sw_seq ?_
   refine sO [(0, _), (1, _), (5, _)] [] ?_
   refine sw_reg ?_
   refine rA ?_ (x := sM)
   refine rA ?_ (x := B_lss)
   refine sw_cond (t := 25) rfl (fun hb3 => ?_) (fun hb3 => ?_)
   ·try simp only [q1, q2, q3, q4, q5, q6, q7, q8, q9] at hb3
    have hlt : k < x.length := by omega
    have hneg := szR_neg (w := wtFinished x[k]) (l := ll) (by omega) hb3
    have hwk := wtk (f := wtFinished) hlt
    refine sw_seq ?_
    refine sO [(0, _), (1, _), (5, _)] [] ?_
    refine sw_reg ?_
    refine rA ?_ (x := kA)
    refine sw_ret ?_
    exact (And.intro (by refine int_eq ?_; exact (szR_no (by have := wtk_le (f := wtFinished) x (k + 1); simp only [wtFinishedS]; omega)).symm) True.intro)
   ·try simp only [q1, q2, q3, q4, q5, q6, q7, q8, q9] at hb3
    have hlt : k < x.length := by omega
    have hpos := szR_pos (w := wtFinished x[k]) (l := ll) hb3
    have hwk := wtk (f := wtFinished) hlt
    refine sw_skip ?_
    refine sO [(0, _), (1, _), (5, _)] [] ?_
    refine sw_reg ?_
    refine rA ?_ (x := sM)
    refine rA ?_ (x := B_add)
    refine rA ?_ (x := sA)
    refine Exists.intro (k + 1, ll - wtFinished x[k]) (And.intro (by exact ⟨by dsimp only; omega, by dsimp only; omega, by dsimp only; have := wtk (f := wtFinished) hlt; omega⟩) (And.intro (by dsimp only; omega) (And.intro (And.intro (by exact ⟨rfl, ⟨⟩⟩) (by exact ⟨⟩)) (And.intro (by exact And.intro (by exact int_eq (szR_yes hpos)) (And.intro (by exact rfl) (True.intro))) (by exact ⟨⟩)))))
  ·try simp only [q1, q2, q3, q4, q5, q6, q7, q8, q9] at hb2
   refine sw_exit ?_
   refine sw_seq ?_
   refine sO [(0, _), (1, _), (5, _)] [] ?_
   refine sw_reg ?_
   refine rA ?_ (x := sM)
   refine rA ?_ (x := sA)
   refine sw_ret ?_
   exact (And.intro (by refine int_eq ?_; (rw [szR_yes (by have : (x.take k) = x := List.take_of_length_le (by omega); rw [this] at hw; simp only [wtFinishedS]; omega)]; have : (x.take k) = x := List.take_of_length_le (by omega); rw [this] at hw; simp only [wtFinishedS]; omega)) True.intro)
theorem sz_Engine {p1 p2 p5 p6 p7 p8 p9 p11 p12 p13 p14 p16 p17 p18 : Fl} {x : Engine} {l : Int}  (h0l : 0 ≤ l) (h1l : l ≤ 1048576) : SCall Tryz.prog 7 [(true, [PV.sl .v (x.Store.Segments.map (cVersionS p1 p2)), PV.val (vI x.Store.Now), PV.val (vI x.Cursor), PV.sl .v (x.Order.map cInt), PV.sl .v (x.Active.map (cActive p5 p6 p7 p8 p9)), PV.sl .v (x.Done.map (cFinished p11 p12 p13 p14)), PV.sl .v (x.Ledger.map (cCharge p16 p17 p18)), PV.val (vI x.Steps)]), (false, [PV.val (vI l)])] (resRV [(false, [PV.val (vI (szR l (wtEngine x)))])]) := by
 refine scall_of (rs := [(false, [PV.val (vI (szR l (wtEngine x)))])]) Tryz.func7 rfl (Nat.le_of_ble_eq_true rfl) (borA_cons (BorL.cons (PV.bor_sl _) (BorL.cons (PV.bor_val _) (BorL.cons (PV.bor_val _) (BorL.cons (PV.bor_sl _) (BorL.cons (PV.bor_sl _) (BorL.cons (PV.bor_sl _) (BorL.cons (PV.bor_sl _) (BorL.cons (PV.bor_val _) BorL.nil)))))))) (borA_cons (BorL.cons (PV.bor_val _) BorL.nil) borA_nil)) ?_
 intro h0 w0 Fz0
 refine sw_slen (s := 0) (j := 0) rfl rfl fun hl0_0 => ?_
 try rw [List.length_map] at hl0_0
 refine sw_slen (s := 0) (j := 3) rfl rfl fun hl0_3 => ?_
 try rw [List.length_map] at hl0_3
 refine sw_slen (s := 0) (j := 4) rfl rfl fun hl0_4 => ?_
 try rw [List.length_map] at hl0_4
 refine sw_slen (s := 0) (j := 5) rfl rfl fun hl0_5 => ?_
 try rw [List.length_map] at hl0_5
 refine sw_slen (s := 0) (j := 6) rfl rfl fun hl0_6 => ?_
 try rw [List.length_map] at hl0_6
 have hw : (wtEngine x : Int) = (wtStore x.Store : Int) + (wtIntS x.Order : Int) + (wtActiveS x.Active : Int) + (wtFinishedS x.Done : Int) + (wtChargeS x.Ledger : Int) := by simp [wtEngine, wtInt]
 refine sw_seq ?_
 refine sw_reg ?_
 refine RunS.step (by exact ⟨rfl, ⟨⟩⟩) (by exact ⟨⟩) (LocG.of rfl (loc_box (ag := true) (cs := [PV.sl _ _, PV.val _, PV.val _, PV.sl _ _, PV.sl _ _, PV.sl _ _, PV.sl _ _, PV.val _]) (by decide) (by exact ⟨⟩))) (free1 (Free.of_ rfl)) ?_
 refine rA ?_ (x := kA)
 refine sw_seq ?_
 refine sO [(1, _), (2, _), (4, _)] [(2, (30, [PV.sl _ _, PV.val _, PV.val _, PV.sl _ _, PV.sl _ _, PV.sl _ _, PV.sl _ _, PV.val _]))] ?_
 refine sw_reg ?_
 refine rA ?_ (x := lF fd_30_0)
 refine rA ?_ (x := lD [PV.sl .v _, PV.val _] ty_24)
 refine rA ?_ (x := sM)
 refine rA ?_ (x := cL [(true, [PV.sl _ _, PV.val _]), (false, [PV.val _])] [(true, [PV.sl .v _, PV.val _]), (false, [PV.val _])] c_25 (hs := by exact sz_Store (by omega) (by omega)))
 refine rA ?_ (x := sA)
 refine sw_seq ?_
 refine sw_seq ?_
 refine sO [(1, _), (2, _), (4, _)] [(2, _)] ?_
 refine sw_reg ?_
 refine rA ?_ (x := sM)
 refine rA ?_ (x := B_lss)
 refine sw_cond (t := 10) rfl (fun hb1 => ?_) (fun hb1 => ?_)
 ·try simp only [q1, q2, q3, q4, q5, q6, q7, q8, q9] at hb1
  have hn0 := szR_neg (w := wtStore x.Store) (l := l) (by omega) hb1
  refine sw_seq ?_
  refine sO [(1, _), (2, _), (4, _)] [(2, _)] ?_
  refine sw_reg ?_
  refine rA ?_ (x := kA)
  refine sw_ret ?_
  exact (And.intro (by refine int_eq ?_; exact (szR_no (by omega)).symm) True.intro)
 ·try simp only [q1, q2, q3, q4, q5, q6, q7, q8, q9] at hb1
  have hp0 := szR_pos (w := wtStore x.Store) (l := l) hb1
  have he0 := szR_yes hp0
  refine sw_skip ?_
  refine sw_seq ?_
  refine sO [(1, _), (2, _), (4, _)] [(2, _)] ?_
  refine sw_reg ?_
  refine rA ?_ (x := lF fd_30_2)
  refine rA ?_ (x := lD [PV.sl .v _] ty_25)
  refine rA ?_ (x := sM)
  refine rA ?_ (x := cL [(false, [PV.sl _ _]), (false, [PV.val _])] [(false, [PV.sl .v _]), (false, [PV.val _])] c_26 (hs := by exact sz_IntS (by omega) (by omega)))
  refine rA ?_ (x := sA)
  refine sw_seq ?_
  refine sw_seq ?_
  refine sO [(1, _), (2, _), (4, _)] [(2, _)] ?_
  refine sw_reg ?_
  refine rA ?_ (x := sM)
  refine rA ?_ (x := B_lss)
  refine sw_cond (t := 16) rfl (fun hb2 => ?_) (fun hb2 => ?_)
  ·try simp only [q1, q2, q3, q4, q5, q6, q7, q8, q9] at hb2
   have hn1 := szR_neg (w := wtIntS x.Order) (l := (szR l (wtStore x.Store))) (by omega) hb2
   refine sw_seq ?_
   refine sO [(1, _), (2, _), (4, _)] [(2, _)] ?_
   refine sw_reg ?_
   refine rA ?_ (x := kA)
   refine sw_ret ?_
   exact (And.intro (by refine int_eq ?_; exact (szR_no (by omega)).symm) True.intro)
  ·try simp only [q1, q2, q3, q4, q5, q6, q7, q8, q9] at hb2
   have hp1 := szR_pos (w := wtIntS x.Order) (l := (szR l (wtStore x.Store))) hb2
   have he1 := szR_yes hp1
   refine sw_skip ?_
   refine sw_seq ?_
   refine sO [(1, _), (2, _), (4, _)] [(2, _)] ?_
   refine sw_reg ?_
   refine rA ?_ (x := lF fd_30_3)
   refine rA ?_ (x := lD [PV.sl .v _] ty_26)
   refine rA ?_ (x := sM)
   refine rA ?_ (x := cL [(false, [PV.sl _ _]), (false, [PV.val _])] [(false, [PV.sl .v _]), (false, [PV.val _])] c_27 (hs := by exact sz_ActiveS (by omega) (by omega)))
   refine rA ?_ (x := sA)
   refine sw_seq ?_
   refine sw_seq ?_
   refine sO [(1, _), (2, _), (4, _)] [(2, _)] ?_
   refine sw_reg ?_
   refine rA ?_ (x := sM)
   refine rA ?_ (x := B_lss)
   refine sw_cond (t := 22) rfl (fun hb3 => ?_) (fun hb3 => ?_)
   ·try simp only [q1, q2, q3, q4, q5, q6, q7, q8, q9] at hb3
    have hn2 := szR_neg (w := wtActiveS x.Active) (l := (szR (szR l (wtStore x.Store)) (wtIntS x.Order))) (by omega) hb3
    refine sw_seq ?_
    refine sO [(1, _), (2, _), (4, _)] [(2, _)] ?_
    refine sw_reg ?_
    refine rA ?_ (x := kA)
    refine sw_ret ?_
    exact (And.intro (by refine int_eq ?_; exact (szR_no (by omega)).symm) True.intro)
   ·try simp only [q1, q2, q3, q4, q5, q6, q7, q8, q9] at hb3
    have hp2 := szR_pos (w := wtActiveS x.Active) (l := (szR (szR l (wtStore x.Store)) (wtIntS x.Order))) hb3
    have he2 := szR_yes hp2
    refine sw_skip ?_
    refine sw_seq ?_
    refine sO [(1, _), (2, _), (4, _)] [(2, _)] ?_
    refine sw_reg ?_
    refine rA ?_ (x := lF fd_30_4)
    refine rA ?_ (x := lD [PV.sl .v _] ty_27)
    refine rA ?_ (x := sM)
    refine rA ?_ (x := cL [(false, [PV.sl _ _]), (false, [PV.val _])] [(false, [PV.sl .v _]), (false, [PV.val _])] c_28 (hs := by exact sz_FinishedS (by omega) (by omega)))
    refine rA ?_ (x := sA)
    refine sw_seq ?_
    refine sw_seq ?_
    refine sO [(1, _), (2, _), (4, _)] [(2, _)] ?_
    refine sw_reg ?_
    refine rA ?_ (x := sM)
    refine rA ?_ (x := B_lss)
    refine sw_cond (t := 28) rfl (fun hb4 => ?_) (fun hb4 => ?_)
    ·try simp only [q1, q2, q3, q4, q5, q6, q7, q8, q9] at hb4
     have hn3 := szR_neg (w := wtFinishedS x.Done) (l := (szR (szR (szR l (wtStore x.Store)) (wtIntS x.Order)) (wtActiveS x.Active))) (by omega) hb4
     refine sw_seq ?_
     refine sO [(1, _), (2, _), (4, _)] [(2, _)] ?_
     refine sw_reg ?_
     refine rA ?_ (x := kA)
     refine sw_ret ?_
     exact (And.intro (by refine int_eq ?_; exact (szR_no (by omega)).symm) True.intro)
    ·try simp only [q1, q2, q3, q4, q5, q6, q7, q8, q9] at hb4
     have hp3 := szR_pos (w := wtFinishedS x.Done) (l := (szR (szR (szR l (wtStore x.Store)) (wtIntS x.Order)) (wtActiveS x.Active))) hb4
     have he3 := szR_yes hp3
     refine sw_skip ?_
     refine sw_seq ?_
     refine sO [(1, _), (2, _), (4, _)] [(2, _)] ?_
     refine sw_reg ?_
     refine rA ?_ (x := lF fd_30_5)
     refine rA ?_ (x := lD [PV.sl .v _] ty_28)
     refine rA ?_ (x := sM)
     refine rA ?_ (x := cL [(false, [PV.sl _ _]), (false, [PV.val _])] [(false, [PV.sl .v _]), (false, [PV.val _])] c_29 (hs := by exact sz_ChargeS (by omega) (by omega)))
     refine rA ?_ (x := sA)
     refine sw_seq ?_
     refine sw_seq ?_
     refine sO [(1, _), (2, _), (4, _)] [(2, _)] ?_
     refine sw_reg ?_
     refine rA ?_ (x := sM)
     refine rA ?_ (x := B_lss)
     refine sw_cond (t := 34) rfl (fun hb5 => ?_) (fun hb5 => ?_)
     ·try simp only [q1, q2, q3, q4, q5, q6, q7, q8, q9] at hb5
      have hn4 := szR_neg (w := wtChargeS x.Ledger) (l := (szR (szR (szR (szR l (wtStore x.Store)) (wtIntS x.Order)) (wtActiveS x.Active)) (wtFinishedS x.Done))) (by omega) hb5
      refine sw_seq ?_
      refine sO [(1, _), (2, _), (4, _)] [(2, _)] ?_
      refine sw_reg ?_
      refine rA ?_ (x := kA)
      refine sw_ret ?_
      exact (And.intro (by refine int_eq ?_; exact (szR_no (by omega)).symm) True.intro)
     ·try simp only [q1, q2, q3, q4, q5, q6, q7, q8, q9] at hb5
      have hp4 := szR_pos (w := wtChargeS x.Ledger) (l := (szR (szR (szR (szR l (wtStore x.Store)) (wtIntS x.Order)) (wtActiveS x.Active)) (wtFinishedS x.Done))) hb5
      have he4 := szR_yes hp4
      refine sw_skip ?_
      refine sw_seq ?_
      refine sO [(1, _), (2, _), (4, _)] [(2, _)] ?_
      refine sw_reg ?_
      refine rA ?_ (x := sM)
      refine rA ?_ (x := sA)
      refine sw_ret ?_
      exact (And.intro (by refine int_eq ?_; (have hz := szR_yes (l := l) (n := (wtEngine x : Int)) (by omega); omega)) True.intro)
end Go.Proofs.YteflgldonmgejaaGreatDoor
