/- What functions of the program compute. No condition. -/
import Derived.Test.YtloipjaiceifbaaCDb
import Derived.KernelRfl
set_option linter.unusedVariables false
set_option linter.unusedSimpArgs false
namespace Go.Proofs.Ytloipjaiceifbaa
open Go Go.RowKit M
set_option maxRecDepth 10000
attribute [local irreducible] PV.Lcl PV.LclR RV.Lcl
theorem wt0_IntS (x : List Int) : (wtIntS x : Int) = x.length := by
 have h : ∀ l : List Int, (l.map wtInt).sum = 0 := by
  intro l
  induction l with
  | nil => rfl
  | cons a l ih => rw [List.map_cons, List.sum_cons, ih]; rfl
 simp [wtIntS, h]
theorem sz_IntS {x : List Int} {l : Int}  (h0l : 0 ≤ l) (h1l : l ≤ 1048576) : SCall Try.prog 80 [(false, [PV.sl .v (x.map cInt)]), (false, [PV.val (vI l)])] (resRV [(false, [PV.val (vI (szR l (wtIntS x)))])]) := by
 refine scall_of (rs := [(false, [PV.val (vI (szR l (wtIntS x)))])]) Try.func80 rfl (Nat.le_of_ble_eq_true rfl) (borA_cons (BorL.cons (PV.bor_sl _) BorL.nil) (borA_cons (BorL.cons (PV.bor_val _) BorL.nil) borA_nil)) ?_
 intro h0 w0 Fz0
 refine sw_len (s := 0) rfl fun hl0 => ?_
 try rw [List.length_map] at hl0
 refine sw_seq ?_
 refine sw_reg ?_
 refine rA ?_ (x := kA)
 refine sw_seq ?_
 refine sO [(0, _), (1, _), (4, _)] [] ?_
 refine sw_reg ?_
 refine rA ?_ (x := sM)
 refine rA ?_ (x := vM false [PV.sl .v _])
 refine rA ?_ (x := lN sl_38)
 refine rA ?_ (x := B_sub)
 refine rA ?_ (x := sA)
 refine sw_seq ?_
 refine sw_seq ?_
 refine sO [(0, _), (1, _), (4, _)] [] ?_
 refine sw_reg ?_
 refine rA ?_ (x := sM)
 refine rA ?_ (x := B_lss)
 refine sw_cond (t := 10) rfl (fun hb1 => ?_) (fun hb1 => ?_)
 ·try simp only [q1, q2, q3, q4, q5, q6, q7, q8, q9] at hb1
  refine sw_seq ?_
  refine sO [(0, _), (1, _), (4, _)] [] ?_
  refine sw_reg ?_
  refine rA ?_ (x := kA)
  refine sw_ret ?_
  exact (And.intro (by refine int_eq ?_; exact (szR_no (by have := wt0_IntS x; omega)).symm) True.intro)
 ·try simp only [q1, q2, q3, q4, q5, q6, q7, q8, q9] at hb1
  refine sw_skip ?_
  refine sw_seq ?_
  refine sO [(0, _), (1, _), (4, _)] [] ?_
  refine sw_reg ?_
  refine rA ?_ (x := sM)
  refine rA ?_ (x := sA)
  refine sw_ret ?_
  exact (And.intro (by refine int_eq ?_; exact (by have := wt0_IntS x; rw [szR_yes (by omega), this])) True.intro)
theorem wt0_BoolS (x : List Bool) : (wtBoolS x : Int) = x.length := by
 have h : ∀ l : List Bool, (l.map wtBool).sum = 0 := by
  intro l
  induction l with
  | nil => rfl
  | cons a l ih => rw [List.map_cons, List.sum_cons, ih]; rfl
 simp [wtBoolS, h]
theorem sz_BoolS {x : List Bool} {l : Int}  (h0l : 0 ≤ l) (h1l : l ≤ 1048576) : SCall Try.prog 96 [(false, [PV.sl .v (x.map cBool)]), (false, [PV.val (vI l)])] (resRV [(false, [PV.val (vI (szR l (wtBoolS x)))])]) := by
 refine scall_of (rs := [(false, [PV.val (vI (szR l (wtBoolS x)))])]) Try.func96 rfl (Nat.le_of_ble_eq_true rfl) (borA_cons (BorL.cons (PV.bor_sl _) BorL.nil) (borA_cons (BorL.cons (PV.bor_val _) BorL.nil) borA_nil)) ?_
 intro h0 w0 Fz0
 refine sw_len (s := 0) rfl fun hl0 => ?_
 try rw [List.length_map] at hl0
 refine sw_seq ?_
 refine sw_reg ?_
 refine rA ?_ (x := kA)
 refine sw_seq ?_
 refine sO [(0, _), (1, _), (4, _)] [] ?_
 refine sw_reg ?_
 refine rA ?_ (x := sM)
 refine rA ?_ (x := vM false [PV.sl .v _])
 refine rA ?_ (x := lN sl_58)
 refine rA ?_ (x := B_sub)
 refine rA ?_ (x := sA)
 refine sw_seq ?_
 refine sw_seq ?_
 refine sO [(0, _), (1, _), (4, _)] [] ?_
 refine sw_reg ?_
 refine rA ?_ (x := sM)
 refine rA ?_ (x := B_lss)
 refine sw_cond (t := 10) rfl (fun hb1 => ?_) (fun hb1 => ?_)
 ·try simp only [q1, q2, q3, q4, q5, q6, q7, q8, q9] at hb1
  refine sw_seq ?_
  refine sO [(0, _), (1, _), (4, _)] [] ?_
  refine sw_reg ?_
  refine rA ?_ (x := kA)
  refine sw_ret ?_
  exact (And.intro (by refine int_eq ?_; exact (szR_no (by have := wt0_BoolS x; omega)).symm) True.intro)
 ·try simp only [q1, q2, q3, q4, q5, q6, q7, q8, q9] at hb1
  refine sw_skip ?_
  refine sw_seq ?_
  refine sO [(0, _), (1, _), (4, _)] [] ?_
  refine sw_reg ?_
  refine rA ?_ (x := sM)
  refine rA ?_ (x := sA)
  refine sw_ret ?_
  exact (And.intro (by refine int_eq ?_; exact (by have := wt0_BoolS x; rw [szR_yes (by omega), this])) True.intro)
theorem sz_Row {x : Row} {l : Int}  (h0l : 0 ≤ l) (h1l : l ≤ 1048576) : SCall Try.prog 66 [(true, [PV.val (vI x.Id), PV.sl .v (x.Values.map cInt)]), (false, [PV.val (vI l)])] (resRV [(false, [PV.val (vI (szR l (wtRow x)))])]) := by
 refine scall_of (rs := [(false, [PV.val (vI (szR l (wtRow x)))])]) Try.func66 rfl (Nat.le_of_ble_eq_true rfl) (borA_cons (BorL.cons (PV.bor_val _) (BorL.cons (PV.bor_sl _) BorL.nil)) (borA_cons (BorL.cons (PV.bor_val _) BorL.nil) borA_nil)) ?_
 intro h0 w0 Fz0
 refine sw_slen (s := 0) (j := 1) rfl rfl fun hl0_1 => ?_
 try rw [List.length_map] at hl0_1
 have hw : (wtRow x : Int) = (wtIntS x.Values : Int) := by simp [wtRow, wtInt]
 refine sw_seq ?_
 refine sw_reg ?_
 refine RunS.step (by exact ⟨rfl, ⟨⟩⟩) (by exact ⟨⟩) (LocG.of rfl (loc_box (ag := true) (cs := [PV.val _, PV.sl _ _]) (by decide) (by exact ⟨⟩))) (free1 (Free.of_ rfl)) ?_
 refine rA ?_ (x := kA)
 refine sw_seq ?_
 refine sO [(1, _), (2, _), (4, _)] [(2, (82, [PV.val _, PV.sl _ _]))] ?_
 refine sw_reg ?_
 refine rA ?_ (x := lF fd_82_1)
 refine rA ?_ (x := lD [PV.sl .v _] ty_38)
 refine rA ?_ (x := sM)
 refine rA ?_ (x := cL [(false, [PV.sl _ _]), (false, [PV.val _])] [(false, [PV.sl .v _]), (false, [PV.val _])] c_80 (hs := by exact sz_IntS (by omega) (by omega)))
 refine rA ?_ (x := sA)
 refine sw_seq ?_
 refine sw_seq ?_
 refine sO [(1, _), (2, _), (4, _)] [(2, _)] ?_
 refine sw_reg ?_
 refine rA ?_ (x := sM)
 refine rA ?_ (x := B_lss)
 refine sw_cond (t := 10) rfl (fun hb1 => ?_) (fun hb1 => ?_)
 ·try simp only [q1, q2, q3, q4, q5, q6, q7, q8, q9] at hb1
  have hn0 := szR_neg (w := wtIntS x.Values) (l := l) (by omega) hb1
  refine sw_seq ?_
  refine sO [(1, _), (2, _), (4, _)] [(2, _)] ?_
  refine sw_reg ?_
  refine rA ?_ (x := kA)
  refine sw_ret ?_
  exact (And.intro (by refine int_eq ?_; exact (szR_no (by omega)).symm) True.intro)
 ·try simp only [q1, q2, q3, q4, q5, q6, q7, q8, q9] at hb1
  have hp0 := szR_pos (w := wtIntS x.Values) (l := l) hb1
  have he0 := szR_yes hp0
  refine sw_skip ?_
  refine sw_seq ?_
  refine sO [(1, _), (2, _), (4, _)] [(2, _)] ?_
  refine sw_reg ?_
  refine rA ?_ (x := sM)
  refine rA ?_ (x := sA)
  refine sw_ret ?_
  exact (And.intro (by refine int_eq ?_; (have hz := szR_yes (l := l) (n := (wtRow x : Int)) (by omega); omega)) True.intro)
theorem wt0_CondS (x : List Cond) : (wtCondS x : Int) = x.length := by
 have h : ∀ l : List Cond, (l.map wtCond).sum = 0 := by
  intro l
  induction l with
  | nil => rfl
  | cons a l ih => rw [List.map_cons, List.sum_cons, ih]; rfl
 simp [wtCondS, h]
theorem sz_CondS {x : List Cond} {l : Int}  (h0l : 0 ≤ l) (h1l : l ≤ 1048576) : SCall Try.prog 79 [(false, [PV.sl .v (x.map cCond)]), (false, [PV.val (vI l)])] (resRV [(false, [PV.val (vI (szR l (wtCondS x)))])]) := by
 refine scall_of (rs := [(false, [PV.val (vI (szR l (wtCondS x)))])]) Try.func79 rfl (Nat.le_of_ble_eq_true rfl) (borA_cons (BorL.cons (PV.bor_sl _) BorL.nil) (borA_cons (BorL.cons (PV.bor_val _) BorL.nil) borA_nil)) ?_
 intro h0 w0 Fz0
 refine sw_len (s := 0) rfl fun hl0 => ?_
 try rw [List.length_map] at hl0
 refine sw_seq ?_
 refine sw_reg ?_
 refine rA ?_ (x := kA)
 refine sw_seq ?_
 refine sO [(0, _), (1, _), (4, _)] [] ?_
 refine sw_reg ?_
 refine rA ?_ (x := sM)
 refine rA ?_ (x := vM false [PV.sl .v _])
 refine rA ?_ (x := lN sl_48)
 refine rA ?_ (x := B_sub)
 refine rA ?_ (x := sA)
 refine sw_seq ?_
 refine sw_seq ?_
 refine sO [(0, _), (1, _), (4, _)] [] ?_
 refine sw_reg ?_
 refine rA ?_ (x := sM)
 refine rA ?_ (x := B_lss)
 refine sw_cond (t := 10) rfl (fun hb1 => ?_) (fun hb1 => ?_)
 ·try simp only [q1, q2, q3, q4, q5, q6, q7, q8, q9] at hb1
  refine sw_seq ?_
  refine sO [(0, _), (1, _), (4, _)] [] ?_
  refine sw_reg ?_
  refine rA ?_ (x := kA)
  refine sw_ret ?_
  exact (And.intro (by refine int_eq ?_; exact (szR_no (by have := wt0_CondS x; omega)).symm) True.intro)
 ·try simp only [q1, q2, q3, q4, q5, q6, q7, q8, q9] at hb1
  refine sw_skip ?_
  refine sw_seq ?_
  refine sO [(0, _), (1, _), (4, _)] [] ?_
  refine sw_reg ?_
  refine rA ?_ (x := sM)
  refine rA ?_ (x := sA)
  refine sw_ret ?_
  exact (And.intro (by refine int_eq ?_; exact (by have := wt0_CondS x; rw [szR_yes (by omega), this])) True.intro)
theorem sz_RowS {p1 : Fl} {x : List Row} {l : Int}  (h0l : 0 ≤ l) (h1l : l ≤ 1048576) : SCall Try.prog 17 [(false, [PV.sl .v (x.map (cRow p1))]), (false, [PV.val (vI l)])] (resRV [(false, [PV.val (vI (szR l (wtRowS x)))])]) := by
 refine scall_of (rs := [(false, [PV.val (vI (szR l (wtRowS x)))])]) Try.func17 rfl (Nat.le_of_ble_eq_true rfl) (borA_cons (BorL.cons (PV.bor_sl _) BorL.nil) (borA_cons (BorL.cons (PV.bor_val _) BorL.nil) borA_nil)) ?_
 intro h0 w0 Fz0
 refine sw_len (s := 0) rfl fun hl0 => ?_
 try rw [List.length_map] at hl0
 refine sw_seq ?_
 refine sw_reg ?_
 refine rA ?_ (x := kA)
 refine sw_seq ?_
 refine sO [(0, _), (1, _), (4, _)] [] ?_
 refine sw_reg ?_
 refine rA ?_ (x := sM)
 refine rA ?_ (x := vM false [PV.sl .v _])
 refine rA ?_ (x := lN sl_30)
 refine rA ?_ (x := B_sub)
 refine rA ?_ (x := sA)
 refine sw_seq ?_
 refine sw_seq ?_
 refine sO [(0, _), (1, _), (4, _)] [] ?_
 refine sw_reg ?_
 refine rA ?_ (x := sM)
 refine rA ?_ (x := B_lss)
 refine sw_cond (t := 11) rfl (fun hb1 => ?_) (fun hb1 => ?_)
 ·try simp only [q1, q2, q3, q4, q5, q6, q7, q8, q9] at hb1
  refine sw_seq ?_
  refine sO [(0, _), (1, _), (4, _)] [] ?_
  refine sw_reg ?_
  refine rA ?_ (x := kA)
  refine sw_ret ?_
  exact (And.intro (by refine int_eq ?_; exact (szR_no (by simp only [wtRowS]; omega)).symm) True.intro)
 ·try simp only [q1, q2, q3, q4, q5, q6, q7, q8, q9] at hb1
  refine sw_skip ?_
  refine sw_seq ?_
  refine sw_seq ?_
  refine sO [(0, _), (1, _), (4, _)] [] ?_
  refine sw_reg ?_
  refine rA ?_ (x := kA)
  refine sw_block ?_
  refine sO [(0, _), (1, _), (4, _), (5, _)] [] ?_
  refine sw_loop (l0 := [(0, RV.sv false [PV.sl _ _])]) (b0 := []) (fun q : Nat × Int => q.1 ≤ x.length ∧ 0 ≤ q.2 ∧ q.2 + x.length + ((x.take q.1).map wtRow).sum = l) (fun q : Nat × Int => [(1, RV.int q.2), (5, RV.int (q.1 : Int))]) (fun q : Nat × Int => []) (fun q : Nat × Int => x.length - q.1) (0, l - x.length) (by exact ⟨by simp, by dsimp only; omega, by simp⟩) (by exact ⟨rfl, ⟨⟩⟩) (by exact ⟨⟩) (by exact And.intro (by exact rfl) (And.intro (by exact rfl) (True.intro))) (by exact ⟨⟩) ?_
  rintro ⟨k, ll⟩ ⟨hk, hll, hw⟩
  dsimp only at hk hll hw
  refine sw_seq ?_
  refine sw_seq ?_
  refine sw_reg ?_
  refine rA ?_ (x := sM)
  refine rA ?_ (x := vM false [PV.sl .v _])
  refine rA ?_ (x := lN sl_30)
  refine rA ?_ (x := B_lss)
  refine sw_cond (t := 15) rfl (fun hb2 => ?_) (fun hb2 => ?_)
  ·try simp only [q1, q2, q3, q4, q5, q6, q7, q8, q9] at hb2
   have hlt : k < x.length := by omega
   refine sw_skip ?_
   refine sw_seq ?_
   refine sw_block ?_
   refine sw_seq ?_
   refine sO [(0, _), (1, _), (5, _)] [] ?_
   refine sw_reg ?_
   refine rA ?_ (x := vM false [PV.sl .v _])
   refine rA ?_ (x := sM)
   refine rA ?_ (x := loc_index (by decide) sl_30 (by exact ⟨⟩) (by exact rfl) (by exact getm2 (by omega) rfl) (by exact rfl))
   refine rA ?_ (x := lE [PV.val _, PV.sl .v _] ty_82)
   refine rA ?_ (x := sM)
   refine rA ?_ (x := cL [(true, [PV.val _, PV.sl _ _]), (false, [PV.val _])] [(true, [PV.val _, PV.sl .v _]), (false, [PV.val _])] c_66 (hs := by exact sz_Row (by omega) (by omega)))
   refine rA ?_ (x := sA)
   refine sw_seq ?_
   refine sO [(0, _), (1, _), (5, _)] [] ?_
   refine sw_reg ?_
   refine rA ?_ (x := sM)
   refine rA ?_ (x := B_lss)
   refine sw_cond (t := 25) rfl (fun hb3 => ?_) (fun hb3 => ?_)
   ·try simp only [q1, q2, q3, q4, q5, q6, q7, q8, q9] at hb3
    have hlt : k < x.length := by omega
    have hneg := szR_neg (w := wtRow x[k]) (l := ll) (by omega) hb3
    have hwk := wtk (f := wtRow) hlt
    refine sw_seq ?_
    refine sO [(0, _), (1, _), (5, _)] [] ?_
    refine sw_reg ?_
    refine rA ?_ (x := kA)
    refine sw_ret ?_
    exact (And.intro (by refine int_eq ?_; exact (szR_no (by have := wtk_le (f := wtRow) x (k + 1); simp only [wtRowS]; omega)).symm) True.intro)
   ·try simp only [q1, q2, q3, q4, q5, q6, q7, q8, q9] at hb3
    have hlt : k < x.length := by omega
    have hpos := szR_pos (w := wtRow x[k]) (l := ll) hb3
    have hwk := wtk (f := wtRow) hlt
    refine sw_skip ?_
    refine sO [(0, _), (1, _), (5, _)] [] ?_
    refine sw_reg ?_
    refine rA ?_ (x := sM)
    refine rA ?_ (x := B_add)
    refine rA ?_ (x := sA)
    refine Exists.intro (k + 1, ll - wtRow x[k]) (And.intro (by exact ⟨by dsimp only; omega, by dsimp only; omega, by dsimp only; have := wtk (f := wtRow) hlt; omega⟩) (And.intro (by dsimp only; omega) (And.intro (And.intro (by exact ⟨rfl, ⟨⟩⟩) (by exact ⟨⟩)) (And.intro (by exact And.intro (by exact int_eq (szR_yes hpos)) (And.intro (by exact rfl) (True.intro))) (by exact ⟨⟩)))))
  ·try simp only [q1, q2, q3, q4, q5, q6, q7, q8, q9] at hb2
   refine sw_exit ?_
   refine sw_seq ?_
   refine sO [(0, _), (1, _), (5, _)] [] ?_
   refine sw_reg ?_
   refine rA ?_ (x := sM)
   refine rA ?_ (x := sA)
   refine sw_ret ?_
   exact (And.intro (by refine int_eq ?_; (rw [szR_yes (by have : (x.take k) = x := List.take_of_length_le (by omega); rw [this] at hw; simp only [wtRowS]; omega)]; have : (x.take k) = x := List.take_of_length_le (by omega); rw [this] at hw; simp only [wtRowS]; omega)) True.intro)
theorem sz_Query {x : Query} {l : Int}  (h0l : 0 ≤ l) (h1l : l ≤ 1048576) : SCall Try.prog 32 [(true, [PV.val (vI x.Id), PV.val (vI x.Tenant), PV.sl .v (x.Conds.map cCond), PV.sl .v (x.Out.map cInt)]), (false, [PV.val (vI l)])] (resRV [(false, [PV.val (vI (szR l (wtQuery x)))])]) := by
 refine scall_of (rs := [(false, [PV.val (vI (szR l (wtQuery x)))])]) Try.func32 rfl (Nat.le_of_ble_eq_true rfl) (borA_cons (BorL.cons (PV.bor_val _) (BorL.cons (PV.bor_val _) (BorL.cons (PV.bor_sl _) (BorL.cons (PV.bor_sl _) BorL.nil)))) (borA_cons (BorL.cons (PV.bor_val _) BorL.nil) borA_nil)) ?_
 intro h0 w0 Fz0
 refine sw_slen (s := 0) (j := 2) rfl rfl fun hl0_2 => ?_
 try rw [List.length_map] at hl0_2
 refine sw_slen (s := 0) (j := 3) rfl rfl fun hl0_3 => ?_
 try rw [List.length_map] at hl0_3
 have hw : (wtQuery x : Int) = (wtCondS x.Conds : Int) + (wtIntS x.Out : Int) := by simp [wtQuery, wtInt]
 refine sw_seq ?_
 refine sw_reg ?_
 refine RunS.step (by exact ⟨rfl, ⟨⟩⟩) (by exact ⟨⟩) (LocG.of rfl (loc_box (ag := true) (cs := [PV.val _, PV.val _, PV.sl _ _, PV.sl _ _]) (by decide) (by exact ⟨⟩))) (free1 (Free.of_ rfl)) ?_
 refine rA ?_ (x := kA)
 refine sw_seq ?_
 refine sO [(1, _), (2, _), (4, _)] [(2, (50, [PV.val _, PV.val _, PV.sl _ _, PV.sl _ _]))] ?_
 refine sw_reg ?_
 refine rA ?_ (x := lF fd_50_2)
 refine rA ?_ (x := lD [PV.sl .v _] ty_48)
 refine rA ?_ (x := sM)
 refine rA ?_ (x := cL [(false, [PV.sl _ _]), (false, [PV.val _])] [(false, [PV.sl .v _]), (false, [PV.val _])] c_79 (hs := by exact sz_CondS (by omega) (by omega)))
 refine rA ?_ (x := sA)
 refine sw_seq ?_
 refine sw_seq ?_
 refine sO [(1, _), (2, _), (4, _)] [(2, _)] ?_
 refine sw_reg ?_
 refine rA ?_ (x := sM)
 refine rA ?_ (x := B_lss)
 refine sw_cond (t := 10) rfl (fun hb1 => ?_) (fun hb1 => ?_)
 ·try simp only [q1, q2, q3, q4, q5, q6, q7, q8, q9] at hb1
  have hn0 := szR_neg (w := wtCondS x.Conds) (l := l) (by omega) hb1
  refine sw_seq ?_
  refine sO [(1, _), (2, _), (4, _)] [(2, _)] ?_
  refine sw_reg ?_
  refine rA ?_ (x := kA)
  refine sw_ret ?_
  exact (And.intro (by refine int_eq ?_; exact (szR_no (by omega)).symm) True.intro)
 ·try simp only [q1, q2, q3, q4, q5, q6, q7, q8, q9] at hb1
  have hp0 := szR_pos (w := wtCondS x.Conds) (l := l) hb1
  have he0 := szR_yes hp0
  refine sw_skip ?_
  refine sw_seq ?_
  refine sO [(1, _), (2, _), (4, _)] [(2, _)] ?_
  refine sw_reg ?_
  refine rA ?_ (x := lF fd_50_3)
  refine rA ?_ (x := lD [PV.sl .v _] ty_38)
  refine rA ?_ (x := sM)
  refine rA ?_ (x := cL [(false, [PV.sl _ _]), (false, [PV.val _])] [(false, [PV.sl .v _]), (false, [PV.val _])] c_80 (hs := by exact sz_IntS (by omega) (by omega)))
  refine rA ?_ (x := sA)
  refine sw_seq ?_
  refine sw_seq ?_
  refine sO [(1, _), (2, _), (4, _)] [(2, _)] ?_
  refine sw_reg ?_
  refine rA ?_ (x := sM)
  refine rA ?_ (x := B_lss)
  refine sw_cond (t := 16) rfl (fun hb2 => ?_) (fun hb2 => ?_)
  ·try simp only [q1, q2, q3, q4, q5, q6, q7, q8, q9] at hb2
   have hn1 := szR_neg (w := wtIntS x.Out) (l := (szR l (wtCondS x.Conds))) (by omega) hb2
   refine sw_seq ?_
   refine sO [(1, _), (2, _), (4, _)] [(2, _)] ?_
   refine sw_reg ?_
   refine rA ?_ (x := kA)
   refine sw_ret ?_
   exact (And.intro (by refine int_eq ?_; exact (szR_no (by omega)).symm) True.intro)
  ·try simp only [q1, q2, q3, q4, q5, q6, q7, q8, q9] at hb2
   have hp1 := szR_pos (w := wtIntS x.Out) (l := (szR l (wtCondS x.Conds))) hb2
   have he1 := szR_yes hp1
   refine sw_skip ?_
   refine sw_seq ?_
   refine sO [(1, _), (2, _), (4, _)] [(2, _)] ?_
   refine sw_reg ?_
   refine rA ?_ (x := sM)
   refine rA ?_ (x := sA)
   refine sw_ret ?_
   exact (And.intro (by refine int_eq ?_; (have hz := szR_yes (l := l) (n := (wtQuery x : Int)) (by omega); omega)) True.intro)
theorem sz_RowSS {p1 p2 : Fl} {x : List (List Row)} {l : Int}  (h0l : 0 ≤ l) (h1l : l ≤ 1048576) : SCall Try.prog 33 [(false, [PV.sl .v (x.map (cRowS p1 p2))]), (false, [PV.val (vI l)])] (resRV [(false, [PV.val (vI (szR l (wtRowSS x)))])]) := by
 refine scall_of (rs := [(false, [PV.val (vI (szR l (wtRowSS x)))])]) Try.func33 rfl (Nat.le_of_ble_eq_true rfl) (borA_cons (BorL.cons (PV.bor_sl _) BorL.nil) (borA_cons (BorL.cons (PV.bor_val _) BorL.nil) borA_nil)) ?_
 intro h0 w0 Fz0
 refine sw_len (s := 0) rfl fun hl0 => ?_
 try rw [List.length_map] at hl0
 refine sw_seq ?_
 refine sw_reg ?_
 refine rA ?_ (x := kA)
 refine sw_seq ?_
 refine sO [(0, _), (1, _), (4, _)] [] ?_
 refine sw_reg ?_
 refine rA ?_ (x := sM)
 refine rA ?_ (x := vM false [PV.sl .v _])
 refine rA ?_ (x := lN sl_51)
 refine rA ?_ (x := B_sub)
 refine rA ?_ (x := sA)
 refine sw_seq ?_
 refine sw_seq ?_
 refine sO [(0, _), (1, _), (4, _)] [] ?_
 refine sw_reg ?_
 refine rA ?_ (x := sM)
 refine rA ?_ (x := B_lss)
 refine sw_cond (t := 11) rfl (fun hb1 => ?_) (fun hb1 => ?_)
 ·try simp only [q1, q2, q3, q4, q5, q6, q7, q8, q9] at hb1
  refine sw_seq ?_
  refine sO [(0, _), (1, _), (4, _)] [] ?_
  refine sw_reg ?_
  refine rA ?_ (x := kA)
  refine sw_ret ?_
  exact (And.intro (by refine int_eq ?_; exact (szR_no (by simp only [wtRowSS]; omega)).symm) True.intro)
 ·try simp only [q1, q2, q3, q4, q5, q6, q7, q8, q9] at hb1
  refine sw_skip ?_
  refine sw_seq ?_
  refine sw_seq ?_
  refine sO [(0, _), (1, _), (4, _)] [] ?_
  refine sw_reg ?_
  refine rA ?_ (x := kA)
  refine sw_block ?_
  refine sO [(0, _), (1, _), (4, _), (5, _)] [] ?_
  refine sw_loop (l0 := [(0, RV.sv false [PV.sl _ _])]) (b0 := []) (fun q : Nat × Int => q.1 ≤ x.length ∧ 0 ≤ q.2 ∧ q.2 + x.length + ((x.take q.1).map wtRowS).sum = l) (fun q : Nat × Int => [(1, RV.int q.2), (5, RV.int (q.1 : Int))]) (fun q : Nat × Int => []) (fun q : Nat × Int => x.length - q.1) (0, l - x.length) (by exact ⟨by simp, by dsimp only; omega, by simp⟩) (by exact ⟨rfl, ⟨⟩⟩) (by exact ⟨⟩) (by exact And.intro (by exact rfl) (And.intro (by exact rfl) (True.intro))) (by exact ⟨⟩) ?_
  rintro ⟨k, ll⟩ ⟨hk, hll, hw⟩
  dsimp only at hk hll hw
  refine sw_seq ?_
  refine sw_seq ?_
  refine sw_reg ?_
  refine rA ?_ (x := sM)
  refine rA ?_ (x := vM false [PV.sl .v _])
  refine rA ?_ (x := lN sl_51)
  refine rA ?_ (x := B_lss)
  refine sw_cond (t := 15) rfl (fun hb2 => ?_) (fun hb2 => ?_)
  ·try simp only [q1, q2, q3, q4, q5, q6, q7, q8, q9] at hb2
   have hlt : k < x.length := by omega
   refine sw_skip ?_
   refine sw_seq ?_
   refine sw_block ?_
   refine sw_seq ?_
   refine sO [(0, _), (1, _), (5, _)] [] ?_
   refine sw_reg ?_
   refine rA ?_ (x := vM false [PV.sl .v _])
   refine rA ?_ (x := sM)
   refine rA ?_ (x := loc_index (by decide) sl_51 (by exact ⟨⟩) (by exact rfl) (by exact getm2 (by omega) rfl) (by exact rfl))
   refine rA ?_ (x := lE [PV.sl .v _] ty_30)
   refine rA ?_ (x := sM)
   refine rA ?_ (x := cL [(false, [PV.sl _ _]), (false, [PV.val _])] [(false, [PV.sl .v _]), (false, [PV.val _])] c_17 (hs := by exact sz_RowS (by omega) (by omega)))
   refine rA ?_ (x := sA)
   refine sw_seq ?_
   refine sO [(0, _), (1, _), (5, _)] [] ?_
   refine sw_reg ?_
   refine rA ?_ (x := sM)
   refine rA ?_ (x := B_lss)
   refine sw_cond (t := 25) rfl (fun hb3 => ?_) (fun hb3 => ?_)
   ·try simp only [q1, q2, q3, q4, q5, q6, q7, q8, q9] at hb3
    have hlt : k < x.length := by omega
    have hneg := szR_neg (w := wtRowS x[k]) (l := ll) (by omega) hb3
    have hwk := wtk (f := wtRowS) hlt
    refine sw_seq ?_
    refine sO [(0, _), (1, _), (5, _)] [] ?_
    refine sw_reg ?_
    refine rA ?_ (x := kA)
    refine sw_ret ?_
    exact (And.intro (by refine int_eq ?_; exact (szR_no (by have := wtk_le (f := wtRowS) x (k + 1); simp only [wtRowSS]; omega)).symm) True.intro)
   ·try simp only [q1, q2, q3, q4, q5, q6, q7, q8, q9] at hb3
    have hlt : k < x.length := by omega
    have hpos := szR_pos (w := wtRowS x[k]) (l := ll) hb3
    have hwk := wtk (f := wtRowS) hlt
    refine sw_skip ?_
    refine sO [(0, _), (1, _), (5, _)] [] ?_
    refine sw_reg ?_
    refine rA ?_ (x := sM)
    refine rA ?_ (x := B_add)
    refine rA ?_ (x := sA)
    refine Exists.intro (k + 1, ll - wtRowS x[k]) (And.intro (by exact ⟨by dsimp only; omega, by dsimp only; omega, by dsimp only; have := wtk (f := wtRowS) hlt; omega⟩) (And.intro (by dsimp only; omega) (And.intro (And.intro (by exact ⟨rfl, ⟨⟩⟩) (by exact ⟨⟩)) (And.intro (by exact And.intro (by exact int_eq (szR_yes hpos)) (And.intro (by exact rfl) (True.intro))) (by exact ⟨⟩)))))
  ·try simp only [q1, q2, q3, q4, q5, q6, q7, q8, q9] at hb2
   refine sw_exit ?_
   refine sw_seq ?_
   refine sO [(0, _), (1, _), (5, _)] [] ?_
   refine sw_reg ?_
   refine rA ?_ (x := sM)
   refine rA ?_ (x := sA)
   refine sw_ret ?_
   exact (And.intro (by refine int_eq ?_; (rw [szR_yes (by have : (x.take k) = x := List.take_of_length_le (by omega); rw [this] at hw; simp only [wtRowSS]; omega)]; have : (x.take k) = x := List.take_of_length_le (by omega); rw [this] at hw; simp only [wtRowSS]; omega)) True.intro)
theorem sz_Cluster {p3 p4 p9 p10 p13 p14 : Fl} {x : Cluster} {l : Int}  (h0l : 0 ≤ l) (h1l : l ≤ 1048576) : SCall Try.prog 45 [(true, [PV.val (vI x.Query.Id), PV.val (vI x.Query.Tenant), PV.sl .v (x.Query.Conds.map cCond), PV.sl .v (x.Query.Out.map cInt), PV.sl .v (x.Parts.map (cRowS p3 p4)), PV.sl .v (x.Up.map cBool), PV.sl .v (x.At.map cInt), PV.sl .v (x.Pos.map cInt), PV.sl .v (x.Buffer.map (cRowS p9 p10)), PV.sl .v (x.Done.map cInt), PV.sl .v (x.Rows.map (cRowS p13 p14))]), (false, [PV.val (vI l)])] (resRV [(false, [PV.val (vI (szR l (wtCluster x)))])]) := by
 refine scall_of (rs := [(false, [PV.val (vI (szR l (wtCluster x)))])]) Try.func45 rfl (Nat.le_of_ble_eq_true rfl) (borA_cons (BorL.cons (PV.bor_val _) (BorL.cons (PV.bor_val _) (BorL.cons (PV.bor_sl _) (BorL.cons (PV.bor_sl _) (BorL.cons (PV.bor_sl _) (BorL.cons (PV.bor_sl _) (BorL.cons (PV.bor_sl _) (BorL.cons (PV.bor_sl _) (BorL.cons (PV.bor_sl _) (BorL.cons (PV.bor_sl _) (BorL.cons (PV.bor_sl _) BorL.nil))))))))))) (borA_cons (BorL.cons (PV.bor_val _) BorL.nil) borA_nil)) ?_
 intro h0 w0 Fz0
 refine sw_slen (s := 0) (j := 2) rfl rfl fun hl0_2 => ?_
 try rw [List.length_map] at hl0_2
 refine sw_slen (s := 0) (j := 3) rfl rfl fun hl0_3 => ?_
 try rw [List.length_map] at hl0_3
 refine sw_slen (s := 0) (j := 4) rfl rfl fun hl0_4 => ?_
 try rw [List.length_map] at hl0_4
 refine sw_slen (s := 0) (j := 5) rfl rfl fun hl0_5 => ?_
 try rw [List.length_map] at hl0_5
 refine sw_slen (s := 0) (j := 6) rfl rfl fun hl0_6 => ?_
 try rw [List.length_map] at hl0_6
 refine sw_slen (s := 0) (j := 7) rfl rfl fun hl0_7 => ?_
 try rw [List.length_map] at hl0_7
 refine sw_slen (s := 0) (j := 8) rfl rfl fun hl0_8 => ?_
 try rw [List.length_map] at hl0_8
 refine sw_slen (s := 0) (j := 9) rfl rfl fun hl0_9 => ?_
 try rw [List.length_map] at hl0_9
 refine sw_slen (s := 0) (j := 10) rfl rfl fun hl0_10 => ?_
 try rw [List.length_map] at hl0_10
 have hw : (wtCluster x : Int) = (wtQuery x.Query : Int) + (wtRowSS x.Parts : Int) + (wtBoolS x.Up : Int) + (wtIntS x.At : Int) + (wtIntS x.Pos : Int) + (wtRowSS x.Buffer : Int) + (wtIntS x.Done : Int) + (wtRowSS x.Rows : Int) := by simp [wtCluster]
 refine sw_seq ?_
 refine sw_reg ?_
 refine RunS.step (by exact ⟨rfl, ⟨⟩⟩) (by exact ⟨⟩) (LocG.of rfl (loc_box (ag := true) (cs := [PV.val _, PV.val _, PV.sl _ _, PV.sl _ _, PV.sl _ _, PV.sl _ _, PV.sl _ _, PV.sl _ _, PV.sl _ _, PV.sl _ _, PV.sl _ _]) (by decide) (by exact ⟨⟩))) (free1 (Free.of_ rfl)) ?_
 refine rA ?_ (x := kA)
 refine sw_seq ?_
 refine sO [(1, _), (2, _), (4, _)] [(2, (73, [PV.val _, PV.val _, PV.sl _ _, PV.sl _ _, PV.sl _ _, PV.sl _ _, PV.sl _ _, PV.sl _ _, PV.sl _ _, PV.sl _ _, PV.sl _ _]))] ?_
 refine sw_reg ?_
 refine rA ?_ (x := lF fd_73_0)
 refine rA ?_ (x := lD [PV.val _, PV.val _, PV.sl .v _, PV.sl .v _] ty_50)
 refine rA ?_ (x := sM)
 refine rA ?_ (x := cL [(true, [PV.val _, PV.val _, PV.sl _ _, PV.sl _ _]), (false, [PV.val _])] [(true, [PV.val _, PV.val _, PV.sl .v _, PV.sl .v _]), (false, [PV.val _])] c_32 (hs := by exact sz_Query (by omega) (by omega)))
 refine rA ?_ (x := sA)
 refine sw_seq ?_
 refine sw_seq ?_
 refine sO [(1, _), (2, _), (4, _)] [(2, _)] ?_
 refine sw_reg ?_
 refine rA ?_ (x := sM)
 refine rA ?_ (x := B_lss)
 refine sw_cond (t := 10) rfl (fun hb1 => ?_) (fun hb1 => ?_)
 ·try simp only [q1, q2, q3, q4, q5, q6, q7, q8, q9] at hb1
  have hn0 := szR_neg (w := wtQuery x.Query) (l := l) (by omega) hb1
  refine sw_seq ?_
  refine sO [(1, _), (2, _), (4, _)] [(2, _)] ?_
  refine sw_reg ?_
  refine rA ?_ (x := kA)
  refine sw_ret ?_
  exact (And.intro (by refine int_eq ?_; exact (szR_no (by omega)).symm) True.intro)
 ·try simp only [q1, q2, q3, q4, q5, q6, q7, q8, q9] at hb1
  have hp0 := szR_pos (w := wtQuery x.Query) (l := l) hb1
  have he0 := szR_yes hp0
  refine sw_skip ?_
  refine sw_seq ?_
  refine sO [(1, _), (2, _), (4, _)] [(2, _)] ?_
  refine sw_reg ?_
  refine rA ?_ (x := lF fd_73_1)
  refine rA ?_ (x := lD [PV.sl .v _] ty_51)
  refine rA ?_ (x := sM)
  refine rA ?_ (x := cL [(false, [PV.sl _ _]), (false, [PV.val _])] [(false, [PV.sl .v _]), (false, [PV.val _])] c_33 (hs := by exact sz_RowSS (by omega) (by omega)))
  refine rA ?_ (x := sA)
  refine sw_seq ?_
  refine sw_seq ?_
  refine sO [(1, _), (2, _), (4, _)] [(2, _)] ?_
  refine sw_reg ?_
  refine rA ?_ (x := sM)
  refine rA ?_ (x := B_lss)
  refine sw_cond (t := 16) rfl (fun hb2 => ?_) (fun hb2 => ?_)
  ·try simp only [q1, q2, q3, q4, q5, q6, q7, q8, q9] at hb2
   have hn1 := szR_neg (w := wtRowSS x.Parts) (l := (szR l (wtQuery x.Query))) (by omega) hb2
   refine sw_seq ?_
   refine sO [(1, _), (2, _), (4, _)] [(2, _)] ?_
   refine sw_reg ?_
   refine rA ?_ (x := kA)
   refine sw_ret ?_
   exact (And.intro (by refine int_eq ?_; exact (szR_no (by omega)).symm) True.intro)
  ·try simp only [q1, q2, q3, q4, q5, q6, q7, q8, q9] at hb2
   have hp1 := szR_pos (w := wtRowSS x.Parts) (l := (szR l (wtQuery x.Query))) hb2
   have he1 := szR_yes hp1
   refine sw_skip ?_
   refine sw_seq ?_
   refine sO [(1, _), (2, _), (4, _)] [(2, _)] ?_
   refine sw_reg ?_
   refine rA ?_ (x := lF fd_73_2)
   refine rA ?_ (x := lD [PV.sl .v _] ty_58)
   refine rA ?_ (x := sM)
   refine rA ?_ (x := cL [(false, [PV.sl _ _]), (false, [PV.val _])] [(false, [PV.sl .v _]), (false, [PV.val _])] c_96 (hs := by exact sz_BoolS (by omega) (by omega)))
   refine rA ?_ (x := sA)
   refine sw_seq ?_
   refine sw_seq ?_
   refine sO [(1, _), (2, _), (4, _)] [(2, _)] ?_
   refine sw_reg ?_
   refine rA ?_ (x := sM)
   refine rA ?_ (x := B_lss)
   refine sw_cond (t := 22) rfl (fun hb3 => ?_) (fun hb3 => ?_)
   ·try simp only [q1, q2, q3, q4, q5, q6, q7, q8, q9] at hb3
    have hn2 := szR_neg (w := wtBoolS x.Up) (l := (szR (szR l (wtQuery x.Query)) (wtRowSS x.Parts))) (by omega) hb3
    refine sw_seq ?_
    refine sO [(1, _), (2, _), (4, _)] [(2, _)] ?_
    refine sw_reg ?_
    refine rA ?_ (x := kA)
    refine sw_ret ?_
    exact (And.intro (by refine int_eq ?_; exact (szR_no (by omega)).symm) True.intro)
   ·try simp only [q1, q2, q3, q4, q5, q6, q7, q8, q9] at hb3
    have hp2 := szR_pos (w := wtBoolS x.Up) (l := (szR (szR l (wtQuery x.Query)) (wtRowSS x.Parts))) hb3
    have he2 := szR_yes hp2
    refine sw_skip ?_
    refine sw_seq ?_
    refine sO [(1, _), (2, _), (4, _)] [(2, _)] ?_
    refine sw_reg ?_
    refine rA ?_ (x := lF fd_73_3)
    refine rA ?_ (x := lD [PV.sl .v _] ty_38)
    refine rA ?_ (x := sM)
    refine rA ?_ (x := cL [(false, [PV.sl _ _]), (false, [PV.val _])] [(false, [PV.sl .v _]), (false, [PV.val _])] c_80 (hs := by exact sz_IntS (by omega) (by omega)))
    refine rA ?_ (x := sA)
    refine sw_seq ?_
    refine sw_seq ?_
    refine sO [(1, _), (2, _), (4, _)] [(2, _)] ?_
    refine sw_reg ?_
    refine rA ?_ (x := sM)
    refine rA ?_ (x := B_lss)
    refine sw_cond (t := 28) rfl (fun hb4 => ?_) (fun hb4 => ?_)
    ·try simp only [q1, q2, q3, q4, q5, q6, q7, q8, q9] at hb4
     have hn3 := szR_neg (w := wtIntS x.At) (l := (szR (szR (szR l (wtQuery x.Query)) (wtRowSS x.Parts)) (wtBoolS x.Up))) (by omega) hb4
     refine sw_seq ?_
     refine sO [(1, _), (2, _), (4, _)] [(2, _)] ?_
     refine sw_reg ?_
     refine rA ?_ (x := kA)
     refine sw_ret ?_
     exact (And.intro (by refine int_eq ?_; exact (szR_no (by omega)).symm) True.intro)
    ·try simp only [q1, q2, q3, q4, q5, q6, q7, q8, q9] at hb4
     have hp3 := szR_pos (w := wtIntS x.At) (l := (szR (szR (szR l (wtQuery x.Query)) (wtRowSS x.Parts)) (wtBoolS x.Up))) hb4
     have he3 := szR_yes hp3
     refine sw_skip ?_
     refine sw_seq ?_
     refine sO [(1, _), (2, _), (4, _)] [(2, _)] ?_
     refine sw_reg ?_
     refine rA ?_ (x := lF fd_73_4)
     refine rA ?_ (x := lD [PV.sl .v _] ty_38)
     refine rA ?_ (x := sM)
     refine rA ?_ (x := cL [(false, [PV.sl _ _]), (false, [PV.val _])] [(false, [PV.sl .v _]), (false, [PV.val _])] c_80 (hs := by exact sz_IntS (by omega) (by omega)))
     refine rA ?_ (x := sA)
     refine sw_seq ?_
     refine sw_seq ?_
     refine sO [(1, _), (2, _), (4, _)] [(2, _)] ?_
     refine sw_reg ?_
     refine rA ?_ (x := sM)
     refine rA ?_ (x := B_lss)
     refine sw_cond (t := 34) rfl (fun hb5 => ?_) (fun hb5 => ?_)
     ·try simp only [q1, q2, q3, q4, q5, q6, q7, q8, q9] at hb5
      have hn4 := szR_neg (w := wtIntS x.Pos) (l := (szR (szR (szR (szR l (wtQuery x.Query)) (wtRowSS x.Parts)) (wtBoolS x.Up)) (wtIntS x.At))) (by omega) hb5
      refine sw_seq ?_
      refine sO [(1, _), (2, _), (4, _)] [(2, _)] ?_
      refine sw_reg ?_
      refine rA ?_ (x := kA)
      refine sw_ret ?_
      exact (And.intro (by refine int_eq ?_; exact (szR_no (by omega)).symm) True.intro)
     ·try simp only [q1, q2, q3, q4, q5, q6, q7, q8, q9] at hb5
      have hp4 := szR_pos (w := wtIntS x.Pos) (l := (szR (szR (szR (szR l (wtQuery x.Query)) (wtRowSS x.Parts)) (wtBoolS x.Up)) (wtIntS x.At))) hb5
      have he4 := szR_yes hp4
      refine sw_skip ?_
      refine sw_seq ?_
      refine sO [(1, _), (2, _), (4, _)] [(2, _)] ?_
      refine sw_reg ?_
      refine rA ?_ (x := lF fd_73_5)
      refine rA ?_ (x := lD [PV.sl .v _] ty_51)
      refine rA ?_ (x := sM)
      refine rA ?_ (x := cL [(false, [PV.sl _ _]), (false, [PV.val _])] [(false, [PV.sl .v _]), (false, [PV.val _])] c_33 (hs := by exact sz_RowSS (by omega) (by omega)))
      refine rA ?_ (x := sA)
      refine sw_seq ?_
      refine sw_seq ?_
      refine sO [(1, _), (2, _), (4, _)] [(2, _)] ?_
      refine sw_reg ?_
      refine rA ?_ (x := sM)
      refine rA ?_ (x := B_lss)
      refine sw_cond (t := 40) rfl (fun hb6 => ?_) (fun hb6 => ?_)
      ·try simp only [q1, q2, q3, q4, q5, q6, q7, q8, q9] at hb6
       have hn5 := szR_neg (w := wtRowSS x.Buffer) (l := (szR (szR (szR (szR (szR l (wtQuery x.Query)) (wtRowSS x.Parts)) (wtBoolS x.Up)) (wtIntS x.At)) (wtIntS x.Pos))) (by omega) hb6
       refine sw_seq ?_
       refine sO [(1, _), (2, _), (4, _)] [(2, _)] ?_
       refine sw_reg ?_
       refine rA ?_ (x := kA)
       refine sw_ret ?_
       exact (And.intro (by refine int_eq ?_; exact (szR_no (by omega)).symm) True.intro)
      ·try simp only [q1, q2, q3, q4, q5, q6, q7, q8, q9] at hb6
       have hp5 := szR_pos (w := wtRowSS x.Buffer) (l := (szR (szR (szR (szR (szR l (wtQuery x.Query)) (wtRowSS x.Parts)) (wtBoolS x.Up)) (wtIntS x.At)) (wtIntS x.Pos))) hb6
       have he5 := szR_yes hp5
       refine sw_skip ?_
       refine sw_seq ?_
       refine sO [(1, _), (2, _), (4, _)] [(2, _)] ?_
       refine sw_reg ?_
       refine rA ?_ (x := lF fd_73_6)
       refine rA ?_ (x := lD [PV.sl .v _] ty_38)
       refine rA ?_ (x := sM)
       refine rA ?_ (x := cL [(false, [PV.sl _ _]), (false, [PV.val _])] [(false, [PV.sl .v _]), (false, [PV.val _])] c_80 (hs := by exact sz_IntS (by omega) (by omega)))
       refine rA ?_ (x := sA)
       refine sw_seq ?_
       refine sw_seq ?_
       refine sO [(1, _), (2, _), (4, _)] [(2, _)] ?_
       refine sw_reg ?_
       refine rA ?_ (x := sM)
       refine rA ?_ (x := B_lss)
       refine sw_cond (t := 46) rfl (fun hb7 => ?_) (fun hb7 => ?_)
       ·try simp only [q1, q2, q3, q4, q5, q6, q7, q8, q9] at hb7
        have hn6 := szR_neg (w := wtIntS x.Done) (l := (szR (szR (szR (szR (szR (szR l (wtQuery x.Query)) (wtRowSS x.Parts)) (wtBoolS x.Up)) (wtIntS x.At)) (wtIntS x.Pos)) (wtRowSS x.Buffer))) (by omega) hb7
        refine sw_seq ?_
        refine sO [(1, _), (2, _), (4, _)] [(2, _)] ?_
        refine sw_reg ?_
        refine rA ?_ (x := kA)
        refine sw_ret ?_
        exact (And.intro (by refine int_eq ?_; exact (szR_no (by omega)).symm) True.intro)
       ·try simp only [q1, q2, q3, q4, q5, q6, q7, q8, q9] at hb7
        have hp6 := szR_pos (w := wtIntS x.Done) (l := (szR (szR (szR (szR (szR (szR l (wtQuery x.Query)) (wtRowSS x.Parts)) (wtBoolS x.Up)) (wtIntS x.At)) (wtIntS x.Pos)) (wtRowSS x.Buffer))) hb7
        have he6 := szR_yes hp6
        refine sw_skip ?_
        refine sw_seq ?_
        refine sO [(1, _), (2, _), (4, _)] [(2, _)] ?_
        refine sw_reg ?_
        refine rA ?_ (x := lF fd_73_7)
        refine rA ?_ (x := lD [PV.sl .v _] ty_51)
        refine rA ?_ (x := sM)
        refine rA ?_ (x := cL [(false, [PV.sl _ _]), (false, [PV.val _])] [(false, [PV.sl .v _]), (false, [PV.val _])] c_33 (hs := by exact sz_RowSS (by omega) (by omega)))
        refine rA ?_ (x := sA)
        refine sw_seq ?_
        refine sw_seq ?_
        refine sO [(1, _), (2, _), (4, _)] [(2, _)] ?_
        refine sw_reg ?_
        refine rA ?_ (x := sM)
        refine rA ?_ (x := B_lss)
        refine sw_cond (t := 52) rfl (fun hb8 => ?_) (fun hb8 => ?_)
        ·try simp only [q1, q2, q3, q4, q5, q6, q7, q8, q9] at hb8
         have hn7 := szR_neg (w := wtRowSS x.Rows) (l := (szR (szR (szR (szR (szR (szR (szR l (wtQuery x.Query)) (wtRowSS x.Parts)) (wtBoolS x.Up)) (wtIntS x.At)) (wtIntS x.Pos)) (wtRowSS x.Buffer)) (wtIntS x.Done))) (by omega) hb8
         refine sw_seq ?_
         refine sO [(1, _), (2, _), (4, _)] [(2, _)] ?_
         refine sw_reg ?_
         refine rA ?_ (x := kA)
         refine sw_ret ?_
         exact (And.intro (by refine int_eq ?_; exact (szR_no (by omega)).symm) True.intro)
        ·try simp only [q1, q2, q3, q4, q5, q6, q7, q8, q9] at hb8
         have hp7 := szR_pos (w := wtRowSS x.Rows) (l := (szR (szR (szR (szR (szR (szR (szR l (wtQuery x.Query)) (wtRowSS x.Parts)) (wtBoolS x.Up)) (wtIntS x.At)) (wtIntS x.Pos)) (wtRowSS x.Buffer)) (wtIntS x.Done))) hb8
         have he7 := szR_yes hp7
         refine sw_skip ?_
         refine sw_seq ?_
         refine sO [(1, _), (2, _), (4, _)] [(2, _)] ?_
         refine sw_reg ?_
         refine rA ?_ (x := sM)
         refine rA ?_ (x := sA)
         refine sw_ret ?_
         exact (And.intro (by refine int_eq ?_; (have hz := szR_yes (l := l) (n := (wtCluster x : Int)) (by omega); omega)) True.intro)
end Go.Proofs.Ytloipjaiceifbaa
