/- What functions of the program compute. No condition. -/
import Derived.Test.YtaomckpfgmhapaaDoorCDb
import Derived.KernelRfl
set_option linter.unusedVariables false
set_option linter.unusedSimpArgs false
namespace Go.Proofs.YtaomckpfgmhapaaDoor
open Go Go.RowKit M
set_option maxRecDepth 10000
attribute [local irreducible] PV.Lcl PV.LclR RV.Lcl
theorem wt0_IntS (x : List Int) : (wtIntS x : Int) = x.length := by
 have h : ∀ l : List Int, (l.map wtInt).sum = 0 := by
  intro l
  induction l with
  | nil => rfl
  | cons a l ih => rw [List.map_cons, List.sum_cons, ih]; rfl
 simp [wtIntS, h]
theorem sz_IntS {x : List Int} {l : Int}  (h0l : 0 ≤ l) (h1l : l ≤ 1048576) : SCall Tryd.prog 71 [(false, [PV.sl .v (x.map cInt)]), (false, [PV.val (vI l)])] (resRV [(false, [PV.val (vI (szR l (wtIntS x)))])]) := by
 refine scall_of (rs := [(false, [PV.val (vI (szR l (wtIntS x)))])]) Tryd.func71 rfl (Nat.le_of_ble_eq_true rfl) (borA_cons (BorL.cons (PV.bor_sl _) BorL.nil) (borA_cons (BorL.cons (PV.bor_val _) BorL.nil) borA_nil)) ?_
 intro h0 w0 Fz0
 refine sw_len (s := 0) rfl fun hl0 => ?_
 try rw [List.length_map] at hl0
 refine sw_seq ?_
 refine sw_reg ?_
 refine rA ?_ (x := kA)
 refine sw_seq ?_
 refine sO [(0, _), (1, _), (4, _)] [] ?_
 refine sw_reg ?_
 refine rA ?_ (x := sM)
 refine rA ?_ (x := vM false [PV.sl .v _])
 refine rA ?_ (x := lN sl_41)
 refine rA ?_ (x := B_sub)
 refine rA ?_ (x := sA)
 refine sw_seq ?_
 refine sw_seq ?_
 refine sO [(0, _), (1, _), (4, _)] [] ?_
 refine sw_reg ?_
 refine rA ?_ (x := sM)
 refine rA ?_ (x := B_lss)
 refine sw_cond (t := 10) rfl (fun hb1 => ?_) (fun hb1 => ?_)
 ·try simp only [q1, q2, q3, q4, q5, q6, q7, q8, q9] at hb1
  refine sw_seq ?_
  refine sO [(0, _), (1, _), (4, _)] [] ?_
  refine sw_reg ?_
  refine rA ?_ (x := kA)
  refine sw_ret ?_
  exact (And.intro (by refine int_eq ?_; exact (szR_no (by have := wt0_IntS x; omega)).symm) True.intro)
 ·try simp only [q1, q2, q3, q4, q5, q6, q7, q8, q9] at hb1
  refine sw_skip ?_
  refine sw_seq ?_
  refine sO [(0, _), (1, _), (4, _)] [] ?_
  refine sw_reg ?_
  refine rA ?_ (x := sM)
  refine rA ?_ (x := sA)
  refine sw_ret ?_
  exact (And.intro (by refine int_eq ?_; exact (by have := wt0_IntS x; rw [szR_yes (by omega), this])) True.intro)
theorem sz_Version {x : Version} {l : Int}  (h0l : 0 ≤ l) (h1l : l ≤ 1048576) : SCall Tryd.prog 114 [(true, [PV.val (vI x.Id), PV.sl .v (x.Values.map cInt), PV.val (vI x.Born), PV.val (vI x.Died)]), (false, [PV.val (vI l)])] (resRV [(false, [PV.val (vI (szR l (wtVersion x)))])]) := by
 refine scall_of (rs := [(false, [PV.val (vI (szR l (wtVersion x)))])]) Tryd.func114 rfl (Nat.le_of_ble_eq_true rfl) (borA_cons (BorL.cons (PV.bor_val _) (BorL.cons (PV.bor_sl _) (BorL.cons (PV.bor_val _) (BorL.cons (PV.bor_val _) BorL.nil)))) (borA_cons (BorL.cons (PV.bor_val _) BorL.nil) borA_nil)) ?_
 intro h0 w0 Fz0
 refine sw_slen (s := 0) (j := 1) rfl rfl fun hl0_1 => ?_
 try rw [List.length_map] at hl0_1
 have hw : (wtVersion x : Int) = (wtIntS x.Values : Int) := by simp [wtVersion, wtInt]
 refine sw_seq ?_
 refine sw_reg ?_
 refine RunS.step (by exact ⟨rfl, ⟨⟩⟩) (by exact ⟨⟩) (LocG.of rfl (loc_box (ag := true) (cs := [PV.val _, PV.sl _ _, PV.val _, PV.val _]) (by decide) (by exact ⟨⟩))) (free1 (Free.of_ rfl)) ?_
 refine rA ?_ (x := kA)
 refine sw_seq ?_
 refine sO [(1, _), (2, _), (4, _)] [(2, (150, [PV.val _, PV.sl _ _, PV.val _, PV.val _]))] ?_
 refine sw_reg ?_
 refine rA ?_ (x := lF fd_150_1)
 refine rA ?_ (x := lD [PV.sl .v _] ty_41)
 refine rA ?_ (x := sM)
 refine rA ?_ (x := cL [(false, [PV.sl _ _]), (false, [PV.val _])] [(false, [PV.sl .v _]), (false, [PV.val _])] c_71 (hs := by exact sz_IntS (by omega) (by omega)))
 refine rA ?_ (x := sA)
 refine sw_seq ?_
 refine sw_seq ?_
 refine sO [(1, _), (2, _), (4, _)] [(2, _)] ?_
 refine sw_reg ?_
 refine rA ?_ (x := sM)
 refine rA ?_ (x := B_lss)
 refine sw_cond (t := 10) rfl (fun hb1 => ?_) (fun hb1 => ?_)
 ·try simp only [q1, q2, q3, q4, q5, q6, q7, q8, q9] at hb1
  have hn0 := szR_neg (w := wtIntS x.Values) (l := l) (by omega) hb1
  refine sw_seq ?_
  refine sO [(1, _), (2, _), (4, _)] [(2, _)] ?_
  refine sw_reg ?_
  refine rA ?_ (x := kA)
  refine sw_ret ?_
  exact (And.intro (by refine int_eq ?_; exact (szR_no (by omega)).symm) True.intro)
 ·try simp only [q1, q2, q3, q4, q5, q6, q7, q8, q9] at hb1
  have hp0 := szR_pos (w := wtIntS x.Values) (l := l) hb1
  have he0 := szR_yes hp0
  refine sw_skip ?_
  refine sw_seq ?_
  refine sO [(1, _), (2, _), (4, _)] [(2, _)] ?_
  refine sw_reg ?_
  refine rA ?_ (x := sM)
  refine rA ?_ (x := sA)
  refine sw_ret ?_
  exact (And.intro (by refine int_eq ?_; (have hz := szR_yes (l := l) (n := (wtVersion x : Int)) (by omega); omega)) True.intro)
theorem sz_VersionS {p1 : Fl} {x : List Version} {l : Int}  (h0l : 0 ≤ l) (h1l : l ≤ 1048576) : SCall Tryd.prog 82 [(false, [PV.sl .v (x.map (cVersion p1))]), (false, [PV.val (vI l)])] (resRV [(false, [PV.val (vI (szR l (wtVersionS x)))])]) := by
 refine scall_of (rs := [(false, [PV.val (vI (szR l (wtVersionS x)))])]) Tryd.func82 rfl (Nat.le_of_ble_eq_true rfl) (borA_cons (BorL.cons (PV.bor_sl _) BorL.nil) (borA_cons (BorL.cons (PV.bor_val _) BorL.nil) borA_nil)) ?_
 intro h0 w0 Fz0
 refine sw_len (s := 0) rfl fun hl0 => ?_
 try rw [List.length_map] at hl0
 refine sw_seq ?_
 refine sw_reg ?_
 refine rA ?_ (x := kA)
 refine sw_seq ?_
 refine sO [(0, _), (1, _), (4, _)] [] ?_
 refine sw_reg ?_
 refine rA ?_ (x := sM)
 refine rA ?_ (x := vM false [PV.sl .v _])
 refine rA ?_ (x := lN sl_128)
 refine rA ?_ (x := B_sub)
 refine rA ?_ (x := sA)
 refine sw_seq ?_
 refine sw_seq ?_
 refine sO [(0, _), (1, _), (4, _)] [] ?_
 refine sw_reg ?_
 refine rA ?_ (x := sM)
 refine rA ?_ (x := B_lss)
 refine sw_cond (t := 11) rfl (fun hb1 => ?_) (fun hb1 => ?_)
 ·try simp only [q1, q2, q3, q4, q5, q6, q7, q8, q9] at hb1
  refine sw_seq ?_
  refine sO [(0, _), (1, _), (4, _)] [] ?_
  refine sw_reg ?_
  refine rA ?_ (x := kA)
  refine sw_ret ?_
  exact (And.intro (by refine int_eq ?_; exact (szR_no (by simp only [wtVersionS]; omega)).symm) True.intro)
 ·try simp only [q1, q2, q3, q4, q5, q6, q7, q8, q9] at hb1
  refine sw_skip ?_
  refine sw_seq ?_
  refine sw_seq ?_
  refine sO [(0, _), (1, _), (4, _)] [] ?_
  refine sw_reg ?_
  refine rA ?_ (x := kA)
  refine sw_block ?_
  refine sO [(0, _), (1, _), (4, _), (5, _)] [] ?_
  refine sw_loop (l0 := [(0, RV.sv false [PV.sl _ _])]) (b0 := []) (fun q : Nat × Int => q.1 ≤ x.length ∧ 0 ≤ q.2 ∧ q.2 + x.length + ((x.take q.1).map wtVersion).sum = l) (fun q : Nat × Int => [(1, RV.int q.2), (5, RV.int (q.1 : Int))]) (fun q : Nat × Int => []) (fun q : Nat × Int => x.length - q.1) (0, l - x.length) (by exact ⟨by simp, by dsimp only; omega, by simp⟩) (by exact ⟨rfl, ⟨⟩⟩) (by exact ⟨⟩) (by exact And.intro (by exact rfl) (And.intro (by exact rfl) (True.intro))) (by exact ⟨⟩) ?_
  rintro ⟨k, ll⟩ ⟨hk, hll, hw⟩
  dsimp only at hk hll hw
  refine sw_seq ?_
  refine sw_seq ?_
  refine sw_reg ?_
  refine rA ?_ (x := sM)
  refine rA ?_ (x := vM false [PV.sl .v _])
  refine rA ?_ (x := lN sl_128)
  refine rA ?_ (x := B_lss)
  refine sw_cond (t := 15) rfl (fun hb2 => ?_) (fun hb2 => ?_)
  ·try simp only [q1, q2, q3, q4, q5, q6, q7, q8, q9] at hb2
   have hlt : k < x.length := by omega
   refine sw_skip ?_
   refine sw_seq ?_
   refine sw_block ?_
   refine sw_seq ?_
   refine sO [(0, _), (1, _), (5, _)] [] ?_
   refine sw_reg ?_
   refine rA ?_ (x := vM false [PV.sl .v _])
   refine rA ?_ (x := sM)
   refine rA ?_ (x := loc_index (by decide) sl_128 (by exact ⟨⟩) (by exact rfl) (by exact getm2 (by omega) rfl) (by exact rfl))
   refine rA ?_ (x := lE [PV.val _, PV.sl .v _, PV.val _, PV.val _] ty_150)
   refine rA ?_ (x := sM)
   refine rA ?_ (x := cL [(true, [PV.val _, PV.sl _ _, PV.val _, PV.val _]), (false, [PV.val _])] [(true, [PV.val _, PV.sl .v _, PV.val _, PV.val _]), (false, [PV.val _])] c_114 (hs := by exact sz_Version (by omega) (by omega)))
   refine rA ?_ (x := sA)
   refine sw_seq ?_
   refine sO [(0, _), (1, _), (5, _)] [] ?_
   refine sw_reg ?_
   refine rA ?_ (x := sM)
   refine rA ?_ (x := B_lss)
   refine sw_cond (t := 25) rfl (fun hb3 => ?_) (fun hb3 => ?_)
   ·try simp only [q1, q2, q3, q4, q5, q6, q7, q8, q9] at hb3
    have hlt : k < x.length := by omega
    have hneg := szR_neg (w := wtVersion x[k]) (l := ll) (by omega) hb3
    have hwk := wtk (f := wtVersion) hlt
    refine sw_seq ?_
    refine sO [(0, _), (1, _), (5, _)] [] ?_
    refine sw_reg ?_
    refine rA ?_ (x := kA)
    refine sw_ret ?_
    exact (And.intro (by refine int_eq ?_; exact (szR_no (by have := wtk_le (f := wtVersion) x (k + 1); simp only [wtVersionS]; omega)).symm) True.intro)
   ·try simp only [q1, q2, q3, q4, q5, q6, q7, q8, q9] at hb3
    have hlt : k < x.length := by omega
    have hpos := szR_pos (w := wtVersion x[k]) (l := ll) hb3
    have hwk := wtk (f := wtVersion) hlt
    refine sw_skip ?_
    refine sO [(0, _), (1, _), (5, _)] [] ?_
    refine sw_reg ?_
    refine rA ?_ (x := sM)
    refine rA ?_ (x := B_add)
    refine rA ?_ (x := sA)
    refine Exists.intro (k + 1, ll - wtVersion x[k]) (And.intro (by exact ⟨by dsimp only; omega, by dsimp only; omega, by dsimp only; have := wtk (f := wtVersion) hlt; omega⟩) (And.intro (by dsimp only; omega) (And.intro (And.intro (by exact ⟨rfl, ⟨⟩⟩) (by exact ⟨⟩)) (And.intro (by exact And.intro (by exact int_eq (szR_yes hpos)) (And.intro (by exact rfl) (True.intro))) (by exact ⟨⟩)))))
  ·try simp only [q1, q2, q3, q4, q5, q6, q7, q8, q9] at hb2
   refine sw_exit ?_
   refine sw_seq ?_
   refine sO [(0, _), (1, _), (5, _)] [] ?_
   refine sw_reg ?_
   refine rA ?_ (x := sM)
   refine rA ?_ (x := sA)
   refine sw_ret ?_
   exact (And.intro (by refine int_eq ?_; (rw [szR_yes (by have : (x.take k) = x := List.take_of_length_le (by omega); rw [this] at hw; simp only [wtVersionS]; omega)]; have : (x.take k) = x := List.take_of_length_le (by omega); rw [this] at hw; simp only [wtVersionS]; omega)) True.intro)
theorem sz_VersionSS {p1 p2 : Fl} {x : List (List Version)} {l : Int}  (h0l : 0 ≤ l) (h1l : l ≤ 1048576) : SCall Tryd.prog 37 [(false, [PV.sl .v (x.map (cVersionS p1 p2))]), (false, [PV.val (vI l)])] (resRV [(false, [PV.val (vI (szR l (wtVersionSS x)))])]) := by
 refine scall_of (rs := [(false, [PV.val (vI (szR l (wtVersionSS x)))])]) Tryd.func37 rfl (Nat.le_of_ble_eq_true rfl) (borA_cons (BorL.cons (PV.bor_sl _) BorL.nil) (borA_cons (BorL.cons (PV.bor_val _) BorL.nil) borA_nil)) ?_
 intro h0 w0 Fz0
 refine sw_len (s := 0) rfl fun hl0 => ?_
 try rw [List.length_map] at hl0
 refine sw_seq ?_
 refine sw_reg ?_
 refine rA ?_ (x := kA)
 refine sw_seq ?_
 refine sO [(0, _), (1, _), (4, _)] [] ?_
 refine sw_reg ?_
 refine rA ?_ (x := sM)
 refine rA ?_ (x := vM false [PV.sl .v _])
 refine rA ?_ (x := lN sl_29)
 refine rA ?_ (x := B_sub)
 refine rA ?_ (x := sA)
 refine sw_seq ?_
 refine sw_seq ?_
 refine sO [(0, _), (1, _), (4, _)] [] ?_
 refine sw_reg ?_
 refine rA ?_ (x := sM)
 refine rA ?_ (x := B_lss)
 refine sw_cond (t := 11) rfl (fun hb1 => ?_) (fun hb1 => ?_)
 ·try simp only [q1, q2, q3, q4, q5, q6, q7, q8, q9] at hb1
  refine sw_seq ?_
  refine sO [(0, _), (1, _), (4, _)] [] ?_
  refine sw_reg ?_
  refine rA ?_ (x := kA)
  refine sw_ret ?_
  exact (And.intro (by refine int_eq ?_; exact (szR_no (by simp only [wtVersionSS]; omega)).symm) True.intro)
 ·try simp only [q1, q2, q3, q4, q5, q6, q7, q8, q9] at hb1
  refine sw_skip ?_
  refine sw_seq ?_
  refine sw_seq ?_
  refine sO [(0, _), (1, _), (4, _)] [] ?_
  refine sw_reg ?_
  refine rA ?_ (x := kA)
  refine sw_block ?_
  refine sO [(0, _), (1, _), (4, _), (5, _)] [] ?_
  refine sw_loop (l0 := [(0, RV.sv false [PV.sl _ _])]) (b0 := []) (fun q : Nat × Int => q.1 ≤ x.length ∧ 0 ≤ q.2 ∧ q.2 + x.length + ((x.take q.1).map wtVersionS).sum = l) (fun q : Nat × Int => [(1, RV.int q.2), (5, RV.int (q.1 : Int))]) (fun q : Nat × Int => []) (fun q : Nat × Int => x.length - q.1) (0, l - x.length) (by exact ⟨by simp, by dsimp only; omega, by simp⟩) (by exact ⟨rfl, ⟨⟩⟩) (by exact ⟨⟩) (by exact And.intro (by exact rfl) (And.intro (by exact rfl) (True.intro))) (by exact ⟨⟩) ?_
  rintro ⟨k, ll⟩ ⟨hk, hll, hw⟩
  dsimp only at hk hll hw
  refine sw_seq ?_
  refine sw_seq ?_
  refine sw_reg ?_
  refine rA ?_ (x := sM)
  refine rA ?_ (x := vM false [PV.sl .v _])
  refine rA ?_ (x := lN sl_29)
  refine rA ?_ (x := B_lss)
  refine sw_cond (t := 15) rfl (fun hb2 => ?_) (fun hb2 => ?_)
  ·try simp only [q1, q2, q3, q4, q5, q6, q7, q8, q9] at hb2
   have hlt : k < x.length := by omega
   refine sw_skip ?_
   refine sw_seq ?_
   refine sw_block ?_
   refine sw_seq ?_
   refine sO [(0, _), (1, _), (5, _)] [] ?_
   refine sw_reg ?_
   refine rA ?_ (x := vM false [PV.sl .v _])
   refine rA ?_ (x := sM)
   refine rA ?_ (x := loc_index (by decide) sl_29 (by exact ⟨⟩) (by exact rfl) (by exact getm2 (by omega) rfl) (by exact rfl))
   refine rA ?_ (x := lE [PV.sl .v _] ty_128)
   refine rA ?_ (x := sM)
   refine rA ?_ (x := cL [(false, [PV.sl _ _]), (false, [PV.val _])] [(false, [PV.sl .v _]), (false, [PV.val _])] c_82 (hs := by exact sz_VersionS (by omega) (by omega)))
   refine rA ?_ (x := sA)
   refine sw_seq ?_
   refine sO [(0, _), (1, _), (5, _)] [] ?_
   refine sw_reg ?_
   refine rA ?_ (x := sM)
   refine rA ?_ (x := B_lss)
   refine sw_cond (t := 25) rfl (fun hb3 => ?_) (fun hb3 => ?_)
   ·try simp only [q1, q2, q3, q4, q5, q6, q7, q8, q9] at hb3
    have hlt : k < x.length := by omega
    have hneg := szR_neg (w := wtVersionS x[k]) (l := ll) (by omega) hb3
    have hwk := wtk (f := wtVersionS) hlt
    refine sw_seq ?_
    refine sO [(0, _), (1, _), (5, _)] [] ?_
    refine sw_reg ?_
    refine rA ?_ (x := kA)
    refine sw_ret ?_
    exact (And.intro (by refine int_eq ?_; exact (szR_no (by have := wtk_le (f := wtVersionS) x (k + 1); simp only [wtVersionSS]; omega)).symm) True.intro)
   ·try simp only [q1, q2, q3, q4, q5, q6, q7, q8, q9] at hb3
    have hlt : k < x.length := by omega
    have hpos := szR_pos (w := wtVersionS x[k]) (l := ll) hb3
    have hwk := wtk (f := wtVersionS) hlt
    refine sw_skip ?_
    refine sO [(0, _), (1, _), (5, _)] [] ?_
    refine sw_reg ?_
    refine rA ?_ (x := sM)
    refine rA ?_ (x := B_add)
    refine rA ?_ (x := sA)
    refine Exists.intro (k + 1, ll - wtVersionS x[k]) (And.intro (by exact ⟨by dsimp only; omega, by dsimp only; omega, by dsimp only; have := wtk (f := wtVersionS) hlt; omega⟩) (And.intro (by dsimp only; omega) (And.intro (And.intro (by exact ⟨rfl, ⟨⟩⟩) (by exact ⟨⟩)) (And.intro (by exact And.intro (by exact int_eq (szR_yes hpos)) (And.intro (by exact rfl) (True.intro))) (by exact ⟨⟩)))))
  ·try simp only [q1, q2, q3, q4, q5, q6, q7, q8, q9] at hb2
   refine sw_exit ?_
   refine sw_seq ?_
   refine sO [(0, _), (1, _), (5, _)] [] ?_
   refine sw_reg ?_
   refine rA ?_ (x := sM)
   refine rA ?_ (x := sA)
   refine sw_ret ?_
   exact (And.intro (by refine int_eq ?_; (rw [szR_yes (by have : (x.take k) = x := List.take_of_length_le (by omega); rw [this] at hw; simp only [wtVersionSS]; omega)]; have : (x.take k) = x := List.take_of_length_le (by omega); rw [this] at hw; simp only [wtVersionSS]; omega)) True.intro)
theorem sz_Store {p1 p2 : Fl} {x : Store} {l : Int}  (h0l : 0 ≤ l) (h1l : l ≤ 1048576) : SCall Tryd.prog 12 [(true, [PV.sl .v (x.Segments.map (cVersionS p1 p2)), PV.val (vI x.Now)]), (false, [PV.val (vI l)])] (resRV [(false, [PV.val (vI (szR l (wtStore x)))])]) := by
 refine scall_of (rs := [(false, [PV.val (vI (szR l (wtStore x)))])]) Tryd.func12 rfl (Nat.le_of_ble_eq_true rfl) (borA_cons (BorL.cons (PV.bor_sl _) (BorL.cons (PV.bor_val _) BorL.nil)) (borA_cons (BorL.cons (PV.bor_val _) BorL.nil) borA_nil)) ?_
 intro h0 w0 Fz0
 refine sw_slen (s := 0) (j := 0) rfl rfl fun hl0_0 => ?_
 try rw [List.length_map] at hl0_0
 have hw : (wtStore x : Int) = (wtVersionSS x.Segments : Int) := by simp [wtStore, wtInt]
 refine sw_seq ?_
 refine sw_reg ?_
 refine RunS.step (by exact ⟨rfl, ⟨⟩⟩) (by exact ⟨⟩) (LocG.of rfl (loc_box (ag := true) (cs := [PV.sl _ _, PV.val _]) (by decide) (by exact ⟨⟩))) (free1 (Free.of_ rfl)) ?_
 refine rA ?_ (x := kA)
 refine sw_seq ?_
 refine sO [(1, _), (2, _), (4, _)] [(2, (31, [PV.sl _ _, PV.val _]))] ?_
 refine sw_reg ?_
 refine rA ?_ (x := lF fd_31_0)
 refine rA ?_ (x := lD [PV.sl .v _] ty_29)
 refine rA ?_ (x := sM)
 refine rA ?_ (x := cL [(false, [PV.sl _ _]), (false, [PV.val _])] [(false, [PV.sl .v _]), (false, [PV.val _])] c_37 (hs := by exact sz_VersionSS (by omega) (by omega)))
 refine rA ?_ (x := sA)
 refine sw_seq ?_
 refine sw_seq ?_
 refine sO [(1, _), (2, _), (4, _)] [(2, _)] ?_
 refine sw_reg ?_
 refine rA ?_ (x := sM)
 refine rA ?_ (x := B_lss)
 refine sw_cond (t := 10) rfl (fun hb1 => ?_) (fun hb1 => ?_)
 ·try simp only [q1, q2, q3, q4, q5, q6, q7, q8, q9] at hb1
  have hn0 := szR_neg (w := wtVersionSS x.Segments) (l := l) (by omega) hb1
  refine sw_seq ?_
  refine sO [(1, _), (2, _), (4, _)] [(2, _)] ?_
  refine sw_reg ?_
  refine rA ?_ (x := kA)
  refine sw_ret ?_
  exact (And.intro (by refine int_eq ?_; exact (szR_no (by omega)).symm) True.intro)
 ·try simp only [q1, q2, q3, q4, q5, q6, q7, q8, q9] at hb1
  have hp0 := szR_pos (w := wtVersionSS x.Segments) (l := l) hb1
  have he0 := szR_yes hp0
  refine sw_skip ?_
  refine sw_seq ?_
  refine sO [(1, _), (2, _), (4, _)] [(2, _)] ?_
  refine sw_reg ?_
  refine rA ?_ (x := sM)
  refine rA ?_ (x := sA)
  refine sw_ret ?_
  exact (And.intro (by refine int_eq ?_; (have hz := szR_yes (l := l) (n := (wtStore x : Int)) (by omega); omega)) True.intro)
end Go.Proofs.YtaomckpfgmhapaaDoor
