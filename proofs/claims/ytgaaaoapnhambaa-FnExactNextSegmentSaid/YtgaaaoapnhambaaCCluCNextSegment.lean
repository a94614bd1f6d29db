/- What functions of the program compute. No condition. -/
import Derived.Test.YtgaaaoapnhambaaCCluBNextSegment
set_option linter.unusedVariables false
set_option linter.unusedSimpArgs false
namespace Go.Proofs.Ytgaaaoapnhambaa
open Go Go.RowKit M
set_option maxRecDepth 10000
theorem spec_l18Found {p3 p4 p9 p10 p13 p14 : Fl} {c : Cluster} {s : Int} {n : Int}  (hs : 0 ≤ s ∧ s.toNat < c.Parts.length) (hb : wtRowSS c.Parts ≤ 68719476736) : SCall Try.prog 129 [(true, [PV.val (vI c.Query.Id), PV.val (vI c.Query.Tenant), PV.sl .v (c.Query.Conds.map cCond), PV.sl .v (c.Query.Out.map cInt), PV.sl .v (c.Parts.map (cRowS p3 p4)), PV.sl .v (c.Up.map cBool), PV.sl .v (c.At.map cInt), PV.sl .v (c.Pos.map cInt), PV.sl .v (c.Buffer.map (cRowS p9 p10)), PV.sl .v (c.Done.map cInt), PV.sl .v (c.Rows.map (cRowS p13 p14))]), (false, [PV.val (vI s)]), (false, [PV.val (vI n)])] (resRV [(false, [PV.sl (.own 77 2) ((found c.Query ((partAt c s).take n.toNat)).map (cRow (.own 3 1)))])]) := by
  refine scall_of (rs := [(false, [PV.sl (.own 77 2) ((found c.Query ((partAt c s).take n.toNat)).map (cRow (.own 3 1)))])]) Try.func129 rfl (Nat.le_of_ble_eq_true rfl) (borA_cons (BorL.cons (PV.bor_val _) (BorL.cons (PV.bor_val _) (BorL.cons (PV.bor_sl _) (BorL.cons (PV.bor_sl _) (BorL.cons (PV.bor_sl _) (BorL.cons (PV.bor_sl _) (BorL.cons (PV.bor_sl _) (BorL.cons (PV.bor_sl _) (BorL.cons (PV.bor_sl _) (BorL.cons (PV.bor_sl _) (BorL.cons (PV.bor_sl _) BorL.nil))))))))))) (borA_cons (BorL.cons (PV.bor_val _) BorL.nil) (borA_cons (BorL.cons (PV.bor_val _) BorL.nil) borA_nil))) ?_
  intro h0 w0 Fz0
  refine sw_slen (s := 0) (j := 2) rfl rfl fun hl0_2 => ?_
  try rw [List.length_map] at hl0_2
  refine sw_slen (s := 0) (j := 3) rfl rfl fun hl0_3 => ?_
  try rw [List.length_map] at hl0_3
  refine sw_slen (s := 0) (j := 4) rfl rfl fun hl0_4 => ?_
  try rw [List.length_map] at hl0_4
  refine sw_slen (s := 0) (j := 5) rfl rfl fun hl0_5 => ?_
  try rw [List.length_map] at hl0_5
  refine sw_slen (s := 0) (j := 6) rfl rfl fun hl0_6 => ?_
  try rw [List.length_map] at hl0_6
  refine sw_slen (s := 0) (j := 7) rfl rfl fun hl0_7 => ?_
  try rw [List.length_map] at hl0_7
  refine sw_slen (s := 0) (j := 8) rfl rfl fun hl0_8 => ?_
  try rw [List.length_map] at hl0_8
  refine sw_slen (s := 0) (j := 9) rfl rfl fun hl0_9 => ?_
  try rw [List.length_map] at hl0_9
  refine sw_slen (s := 0) (j := 10) rfl rfl fun hl0_10 => ?_
  try rw [List.length_map] at hl0_10
  have hbu := part_wt (s := s) hb
  have hbu2 := hbu
  simp only [wtRowS] at hbu2
  refine sw_seq ?_
  refine sw_reg ?_
  refine RunS.step (by exact ⟨rfl, ⟨⟩⟩) (by exact ⟨⟩) (LocG.of rfl (loc_box (ag := true) (cs := [PV.val _, PV.val _, PV.sl _ _, PV.sl _ _, PV.sl _ _, PV.sl _ _, PV.sl _ _, PV.sl _ _, PV.sl _ _, PV.sl _ _, PV.sl _ _]) (by decide) (by exact ⟨⟩))) (free1 (Free.of_ rfl)) ?_
  refine RunS.s1 (x := loc_const (.inr rfl) (by decide) (ok_nil (t := 77) (e := 2))) (y := ?_)
  refine sw_seq ?_
  refine sw_of (l := [(1, RV.sv false [PV.val _]), (2, RV.sv false [PV.val _]), (3, RV.ptr 3 0), (6, RV.sv false [PV.sl _ _])]) (b := [(3, (37, [PV.val _, PV.val _, PV.sl _ _, PV.sl _ _, PV.sl _ _, PV.sl _ _, PV.sl _ _, PV.sl _ _, PV.sl _ _, PV.sl _ _, PV.sl _ _]))]) (by exact ⟨rfl, rfl, rfl, rfl, ⟨⟩⟩) (by exact ⟨rfl, ⟨⟩⟩) ?_
  refine sw_reg ?_
  refine RunS.s1 (x := loc_bslice (qs := []) (by decide) sl_53 z_77 (by decide) rfl rfl rfl rfl rfl (by exact Nat.le_of_ble_eq_true rfl) (by exact ⟨⟩) rfl) (y := ?_)
  refine RunS.s1 (x := loc_take (.inr rfl) (by decide)) (y := ?_)
  refine sw_seq ?_
  refine sw_seq ?_
  refine sw_of (l := [(1, RV.sv false [PV.val _]), (2, RV.sv false [PV.val _]), (3, RV.ptr 3 0), (6, RV.sv false [PV.sl _ _]), (7, RV.sv false [PV.sl _ _])]) (b := [(3, (37, [PV.val _, PV.val _, PV.sl _ _, PV.sl _ _, PV.sl _ _, PV.sl _ _, PV.sl _ _, PV.sl _ _, PV.sl _ _, PV.sl _ _, PV.sl _ _]))]) (by exact ⟨rfl, rfl, rfl, rfl, rfl, ⟨⟩⟩) (by exact ⟨rfl, ⟨⟩⟩) ?_
  refine sw_reg ?_
  refine RunS.s1 (x := loc_const (.inr rfl) (by decide) (ok_sc rfl)) (y := ?_)
  refine sw_block ?_
  refine sw_of (l := [(1, RV.sv false [PV.val _]), (2, RV.sv false [PV.val _]), (3, RV.ptr 3 0), (6, RV.sv false [PV.sl _ _]), (7, RV.sv false [PV.sl _ _]), (8, RV.sv false [PV.val _])]) (b := [(3, (37, [PV.val _, PV.val _, PV.sl _ _, PV.sl _ _, PV.sl _ _, PV.sl _ _, PV.sl _ _, PV.sl _ _, PV.sl _ _, PV.sl _ _, PV.sl _ _]))]) (by exact ⟨rfl, rfl, rfl, rfl, rfl, rfl, ⟨⟩⟩) (by exact ⟨rfl, ⟨⟩⟩) ?_
  refine sw_loop (l0 := [(1, RV.sv false [PV.val _]), (2, RV.sv false [PV.val _]), (3, RV.ptr 3 0), (6, RV.sv false [PV.sl _ _])]) (b0 := [(3, (37, [PV.val _, PV.val _, PV.sl _ _, PV.sl _ _, PV.sl _ _, PV.sl _ _, PV.sl _ _, PV.sl _ _, PV.sl _ _, PV.sl _ _, PV.sl _ _]))]) (fun k : Nat => k ≤ (partAt c s).length ∧ (k = 0 ∨ (k : Int) ≤ n)) (fun k : Nat => [(7, RV.slc (.own 77 2) ((found c.Query ((partAt c s).take k)).map (cRow (.own 3 1)))), (8, RV.int (k : Int))]) (fun k : Nat => []) (fun k : Nat => (partAt c s).length - k) 0 (by exact ⟨by omega, .inl rfl⟩) (by exact ⟨rfl, rfl, rfl, rfl, ⟨⟩⟩) (by exact ⟨rfl, ⟨⟩⟩) (by exact And.intro (by first | exact rfl | simp) (And.intro (by exact rfl) (True.intro))) (by exact ⟨⟩) ?_
  rintro k ⟨hk, ha⟩
  refine sw_seq ?_
  refine sw_seq ?_
  refine sw_reg ?_
  refine RunS.s1 (x := loc_copy (.inl rfl) (by decide) (by exact Cp.sc)) (y := ?_)
  refine RunS.s1 (x := loc_copy (.inl rfl) (by decide) (by exact Cp.sc)) (y := ?_)
  refine RunS.s1 (x := loc_lss (by decide) (by exact ⟨⟩) (by exact ⟨⟩)) (y := ?_)
  refine RunS.s1 (x := loc_copy (.inl rfl) (by decide) (by exact Cp.sc)) (y := ?_)
  refine RunS.cases (s := 13) rfl (fun g1 => ?_) (fun g1 => ?_)
  · have sg1 := g1
    try simp only [q1, q2, q3, q4, q5, q6, q7, q8, q9] at sg1
    refine RunS.s2 (hb := g1) (x := loc_copy (.inl rfl) (by decide) (by exact Cp.sc)) (y := ?_)
    refine RunS.s2 (hb := g1) (x := loc_field (by decide) fd_37_1) (y := ?_)
    refine RunS.s2 (hb := g1) (x := loc_load (qs := [PV.sl .v _]) (by decide) ty_35 (fun _ => rfl) (by exact Nat.le_of_ble_eq_true rfl) (by exact (ToL.cons PV.to_none ToL.nil)) (by exact (BorL.cons (PV.bor_sl _) BorL.nil))) (y := ?_)
    refine RunS.s2 (hb := g1) (x := loc_copy (.inl rfl) (by decide) (by exact Cp.sc)) (y := ?_)
    refine RunS.s2 (hb := g1) (x := loc_index (k := s.toNat) (by decide) sl_35 (by exact ⟨⟩) (by omega) (by exact getm2 hs.2 (by rw [partAt_eq hs.2])) (by exact rfl)) (y := ?_)
    refine RunS.s2 (hb := g1) (x := loc_eload (qs := [PV.sl .v _]) (by decide) ty_53 (fun _ => rfl) (by exact Nat.le_of_ble_eq_true rfl) (by exact (ToL.cons PV.to_none ToL.nil)) (by exact (BorL.cons (PV.bor_sl _) BorL.nil))) (y := ?_)
    refine RunS.s2 (hb := g1) (x := loc_len (by decide) sl_53 (by first | exact List.length_map _ | exact rfl)) (y := ?_)
    refine RunS.s2 (hb := g1) (x := loc_lss (by decide) (by exact ⟨⟩) (by exact ⟨⟩)) (y := ?_)
    refine RunS.s1 (x := loc_pick (z := .tmp 21) (by decide) (by rw [g1]; rfl) (by exact ⟨⟩) (by exact ⟨⟩) (by exact Cp.sc)) (y := ?_)
    refine sw_cond (t := 22) rfl (fun hb2 => ?_) (fun hb2 => ?_)
    · try simp only [q1, q2, q3, q4, q5, q6, q7, q8, q9] at hb2
      have hlt : k < (partAt c s).length := by first | omega | (simp_all; done) | (simp_all; omega)
      have hln : (k : Int) < n := by first | omega | (simp_all; done) | (simp_all; omega)
      have hwm := wt_mem (f := wtRow) hlt
      have hfl := found_le (q := c.Query) (l := (partAt c s)) (k := k)
      refine sw_skip ?_
      refine sw_seq ?_
      refine sw_block ?_
      refine sw_seq ?_
      refine sw_of (l := [(1, RV.sv false [PV.val _]), (2, RV.sv false [PV.val _]), (3, RV.ptr 3 0), (6, RV.sv false [PV.sl _ _]), (7, RV.sv false [PV.sl _ _]), (8, RV.sv false [PV.val _])]) (b := [(3, (37, [PV.val _, PV.val _, PV.sl _ _, PV.sl _ _, PV.sl _ _, PV.sl _ _, PV.sl _ _, PV.sl _ _, PV.sl _ _, PV.sl _ _, PV.sl _ _]))]) (by exact ⟨rfl, rfl, rfl, rfl, rfl, rfl, ⟨⟩⟩) (by exact ⟨rfl, ⟨⟩⟩) ?_
      refine sw_draw hm_ ?_
      refine Run.step 0 (by exact ⟨rfl, ⟨⟩⟩) (by exact ⟨⟩) (LocG.of rfl (loc_field (by decide) fd_37_0)) nofree (by kernel_rfl) ?_
      refine Run.step 1 (by exact ⟨rfl, ⟨⟩⟩) (by exact ⟨rfl, ⟨⟩⟩) (LocG.of rfl (loc_load (qs := [PV.val _, PV.val _, PV.sl .v _, PV.sl .v _]) (by decide) ty_34 (fun h => nomatch h) (by exact Nat.le_of_ble_eq_true rfl) (by exact (ToL.cons (PV.To.refl _) (ToL.cons (PV.To.refl _) (ToL.cons PV.to_none (ToL.cons PV.to_none ToL.nil))))) (by exact (BorL.cons (PV.bor_val _) (BorL.cons (PV.bor_val _) (BorL.cons (PV.bor_sl _) (BorL.cons (PV.bor_sl _) BorL.nil))))))) nofree (by kernel_rfl) ?_
      refine Run.step 0 (by exact ⟨rfl, ⟨⟩⟩) (by exact ⟨⟩) (LocG.of rfl (loc_field (by decide) fd_37_1)) nofree (by kernel_rfl) ?_
      refine Run.step 4 (by exact ⟨rfl, ⟨⟩⟩) (by exact ⟨rfl, ⟨⟩⟩) (LocG.of rfl (loc_load (qs := [PV.sl .v _]) (by decide) ty_35 (fun _ => rfl) (by exact Nat.le_of_ble_eq_true rfl) (by exact (ToL.cons PV.to_none ToL.nil)) (by exact (BorL.cons (PV.bor_sl _) BorL.nil)))) nofree (by kernel_rfl) ?_
      refine Run.step 0 (by exact ⟨rfl, ⟨⟩⟩) (by exact ⟨⟩) (LocG.of rfl (loc_copy (.inl rfl) (by decide) (by exact Cp.sc))) nofree (by kernel_rfl) ?_
      refine Run.step 28 (by exact ⟨rfl, rfl, ⟨⟩⟩) (by exact ⟨⟩) (LocG.of rfl (loc_index (k := s.toNat) (by decide) sl_35 (by exact ⟨⟩) (by omega) (by exact getm2 hs.2 (by rw [partAt_eq hs.2])) (by exact rfl))) nofree (by kernel_rfl) ?_
      refine Run.step 60 (by exact ⟨rfl, ⟨⟩⟩) (by exact ⟨⟩) (LocG.of rfl (loc_eload (qs := [PV.sl .v _]) (by decide) ty_53 (fun _ => rfl) (by exact Nat.le_of_ble_eq_true rfl) (by exact (ToL.cons PV.to_none ToL.nil)) (by exact (BorL.cons (PV.bor_sl _) BorL.nil)))) nofree (by kernel_rfl) ?_
      refine Run.step 0 (by exact ⟨rfl, ⟨⟩⟩) (by exact ⟨⟩) (LocG.of rfl (loc_copy (.inl rfl) (by decide) (by exact Cp.sc))) nofree (by kernel_rfl) ?_
      refine Run.step 252 (by exact ⟨rfl, rfl, ⟨⟩⟩) (by exact ⟨⟩) (LocG.of rfl (loc_index (by decide) sl_53 (by exact ⟨⟩) (by exact rfl) (by exact getm2 (by omega) rfl) (by exact rfl))) nofree (by kernel_rfl) ?_
      refine Run.step 508 (by exact ⟨rfl, ⟨⟩⟩) (by exact ⟨⟩) (LocG.of rfl (loc_eload (qs := [PV.val _, PV.sl .v _]) (by decide) ty_77 (fun h => nomatch h) (by exact Nat.le_of_ble_eq_true rfl) (by exact (ToL.cons (PV.To.refl _) (ToL.cons PV.to_none ToL.nil))) (by exact (BorL.cons (PV.bor_val _) (BorL.cons (PV.bor_sl _) BorL.nil))))) nofree (by kernel_rfl) ?_
      refine Run.step 1023 (by exact ⟨rfl, rfl, ⟨⟩⟩) (by exact ⟨⟩) (LocG.of rfl (loc_call (qs := [(true, [PV.val _, PV.val _, PV.sl _ _, PV.sl _ _]), (true, [PV.val _, PV.sl _ _])]) (as_ := [(true, [PV.val _, PV.val _, PV.sl .v _, PV.sl .v _]), (true, [PV.val _, PV.sl .v _])]) (by decide) c_185 (by exact (And.intro (by exact ⟨⟩) (And.intro (by exact ⟨⟩) True.intro))) (by exact (And.intro (And.intro rfl (ToL.cons (PV.To.refl _) (ToL.cons (PV.To.refl _) (ToL.cons PV.to_none (ToL.cons PV.to_none ToL.nil))))) (And.intro (And.intro rfl (ToL.cons (PV.To.refl _) (ToL.cons PV.to_none ToL.nil))) True.intro))) (by exact spec_MatchesRow))) nofree (by kernel_rfl) ?_
      refine sw_cond (t := 35) rfl (fun hb3 => ?_) (fun hb3 => ?_)
      · try simp only [q1, q2, q3, q4, q5, q6, q7, q8, q9] at hb3
        have hc := hb3
        refine sw_of (l := [(1, RV.sv false [PV.val _]), (2, RV.sv false [PV.val _]), (3, RV.ptr 3 0), (6, RV.sv false [PV.sl _ _]), (7, RV.sv false [PV.sl _ _]), (8, RV.sv false [PV.val _])]) (b := [(3, (37, [PV.val _, PV.val _, PV.sl _ _, PV.sl _ _, PV.sl _ _, PV.sl _ _, PV.sl _ _, PV.sl _ _, PV.sl _ _, PV.sl _ _, PV.sl _ _]))]) (by exact ⟨rfl, rfl, rfl, rfl, rfl, rfl, ⟨⟩⟩) (by exact ⟨rfl, ⟨⟩⟩) ?_
        refine sw_reg ?_
        refine RunS.s1 (x := loc_take (.inl rfl) (by decide)) (y := ?_)
        refine RunS.s1 (x := loc_field (by decide) fd_37_1) (y := ?_)
        refine RunS.s1 (x := loc_load (qs := [PV.sl .v _]) (by decide) ty_35 (fun _ => rfl) (by exact Nat.le_of_ble_eq_true rfl) (by exact (ToL.cons PV.to_none ToL.nil)) (by exact (BorL.cons (PV.bor_sl _) BorL.nil))) (y := ?_)
        refine RunS.s1 (x := loc_copy (.inl rfl) (by decide) (by exact Cp.sc)) (y := ?_)
        refine RunS.s1 (x := loc_index (k := s.toNat) (by decide) sl_35 (by exact ⟨⟩) (by omega) (by exact getm2 hs.2 (by rw [partAt_eq hs.2])) (by exact rfl)) (y := ?_)
        refine RunS.s1 (x := loc_eload (qs := [PV.sl .v _]) (by decide) ty_53 (fun _ => rfl) (by exact Nat.le_of_ble_eq_true rfl) (by exact (ToL.cons PV.to_none ToL.nil)) (by exact (BorL.cons (PV.bor_sl _) BorL.nil))) (y := ?_)
        refine RunS.s1 (x := loc_copy (.inl rfl) (by decide) (by exact Cp.sc)) (y := ?_)
        refine RunS.s1 (x := loc_index (by decide) sl_53 (by exact ⟨⟩) (by exact rfl) (by exact getm2 (by omega) rfl) (by exact rfl)) (y := ?_)
        refine RunS.s1 (x := loc_eload (qs := [PV.val _, PV.sl .v _]) (by decide) ty_77 (fun h => nomatch h) (by exact Nat.le_of_ble_eq_true rfl) (by exact (ToL.cons (PV.To.refl _) (ToL.cons PV.to_none ToL.nil))) (by exact (BorL.cons (PV.bor_val _) (BorL.cons (PV.bor_sl _) BorL.nil)))) (y := ?_)
        refine RunS.s1 (x := loc_call (qs := [(true, [PV.val _, PV.sl _ _])]) (as_ := [(true, [PV.val _, PV.sl .v _])]) (by decide) c_77 (by exact (And.intro (by exact ⟨⟩) True.intro)) (by exact (And.intro (And.intro rfl (ToL.cons (PV.To.refl _) (ToL.cons PV.to_none ToL.nil))) True.intro)) (by exact spec_l3Copy (by omega))) (y := ?_)
        refine RunS.s1 (x := loc_bslice (qs := [(true, [PV.val _, PV.sl _ _])]) (by decide) sl_53 z_77 (by decide) rfl rfl rfl rfl rfl (by exact Nat.le_of_ble_eq_true rfl) (by exact (And.intro (by exact ⟨⟩) True.intro)) rfl) (y := ?_)
        refine RunS.s1 (x := loc_append (by decide) sl_53 z_77 rfl rfl (by decide) rfl (by simp only [List.length_map, List.length_append, List.length_cons, List.length_nil]; omega) (by simp only [List.length_map, List.length_append, List.length_cons, List.length_nil]; omega)) (y := ?_)
        refine RunS.s1 (x := loc_take (.inr rfl) (by decide)) (y := ?_)
        refine sw_of (l := [(1, RV.sv false [PV.val _]), (2, RV.sv false [PV.val _]), (3, RV.ptr 3 0), (6, RV.sv false [PV.sl _ _]), (7, RV.sv false [PV.sl _ _]), (8, RV.sv false [PV.val _])]) (b := [(3, (37, [PV.val _, PV.val _, PV.sl _ _, PV.sl _ _, PV.sl _ _, PV.sl _ _, PV.sl _ _, PV.sl _ _, PV.sl _ _, PV.sl _ _, PV.sl _ _]))]) (by exact ⟨rfl, rfl, rfl, rfl, rfl, rfl, ⟨⟩⟩) (by exact ⟨rfl, ⟨⟩⟩) ?_
        refine sw_reg ?_
        refine RunS.s1 (x := loc_copy (.inl rfl) (by decide) (by exact Cp.sc)) (y := ?_)
        refine RunS.s1 (x := loc_add (by decide) (by exact ⟨⟩) (ok_sc rfl) (by unfold I64; omega)) (y := ?_)
        refine RunS.s1 (x := loc_copy (.inr rfl) (by decide) (by exact Cp.sc)) (y := ?_)
        refine Exists.intro (k + 1) (And.intro (by exact ⟨by omega, by omega⟩) (And.intro (by omega) (And.intro (And.intro (by exact ⟨rfl, rfl, rfl, rfl, ⟨⟩⟩) (by exact ⟨rfl, ⟨⟩⟩)) (And.intro (by exact And.intro (by first | exact slc_eq (by rw [found_yes hlt hc, List.map_append]; rfl) | exact slc_eq (by rw [found_no hlt hc])) (And.intro (by exact rfl) (True.intro))) (by exact ⟨⟩)))))
      · try simp only [q1, q2, q3, q4, q5, q6, q7, q8, q9] at hb3
        have hc := hb3
        refine sw_skip ?_
        refine sw_of (l := [(1, RV.sv false [PV.val _]), (2, RV.sv false [PV.val _]), (3, RV.ptr 3 0), (6, RV.sv false [PV.sl _ _]), (7, RV.sv false [PV.sl _ _]), (8, RV.sv false [PV.val _])]) (b := [(3, (37, [PV.val _, PV.val _, PV.sl _ _, PV.sl _ _, PV.sl _ _, PV.sl _ _, PV.sl _ _, PV.sl _ _, PV.sl _ _, PV.sl _ _, PV.sl _ _]))]) (by exact ⟨rfl, rfl, rfl, rfl, rfl, rfl, ⟨⟩⟩) (by exact ⟨rfl, ⟨⟩⟩) ?_
        refine sw_reg ?_
        refine RunS.s1 (x := loc_copy (.inl rfl) (by decide) (by exact Cp.sc)) (y := ?_)
        refine RunS.s1 (x := loc_add (by decide) (by exact ⟨⟩) (ok_sc rfl) (by unfold I64; omega)) (y := ?_)
        refine RunS.s1 (x := loc_copy (.inr rfl) (by decide) (by exact Cp.sc)) (y := ?_)
        refine Exists.intro (k + 1) (And.intro (by exact ⟨by omega, by omega⟩) (And.intro (by omega) (And.intro (And.intro (by exact ⟨rfl, rfl, rfl, rfl, ⟨⟩⟩) (by exact ⟨rfl, ⟨⟩⟩)) (And.intro (by exact And.intro (by first | exact slc_eq (by rw [found_yes hlt hc, List.map_append]; rfl) | exact slc_eq (by rw [found_no hlt hc])) (And.intro (by exact rfl) (True.intro))) (by exact ⟨⟩)))))
    · try simp only [q1, q2, q3, q4, q5, q6, q7, q8, q9] at hb2
      have hend := found_end (q := c.Query) (l := (partAt c s)) (k := k) (n := n) ha (by first | omega | (simp_all; done) | (simp_all; omega))
      refine sw_exit ?_
      refine sw_seq ?_
      refine sw_of (l := [(1, RV.sv false [PV.val _]), (2, RV.sv false [PV.val _]), (3, RV.ptr 3 0), (6, RV.sv false [PV.sl _ _]), (7, RV.sv false [PV.sl _ _]), (8, RV.sv false [PV.val _])]) (b := [(3, (37, [PV.val _, PV.val _, PV.sl _ _, PV.sl _ _, PV.sl _ _, PV.sl _ _, PV.sl _ _, PV.sl _ _, PV.sl _ _, PV.sl _ _, PV.sl _ _]))]) (by exact ⟨rfl, rfl, rfl, rfl, rfl, rfl, ⟨⟩⟩) (by exact ⟨rfl, ⟨⟩⟩) ?_
      refine sw_reg ?_
      refine RunS.s1 (x := loc_take (.inl rfl) (by decide)) (y := ?_)
      refine RunS.s1 (x := loc_take (.inr rfl) (by decide)) (y := ?_)
      refine sw_ret ?_
      exact (And.intro (by refine slc_eq ?_; rw [hend]) True.intro)
  · have sg1 := g1
    try simp only [q1, q2, q3, q4, q5, q6, q7, q8, q9] at sg1
    refine RunS.s0f g1 ?_
    refine RunS.s0f g1 ?_
    refine RunS.s0f g1 ?_
    refine RunS.s0f g1 ?_
    refine RunS.s0f g1 ?_
    refine RunS.s0f g1 ?_
    refine RunS.s0f g1 ?_
    refine RunS.s0f g1 ?_
    refine RunS.s1 (x := loc_pick (z := .const (.bool false)) (by decide) (by rw [g1]; rfl) (by exact ⟨⟩) (ok_sc rfl) (by exact Cp.sc)) (y := ?_)
    refine sw_cond (t := 22) rfl (fun hb_ => nomatch hb_) (fun hb_ => ?_)
    have hend := found_end (q := c.Query) (l := (partAt c s)) (k := k) (n := n) ha (by first | omega | (simp_all; done) | (simp_all; omega))
    refine sw_exit ?_
    refine sw_seq ?_
    refine sw_of (l := [(1, RV.sv false [PV.val _]), (2, RV.sv false [PV.val _]), (3, RV.ptr 3 0), (6, RV.sv false [PV.sl _ _]), (7, RV.sv false [PV.sl _ _]), (8, RV.sv false [PV.val _])]) (b := [(3, (37, [PV.val _, PV.val _, PV.sl _ _, PV.sl _ _, PV.sl _ _, PV.sl _ _, PV.sl _ _, PV.sl _ _, PV.sl _ _, PV.sl _ _, PV.sl _ _]))]) (by exact ⟨rfl, rfl, rfl, rfl, rfl, rfl, ⟨⟩⟩) (by exact ⟨rfl, ⟨⟩⟩) ?_
    refine sw_reg ?_
    refine RunS.s1 (x := loc_take (.inl rfl) (by decide)) (y := ?_)
    refine RunS.s1 (x := loc_take (.inr rfl) (by decide)) (y := ?_)
    refine sw_ret ?_
    exact (And.intro (by refine slc_eq ?_; rw [hend]) True.intro)
end Go.Proofs.Ytgaaaoapnhambaa
