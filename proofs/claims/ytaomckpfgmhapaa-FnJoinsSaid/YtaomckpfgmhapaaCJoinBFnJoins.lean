/- What functions of the program compute. No condition. -/
import Derived.Test.YtaomckpfgmhapaaCJoinFnJoins
import Derived.KernelRfl
set_option linter.unusedVariables false
set_option linter.unusedSimpArgs false
namespace Go.Proofs.Ytaomckpfgmhapaa
open Go Go.RowKit M
set_option maxRecDepth 10000
attribute [local irreducible] PV.Lcl PV.LclR RV.Lcl
theorem impl_annotateWith {p1 : Fl} {x : List Row} {id : Int}  (hb : wtRowS x ≤ 68719476736) : SCall Try.prog 36 [(false, [PV.sl .v (x.map (cRow p1))]), (false, [PV.val (vI id)])] (resRV [(false, [PV.sl (.own 35 3) ((annAll x id).map (cAnnotated (.own 3 1) (.own 3 1)))])]) := by
 refine scall_of (rs := [(false, [PV.sl (.own 35 3) ((annAll x id).map (cAnnotated (.own 3 1) (.own 3 1)))])]) Try.func36 rfl (Nat.le_of_ble_eq_true rfl) (borA_cons (BorL.cons (PV.bor_sl _) BorL.nil) (borA_cons (BorL.cons (PV.bor_val _) BorL.nil) borA_nil)) ?_
 intro h0 w0 Fz0
 refine sw_len (s := 0) rfl fun hl0 => ?_
 try rw [List.length_map] at hl0
 have hbu := hb
 simp only [wtRowS] at hbu
 refine sw_seq ?_
 refine sw_reg ?_
 refine rA ?_ (x := loc_const (.inr rfl) (by decide) (ok_nil (t := 35) (e := 3)))
 refine sw_seq ?_
 refine sO [(0, _), (1, _), (4, _)] [] ?_
 refine sw_reg ?_
 refine rA ?_ (x := loc_bslice (qs := []) (by decide) sl_24 z_35 (by decide) rfl rfl rfl rfl rfl (by exact Nat.le_of_ble_eq_true rfl) (by exact ⟨⟩) rfl)
 refine rA ?_ (x := tA)
 refine sw_seq ?_
 refine sw_seq ?_
 refine sO [(0, _), (1, _), (4, _), (5, _)] [] ?_
 refine sw_reg ?_
 refine rA ?_ (x := vM false [PV.sl .v _])
 refine rA ?_ (x := lN sl_39)
 refine rA ?_ (x := kM)
 refine sw_block ?_
 refine sO [(0, _), (1, _), (4, _), (5, _), (9, _), (10, _), (11, _)] [] ?_
 refine sw_loop (l0 := [(0, RV.sv false [PV.sl _ _]), (1, RV.sv false [PV.val _]), (4, RV.sv false [PV.sl _ _]), (9, RV.sv false [PV.sl _ _]), (10, RV.sv false [PV.val _])]) (b0 := []) (fun k : Nat => k ≤ x.length) (fun k : Nat => [(5, RV.slc (.own 35 3) ((annAll (x.take k) id).map (cAnnotated (.own 3 1) (.own 3 1)))), (11, RV.int (k : Int))]) (fun k : Nat => []) (fun k : Nat => x.length - k) 0 (by omega) (by exact ⟨rfl, rfl, rfl, rfl, rfl, ⟨⟩⟩) (by exact ⟨⟩) (by exact And.intro (by first | exact rfl | simp) (And.intro (by exact rfl) (True.intro))) (by exact ⟨⟩) ?_
 rintro k hk
 refine sw_seq ?_
 refine sw_reg ?_
 refine rA ?_ (x := B_lss)
 refine sw_seq ?_
 refine sw_cond (t := 12) rfl (fun hb1 => ?_) (fun hb1 => ?_)
 ·try simp only [q1, q2, q3, q4, q5, q6, q7, q8, q9] at hb1
  have hlt : k < x.length := by omega
  have hwm := wt_mem (f := wtRow) hlt
  have htl : (annAll (x.take k) id).length = k := by rw [annAll_len, List.length_take]; omega
  refine sw_skip ?_
  refine sw_seq ?_
  refine sw_block ?_
  refine sw_seq ?_
  refine sO [(0, _), (1, _), (4, _), (5, _), (9, _), (10, _), (11, _)] [] ?_
  refine sw_reg ?_
  refine rA ?_ (x := loc_index (by decide) sl_39 (by exact ⟨⟩) (by exact rfl) (by exact getm2 (by omega) rfl) (by exact rfl))
  refine rA ?_ (x := lE [PV.val _, PV.sl .v _] ty_33)
  refine RunS.step (by exact ⟨⟩) (by exact ⟨⟩) (LocG.of rfl (loc_alloc (by decide) z_33 zo_33)) (free1 (Free.app (Free.app (Free.of_ rfl) rfl) rfl)) ?_
  refine rA ?_ (x := loc_store (ag := true) (vs := [PV.val _, PV.sl _ _]) ty_33 (by exact ⟨⟩) (by exact rfl) (by exact Nat.le_of_ble_eq_true rfl))
  refine sO [(0, _), (1, _), (4, _), (5, _), (7, _), (9, _), (10, _), (11, _)] [(7, (33, [PV.val _, PV.sl _ _]))] ?_
  refine sw_reg ?_
  refine rA ?_ (x := tM)
  refine rA ?_ (x := lD [PV.val _, PV.sl .v _] ty_33)
  refine rA ?_ (x := cL [(true, [PV.val _, PV.sl _ _])] [(true, [PV.val _, PV.sl .v _])] c_45 (hs := by exact impl_copyRow (by omega)))
  refine rA ?_ (x := sM)
  refine rA ?_ (x := loc_bslice (qs := [(false, [PV.val _])]) (by decide) sl_31 z_3 (by decide) rfl rfl rfl rfl rfl (by exact Nat.le_of_ble_eq_true rfl) (by exact (And.intro (by exact ⟨⟩) True.intro)) rfl)
  refine rA ?_ (x := loc_build (qs := [(true, [PV.val _, PV.sl _ _]), (false, [PV.sl _ _])]) (cs := [PV.val _, PV.sl _ _, PV.sl _ _]) (by decide) z_35 zo_35 pl_35 (by exact rfl) (by exact (And.intro (by exact ⟨⟩) (And.intro (by exact ⟨⟩) True.intro))) rfl (by exact rfl))
  refine rA ?_ (x := loc_bslice (qs := [(true, [PV.val _, PV.sl _ _, PV.sl _ _])]) (by decide) sl_24 z_35 (by decide) rfl rfl rfl rfl rfl (by exact Nat.le_of_ble_eq_true rfl) (by exact (And.intro (by exact ⟨⟩) True.intro)) rfl)
  refine rA ?_ (x := loc_append (by decide) sl_24 z_35 rfl rfl (by decide) rfl (by simp only [List.length_map, List.length_append, List.length_cons, List.length_nil]; omega) (by simp only [List.length_map, List.length_append, List.length_cons, List.length_nil]; omega))
  refine rA ?_ (x := tA)
  refine sO [(0, _), (1, _), (4, _), (5, _), (7, _), (9, _), (10, _), (11, _)] [(7, _)] ?_
  refine sw_reg ?_
  refine rA ?_ (x := B_add)
  refine rA ?_ (x := sM)
  refine Exists.intro (k + 1) (And.intro (by omega) (And.intro (by omega) (And.intro (And.intro (by exact ⟨rfl, rfl, rfl, rfl, rfl, ⟨⟩⟩) (by exact ⟨⟩)) (And.intro (by exact And.intro (by exact slc_eq (by rw [annAll_succ hlt, List.map_append]; rfl)) (And.intro (by exact rfl) (True.intro))) (by exact ⟨⟩)))))
 ·try simp only [q1, q2, q3, q4, q5, q6, q7, q8, q9] at hb1
  have hend : k = x.length := by omega
  refine sw_exit ?_
  refine sw_seq ?_
  refine sO [(0, _), (1, _), (4, _), (5, _), (9, _), (10, _), (11, _)] [] ?_
  refine sw_reg ?_
  refine rA ?_ (x := tM)
  refine rA ?_ (x := tA)
  refine sw_ret ?_
  exact (And.intro (by refine slc_eq ?_; rw [hend, List.take_length]) True.intro)
theorem impl_JoinAlone {p1 p3 : Fl} {x : List Row} {y : List Row} {l : Int} {r : Int}  (hx : wtRowS x ≤ 1048576) (hy : wtRowS y ≤ 1048576) : SCall Try.prog 14 [(false, [PV.sl .v (x.map (cRow p1))]), (false, [PV.sl .v (y.map (cRow p3))]), (false, [PV.val (vI l)]), (false, [PV.val (vI r)])] (resRV [(false, [PV.sl (.own 61 3) ((joinAll (annAll x 0) (annAll y 0) l r).map (cJoined (.own 3 1)))])]) := by
 refine scall_of (rs := [(false, [PV.sl (.own 61 3) ((joinAll (annAll x 0) (annAll y 0) l r).map (cJoined (.own 3 1)))])]) Try.func14 rfl (Nat.le_of_ble_eq_true rfl) (borA_cons (BorL.cons (PV.bor_sl _) BorL.nil) (borA_cons (BorL.cons (PV.bor_sl _) BorL.nil) (borA_cons (BorL.cons (PV.bor_val _) BorL.nil) (borA_cons (BorL.cons (PV.bor_val _) BorL.nil) borA_nil)))) ?_
 intro h0 w0 Fz0
 refine sw_len (s := 0) rfl fun hl0 => ?_
 try rw [List.length_map] at hl0
 refine sw_len (s := 1) rfl fun hl1 => ?_
 try rw [List.length_map] at hl1
 have hx1 : x.length ≤ wtRowS x := Nat.le_add_right _ _
 have hy1 : y.length ≤ wtRowS y := Nat.le_add_right _ _
 have hx2 := annAll_len x 0
 have hy2 := annAll_len y 0
 refine sw_seq ?_
 refine sw_reg ?_
 refine rA ?_ (x := loc_const (.inr rfl) (by decide) (ok_nil (t := 61) (e := 3)))
 refine sw_seq ?_
 refine sO [(0, _), (1, _), (2, _), (3, _), (8, _)] [] ?_
 refine sw_reg ?_
 refine rA ?_ (x := vM false [PV.sl .v _])
 refine rA ?_ (x := cL [(false, [PV.sl _ _]), (false, [PV.val _])] [(false, [PV.sl .v _]), (false, [PV.val _])] c_36 (hs := by exact impl_annotateWith (by omega)))
 refine rA ?_ (x := vM false [PV.sl .v _])
 refine rA ?_ (x := cL [(false, [PV.sl _ _]), (false, [PV.val _])] [(false, [PV.sl .v _]), (false, [PV.val _])] c_36 (hs := by exact impl_annotateWith (by omega)))
 refine rA ?_ (x := sM)
 refine rA ?_ (x := sM)
 refine rA ?_ (x := cL [(false, [PV.sl _ _]), (false, [PV.sl _ _]), (false, [PV.val _]), (false, [PV.val _])] [(false, [PV.sl .v _]), (false, [PV.sl .v _]), (false, [PV.val _]), (false, [PV.val _])] c_7 (hs := by exact impl_JoinShared (by omega) (by omega)))
 refine rA ?_ (x := tA)
 refine sw_ret ?_
 exact (And.intro (by exact rfl) True.intro)
end Go.Proofs.Ytaomckpfgmhapaa
