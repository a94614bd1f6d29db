/- What functions of the program compute. No condition. -/
import Derived.Test.YtaomckpfgmhapaaCEqPFnJoins
import Derived.KernelRfl
set_option linter.unusedVariables false
set_option linter.unusedSimpArgs false
namespace Go.Proofs.Ytaomckpfgmhapaa
open Go Go.RowKit M
set_option maxRecDepth 10000
attribute [local irreducible] PV.Lcl PV.LclR RV.Lcl
theorem impl_RouteJoined {p1 : Fl} {l : List Joined} {id : Int}  (hb : wtJoinedS l ≤ 68719476736) : SCall Try.prog 13 [(false, [PV.sl .v (l.map (cJoined p1))]), (false, [PV.val (vI id)])] (resRV [(false, [PV.sl (.own 61 3) ((routeAll l id).map (cJoined (.own 3 1)))])]) := by
 refine scall_of (rs := [(false, [PV.sl (.own 61 3) ((routeAll l id).map (cJoined (.own 3 1)))])]) Try.func13 rfl (Nat.le_of_ble_eq_true rfl) (borA_cons (BorL.cons (PV.bor_sl _) BorL.nil) (borA_cons (BorL.cons (PV.bor_val _) BorL.nil) borA_nil)) ?_
 intro h0 w0 Fz0
 refine sw_len (s := 0) rfl fun hl0 => ?_
 try rw [List.length_map] at hl0
 have hbu := hb
 simp only [wtJoinedS] at hbu
 refine sw_seq ?_
 refine sw_reg ?_
 refine rA ?_ (x := loc_const (.inr rfl) (by decide) (ok_nil (t := 61) (e := 3)))
 refine sw_seq ?_
 refine sO [(0, _), (1, _), (4, _)] [] ?_
 refine sw_reg ?_
 refine rA ?_ (x := loc_bslice (qs := []) (by decide) sl_27 z_61 (by decide) rfl rfl rfl rfl rfl (by exact Nat.le_of_ble_eq_true rfl) (by exact ⟨⟩) rfl)
 refine rA ?_ (x := tA)
 refine sw_seq ?_
 refine sw_seq ?_
 refine sO [(0, _), (1, _), (4, _), (5, _)] [] ?_
 refine sw_reg ?_
 refine rA ?_ (x := vM false [PV.sl .v _])
 refine rA ?_ (x := lN sl_27)
 refine rA ?_ (x := kM)
 refine sw_block ?_
 refine sO [(0, _), (1, _), (4, _), (5, _), (9, _), (10, _), (11, _)] [] ?_
 refine sw_loop (l0 := [(0, RV.sv false [PV.sl _ _]), (1, RV.sv false [PV.val _]), (4, RV.sv false [PV.sl _ _]), (9, RV.sv false [PV.sl _ _]), (10, RV.sv false [PV.val _])]) (b0 := []) (fun k : Nat => k ≤ l.length) (fun k : Nat => [(5, RV.slc (.own 61 3) (((l.take k).flatMap (routeOne id)).map (cJoined (.own 3 1)))), (11, RV.int (k : Int))]) (fun k : Nat => []) (fun k : Nat => l.length - k) 0 (by omega) (by exact ⟨rfl, rfl, rfl, rfl, rfl, ⟨⟩⟩) (by exact ⟨⟩) (by exact And.intro (by first | exact rfl | simp) (And.intro (by exact rfl) (True.intro))) (by exact ⟨⟩) ?_
 rintro k hk
 refine sw_seq ?_
 refine sw_reg ?_
 refine rA ?_ (x := B_lss)
 refine sw_seq ?_
 refine sw_cond (t := 12) rfl (fun hb1 => ?_) (fun hb1 => ?_)
 ·try simp only [q1, q2, q3, q4, q5, q6, q7, q8, q9] at hb1
  have hlt : k < l.length := by omega
  have hfm := fm_lek (xs := l) (routeOne_le id) k
  refine sw_skip ?_
  refine sw_seq ?_
  refine sw_block ?_
  refine sw_seq ?_
  refine sO [(0, _), (1, _), (4, _), (5, _), (9, _), (10, _), (11, _)] [] ?_
  refine sw_reg ?_
  refine rA ?_ (x := loc_index (by decide) sl_27 (by exact ⟨⟩) (by exact rfl) (by exact getm2 (by omega) rfl) (by exact rfl))
  refine rA ?_ (x := lE [PV.val _, PV.val _, PV.sl .v _] ty_61)
  refine RunS.step (by exact ⟨⟩) (by exact ⟨⟩) (LocG.of rfl (loc_alloc (by decide) z_61 zo_61)) (free1 (Free.app (Free.app (Free.of_ rfl) rfl) rfl)) ?_
  refine rA ?_ (x := loc_store (ag := true) (vs := [PV.val _, PV.val _, PV.sl _ _]) ty_61 (by exact ⟨⟩) (by exact rfl) (by exact Nat.le_of_ble_eq_true rfl))
  refine sw_seq ?_
  refine sO [(0, _), (1, _), (4, _), (5, _), (7, _), (9, _), (10, _), (11, _)] [(7, (61, [PV.val _, PV.val _, PV.sl _ _]))] ?_
  refine sw_reg ?_
  refine rA ?_ (x := lF fd_61_2)
  refine rA ?_ (x := lD [PV.sl .v _] ty_31)
  refine rA ?_ (x := sM)
  refine rA ?_ (x := cL [(false, [PV.sl _ _]), (false, [PV.val _])] [(false, [PV.sl .v _]), (false, [PV.val _])] c_35 (hs := by exact impl_HasMember))
  refine sw_cond (t := 18) rfl (fun hb2 => ?_) (fun hb2 => ?_)
  ·try simp only [q1, q2, q3, q4, q5, q6, q7, q8, q9] at hb2
   have hc := hb2
   refine sO [(0, _), (1, _), (4, _), (5, _), (7, _), (9, _), (10, _), (11, _)] [(7, _)] ?_
   refine sw_reg ?_
   refine rA ?_ (x := tM)
   refine rA ?_ (x := lF fd_61_0)
   refine rA ?_ (x := lD [PV.val _] ty_3)
   refine rA ?_ (x := lF fd_61_1)
   refine rA ?_ (x := lD [PV.val _] ty_3)
   refine rA ?_ (x := loc_bslice (qs := [(false, [PV.val _])]) (by decide) sl_31 z_3 (by decide) rfl rfl rfl rfl rfl (by exact Nat.le_of_ble_eq_true rfl) (by exact (And.intro (ok_sc rfl) True.intro)) rfl)
   refine rA ?_ (x := loc_build (qs := [(false, [PV.val _]), (false, [PV.val _]), (false, [PV.sl _ _])]) (cs := [PV.val _, PV.val _, PV.sl _ _]) (by decide) z_61 zo_61 pl_61 (by exact rfl) (by exact (And.intro (by exact ⟨⟩) (And.intro (by exact ⟨⟩) (And.intro (by exact ⟨⟩) True.intro)))) rfl (by exact rfl))
   refine rA ?_ (x := loc_bslice (qs := [(true, [PV.val _, PV.val _, PV.sl _ _])]) (by decide) sl_27 z_61 (by decide) rfl rfl rfl rfl rfl (by exact Nat.le_of_ble_eq_true rfl) (by exact (And.intro (by exact ⟨⟩) True.intro)) rfl)
   refine rA ?_ (x := loc_append (by decide) sl_27 z_61 rfl rfl (by decide) rfl (by simp only [List.length_map, List.length_append, List.length_cons, List.length_nil]; omega) (by simp only [List.length_map, List.length_append, List.length_cons, List.length_nil]; omega))
   refine rA ?_ (x := tA)
   refine sO [(0, _), (1, _), (4, _), (5, _), (7, _), (9, _), (10, _), (11, _)] [(7, _)] ?_
   refine sw_reg ?_
   refine rA ?_ (x := B_add)
   refine rA ?_ (x := sM)
   refine Exists.intro (k + 1) (And.intro (by omega) (And.intro (by omega) (And.intro (And.intro (by exact ⟨rfl, rfl, rfl, rfl, rfl, ⟨⟩⟩) (by exact ⟨⟩)) (And.intro (by exact And.intro (by exact slc_eq (by rw [fm_succ hlt]; simp [routeOne, hc, cJoined, cInt])) (And.intro (by exact rfl) (True.intro))) (by exact ⟨⟩)))))
  ·try simp only [q1, q2, q3, q4, q5, q6, q7, q8, q9] at hb2
   have hc := hb2
   refine sw_skip ?_
   refine sO [(0, _), (1, _), (4, _), (5, _), (7, _), (9, _), (10, _), (11, _)] [(7, _)] ?_
   refine sw_reg ?_
   refine rA ?_ (x := B_add)
   refine rA ?_ (x := sM)
   refine Exists.intro (k + 1) (And.intro (by omega) (And.intro (by omega) (And.intro (And.intro (by exact ⟨rfl, rfl, rfl, rfl, rfl, ⟨⟩⟩) (by exact ⟨⟩)) (And.intro (by exact And.intro (by exact slc_eq (by rw [fm_succ hlt]; simp [routeOne, hc, cJoined, cInt])) (And.intro (by exact rfl) (True.intro))) (by exact ⟨⟩)))))
 ·try simp only [q1, q2, q3, q4, q5, q6, q7, q8, q9] at hb1
  have hend : k = l.length := by omega
  refine sw_exit ?_
  refine sw_seq ?_
  refine sO [(0, _), (1, _), (4, _), (5, _), (9, _), (10, _), (11, _)] [] ?_
  refine sw_reg ?_
  refine rA ?_ (x := tM)
  refine rA ?_ (x := tA)
  refine sw_ret ?_
  exact (And.intro (by refine slc_eq ?_; rw [hend, List.take_length]; rfl) True.intro)
end Go.Proofs.Ytaomckpfgmhapaa
