/- What functions of the program compute. No condition. -/
import Derived.Test.YtmekkgdboplbjaaCZMFnIsolation
import Derived.Test.YtmekkgdboplbjaaCFcFnIsolation
import Derived.Test.YtmekkgdboplbjaaCDrwFnIsolation
import Derived.Test.YtmekkgdboplbjaaCDz
import Derived.KernelRfl
set_option linter.unusedVariables false
set_option linter.unusedSimpArgs false
namespace Go.Proofs.Ytmekkgdboplbjaa
open Go Go.RowKit M PV
set_option maxRecDepth 10000
attribute [local irreducible] PV.Lcl PV.LclR RV.Lcl
attribute [local irreducible] belowC byteC
theorem FDrz_pl_38 : placesI Try.prog 38 = some [(0, 1), (1, 1), (2, 1), (3, 1)] := by kernel_rfl
theorem FDrz_pl_41 : placesI Try.prog 41 = some [(0, 1), (1, 1), (2, 1)] := by kernel_rfl
theorem x_l4Query {o : Fl} {c : Cur} (hbo : ∀ es, (sl o es).Bor) {id : Int}  : XCall Try.prog 78 85 (cCur o c) (cCur o (queC c id).2) [(false, [val (vI id)])] (resRV [(true, [val (vI (queC c id).1.Id), val (vI (queC c id).1.Tenant), sl (.own 41 3) ((queC c id).1.Conds.map cCond), sl (.own 3 1) ((queC c id).1.Out.map cInt)])]) := by
 refine xcall_of (rs := [(true, [val (vI (queC c id).1.Id), val (vI (queC c id).1.Tenant), sl (.own 41 3) ((queC c id).1.Conds.map cCond), sl (.own 3 1) ((queC c id).1.Out.map cInt)])]) Try.func78 rfl (nl rfl) (nl rfl) ?_
 intro g_ h0 w0 Fz0
 have hp3 : 0 < (pickC (belowC c 4).2 [3, 6, 100]).1 ∧ (pickC (belowC c 4).2 [3, 6, 100]).1 ≤ 100 := by have h_ := pickC_mem (belowC c 4).2 (l := [3, 6, 100]) (by decide); simp at h_; show 0 < (pickC _ _).1 ∧ (pickC _ _).1 ≤ 100; omega
 have hb1 := belowC_ge (queS c).c 3
 have hb2 := belowC_lt (queS c).c (n := 3) (by decide)
 refine sR ?_
 refine rX ?_ (x := (loc_alloc (by decide) z_38 zo_38))
 refine sw_seq ?_
 refine sO [(0, _), (1, _), (4, _), (5000, _)] [(0, (85, [sl o _, val _, val _])), (4, (38, [val _, val _, sl _ _, sl _ _]))] ?_
 refine zg2 ?_
 refine zk7 ?_
 refine rA ?_ (x := loc_build (qs := [(false, [val _]), (false, [val _])]) (cs := [val _, val _, sl _ _, sl _ _]) (by decide) z_38 zo_38 FDrz_pl_38 (by exact rfl) (by exact (aI (by exact ⟨⟩) (aI (by exact ⟨⟩) tI))) rfl (by exact rfl))
 refine zkb ?_
 refine sw_seq ?_
 refine sO [(0, _), (1, _), (4, _), (5, _), (5000, _)] [(0, _), (4, _), (5, (38, [val _, val _, sl _ _, sl _ _]))] ?_
 refine zk0 ?_
 refine zk5 ?_
 refine zca ?_
 refine sS [0, 1, 4, 5, 6, 5000] [0, 4, 5] ?_
 refine zao ?_
 refine sP [0, 1, 4, 5, 6, 7, 5000] [0, 4, 5] ?_
 refine sL [0, 1, 4, 5, 6, 5000] [4] (fun k : Nat => k ≤ 3) (fun k : Nat => [(7, RV.int (k : Int))]) (fun k : Nat => [(0, (85, cCur o (consTo (pickC (belowC c 4).2 [3, 6, 100]).1 ⟨[], (pickC (belowC c 4).2 [3, 6, 100]).2⟩ k).c)), (5, (38, [val (vI id), val (vI (belowC c 4).1), sl (.own 41 3) ((consTo (pickC (belowC c 4).2 [3, 6, 100]).1 ⟨[], (pickC (belowC c 4).2 [3, 6, 100]).2⟩ k).l.map cCond), sl (.own 3 1) (([] : List Int).map cInt)]))]) (fun k : Nat => 3 - k) 0 (by omega) (by exact aI (by exact rfl) (tI)) (by exact aI (by exact rfl) (aI (by exact rfl) (tI))) ?_
 rintro k hk
 have hcl := consTo_len (w := (pickC (belowC c 4).2 [3, 6, 100]).1) (s := ⟨[], (pickC (belowC c 4).2 [3, 6, 100]).2⟩) k
 have hb3 := belowC_ge (belowC (consTo (pickC (belowC c 4).2 [3, 6, 100]).1 ⟨[], (pickC (belowC c 4).2 [3, 6, 100]).2⟩ k).c 2).2 (pickC (belowC c 4).2 [3, 6, 100]).1
 have hb4 := belowC_lt (belowC (consTo (pickC (belowC c 4).2 [3, 6, 100]).1 ⟨[], (pickC (belowC c 4).2 [3, 6, 100]).2⟩ k).c 2).2 (n := (pickC (belowC c 4).2 [3, 6, 100]).1) (by omega)
 have hb5 := belowC_ge (belowC (belowC (consTo (pickC (belowC c 4).2 [3, 6, 100]).1 ⟨[], (pickC (belowC c 4).2 [3, 6, 100]).2⟩ k).c 2).2 (pickC (belowC c 4).2 [3, 6, 100]).1).2 (pickC (belowC c 4).2 [3, 6, 100]).1
 have hb6 := belowC_lt (belowC (belowC (consTo (pickC (belowC c 4).2 [3, 6, 100]).1 ⟨[], (pickC (belowC c 4).2 [3, 6, 100]).2⟩ k).c 2).2 (pickC (belowC c 4).2 [3, 6, 100]).1).2 (n := (pickC (belowC c 4).2 [3, 6, 100]).1) (by omega)
 simp only [List.length_nil, Nat.zero_add] at hcl
 refine zeg ?_
 refine sc (fun hba => ?_) (fun hba => ?_)
 have hlt : k < 3 := by omega
 refine zdn ?_
 refine zkc ?_
 refine zkd ?_
 refine sc (fun hbb => ?_) (fun hbb => ?_)
 have h1_ : (belowC (consTo (pickC (belowC c 4).2 [3, 6, 100]).1 ⟨[], (pickC (belowC c 4).2 [3, 6, 100]).2⟩ k).c 2).1 = 0 := by simpa using hbb
 refine sS [0, 1, 4, 5, 6, 7, 5000] [0, 4, 5] ?_
 refine zk4 ?_
 refine rS ?_
 refine sS [0, 1, 4, 5, 6, 7, 8, 5000] [0, 4, 5] ?_
 refine rM ?_
 refine zk4 ?_
 refine rA ?_ (x := B_add)
 refine rA ?_ (x := loc_min (by decide) (ok_sc rfl) (by exact ⟨⟩))
 refine zca ?_
 refine sS [0, 1, 4, 5, 6, 7, 8, 9, 5000] [0, 4, 5] ?_
 refine zkd ?_
 refine sc (fun hbc => ?_) (fun hbc => ?_)
 have hcn := conNext_a (w := (pickC (belowC c 4).2 [3, 6, 100]).1) (f := (k : Int)) (s := (consTo (pickC (belowC c 4).2 [3, 6, 100]).1 ⟨[], (pickC (belowC c 4).2 [3, 6, 100]).2⟩ k)) h1_ (by simpa using hbc)
 refine sG [0, 1, 4, 5, 6, 7, 8, 9, 5000] [0, 4, 5] ?_
 refine rM ?_
 refine rS ?_
 exact zke
 have hcn := conNext_b (w := (pickC (belowC c 4).2 [3, 6, 100]).1) (f := (k : Int)) (s := (consTo (pickC (belowC c 4).2 [3, 6, 100]).1 ⟨[], (pickC (belowC c 4).2 [3, 6, 100]).2⟩ k)) h1_ (by simpa using hbc)
 refine sw_skip ?_
 exact zke
 have hcn := conNext_c (w := (pickC (belowC c 4).2 [3, 6, 100]).1) (f := (k : Int)) (s := (consTo (pickC (belowC c 4).2 [3, 6, 100]).1 ⟨[], (pickC (belowC c 4).2 [3, 6, 100]).2⟩ k)) (by simpa using hbb)
 refine sw_skip ?_
 refine sG [0, 1, 4, 5, 6, 7, 5000] [0, 4, 5] ?_
 exact zkf
 have hend : k = 3 := by omega
 have hq : queS c = (consTo (pickC (belowC c 4).2 [3, 6, 100]).1 ⟨[], (pickC (belowC c 4).2 [3, 6, 100]).2⟩ k) := by rw [hend]; rfl
 have hqn := queN_le c
 have hqb : belowC (consTo (pickC (belowC c 4).2 [3, 6, 100]).1 ⟨[], (pickC (belowC c 4).2 [3, 6, 100]).2⟩ k).c 3 = queN c := by rw [← hq]; rfl
 have hqe : (belowC (consTo (pickC (belowC c 4).2 [3, 6, 100]).1 ⟨[], (pickC (belowC c 4).2 [3, 6, 100]).2⟩ k).c 3).1 = (queN c).1 := by rw [hqb]
 refine sw_exit ?_
 refine zdk ?_
 refine zkc ?_
 refine zka ?_
 refine rS ?_
 refine sw_block ?_
 refine sP [0, 1, 4, 5, 6, 7, 10, 5000] [0, 4, 5] ?_
 refine sL [0, 1, 4, 5, 6, 7, 5000] [4] (fun k2 : Nat => (k2 : Int) ≤ 1 + (queN c).1) (fun k2 : Nat => [(10, RV.int (1 + (queN c).1 - (k2 : Int)))]) (fun k2 : Nat => [(0, (85, cCur o (valsC 3 (queN c).2 k2).2)), (5, (38, [val (vI id), val (vI (belowC c 4).1), sl (.own 41 3) ((queS c).l.map cCond), sl (.own 3 1) ((valsC 3 (queN c).2 k2).1.map cInt)]))]) (fun k2 : Nat => (1 + (queN c).1 - (k2 : Int)).toNat) 0 (by omega) (by exact aI (by exact int_eq (by omega)) (tI)) (by exact aI (by show _ = some (85, cCur o (queN c).2); rw [← hqb]; rfl) (aI (by rw [hq]; exact rfl) (tI))) ?_
 rintro k2 hk2
 have hvl : ((valsC 3 (queN c).2 k2).1).length = k2 := valsC_len
 refine zk8 ?_
 refine sc (fun hbb => ?_) (fun hbb => ?_)
 have hlt2 : (k2 : Int) < 1 + (queN c).1 := by omega
 refine za6 ?_
 refine zkg ?_
 refine sw_reg ?_
 refine zk7 ?_
 refine rS ?_
 refine sG [0, 1, 4, 5, 6, 7, 10, 11, 5000] [0, 4, 5] ?_
 refine rA ?_ (x := lF fd_38_3)
 refine zge ?_
 refine zfr ?_
 refine rA ?_ (x := lF fd_38_3)
 refine rA ?_ (x := loc_store (ag := false) (vs := [sl _ _]) ty_27 (by exact ⟨⟩) (by exact rfl) (by exact nl rfl))
 refine sO [(0, _), (1, _), (4, _), (5, _), (6, _), (7, _), (10, _), (11, _), (5000, _)] [(0, _), (4, _), (5, (38, [val _, val _, sl _ _, sl _ _]))] ?_
 refine zg2 ?_
 refine zjv ?_
 refine nx (k2 + 1) (by omega) (e := (by exact aI (by exact int_eq (by omega)) (tI))) (f := (by exact aI (by exact rfl) (aI (by simp only [valsC, List.map_append]; exact rfl) (tI))))
 have hend2 : (1 + (queN c).1).toNat = k2 := by omega
 refine sw_exit ?_
 refine zkg ?_
 refine sw_reg ?_
 refine zf5 ?_
 refine sw_ret ?_
 exact ⟨(by unfold queC queO; rw [hend2]; exact rfl), rfl, (Exists.intro 4 (Exists.intro _ (aI (by exact rfl) (aI (by refine box_eq ?_; unfold queC queO; rw [hend2]; exact rfl) (aI ty_38 (aI (fun h => nomatch h) tI))))))⟩
end Go.Proofs.Ytmekkgdboplbjaa
