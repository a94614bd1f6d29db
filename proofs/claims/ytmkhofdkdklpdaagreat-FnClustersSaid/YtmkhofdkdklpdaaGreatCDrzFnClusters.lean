/- What functions of the program compute. No condition. -/
import Derived.Test.YtmkhofdkdklpdaaGreatCZMFnClusters
import Derived.Test.YtmkhofdkdklpdaaGreatCFcFnClusters
import Derived.Test.YtmkhofdkdklpdaaGreatCDrwFnClusters
import Derived.Test.YtmkhofdkdklpdaaGreatCDz
import Derived.KernelRfl
set_option linter.unusedVariables false
set_option linter.unusedSimpArgs false
namespace Go.Proofs.YtmkhofdkdklpdaaGreat
open Go Go.RowKit M PV
set_option maxRecDepth 10000
attribute [local irreducible] PV.Lcl PV.LclR RV.Lcl
attribute [local irreducible] belowC byteC
theorem FDrz_pl_27 : placesI Tryz.prog 27 = some [(0, 1), (1, 1), (2, 1), (3, 1)] := by kernel_rfl
theorem FDrz_pl_79 : placesI Tryz.prog 79 = some [(0, 1), (1, 1), (2, 1)] := by kernel_rfl
theorem x_l4Query {o : Fl} {c : Cur} (hbo : ∀ es, (sl o es).Bor) {id : Int}  : XCall Tryz.prog 91 74 (cCur o c) (cCur o (queC c id).2) [(false, [val (vI id)])] (resRV [(true, [val (vI (queC c id).1.Id), val (vI (queC c id).1.Tenant), sl (.own 79 3) ((queC c id).1.Conds.map cCond), sl (.own 3 1) ((queC c id).1.Out.map cInt)])]) := by
 refine xcall_of (rs := [(true, [val (vI (queC c id).1.Id), val (vI (queC c id).1.Tenant), sl (.own 79 3) ((queC c id).1.Conds.map cCond), sl (.own 3 1) ((queC c id).1.Out.map cInt)])]) Tryz.func91 rfl (nl rfl) (nl rfl) ?_
 intro g_ h0 w0 Fz0
 have hp3 : 0 < (pickC (belowC c 4).2 [3, 6, 100]).1 ∧ (pickC (belowC c 4).2 [3, 6, 100]).1 ≤ 100 := by have h_ := pickC_mem (belowC c 4).2 (l := [3, 6, 100]) (by decide); simp at h_; show 0 < (pickC _ _).1 ∧ (pickC _ _).1 ≤ 100; omega
 have hb1 := belowC_ge (queS c).c 3
 have hb2 := belowC_lt (queS c).c (n := 3) (by decide)
 refine sR ?_
 refine rX ?_ (x := (loc_alloc (by decide) z_27 zo_27))
 refine sw_seq ?_
 refine sO [(0, _), (1, _), (4, _), (5000, _)] [(0, (74, [sl o _, val _, val _])), (4, (27, [val _, val _, sl _ _, sl _ _]))] ?_
 refine zah ?_
 refine zb5 ?_
 refine rA ?_ (x := loc_build (qs := [(false, [val _]), (false, [val _])]) (cs := [val _, val _, sl _ _, sl _ _]) (by decide) z_27 zo_27 FDrz_pl_27 (by exact rfl) (by exact (aI (by exact ⟨⟩) (aI (by exact ⟨⟩) tI))) rfl (by exact rfl))
 refine rX ?_ (x := (loc_alloc (by decide) z_27 zo_27))
 refine rA ?_ (x := loc_store (ag := true) (vs := [val _, val _, sl _ _, sl _ _]) ty_27 (by exact ⟨⟩) (by exact rfl) (by exact nl rfl))
 refine sw_seq ?_
 refine sO [(0, _), (1, _), (4, _), (5, _), (5000, _)] [(0, _), (4, _), (5, (27, [val _, val _, sl _ _, sl _ _]))] ?_
 refine zac ?_
 refine zar ?_
 refine za2 ?_
 refine sS [0, 1, 4, 5, 6, 5000] [0, 4, 5] ?_
 refine zas ?_
 refine sP [0, 1, 4, 5, 6, 7, 5000] [0, 4, 5] ?_
 refine sL [0, 1, 4, 5, 6, 5000] [4] (fun k : Nat => k ≤ 3) (fun k : Nat => [(7, RV.int (k : Int))]) (fun k : Nat => [(0, (74, cCur o (consTo (pickC (belowC c 4).2 [3, 6, 100]).1 ⟨[], (pickC (belowC c 4).2 [3, 6, 100]).2⟩ k).c)), (5, (27, [val (vI id), val (vI (belowC c 4).1), sl (.own 79 3) ((consTo (pickC (belowC c 4).2 [3, 6, 100]).1 ⟨[], (pickC (belowC c 4).2 [3, 6, 100]).2⟩ k).l.map cCond), sl (.own 3 1) (([] : List Int).map cInt)]))]) (fun k : Nat => 3 - k) 0 (by omega) (by exact aI (by exact rfl) (tI)) (by exact aI (by exact rfl) (aI (by exact rfl) (tI))) ?_
 rintro k hk
 have hcl := consTo_len (w := (pickC (belowC c 4).2 [3, 6, 100]).1) (s := ⟨[], (pickC (belowC c 4).2 [3, 6, 100]).2⟩) k
 have hb3 := belowC_ge (belowC (consTo (pickC (belowC c 4).2 [3, 6, 100]).1 ⟨[], (pickC (belowC c 4).2 [3, 6, 100]).2⟩ k).c 2).2 (pickC (belowC c 4).2 [3, 6, 100]).1
 have hb4 := belowC_lt (belowC (consTo (pickC (belowC c 4).2 [3, 6, 100]).1 ⟨[], (pickC (belowC c 4).2 [3, 6, 100]).2⟩ k).c 2).2 (n := (pickC (belowC c 4).2 [3, 6, 100]).1) (by omega)
 have hb5 := belowC_ge (belowC (belowC (consTo (pickC (belowC c 4).2 [3, 6, 100]).1 ⟨[], (pickC (belowC c 4).2 [3, 6, 100]).2⟩ k).c 2).2 (pickC (belowC c 4).2 [3, 6, 100]).1).2 (pickC (belowC c 4).2 [3, 6, 100]).1
 have hb6 := belowC_lt (belowC (belowC (consTo (pickC (belowC c 4).2 [3, 6, 100]).1 ⟨[], (pickC (belowC c 4).2 [3, 6, 100]).2⟩ k).c 2).2 (pickC (belowC c 4).2 [3, 6, 100]).1).2 (n := (pickC (belowC c 4).2 [3, 6, 100]).1) (by omega)
 simp only [List.length_nil, Nat.zero_add] at hcl
 refine zat ?_
 refine sc (fun hba => ?_) (fun hba => ?_)
 have hlt : k < 3 := by omega
 refine zau ?_
 refine zb6 ?_
 refine zb7 ?_
 refine sc (fun hbb => ?_) (fun hbb => ?_)
 have h1_ : (belowC (consTo (pickC (belowC c 4).2 [3, 6, 100]).1 ⟨[], (pickC (belowC c 4).2 [3, 6, 100]).2⟩ k).c 2).1 = 0 := by simpa using hbb
 refine sS [0, 1, 4, 5, 6, 7, 5000] [0, 4, 5] ?_
 refine rA ?_ (x := cM Cp.ptr)
 refine zao ?_
 refine rS ?_
 refine sS [0, 1, 4, 5, 6, 7, 8, 5000] [0, 4, 5] ?_
 refine rM ?_
 refine rA ?_ (x := cM Cp.ptr)
 refine zao ?_
 refine rA ?_ (x := B_add)
 refine rA ?_ (x := loc_min (by decide) (ok_sc rfl) (by exact ⟨⟩))
 refine za2 ?_
 refine sS [0, 1, 4, 5, 6, 7, 8, 9, 5000] [0, 4, 5] ?_
 refine zb7 ?_
 refine sc (fun hbc => ?_) (fun hbc => ?_)
 have hcn := conNext_a (w := (pickC (belowC c 4).2 [3, 6, 100]).1) (f := (k : Int)) (s := (consTo (pickC (belowC c 4).2 [3, 6, 100]).1 ⟨[], (pickC (belowC c 4).2 [3, 6, 100]).2⟩ k)) h1_ (by simpa using hbc)
 refine sG [0, 1, 4, 5, 6, 7, 8, 9, 5000] [0, 4, 5] ?_
 refine zb8 ?_
 exact zb9
 have hcn := conNext_b (w := (pickC (belowC c 4).2 [3, 6, 100]).1) (f := (k : Int)) (s := (consTo (pickC (belowC c 4).2 [3, 6, 100]).1 ⟨[], (pickC (belowC c 4).2 [3, 6, 100]).2⟩ k)) h1_ (by simpa using hbc)
 refine sw_skip ?_
 exact zb9
 have hcn := conNext_c (w := (pickC (belowC c 4).2 [3, 6, 100]).1) (f := (k : Int)) (s := (consTo (pickC (belowC c 4).2 [3, 6, 100]).1 ⟨[], (pickC (belowC c 4).2 [3, 6, 100]).2⟩ k)) (by simpa using hbb)
 refine sw_skip ?_
 refine sG [0, 1, 4, 5, 6, 7, 5000] [0, 4, 5] ?_
 exact zba
 have hend : k = 3 := by omega
 have hq : queS c = (consTo (pickC (belowC c 4).2 [3, 6, 100]).1 ⟨[], (pickC (belowC c 4).2 [3, 6, 100]).2⟩ k) := by rw [hend]; rfl
 have hqn := queN_le c
 have hqb : belowC (consTo (pickC (belowC c 4).2 [3, 6, 100]).1 ⟨[], (pickC (belowC c 4).2 [3, 6, 100]).2⟩ k).c 3 = queN c := by rw [← hq]; rfl
 have hqe : (belowC (consTo (pickC (belowC c 4).2 [3, 6, 100]).1 ⟨[], (pickC (belowC c 4).2 [3, 6, 100]).2⟩ k).c 3).1 = (queN c).1 := by rw [hqb]
 refine zay ?_
 refine sw_seq ?_
 refine zb6 ?_
 refine zb5 ?_
 refine rA ?_ (x := B_add)
 refine zbb ?_
 refine sP [0, 1, 4, 5, 6, 7, 10, 5000] [0, 4, 5] ?_
 refine sL [0, 1, 4, 5, 6, 7, 5000] [4] (fun k2 : Nat => (k2 : Int) ≤ 1 + (queN c).1) (fun k2 : Nat => [(10, RV.int (1 + (queN c).1 - (k2 : Int)))]) (fun k2 : Nat => [(0, (74, cCur o (valsC 3 (queN c).2 k2).2)), (5, (27, [val (vI id), val (vI (belowC c 4).1), sl (.own 79 3) ((queS c).l.map cCond), sl (.own 3 1) ((valsC 3 (queN c).2 k2).1.map cInt)]))]) (fun k2 : Nat => (1 + (queN c).1 - (k2 : Int)).toNat) 0 (by omega) (by exact aI (by exact int_eq (by omega)) (tI)) (by exact aI (by show _ = some (74, cCur o (queN c).2); rw [← hqb]; rfl) (aI (by rw [hq]; exact rfl) (tI))) ?_
 rintro k2 hk2
 have hvl : ((valsC 3 (queN c).2 k2).1).length = k2 := valsC_len
 refine zbc ?_
 refine sc (fun hbb => ?_) (fun hbb => ?_)
 have hlt2 : (k2 : Int) < 1 + (queN c).1 := by omega
 refine zau ?_
 refine zbd ?_
 refine zb5 ?_
 refine rS ?_
 refine sG [0, 1, 4, 5, 6, 7, 10, 11, 5000] [0, 4, 5] ?_
 refine rA ?_ (x := lF fd_27_3)
 refine zav ?_
 refine zaw ?_
 refine zbe ?_
 refine sO [(0, _), (1, _), (4, _), (5, _), (6, _), (7, _), (10, _), (11, _), (5000, _)] [(0, _), (4, _), (5, (27, [val _, val _, sl _ _, sl _ _]))] ?_
 refine sw_reg ?_
 refine zbf ?_
 refine nx (k2 + 1) (by omega) (e := (by exact aI (by exact int_eq (by omega)) (tI))) (f := (by exact aI (by exact rfl) (aI (by simp only [valsC, List.map_append]; exact rfl) (tI))))
 have hend2 : (1 + (queN c).1).toNat = k2 := by omega
 refine zay ?_
 refine zbd ?_
 refine zbg ?_
 refine sw_ret ?_
 exact ⟨(by unfold queC queO; rw [hend2]; exact rfl), rfl, (Exists.intro 4 (Exists.intro _ (aI (by exact rfl) (aI (by refine box_eq ?_; unfold queC queO; rw [hend2]; exact rfl) (aI ty_27 (aI (fun h => nomatch h) tI))))))⟩
end Go.Proofs.YtmkhofdkdklpdaaGreat
