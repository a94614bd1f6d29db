/- What functions of the program compute. No condition. -/
import Derived.Test.YtmkhofdkdklpdaaGreatCZMFnClusters
import Derived.Test.YtmkhofdkdklpdaaGreatCFcFnClusters
import Derived.Test.YtmkhofdkdklpdaaGreatCDrzFnClusters
import Derived.Test.YtmkhofdkdklpdaaGreatCDcd
import Derived.Test.YtmkhofdkdklpdaaGreatCCluJFnClusters
import Derived.Test.YtmkhofdkdklpdaaGreatCCluIFnClusters
import Derived.KernelRfl
set_option linter.unusedVariables false
set_option linter.unusedSimpArgs false
namespace Go.Proofs.YtmkhofdkdklpdaaGreat
open Go Go.RowKit M PV
set_option maxRecDepth 10000
attribute [local irreducible] PV.Lcl PV.LclR RV.Lcl
attribute [local irreducible] belowC byteC
theorem x_l18DrawParts {o : Fl} {c : Cur} (hbo : ∀ es, (sl o es).Bor)  : XCall Tryz.prog 92 74 (cCur o c) (cCur o (partsC c).c) [] (resRV [(false, [sl (.own 36 1) ((partsC c).l.map (cRowS (.own 63 2) (.own 3 1)))])]) := by
 refine xcall_of (rs := [(false, [sl (.own 36 1) ((partsC c).l.map (cRowS (.own 63 2) (.own 3 1)))])]) Tryz.func92 rfl (nl rfl) (nl rfl) ?_
 intro g_ h0 w0 Fz0
 have hb1 := belowC_ge c 4
 have hb2 := belowC_lt c (n := 4) (by decide)
 refine zho ?_
 refine sw_seq ?_
 refine sO [(0, _), (2, _), (5000, _)] [(0, (74, [sl o _, val _, val _]))] ?_
 refine sw_reg ?_
 refine zhp ?_
 refine sS [0, 2, 3, 5000] [0] ?_
 refine zby ?_
 refine sS [0, 2, 3, 4, 5000] [0] ?_
 refine zb5 ?_
 refine rA ?_ (x := B_add)
 refine zbb ?_
 refine sP [0, 2, 3, 4, 5, 5000] [0] ?_
 refine sL [0, 2, 5000] [] (fun k : Nat => (k : Int) ≤ 1 + (belowC c 4).1) (fun k : Nat => [(3, RV.slc (.own 36 1) ((partsTo (belowC c 4).2 k).l.map (cRowS (.own 63 2) (.own 3 1)))), (4, RV.int (partsTo (belowC c 4).2 k).id), (5, RV.int (1 + (belowC c 4).1 - (k : Int)))]) (fun k : Nat => [(0, (74, cCur o (partsTo (belowC c 4).2 k).c))]) (fun k : Nat => (1 + (belowC c 4).1 - (k : Int)).toNat) 0 (by omega) (by exact aI (by exact rfl) (aI (by exact rfl) (aI (by exact int_eq (by omega)) (tI)))) (by exact aI (by exact rfl) (tI)) ?_
 rintro k hk
 obtain ⟨hp1, hp2, _, _⟩ := partsTo_ok (c := (belowC c 4).2) (k := k) (by omega)
 refine zbc ?_
 refine sc (fun hba => ?_) (fun hba => ?_)
 have hlt : (k : Int) < 1 + (belowC c 4).1 := by omega
 have h51 := belowC_ge (partsTo (belowC c 4).2 k).c 5
 have h52 := belowC_lt (partsTo (belowC c 4).2 k).c (n := 5) (by decide)
 refine zau ?_
 refine zjo ?_
 refine zch ?_
 refine sS [0, 2, 3, 4, 5, 6, 5000] [0] ?_
 refine zb5 ?_
 refine zbb ?_
 refine sP [0, 2, 3, 4, 5, 6, 7, 5000] [0] ?_
 refine sL [0, 2, 3, 5, 5000] [] (fun j : Nat => (j : Int) ≤ (belowC (partsTo (belowC c 4).2 k).c 5).1) (fun j : Nat => [(4, RV.int (partTo (partsTo (belowC c 4).2 k).id (belowC (partsTo (belowC c 4).2 k).c 5).2 j).id), (6, RV.slc (.own 63 2) ((partTo (partsTo (belowC c 4).2 k).id (belowC (partsTo (belowC c 4).2 k).c 5).2 j).l.map (cRow (.own 3 1)))), (7, RV.int ((belowC (partsTo (belowC c 4).2 k).c 5).1 - (j : Int)))]) (fun j : Nat => [(0, (74, cCur o (partTo (partsTo (belowC c 4).2 k).id (belowC (partsTo (belowC c 4).2 k).c 5).2 j).c))]) (fun j : Nat => ((belowC (partsTo (belowC c 4).2 k).c 5).1 - (j : Int)).toNat) 0 (by omega) (by exact aI (by exact rfl) (aI (by exact rfl) (aI (by exact int_eq (by omega)) (tI)))) (by exact aI (by exact rfl) (tI)) ?_
 rintro j hj
 obtain ⟨hq1, hq2, _, _⟩ := partTo_ok (c := (belowC (partsTo (belowC c 4).2 k).c 5).2) hp1.1 (k := j) (by omega)
 refine zbc ?_
 refine sc (fun hbb => ?_) (fun hbb => ?_)
 have hlt2 : (j : Int) < (belowC (partsTo (belowC c 4).2 k).c 5).1 := by omega
 refine zau ?_
 refine zjp ?_
 refine rA ?_ (x := tM)
 refine rA ?_ (x := cM Cp.ptr)
 refine rM ?_
 refine rA ?_ (x := loc_xcall0 (bx := 0) (qs := [(false, [val _])]) (as_ := [(false, [val _])]) (by decide) c_93 rfl (by exact (aI (by exact ⟨⟩) tI)) (by exact (aI (aI rfl (ToL.cons (PV.To.refl _) ToL.nil)) tI)) (by exact (BorL.cons (hbo _) (BorL.cons (bor_val _) (BorL.cons (bor_val _) BorL.nil)))) (by exact (borA_cons (BorL.cons (bor_val _) BorL.nil) borA_nil)) (by exact (x_l3Row hbo)))
 refine zcj ?_
 refine sG [0, 2, 3, 4, 5, 6, 7, 5000] [0] ?_
 refine za8 ?_
 refine sG [0, 2, 3, 4, 5, 6, 7, 5000] [0] ?_
 refine zbf ?_
 refine nx (j + 1) (by omega) (e := (by exact aI (by exact int_eq (by rw [partTo])) (aI (by exact slc_eq (by rw [partTo, List.map_append]; rfl)) (aI (by exact int_eq (by omega)) (tI)))))
 have hend2 : partN5 (partsTo (belowC c 4).2 k).c = j := by unfold partN5; omega
 refine sw_exit ?_
 refine zjp ?_
 refine rA ?_ (x := tM)
 refine rA ?_ (x := tM)
 refine zhr ?_
 refine rA ?_ (x := tA)
 refine sG [0, 2, 3, 4, 5, 7, 5000] [0] ?_
 refine zbf ?_
 refine nx (k + 1) (by omega) (e := (by exact aI (by exact slc_eq (by rw [partsTo, hend2, List.map_append]; rfl)) (aI (by exact int_eq (by rw [partsTo, hend2])) (aI (by exact int_eq (by omega)) (tI))))) (f := (by exact aI (by rw [partsTo, hend2]; rfl) (tI)))
 have hend : partsN c = k := by unfold partsN; omega
 refine zay ?_
 refine zjo ?_
 refine zjq ?_
 refine sw_ret ?_
 exact ⟨(by show _ = some (74, cCur o (partsTo (belowC c 4).2 (partsN c)).c); rw [hend]; exact rfl), rfl, (aI (by refine slc_eq ?_; show _ = List.map _ (partsTo _ (partsN c)).l; rw [hend]) tI)⟩
theorem x_l18Cluster {o : Fl} {c : Cur} (hbo : ∀ es, (sl o es).Bor)  : XCall Tryz.prog 67 74 (cCur o c) (cCur o (cluC c).c) [] (resRV [(true, [val (vI (cluC c).x.Query.Id), val (vI (cluC c).x.Query.Tenant), sl (.own 79 3) ((cluC c).x.Query.Conds.map cCond), sl (.own 3 1) ((cluC c).x.Query.Out.map cInt), sl (.own 36 1) ((cluC c).x.Parts.map (cRowS (.own 63 2) (.own 3 1))), sl (.own 4 1) ((cluC c).x.Up.map cBool), sl (.own 3 1) ((cluC c).x.At.map cInt), sl (.own 3 1) ((cluC c).x.Pos.map cInt), sl (.own 36 1) ((cluC c).x.Buffer.map (cRowS (.own 63 2) (.own 3 1))), sl (.own 3 1) ((cluC c).x.Done.map cInt), sl (.own 36 1) ((cluC c).x.Rows.map (cRowS (.own 63 2) (.own 3 1)))])]) := by
 refine xcall_of (rs := [(true, [val (vI (cluC c).x.Query.Id), val (vI (cluC c).x.Query.Tenant), sl (.own 79 3) ((cluC c).x.Query.Conds.map cCond), sl (.own 3 1) ((cluC c).x.Query.Out.map cInt), sl (.own 36 1) ((cluC c).x.Parts.map (cRowS (.own 63 2) (.own 3 1))), sl (.own 4 1) ((cluC c).x.Up.map cBool), sl (.own 3 1) ((cluC c).x.At.map cInt), sl (.own 3 1) ((cluC c).x.Pos.map cInt), sl (.own 36 1) ((cluC c).x.Buffer.map (cRowS (.own 63 2) (.own 3 1))), sl (.own 3 1) ((cluC c).x.Done.map cInt), sl (.own 36 1) ((cluC c).x.Rows.map (cRowS (.own 63 2) (.own 3 1)))])]) Tryz.func67 rfl (nl rfl) (nl rfl) ?_
 intro g_ h0 w0 Fz0
 have hqw := queC_wt c 0
 have hpw := partsC_wt (queC c 0).2
 have hn15 := cluN_le c
 have hcn0 : (belowC (belowC (partsC (queC c 0).2).c 3).2 16).1 = (cluN c).1 := rfl
 have hb31 := belowC_ge (partsC (queC c 0).2).c 3
 have hb32 := belowC_lt (partsC (queC c 0).2).c (n := 3) (by decide)
 refine sR ?_
 refine zhs ?_
 refine sO [(0, _), (2, _), (5000, _)] [(0, (74, [sl o _, val _, val _])), (2, (31, [val _, val _, sl _ _, sl _ _, sl _ _, sl _ _, sl _ _, sl _ _, sl _ _, sl _ _, sl _ _]))] ?_
 refine zac ?_
 refine rA ?_ (x := loc_xcall0 (bx := 0) (qs := [(false, [val _])]) (as_ := [(false, [val _])]) (by decide) c_91 rfl (by exact (aI (ok_sc rfl) tI)) (by exact (aI (aI rfl (ToL.cons (PV.To.refl _) ToL.nil)) tI)) (by exact (BorL.cons (hbo _) (BorL.cons (bor_val _) (BorL.cons (bor_val _) BorL.nil)))) (by exact (borA_cons (BorL.cons (bor_val _) BorL.nil) borA_nil)) (by exact (x_l4Query hbo)))
 refine rA ?_ (x := cM Cp.ptr)
 refine rA ?_ (x := loc_xcall0 (bx := 0) (qs := []) (as_ := []) (by decide) c_92 rfl (by exact ⟨⟩) (by exact ⟨⟩) (by exact (BorL.cons (hbo _) (BorL.cons (bor_val _) (BorL.cons (bor_val _) BorL.nil)))) (by exact borA_nil) (by exact (x_l18DrawParts hbo)))
 refine zb5 ?_
 refine rA ?_ (x := B_add)
 refine rA ?_ (x := cL [(true, [val _, val _, sl _ _, sl _ _]), (false, [sl _ _]), (false, [val _])] [(true, [val _, val _, sl .v _, sl .v _]), (false, [sl .v _]), (false, [val _])] c_90 (hs := by exact spec_NewCluster (by omega) (by omega)))
 refine rA ?_ (x := tM)
 refine zjr ?_
 refine zhz ?_
 refine za2 ?_
 refine sw_seq ?_
 refine sO [(0, _), (2, _), (3, _), (4, _), (5000, _)] [(0, _), (2, _), (3, (31, [val _, val _, sl _ _, sl _ _, sl _ _, sl _ _, sl _ _, sl _ _, sl _ _, sl _ _, sl _ _]))] ?_
 refine sw_reg ?_
 refine zb5 ?_
 refine zbb ?_
 refine sP [0, 2, 3, 4, 5, 5000] [0, 2, 3] ?_
 refine sL [0, 2, 3, 4, 5000] [2] (fun k : Nat => (k : Int) ≤ (cluN c).1) (fun k : Nat => [(5, RV.int ((cluN c).1 - (k : Int)))]) (fun k : Nat => [(0, (74, cCur o (cluTo ⟨(clu0 c).1, (cluN c).2⟩ k).c)), (3, (31, [val (vI (cluTo ⟨(clu0 c).1, (cluN c).2⟩ k).x.Query.Id), val (vI (cluTo ⟨(clu0 c).1, (cluN c).2⟩ k).x.Query.Tenant), sl (.own 79 3) ((cluTo ⟨(clu0 c).1, (cluN c).2⟩ k).x.Query.Conds.map cCond), sl (.own 3 1) ((cluTo ⟨(clu0 c).1, (cluN c).2⟩ k).x.Query.Out.map cInt), sl (.own 36 1) ((cluTo ⟨(clu0 c).1, (cluN c).2⟩ k).x.Parts.map (cRowS (.own 63 2) (.own 3 1))), sl (.own 4 1) ((cluTo ⟨(clu0 c).1, (cluN c).2⟩ k).x.Up.map cBool), sl (.own 3 1) ((cluTo ⟨(clu0 c).1, (cluN c).2⟩ k).x.At.map cInt), sl (.own 3 1) ((cluTo ⟨(clu0 c).1, (cluN c).2⟩ k).x.Pos.map cInt), sl (.own 36 1) ((cluTo ⟨(clu0 c).1, (cluN c).2⟩ k).x.Buffer.map (cRowS (.own 63 2) (.own 3 1))), sl (.own 3 1) ((cluTo ⟨(clu0 c).1, (cluN c).2⟩ k).x.Done.map cInt), sl (.own 36 1) ((cluTo ⟨(clu0 c).1, (cluN c).2⟩ k).x.Rows.map (cRowS (.own 63 2) (.own 3 1)))]))]) (fun k : Nat => ((cluN c).1 - (k : Int)).toNat) 0 (by omega) (by exact aI (by exact int_eq (by omega)) (tI)) (by exact aI (by exact rfl) (aI (by exact rfl) (tI))) ?_
 rintro k hk
 have hcg := cluTo_ok (s := ⟨(clu0 c).1, (cluN c).2⟩) (clu0_ok c) k
 have hcw := hcg.wt
 refine zbc ?_
 refine sc (fun hba => ?_) (fun hba => ?_)
 have hlt : (k : Int) < (cluN c).1 := by omega
 refine zau ?_
 refine zjs ?_
 refine zb5 ?_
 refine rS ?_
 refine sS [0, 2, 3, 4, 5, 6, 5000] [0, 2, 3] ?_
 refine rA ?_ (x := lD [val _, val _, sl .v _, sl .v _, sl .v _, sl .v _, sl .v _, sl .v _, sl .v _, sl .v _, sl .v _] ty_31)
 refine zjh ?_
 refine sO [(0, _), (2, _), (3, _), (4, _), (5, _), (6, _), (7, _), (5000, _)] [(0, _), (2, _), (3, _), (7, (31, [val _, val _, sl _ _, sl _ _, sl _ _, sl _ _, sl _ _, sl _ _, sl _ _, sl _ _, sl _ _]))] ?_
 refine sw_reg ?_
 refine zb5 ?_
 refine sw_block ?_
 refine sS [0, 2, 3, 4, 5, 6, 7, 29, 5000] [0, 2, 3, 7] ?_
 refine rA ?_ (x := B_eql)
 refine rS ?_
 refine sc (fun hbb => ?_) (fun hbb => ?_)
 have hcn := cluNext_0 (s := (cluTo ⟨(clu0 c).1, (cluN c).2⟩ k)) hbb
 refine zjt ?_
 refine rA ?_ (x := cL [(true, [val _, val _, sl _ _, sl _ _, sl _ _, sl _ _, sl _ _, sl _ _, sl _ _, sl _ _, sl _ _]), (false, [val _])] [(true, [val _, val _, sl .v _, sl .v _, sl .v _, sl .v _, sl .v _, sl .v _, sl .v _, sl .v _, sl .v _]), (false, [val _])] c_24 (hs := by exact spec_FailNode (by omega)))
 exact zju
 have h0_ := hbb
 refine sS [0, 2, 3, 4, 5, 6, 7, 29, 5000] [0, 2, 3, 7] ?_
 refine rA ?_ (x := B_eql)
 refine rS ?_
 refine sc (fun hbc => ?_) (fun hbc => ?_)
 have hcn := cluNext_1 (s := (cluTo ⟨(clu0 c).1, (cluN c).2⟩ k)) h0_ hbc
 refine zjt ?_
 refine rA ?_ (x := cL [(true, [val _, val _, sl _ _, sl _ _, sl _ _, sl _ _, sl _ _, sl _ _, sl _ _, sl _ _, sl _ _]), (false, [val _])] [(true, [val _, val _, sl .v _, sl .v _, sl .v _, sl .v _, sl .v _, sl .v _, sl .v _, sl .v _, sl .v _]), (false, [val _])] c_26 (hs := by exact spec_RecoverNode (by omega)))
 exact zju
 have hcn := cluNext_2 (s := (cluTo ⟨(clu0 c).1, (cluN c).2⟩ k)) h0_ hbc
 refine zjt ?_
 refine rA ?_ (x := cL [(true, [val _, val _, sl _ _, sl _ _, sl _ _, sl _ _, sl _ _, sl _ _, sl _ _, sl _ _, sl _ _]), (false, [val _])] [(true, [val _, val _, sl .v _, sl .v _, sl .v _, sl .v _, sl .v _, sl .v _, sl .v _, sl .v _, sl .v _]), (false, [val _])] c_20 (hs := by exact spec_StepNode (by omega)))
 exact zju
 have hend : (cluN c).1.toNat = k := by omega
 refine zay ?_
 refine zjs ?_
 refine zia ?_
 refine sw_ret ?_
 exact ⟨(by unfold cluC; rw [hend]; exact rfl), rfl, (Exists.intro 2 (Exists.intro _ (aI (by exact rfl) (aI (by refine box_eq ?_; unfold cluC; rw [hend]; exact rfl) (aI ty_31 (aI (fun h => nomatch h) tI))))))⟩
theorem x_l18Any {c : Cur}  : XCall Tryz.prog 32 74 (cCur .v c) (cCur .v (anyClu c).2) [] (resRV [(true, [val (vI (anyClu c).1.Query.Id), val (vI (anyClu c).1.Query.Tenant), sl (.own 79 3) ((anyClu c).1.Query.Conds.map cCond), sl (.own 3 1) ((anyClu c).1.Query.Out.map cInt), sl (.own 36 1) ((anyClu c).1.Parts.map (cRowS (.own 63 2) (.own 3 1))), sl (.own 4 1) ((anyClu c).1.Up.map cBool), sl (.own 3 1) ((anyClu c).1.At.map cInt), sl (.own 3 1) ((anyClu c).1.Pos.map cInt), sl (.own 36 1) ((anyClu c).1.Buffer.map (cRowS (.own 63 2) (.own 3 1))), sl (.own 3 1) ((anyClu c).1.Done.map cInt), sl (.own 36 1) ((anyClu c).1.Rows.map (cRowS (.own 63 2) (.own 3 1)))])]) := by
 refine xcall_of (rs := [(true, [val (vI (anyClu c).1.Query.Id), val (vI (anyClu c).1.Query.Tenant), sl (.own 79 3) ((anyClu c).1.Query.Conds.map cCond), sl (.own 3 1) ((anyClu c).1.Query.Out.map cInt), sl (.own 36 1) ((anyClu c).1.Parts.map (cRowS (.own 63 2) (.own 3 1))), sl (.own 4 1) ((anyClu c).1.Up.map cBool), sl (.own 3 1) ((anyClu c).1.At.map cInt), sl (.own 3 1) ((anyClu c).1.Pos.map cInt), sl (.own 36 1) ((anyClu c).1.Buffer.map (cRowS (.own 63 2) (.own 3 1))), sl (.own 3 1) ((anyClu c).1.Done.map cInt), sl (.own 36 1) ((anyClu c).1.Rows.map (cRowS (.own 63 2) (.own 3 1)))])]) Tryz.func32 rfl (nl rfl) (nl rfl) ?_
 intro g_ h0 w0 Fz0
 refine sw_lowB (fun L => [(0, RV.ptr 0 0), (5000, RV.phi 0 g_)]) (fun L => [(0, (74, [sl (.lo L) (c.b.map cU8), val (vI (c.i : Int)), val (vI c.h)]))]) (fun L => by exact (LowS.cons LowR.ptr (LowS.cons LowR.phi tI))) (fun L => by exact (LowB1.cons (ToBL.cons (PV.tob_map (fun _ => nl rfl) (fun _ => (ToBL.cons PV.tob_refl ToBL.nil))) (ToBL.cons PV.tob_refl (ToBL.cons PV.tob_refl ToBL.nil))) (BorL.cons (bor_lo _ _) (BorL.cons (bor_val _) (BorL.cons (bor_val _) BorL.nil))) tI)) fun Bl w0 Fz0 => ?_
 have hcg := cluC_ok c
 have hA2 := hcg.at_
 have hA0 : 0 < (cluC c).x.At.length := by omega
 have hD8 := hcg.done
 have hP4 := hcg.parts
 refine sR ?_
 refine zhs ?_
 refine sO [(0, _), (2, _), (5000, _)] [(0, (74, [sl (.lo _) _, val _, val _])), (2, (31, [val _, val _, sl _ _, sl _ _, sl _ _, sl _ _, sl _ _, sl _ _, sl _ _, sl _ _, sl _ _]))] ?_
 refine zac ?_
 refine rA ?_ (x := loc_xcall0 (bx := 0) (qs := []) (as_ := []) (by decide) c_67 rfl (by exact ⟨⟩) (by exact ⟨⟩) (by exact (BorL.cons (bor_lo _ _) (BorL.cons (bor_val _) (BorL.cons (bor_val _) BorL.nil)))) (by exact borA_nil) (by exact (x_l18Cluster (fun es => bor_lo _ es))))
 refine zjh ?_
 refine sO [(0, _), (2, _), (3, _), (5000, _)] [(0, _), (2, _), (3, (31, [val _, val _, sl _ _, sl _ _, sl _ _, sl _ _, sl _ _, sl _ _, sl _ _, sl _ _, sl _ _]))] ?_
 refine sw_reg ?_
 refine zb0 ?_
 refine sw_block ?_
 refine zjv ?_
 refine sc (fun hba => ?_) (fun hba => ?_)
 have hr := anyClu_0 (c := c) hba
 refine sP [0, 2, 3, 7, 5000] [0, 2, 3] ?_
 refine zgt ?_
 refine dA 1 ?_ (x := loc_ltake (ms := [sl _ _]) (qs := [sl .v _]) (by decide) ty_25 (fun _ => rfl) (by exact nl rfl) (by exact rfl) (by exact (ToL.cons PV.to_none ToL.nil)) (by exact (BorL.cons (bor_sl _) BorL.nil)))
 refine zjw ?_
 refine dA 12 ?_ (x := loc_bslice (qs := [(false, [val _])]) (by decide) sl_25 z_3 (by decide) rfl rfl rfl rfl rfl (by exact nl rfl) (by exact (aI (by exact ⟨⟩) tI)) rfl)
 refine dA 31 ?_ (x := loc_append (by decide) sl_25 z_3 rfl rfl (by decide) rfl (by simp only [List.length_map, List.length_append, List.length_cons, List.length_nil]; omega) (by simp only [List.length_map, List.length_append, List.length_cons, List.length_nil]; omega))
 refine dA 63 ?_ (x := lF fd_31_6)
 refine dA 127 ?_ (x := loc_store (ag := false) (vs := [sl _ _]) ty_25 (by exact ⟨⟩) (by exact rfl) (by exact nl rfl))
 exact zjx
 have h0_ := hba
 refine zjv ?_
 refine sc (fun hbb => ?_) (fun hbb => ?_)
 have hr := anyClu_1 (c := c) h0_ hbb
 refine sP [0, 2, 3, 7, 5000] [0, 2, 3] ?_
 refine sw_thawB (d := 3) (t := 31) (D := 900) (G := 2900) (E := 3) (e := 1) (L := Bl) (A := [val _, val _, sl _ _, sl _ _, sl _ _, sl _ _]) (B := [sl _ _, sl _ _, sl _ _, sl _ _]) (es := ((cluC c).x.At).map cInt) (by exact rfl) (map_ne hA0) (by exact rfl) (by exact rfl) rfl (by exact rfl) (fun x hx => hx) (by exact (aI RV.lcl_ptr (aI RV.lcl_ptr (aI RV.lcl_ptr (aI (RV.lcl_sv (LclC.cons lcl_val LclC.nil)) (aI RV.lcl_phi tI)))))) (by exact (aI (.inr (LclC.cons (lcl_lo (LclRC.map fun x => (LclRC.cons PV.lclr_val LclRC.nil))) (LclC.cons lcl_val (LclC.cons lcl_val LclC.nil)))) (aI (.inr (LclC.cons lcl_val (LclC.cons lcl_val (LclC.cons (lcl_own (by first | exact (LclC.map fun x => (LclC.cons lcl_val (LclC.cons lcl_val (LclC.cons lcl_val LclC.nil)))) | exact (fun cs h => nomatch h))) (LclC.cons (lcl_own (by first | exact (LclC.map fun x => (LclC.cons lcl_val LclC.nil)) | exact (fun cs h => nomatch h))) (LclC.cons (lcl_own (by first | exact (LclC.map fun x => (LclC.cons (lcl_own (LclC.map fun x => (LclC.cons lcl_val (LclC.cons (lcl_own (LclC.map fun x => (LclC.cons lcl_val LclC.nil))) LclC.nil)))) LclC.nil)) | exact (fun cs h => nomatch h))) (LclC.cons (lcl_own (by first | exact (LclC.map fun x => (LclC.cons lcl_val LclC.nil)) | exact (fun cs h => nomatch h))) (LclC.cons (lcl_own (by first | exact (LclC.map fun x => (LclC.cons lcl_val LclC.nil)) | exact (fun cs h => nomatch h))) (LclC.cons (lcl_own (by first | exact (LclC.map fun x => (LclC.cons lcl_val LclC.nil)) | exact (fun cs h => nomatch h))) (LclC.cons (lcl_own (by first | exact (LclC.map fun x => (LclC.cons (lcl_own (LclC.map fun x => (LclC.cons lcl_val (LclC.cons (lcl_own (LclC.map fun x => (LclC.cons lcl_val LclC.nil))) LclC.nil)))) LclC.nil)) | exact (fun cs h => nomatch h))) (LclC.cons (lcl_own (by first | exact (LclC.map fun x => (LclC.cons lcl_val LclC.nil)) | exact (fun cs h => nomatch h))) (LclC.cons (lcl_own (by first | exact (LclC.map fun x => (LclC.cons (lcl_own (LclC.map fun x => (LclC.cons lcl_val (LclC.cons (lcl_own (LclC.map fun x => (LclC.cons lcl_val LclC.nil))) LclC.nil)))) LclC.nil)) | exact (fun cs h => nomatch h))) LclC.nil)))))))))))) (aI (.inl rfl) tI)))) (by exact (LclC.cons lcl_val (LclC.cons lcl_val (LclC.cons (lcl_own (by first | exact (LclC.map fun x => (LclC.cons lcl_val (LclC.cons lcl_val (LclC.cons lcl_val LclC.nil)))) | exact (fun cs h => nomatch h))) (LclC.cons (lcl_own (by first | exact (LclC.map fun x => (LclC.cons lcl_val LclC.nil)) | exact (fun cs h => nomatch h))) (LclC.cons (lcl_own (by first | exact (LclC.map fun x => (LclC.cons (lcl_own (LclC.map fun x => (LclC.cons lcl_val (LclC.cons (lcl_own (LclC.map fun x => (LclC.cons lcl_val LclC.nil))) LclC.nil)))) LclC.nil)) | exact (fun cs h => nomatch h))) (LclC.cons (lcl_own (by first | exact (LclC.map fun x => (LclC.cons lcl_val LclC.nil)) | exact (fun cs h => nomatch h))) LclC.nil))))))) (by exact (LclC.cons (lcl_own (by first | exact (LclC.map fun x => (LclC.cons lcl_val LclC.nil)) | exact (fun cs h => nomatch h))) (LclC.cons (lcl_own (by first | exact (LclC.map fun x => (LclC.cons (lcl_own (LclC.map fun x => (LclC.cons lcl_val (LclC.cons (lcl_own (LclC.map fun x => (LclC.cons lcl_val LclC.nil))) LclC.nil)))) LclC.nil)) | exact (fun cs h => nomatch h))) (LclC.cons (lcl_own (by first | exact (LclC.map fun x => (LclC.cons lcl_val LclC.nil)) | exact (fun cs h => nomatch h))) (LclC.cons (lcl_own (by first | exact (LclC.map fun x => (LclC.cons (lcl_own (LclC.map fun x => (LclC.cons lcl_val (LclC.cons (lcl_own (LclC.map fun x => (LclC.cons lcl_val LclC.nil))) LclC.nil)))) LclC.nil)) | exact (fun cs h => nomatch h))) LclC.nil))))) (LclC.map fun x => (LclC.cons lcl_val LclC.nil)) fun uu900 cp900 jk900 hlD900 hcp900 hjk900 => ?_
 rw [List.length_map] at hlD900 hcp900 hjk900
 refine sw_boxEq (d := 900) (by exact rfl) (at_split (k := 0) hA0) ?_
 have hA900 := at_len (f := cInt) (e := 1) (xs := (cluC c).x.At) (k := 0) (fun _ => rfl) (Nat.le_of_lt hA0)
 refine sO [(0, _), (2, _), (3, _), (7, _), (2900, _), (5000, _)] [(0, _), (2, _), (3, (31, [val _, val _, sl _ _, sl _ _, sl _ _, sl _ _, val _, sl _ _, sl _ _, sl _ _, sl _ _])), (900, (3, _ ++ ([val _] ++ _)))] ?_
 refine zh0 ?_
 refine dA 1 ?_ (x := lD [val _] ty_25)
 refine zjw ?_
 refine dA 15 ?_ (x := loc_gidx (k := 0) (G := 2900) (by decide) sl_25 (ok_sc rfl) (by rfl) (by first | (rw [List.length_map]; exact hA0) | exact hA0))
 refine dA 31 ?_ (x := loc_storeM (o := 0) (ag := false) (vs := [val _]) (by omega) ty_3 (by exact ⟨⟩) (by exact rfl) (by exact nl rfl))
 refine sw_boxEq (d := 900) (by exact rfl) (at_join ((belowC (anyM c).2 4).1) hA0 (by exact rfl)) ?_
 refine sw_frzIn (d := 3) (D := 900) (G := 2900) (A := [val _, val _, sl _ _, sl _ _, sl _ _, sl _ _]) (B := [sl _ _, sl _ _, sl _ _, sl _ _]) (es := (((cluC c).x.At).set 0 ((belowC (anyM c).2 4).1)).map cInt) (by exact rfl) (by exact rfl) (by exact rfl) rfl (by rw [List.length_map, List.length_set, List.length_map]) (by intro c hc; obtain ⟨y, _, rfl⟩ := List.mem_map.1 hc; exact rfl) (by rw [List.length_map]; exact hjk900) ?_
 exact zjx
 have h1_ := hbb
 refine zjv ?_
 refine sc (fun hbc => ?_) (fun hbc => ?_)
 have hr := anyClu_2 (c := c) h0_ h1_ hbc
 refine sP [0, 2, 3, 7, 5000] [0, 2, 3] ?_
 refine sw_boxO (d := 0) [sl .v _, val _, val _] (by exact rfl) (by exact (OwnTo.cons OTo.lo (OwnTo.cons OTo.refl (OwnTo.cons OTo.refl OwnTo.nil)))) ?_
 refine sO [(0, _), (2, _), (3, _), (7, _), (5000, _)] [(0, (74, [sl _ _, val _, val _])), (2, _), (3, _)] ?_
 refine sw_draw hm_ ?_
 refine dA 0 ?_ (x := lF fd_31_1)
 refine dA 1 ?_ (x := loc_ltake (ms := [sl _ _]) (qs := [sl .v _]) (by decide) ty_28 (fun _ => rfl) (by exact nl rfl) (by exact rfl) (by exact (ToL.cons PV.to_none ToL.nil)) (by exact (BorL.cons (bor_sl _) BorL.nil)))
 refine dA 0 ?_ (x := cM Cp.ptr)
 refine dA 4 ?_ (x := loc_xcall0 (bx := 0) (qs := []) (as_ := []) (by decide) c_68 rfl (by exact ⟨⟩) (by exact ⟨⟩) (by exact (BorL.cons (bor_sl _) (BorL.cons (bor_val _) (BorL.cons (bor_val _) BorL.nil)))) (by exact borA_nil) (by exact x_l3Any))
 refine dA 12 ?_ (x := loc_bslice (qs := [(true, [val _, sl _ _])]) (by decide) sl_36 z_63 (by decide) rfl rfl rfl rfl rfl (by exact nl rfl) (by exact (aI (by exact ⟨⟩) tI)) rfl)
 refine dA 28 ?_ (x := loc_bslice (qs := [(false, [sl _ _])]) (by decide) sl_28 z_36 (by decide) rfl rfl rfl rfl rfl (by exact nl rfl) (by exact (aI (by exact ⟨⟩) tI)) rfl)
 refine dA 63 ?_ (x := loc_append (by decide) sl_28 z_36 rfl rfl (by decide) rfl (by simp only [List.length_map, List.length_append, List.length_cons, List.length_nil]; omega) (by simp only [List.length_map, List.length_append, List.length_cons, List.length_nil]; omega))
 refine dA 127 ?_ (x := lF fd_31_1)
 refine dA 255 ?_ (x := loc_store (ag := false) (vs := [sl _ _]) ty_28 (by exact ⟨⟩) (by exact rfl) (by exact nl rfl))
 refine zjy ?_
 refine sw_reg ?_
 refine zia ?_
 exact zjz
 have hr := anyClu_3 (c := c) h0_ h1_ hbc
 refine sw_skip ?_
 refine sS [0, 2, 3, 7, 5000] [0, 2, 3] ?_
 exact zk0
end Go.Proofs.YtmkhofdkdklpdaaGreat
