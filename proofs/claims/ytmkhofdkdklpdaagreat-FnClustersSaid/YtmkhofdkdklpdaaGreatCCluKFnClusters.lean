/- What functions of the program compute. No condition. -/
import Derived.Test.YtmkhofdkdklpdaaGreatCZMFnClusters
import Derived.Test.YtmkhofdkdklpdaaGreatCFcFnClusters
import Derived.Test.YtmkhofdkdklpdaaGreatCCluJFnClusters
import Derived.Test.YtmkhofdkdklpdaaGreatCDu
import Derived.KernelRfl
set_option linter.unusedVariables false
set_option linter.unusedSimpArgs false
namespace Go.Proofs.YtmkhofdkdklpdaaGreat
open Go Go.RowKit M PV
set_option maxRecDepth 10000
attribute [local irreducible] PV.Lcl PV.LclR RV.Lcl
theorem impl_FinishCluster {p3 p4 p9 p10 p13 p14 : Fl} {c : Cluster}  (hb : wtCluster c ≤ 1048576) : SCall Tryz.prog 7 [(true, [val (vI c.Query.Id), val (vI c.Query.Tenant), sl .v (c.Query.Conds.map cCond), sl .v (c.Query.Out.map cInt), sl .v (c.Parts.map (cRowS p3 p4)), sl .v (c.Up.map cBool), sl .v (c.At.map cInt), sl .v (c.Pos.map cInt), sl .v (c.Buffer.map (cRowS p9 p10)), sl .v (c.Done.map cInt), sl .v (c.Rows.map (cRowS p13 p14))])] (resRV [(true, [val (vI (finC c).Query.Id), val (vI (finC c).Query.Tenant), sl (.own 79 3) ((finC c).Query.Conds.map cCond), sl (.own 3 1) ((finC c).Query.Out.map cInt), sl (.own 36 1) ((finC c).Parts.map (cRowS (.own 63 2) (.own 3 1))), sl (.own 4 1) ((finC c).Up.map cBool), sl (.own 3 1) ((finC c).At.map cInt), sl (.own 3 1) ((finC c).Pos.map cInt), sl (.own 36 1) ((finC c).Buffer.map (cRowS (.own 63 2) (.own 3 1))), sl (.own 3 1) ((finC c).Done.map cInt), sl (.own 36 1) ((finC c).Rows.map (cRowS (.own 63 2) (.own 3 1)))])]) := by
 refine sF Tryz.func7 fun h0 w0 Fz0 => ?_
 refine sn 0 2 fun hl0_2 => ?_
 refine sn 0 3 fun hl0_3 => ?_
 refine sn 0 4 fun hl0_4 => ?_
 refine sn 0 5 fun hl0_5 => ?_
 refine sn 0 6 fun hl0_6 => ?_
 refine sn 0 7 fun hl0_7 => ?_
 refine sn 0 8 fun hl0_8 => ?_
 refine sn 0 9 fun hl0_9 => ?_
 refine sn 0 10 fun hl0_10 => ?_
 have hbu := hb
 simp only [wtCluster, wtInt, wtIntS_len] at hbu
 refine zen ?_
 refine rX ?_ (x := (loc_alloc (by decide) z_31 zo_31))
 refine zl0 ?_
 refine rA ?_ (x := cL [(true, [val _, val _, sl _ _, sl _ _, sl _ _, sl _ _, sl _ _, sl _ _, sl _ _, sl _ _, sl _ _])] [(true, [val _, val _, sl .v _, sl .v _, sl .v _, sl .v _, sl .v _, sl .v _, sl .v _, sl .v _, sl .v _])] c_34 (hs := by exact impl_copyCluster (by omega)))
 refine zjh ?_
 refine zl1 ?_
 refine zas ?_
 refine zl2 ?_
 rintro ⟨k, x⟩ ⟨hk, hf, hp, hw⟩
 dsimp only at hk hf hp hw
 have hwu := hw
 simp only [wtCluster, wtInt, wtIntS_len] at hwu
 have hux : (k, x).2.Up.length = x.Up.length := rfl
 refine zat ?_
 refine rM ?_
 refine cx 9 (fun ga sga => ?_) (fun ga sga => ?_)
 refine rB ga ?_ (x := lD [val _, val _, sl .v _, sl .v _, sl .v _, sl .v _, sl .v _, sl .v _, sl .v _, sl .v _, sl .v _] ty_31)
 refine rB ga ?_ (x := cL [(true, [val _, val _, sl _ _, sl _ _, sl _ _, sl _ _, sl _ _, sl _ _, sl _ _, sl _ _, sl _ _])] [(true, [val _, val _, sl .v _, sl .v _, sl .v _, sl .v _, sl .v _, sl .v _, sl .v _, sl .v _, sl .v _])] c_10 (hs := by exact (impl_IsCluster (c := x) (by omega))))
 refine zdi ?_
 refine cx 13 (fun gb sgb => ?_) (fun gb sgb => ?_)
 refine zg9 ?_
 refine rB gb ?_ (x := lN sl_25)
 refine rB gb ?_ (x := lF fd_31_1)
 refine rB gb ?_ (x := lD [sl .v _] ty_28)
 refine rB gb ?_ (x := lN sl_28)
 refine zl3 ?_
 refine sc (fun hba => ?_) (fun hba => ?_)
 have hlt : k < 400 := by omega
 have hgo : goOn x = true := by unfold goOn; simp_all
 have hcl : isCl x = true := by unfold goOn at hgo; simp only [Bool.and_eq_true] at hgo; exact hgo.1
 have hl := clLen hcl
 refine za6 ?_
 refine sQ [1, 2, 3, 4] [1, 2, 3] ?_
 refine sw_split (c := 6) (AI := []) hm_ rfl rfl rfl rfl (by kernel_rfl) (fun j L h => nomatch h) (fun j L h => nomatch h) ?_
 refine zl4 ?_
 refine dX 0 ?_ (x := (loc_field (by decide) fd_31_2))
 refine zl5 ?_
 refine mid_call (G := 2000) (qs := [(true, [val _, val _, sl _ _, sl _ _, sl _ _, sl _ _, sl _ _, sl _ _, sl _ _, sl _ _, sl _ _]), (false, [val _])]) (as_ := [(true, [val _, val _, sl .v _, sl .v _, sl .v _, sl .v _, sl .v _, sl .v _, sl .v _, sl .v _, sl .v _]), (false, [val _])]) (by decide) c_19 (by exact ⟨rfl, rfl, ⟨⟩⟩) (by exact (aI (by exact ⟨⟩) (aI (by exact ⟨⟩) tI))) (by exact (aI (aI rfl (ToL.cons (PV.To.refl _) (ToL.cons (PV.To.refl _) (ToL.cons PV.to_none (ToL.cons PV.to_none (ToL.cons PV.to_none (ToL.cons PV.to_none (ToL.cons PV.to_none (ToL.cons PV.to_none (ToL.cons PV.to_none (ToL.cons PV.to_none (ToL.cons PV.to_none ToL.nil)))))))))))) (aI (aI rfl (ToL.cons (PV.To.refl _) ToL.nil)) tI))) (by exact (impl_StepNode (c := x) (by omega))) (by kernel_rfl) (by kernel_rfl) fun uss hU0 => ?_
 obtain ⟨us0, r0, rfl, hl0, hR0, hU1⟩ := RelU.cons hU0
 obtain ⟨u4_0_0, u4_0_1, u4_0_2, u4_0_3, u4_0_4, u4_0_5, u4_0_6, u4_0_7, u4_0_8, u4_0_9, u4_0_10, rfl⟩ := us_11 hl0
 obtain rfl := relval hR0 (j := 0) rfl rfl
 obtain rfl := relval hR0 (j := 1) rfl rfl
 obtain ⟨us1, r1, rfl, hl1, hR1, hU2⟩ := RelU.cons hU1
 obtain ⟨u4_1_0, rfl⟩ := us_1 hl1
 obtain rfl := relval hR1 (j := 0) rfl rfl
 obtain rfl := RelU.nil hU2
 clear hR0 hU0 hR1 hU1 hU2
 refine zl6 ?_
 refine Run.stepC 511 (by exact ⟨rfl, rfl, ⟨⟩⟩) (by exact ⟨rfl, ⟨⟩⟩) (LocG.of rfl (loc_store (ag := true) (vs := [val _, val _, val _, val _, val _, val _, val _, val _, val _, val _, val _]) ty_31 (by exact ⟨⟩) (by exact rfl) (by exact nl rfl))) nofree (by kernel_rfl) (by intro L' h; exact nomatch (show (none : Option Step) = some L' from h)) ?_
 refine sw_backB (d := 3) (G := 2000) (by exact rfl) (by exact (Nm.val (Nm.val (Nm.val (Nm.val (Nm.val (Nm.val (Nm.val (Nm.val (Nm.val (Nm.val (Nm.val Nm.nil)))))))))))) (by exact rfl) ?_
 refine sO [(1, _), (2, _), (3, _), (4, _)] [(1, _), (2, _), (3, (31, [val _, val _, sl _ _, sl _ _, sl _ _, sl _ _, sl _ _, sl _ _, sl _ _, sl _ _, sl _ _]))] ?_
 exact zl7
 exact zl8
 exact zl9
 refine zdn ?_
 refine RunS.cases (s := 13) rfl (fun g6 => nomatch g6) (fun g6 => ?_)
 exact zla
theorem spec_FinishCluster {p3 p4 p9 p10 p13 p14 : Fl} {c : Cluster}  (hb : wtCluster c ≤ 1048576) : SCall Tryz.prog 9 [(true, [val (vI c.Query.Id), val (vI c.Query.Tenant), sl .v (c.Query.Conds.map cCond), sl .v (c.Query.Out.map cInt), sl .v (c.Parts.map (cRowS p3 p4)), sl .v (c.Up.map cBool), sl .v (c.At.map cInt), sl .v (c.Pos.map cInt), sl .v (c.Buffer.map (cRowS p9 p10)), sl .v (c.Done.map cInt), sl .v (c.Rows.map (cRowS p13 p14))])] (resRV [(true, [val (vI (finC c).Query.Id), val (vI (finC c).Query.Tenant), sl (.own 79 3) ((finC c).Query.Conds.map cCond), sl (.own 3 1) ((finC c).Query.Out.map cInt), sl (.own 36 1) ((finC c).Parts.map (cRowS (.own 63 2) (.own 3 1))), sl (.own 4 1) ((finC c).Up.map cBool), sl (.own 3 1) ((finC c).At.map cInt), sl (.own 3 1) ((finC c).Pos.map cInt), sl (.own 36 1) ((finC c).Buffer.map (cRowS (.own 63 2) (.own 3 1))), sl (.own 3 1) ((finC c).Done.map cInt), sl (.own 36 1) ((finC c).Rows.map (cRowS (.own 63 2) (.own 3 1)))])]) := by
 refine sF Tryz.func9 fun h0 w0 Fz0 => ?_
 refine sn 0 2 fun hl0_2 => ?_
 refine sn 0 3 fun hl0_3 => ?_
 refine sn 0 4 fun hl0_4 => ?_
 refine sn 0 5 fun hl0_5 => ?_
 refine sn 0 6 fun hl0_6 => ?_
 refine sn 0 7 fun hl0_7 => ?_
 refine sn 0 8 fun hl0_8 => ?_
 refine sn 0 9 fun hl0_9 => ?_
 refine sn 0 10 fun hl0_10 => ?_
 have hbu := hb
 simp only [wtCluster, wtInt, wtIntS_len] at hbu
 refine zen ?_
 refine rX ?_ (x := (loc_alloc (by decide) z_31 zo_31))
 refine zl0 ?_
 refine rA ?_ (x := cL [(true, [val _, val _, sl _ _, sl _ _, sl _ _, sl _ _, sl _ _, sl _ _, sl _ _, sl _ _, sl _ _])] [(true, [val _, val _, sl .v _, sl .v _, sl .v _, sl .v _, sl .v _, sl .v _, sl .v _, sl .v _, sl .v _])] c_38 (hs := by exact spec_l18Copy (by omega)))
 refine zjh ?_
 refine zl1 ?_
 refine zas ?_
 refine zl2 ?_
 rintro ⟨k, x⟩ ⟨hk, hf, hp, hw⟩
 dsimp only at hk hf hp hw
 have hwu := hw
 simp only [wtCluster, wtInt, wtIntS_len] at hwu
 have hux : (k, x).2.Up.length = x.Up.length := rfl
 refine zat ?_
 refine rM ?_
 refine cx 11 (fun ga sga => ?_) (fun ga sga => ?_)
 refine rB ga ?_ (x := lD [val _, val _, sl .v _, sl .v _, sl .v _, sl .v _, sl .v _, sl .v _, sl .v _, sl .v _, sl .v _] ty_31)
 refine rB ga ?_ (x := cL [(true, [val _, val _, sl _ _, sl _ _, sl _ _, sl _ _, sl _ _, sl _ _, sl _ _, sl _ _, sl _ _])] [(true, [val _, val _, sl .v _, sl .v _, sl .v _, sl .v _, sl .v _, sl .v _, sl .v _, sl .v _, sl .v _])] c_11 (hs := by exact (spec_IsCluster (c := x) (by omega))))
 refine zdi ?_
 refine cx 15 (fun gb sgb => ?_) (fun gb sgb => ?_)
 refine zg9 ?_
 refine rB gb ?_ (x := lN sl_25)
 refine rB gb ?_ (x := lF fd_31_1)
 refine rB gb ?_ (x := lD [sl .v _] ty_28)
 refine rB gb ?_ (x := lN sl_28)
 refine zl3 ?_
 refine sc (fun hba => ?_) (fun hba => ?_)
 have hlt : k < 400 := by omega
 have hgo : goOn x = true := by unfold goOn; simp_all
 have hcl : isCl x = true := by unfold goOn at hgo; simp only [Bool.and_eq_true] at hgo; exact hgo.1
 have hl := clLen hcl
 refine zau ?_
 refine sQ [1, 2, 3, 4] [1, 2, 3] ?_
 refine sw_split (c := 6) (AI := [(10, ⟨[], [], [(5, some (RV.ptr 5 0))], [(5, some (31, [val (.int .i64 0), val (.int .i64 0), sl (.own 79 3) [], sl (.own 3 1) [], sl (.own 36 1) [], sl (.own 4 1) [], sl (.own 3 1) [], sl (.own 3 1) [], sl (.own 36 1) [], sl (.own 3 1) [], sl (.own 36 1) []]))], some 5⟩)]) hm_ rfl rfl rfl rfl (by kernel_rfl) (fun j L h o ho => by have h := lk_mem h; simp only [List.mem_cons, List.not_mem_nil, or_false, Prod.mk.injEq] at h; obtain ⟨rfl, rfl⟩ := h; (· cases (show some ⟨some 5, .alloc 31, _, _, _, none⟩ = some o from ho); apply LocG.of rfl; exact loc_alloc (d := 5) (by decide) z_31 zo_31)) (fun j L h d hd => by have h := lk_mem h; simp only [List.mem_cons, List.not_mem_nil, or_false, Prod.mk.injEq] at h; obtain ⟨rfl, rfl⟩ := h; (· cases (show some _ = some d from hd); exact Free.of_ rfl)) ?_
 refine zl4 ?_
 refine dX 0 ?_ (x := (loc_field (by decide) fd_31_2))
 refine zl5 ?_
 refine mid_call (G := 2000) (qs := [(true, [val _, val _, sl _ _, sl _ _, sl _ _, sl _ _, sl _ _, sl _ _, sl _ _, sl _ _, sl _ _]), (false, [val _])]) (as_ := [(true, [val _, val _, sl .v _, sl .v _, sl .v _, sl .v _, sl .v _, sl .v _, sl .v _, sl .v _, sl .v _]), (false, [val _])]) (by decide) c_20 (by exact ⟨rfl, rfl, ⟨⟩⟩) (by exact (aI (by exact ⟨⟩) (aI (by exact ⟨⟩) tI))) (by exact (aI (aI rfl (ToL.cons (PV.To.refl _) (ToL.cons (PV.To.refl _) (ToL.cons PV.to_none (ToL.cons PV.to_none (ToL.cons PV.to_none (ToL.cons PV.to_none (ToL.cons PV.to_none (ToL.cons PV.to_none (ToL.cons PV.to_none (ToL.cons PV.to_none (ToL.cons PV.to_none ToL.nil)))))))))))) (aI (aI rfl (ToL.cons (PV.To.refl _) ToL.nil)) tI))) (by exact (spec_StepNode (c := x) (by omega))) (by kernel_rfl) (by kernel_rfl) fun uss hU0 => ?_
 obtain ⟨us0, r0, rfl, hl0, hR0, hU1⟩ := RelU.cons hU0
 obtain ⟨u4_0_0, u4_0_1, u4_0_2, u4_0_3, u4_0_4, u4_0_5, u4_0_6, u4_0_7, u4_0_8, u4_0_9, u4_0_10, rfl⟩ := us_11 hl0
 obtain rfl := relval hR0 (j := 0) rfl rfl
 obtain rfl := relval hR0 (j := 1) rfl rfl
 obtain ⟨us1, r1, rfl, hl1, hR1, hU2⟩ := RelU.cons hU1
 obtain ⟨u4_1_0, rfl⟩ := us_1 hl1
 obtain rfl := relval hR1 (j := 0) rfl rfl
 obtain rfl := RelU.nil hU2
 clear hR0 hU0 hR1 hU1 hU2
 refine zl6 ?_
 refine Run.stepC 0 (by exact ⟨⟩) (by exact ⟨⟩) (LocG.of rfl (loc_alloc (by decide) z_31 zo_31)) (free1 (Free.wr (Free.app (Free.app (Free.app (Free.app (Free.app (Free.app (Free.of_ rfl) rfl) rfl) rfl) rfl) rfl) rfl) rfl)) (by kernel_rfl) (by intro L' h; exact Option.some.inj (show some _ = some L' from h)) ?_
 refine Run.stepC 1535 (by exact ⟨rfl, rfl, ⟨⟩⟩) (by exact ⟨rfl, ⟨⟩⟩) (LocG.of rfl (loc_store (ag := true) (vs := [val _, val _, val _, val _, val _, val _, val _, val _, val _, val _, val _]) ty_31 (by exact ⟨⟩) (by exact rfl) (by exact nl rfl))) nofree (by kernel_rfl) (by intro L' h; exact nomatch (show (none : Option Step) = some L' from h)) ?_
 refine Run.stepC 4095 (by exact ⟨rfl, ⟨⟩⟩) (by exact ⟨⟩) (LocG.of rfl (loc_copy (.inr rfl) (by decide) (by exact Cp.sc))) nofree (by kernel_rfl) (by intro L' h; exact nomatch (show (none : Option Step) = some L' from h)) ?_
 refine sw_backB (d := 5) (G := 2000) (by exact rfl) (by exact (Nm.val (Nm.val (Nm.val (Nm.val (Nm.val (Nm.val (Nm.val (Nm.val (Nm.val (Nm.val (Nm.val Nm.nil)))))))))))) (by exact rfl) ?_
 refine sw_backS (s := 6) (G := 2001) (by exact rfl) (by exact (Nm.val Nm.nil)) rfl (by decide) (by exact rfl) ?_
 refine sO [(1, _), (2, _), (3, _), (4, _), (5, _), (6, _)] [(1, _), (2, _), (3, _), (5, (31, [val _, val _, sl _ _, sl _ _, sl _ _, sl _ _, sl _ _, sl _ _, sl _ _, sl _ _, sl _ _]))] ?_
 refine sw_reg ?_
 refine zia ?_
 refine sO [(1, _), (2, _), (3, _), (4, _), (5, _), (6, _)] [(1, _), (2, _), (3, (31, [val _, val _, sl _ _, sl _ _, sl _ _, sl _ _, sl _ _, sl _ _, sl _ _, sl _ _, sl _ _])), (5, (31, [val _, val _, sl _ _, sl _ _, sl _ _, sl _ _, sl _ _, sl _ _, sl _ _, sl _ _, sl _ _]))] ?_
 exact zl7
 exact zl8
 exact zl9
 refine zdn ?_
 refine RunS.cases (s := 15) rfl (fun g6 => nomatch g6) (fun g6 => ?_)
 exact zla
end Go.Proofs.YtmkhofdkdklpdaaGreat
