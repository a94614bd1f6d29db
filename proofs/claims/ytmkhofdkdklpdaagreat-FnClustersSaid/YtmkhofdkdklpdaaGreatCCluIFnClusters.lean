/- What functions of the program compute. No condition. -/
import Derived.Test.YtmkhofdkdklpdaaGreatCZMFnClusters
import Derived.Test.YtmkhofdkdklpdaaGreatCFcFnClusters
import Derived.Test.YtmkhofdkdklpdaaGreatCCluBFnClusters
import Derived.Test.YtmkhofdkdklpdaaGreatCCluGFnClusters
import Derived.Test.YtmkhofdkdklpdaaGreatCDp
import Derived.KernelRfl
set_option linter.unusedVariables false
set_option linter.unusedSimpArgs false
namespace Go.Proofs.YtmkhofdkdklpdaaGreat
open Go Go.RowKit M PV
set_option maxRecDepth 10000
attribute [local irreducible] PV.Lcl PV.LclR RV.Lcl
theorem FCluI_pl_31 : placesI Tryz.prog 31 = some [(0, 4), (4, 1), (5, 1), (6, 1), (7, 1), (8, 1), (9, 1), (10, 1)] := by kernel_rfl
theorem spec_NewCluster {p3 p4 : Fl} {q : Query} {l : List (List Row)} {n : Int}  (hb : wtQuery q ≤ 68719476736) (hb2 : wtRowSS l ≤ 68719476736) : SCall Tryz.prog 90 [(true, [val (vI q.Id), val (vI q.Tenant), sl .v (q.Conds.map cCond), sl .v (q.Out.map cInt)]), (false, [sl .v (l.map (cRowS p3 p4))]), (false, [val (vI n)])] (resRV [(true, [val (vI (newCluster q l n).1.Query.Id), val (vI (newCluster q l n).1.Query.Tenant), sl (.own 79 3) ((newCluster q l n).1.Query.Conds.map cCond), sl (.own 3 1) ((newCluster q l n).1.Query.Out.map cInt), sl (.own 36 1) ((newCluster q l n).1.Parts.map (cRowS (.own 63 2) (.own 3 1))), sl (.own 4 1) ((newCluster q l n).1.Up.map cBool), sl (.own 3 1) ((newCluster q l n).1.At.map cInt), sl (.own 3 1) ((newCluster q l n).1.Pos.map cInt), sl (.own 36 1) ((newCluster q l n).1.Buffer.map (cRowS (.own 63 2) (.own 3 1))), sl (.own 3 1) ((newCluster q l n).1.Done.map cInt), sl (.own 36 1) ((newCluster q l n).1.Rows.map (cRowS (.own 63 2) (.own 3 1)))]), (false, [val (.bool (newCluster q l n).2)])]) := by
 refine sF Tryz.func90 fun h0 w0 Fz0 => ?_
 refine sn 0 2 fun hl0_2 => ?_
 refine sn 0 3 fun hl0_3 => ?_
 refine sj 1 fun hl1 => ?_
 refine zdq ?_
 refine rX ?_ (x := (loc_alloc (by decide) z_31 zo_31))
 refine zby ?_
 refine sT [1, 2, 3, 6, 7] [3, 6] ?_
 refine rA ?_ (x := lD [val _, val _, sl .v _, sl .v _] ty_27)
 refine zgq ?_
 refine cx 14 (fun ga sga => ?_) (fun ga sga => ?_)
 refine zdz ?_
 refine RunS.cases (s := 19) rfl (fun g2 => ?_) (fun g2 => nomatch g2)
 refine ze0 ?_
 refine scT ?_
 exact zjg
 refine rB ga ?_ (x := vM false [sl .v _])
 refine zgr ?_
 refine cx 19 (fun gb sgb => ?_) (fun gb sgb => ?_)
 refine ze4 ?_
 exact zjg
 refine zgs ?_
 refine zfg ?_
 refine sc (fun hba => ?_) (fun hba => ?_)
 exact zjg
 have hok : (okQuery q && (okParts l && inB n 2 4)) = true := by simp_all
 have hr := new_yes hok
 have hn := new_in hok
 refine sw_skip ?_
 refine sS [1, 2, 3, 6, 7] [3, 6] ?_
 refine rA ?_ (x := lD [val _, val _, sl .v _, sl .v _] ty_27)
 refine rA ?_ (x := cL [(true, [val _, val _, sl _ _, sl _ _])] [(true, [val _, val _, sl .v _, sl .v _])] c_72 (hs := by exact spec_l6Query (by omega)))
 refine rA ?_ (x := vM false [sl .v _])
 refine rA ?_ (x := cL [(false, [sl _ _])] [(false, [sl .v _])] c_73 (hs := by exact spec_l18CopyParts (by omega)))
 refine rA ?_ (x := loc_build (qs := [(true, [val _, val _, sl _ _, sl _ _]), (false, [sl _ _])]) (cs := [val _, val _, sl _ _, sl _ _, sl _ _, sl _ _, sl _ _, sl _ _, sl _ _, sl _ _, sl _ _]) (by decide) z_31 zo_31 FCluI_pl_31 (by exact rfl) (by exact (aI (by exact ⟨⟩) (aI (by exact ⟨⟩) tI))) rfl (by exact rfl))
 refine zjh ?_
 refine sO [(1, _), (2, _), (3, _), (6, _), (7, _), (8, _)] [(3, _), (6, _), (8, (31, [val _, val _, sl _ _, sl _ _, sl _ _, sl _ _, sl _ _, sl _ _, sl _ _, sl _ _, sl _ _]))] ?_
 refine sw_reg ?_
 refine zas ?_
 refine sP [1, 2, 3, 6, 7, 8, 9] [3, 6, 8] ?_
 refine sL [1, 2, 3, 6, 7, 8] [3, 6] (fun k : Nat => k ≤ n.toNat) (fun k : Nat => [(9, RV.int (k : Int))]) (fun k : Nat => [(8, (31, [val (vI q.Id), val (vI q.Tenant), sl (.own 79 3) (q.Conds.map cCond), sl (.own 3 1) (q.Out.map cInt), sl (.own 36 1) (l.map (cRowS (.own 63 2) (.own 3 1))), sl (.own 4 1) (List.replicate k (cBool true)), sl (.own 3 1) (List.replicate k (cInt (-1))), sl (.own 3 1) (List.replicate k (cInt 0)), sl (.own 36 1) (List.replicate k [sl (.own 63 2) []]), sl (.own 3 1) [], sl (.own 36 1) (List.replicate 0 [sl (.own 63 2) []])]))]) (fun k : Nat => n.toNat - k) 0 (by omega) (by exact aI (by exact rfl) (tI)) (by exact aI (by exact rfl) (tI)) ?_
 rintro k hk
 refine zfo ?_
 refine sc (fun hbb => ?_) (fun hbb => ?_)
 have hlt : k < n.toNat := by omega
 refine za6 ?_
 refine sT [1, 2, 3, 6, 7, 8, 9] [3, 6, 8] ?_
 refine rA ?_ (x := lF fd_31_2)
 refine rA ?_ (x := loc_ltake (ms := [sl _ _]) (qs := [sl .v _]) (by decide) ty_29 (fun _ => rfl) (by exact nl rfl) (by exact rfl) (by exact (ToL.cons PV.to_none ToL.nil)) (by exact (BorL.cons (bor_sl _) BorL.nil)))
 refine rA ?_ (x := loc_bslice (qs := [(false, [val _])]) (by decide) sl_29 z_4 (by decide) rfl rfl rfl rfl rfl (by exact nl rfl) (by exact (aI (ok_sc rfl) tI)) rfl)
 refine rA ?_ (x := loc_append (by decide) sl_29 z_4 rfl rfl (by decide) rfl (by simp only [List.length_map, List.length_replicate, List.length_cons, List.length_nil]; omega) (by simp only [List.length_map, List.length_replicate, List.length_cons, List.length_nil]; omega))
 refine rA ?_ (x := lF fd_31_2)
 refine rA ?_ (x := loc_store (ag := false) (vs := [sl _ _]) ty_29 (by exact ⟨⟩) (by exact rfl) (by exact nl rfl))
 refine sw_seq ?_
 refine zji ?_
 refine rA ?_ (x := lF fd_31_3)
 refine zjj ?_
 refine rA ?_ (x := lF fd_31_3)
 refine rA ?_ (x := loc_store (ag := false) (vs := [sl _ _]) ty_25 (by exact ⟨⟩) (by exact rfl) (by exact nl rfl))
 refine sw_seq ?_
 refine zji ?_
 refine rA ?_ (x := lF fd_31_4)
 refine zjj ?_
 refine rA ?_ (x := lF fd_31_4)
 refine rA ?_ (x := loc_store (ag := false) (vs := [sl _ _]) ty_25 (by exact ⟨⟩) (by exact rfl) (by exact nl rfl))
 refine zji ?_
 refine rA ?_ (x := lF fd_31_5)
 refine zjk ?_
 refine zjl ?_
 refine rA ?_ (x := lF fd_31_5)
 refine rA ?_ (x := loc_store (ag := false) (vs := [sl _ _]) ty_28 (by exact ⟨⟩) (by exact rfl) (by exact nl rfl))
 refine sO [(1, _), (2, _), (3, _), (6, _), (7, _), (8, _), (9, _)] [(3, _), (6, _), (8, (31, [val _, val _, sl _ _, sl _ _, sl _ _, sl _ _, sl _ _, sl _ _, sl _ _, sl _ _, sl _ _]))] ?_
 exact zjm
 have hke : k = n.toNat := by omega
 subst hke
 refine zay ?_
 refine sT [1, 2, 3, 6, 7, 8, 9] [3, 6, 8] ?_
 refine zas ?_
 refine sP [1, 2, 3, 6, 7, 8, 9, 10] [3, 6, 8] ?_
 refine sL [1, 2, 3, 6, 7, 8, 9] [3, 6] (fun k : Nat => k ≤ l.length) (fun k : Nat => [(10, RV.int (k : Int))]) (fun k : Nat => [(8, (31, [val (vI q.Id), val (vI q.Tenant), sl (.own 79 3) (q.Conds.map cCond), sl (.own 3 1) (q.Out.map cInt), sl (.own 36 1) (l.map (cRowS (.own 63 2) (.own 3 1))), sl (.own 4 1) (List.replicate n.toNat (cBool true)), sl (.own 3 1) (List.replicate n.toNat (cInt (-1))), sl (.own 3 1) (List.replicate n.toNat (cInt 0)), sl (.own 36 1) (List.replicate n.toNat [sl (.own 63 2) []]), sl (.own 3 1) [], sl (.own 36 1) (List.replicate k [sl (.own 63 2) []])]))]) (fun k : Nat => l.length - k) 0 (by omega) (by exact aI (by exact rfl) (tI)) (by exact aI (by exact rfl) (tI)) ?_
 rintro k hk
 refine za4 ?_
 refine zde ?_
 refine sc (fun hbc => ?_) (fun hbc => ?_)
 have hlt : k < l.length := by omega
 refine za6 ?_
 refine sH [1, 2, 3, 6, 7, 8, 9, 10] [3, 6, 8] ?_
 refine rA ?_ (x := lF fd_31_7)
 refine zjk ?_
 refine zjl ?_
 refine rA ?_ (x := lF fd_31_7)
 refine rA ?_ (x := loc_store (ag := false) (vs := [sl _ _]) ty_28 (by exact ⟨⟩) (by exact rfl) (by exact nl rfl))
 refine sO [(1, _), (2, _), (3, _), (6, _), (7, _), (8, _), (9, _), (10, _)] [(3, _), (6, _), (8, (31, [val _, val _, sl _ _, sl _ _, sl _ _, sl _ _, sl _ _, sl _ _, sl _ _, sl _ _, sl _ _]))] ?_
 exact zjm
 have hke : k = l.length := by omega
 subst hke
 refine sw_exit ?_
 refine sT [1, 2, 3, 6, 7, 8, 9, 10] [3, 6, 8] ?_
 refine rA ?_ (x := loc_ltake (ms := [val _, val _, sl _ _, sl _ _, sl _ _, sl _ _, sl _ _, sl _ _, sl _ _, sl _ _, sl _ _]) (qs := [val _, val _, sl .v _, sl .v _, sl .v _, sl .v _, sl .v _, sl .v _, sl .v _, sl .v _, sl .v _]) (by decide) ty_31 (fun h => nomatch h) (by exact nl rfl) (by exact rfl) (by exact (ToL.cons (PV.To.refl _) (ToL.cons (PV.To.refl _) (ToL.cons PV.to_none (ToL.cons PV.to_none (ToL.cons PV.to_none (ToL.cons PV.to_none (ToL.cons PV.to_none (ToL.cons PV.to_none (ToL.cons PV.to_none (ToL.cons PV.to_none (ToL.cons PV.to_none ToL.nil)))))))))))) (by exact (BorL.cons (bor_val _) (BorL.cons (bor_val _) (BorL.cons (bor_sl _) (BorL.cons (bor_sl _) (BorL.cons (bor_sl _) (BorL.cons (bor_sl _) (BorL.cons (bor_sl _) (BorL.cons (bor_sl _) (BorL.cons (bor_sl _) (BorL.cons (bor_sl _) (BorL.cons (bor_sl _) BorL.nil)))))))))))))
 exact zjn
end Go.Proofs.YtmkhofdkdklpdaaGreat
