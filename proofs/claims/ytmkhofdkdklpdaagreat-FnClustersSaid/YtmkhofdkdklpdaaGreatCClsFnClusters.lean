/- What functions of the program compute. No condition. -/
import Derived.Test.YtmkhofdkdklpdaaGreatCZMFnClusters
import Derived.Test.YtmkhofdkdklpdaaGreatCFcFnClusters
import Derived.Test.YtmkhofdkdklpdaaGreatCCluRFnClusters
import Derived.Test.YtmkhofdkdklpdaaGreatCCluKFnClusters
import Derived.Test.YtmkhofdkdklpdaaGreatCDcl2
import Derived.Test.YtmkhofdkdklpdaaGreatCBigFnClusters
import Derived.KernelRfl
set_option linter.unusedVariables false
set_option linter.unusedSimpArgs false
namespace Go.Proofs.YtmkhofdkdklpdaaGreat
open Go Go.RowKit M PV
set_option maxRecDepth 10000
attribute [local irreducible] PV.Lcl PV.LclR RV.Lcl
attribute [local irreducible] belowC byteC
theorem laws_has {xs : List Int} {x : Int}  : SCall Tryz.prog 12 [(false, [sl .v (xs.map cInt)]), (false, [val (vI x)])] (resRV [(false, [val (.bool (hasI xs x))])]) := by
 refine sF Tryz.func12 fun h0 w0 Fz0 => ?_
 exact zbk
theorem spec_AnswerAlone {p3 : Fl} {q : Query} {l : List Row}  (hb : wtRowS l ≤ 68719476736) : SCall Tryz.prog 17 [(true, [val (vI q.Id), val (vI q.Tenant), sl .v (q.Conds.map cCond), sl .v (q.Out.map cInt)]), (false, [sl .v (l.map (cRow p3))])] (resRV [(false, [sl (.own 63 2) ((isort (lessQ cmpRow) (found q l)).map (cRow .v))])]) := by
 refine sF Tryz.func17 fun h0 w0 Fz0 => ?_
 refine sn 0 2 fun hl0_2 => ?_
 refine sn 0 3 fun hl0_3 => ?_
 refine sj 1 fun hl1 => ?_
 have hbu := hb
 simp only [wtRowS] at hbu
 refine zdq ?_
 refine zfc ?_
 refine zch ?_
 refine sS [1, 2, 4, 5] [2] ?_
 refine zas ?_
 refine sP [1, 2, 4, 5, 6] [2] ?_
 refine sL [1, 2, 4] [2] (fun k : Nat => k ≤ l.length) (fun k : Nat => [(5, RV.slc (.own 63 2) ((found q (l.take k)).map (cRow (.own 3 1)))), (6, RV.int (k : Int))]) (fun k : Nat => []) (fun k : Nat => l.length - k) 0 (by omega) (by exact aI (by first | exact rfl | simp) (aI (by exact rfl) (tI))) (by exact ⟨⟩) ?_
 rintro k hk
 refine za4 ?_
 refine zcm ?_
 refine sc (fun hba => ?_) (fun hba => ?_)
 have hlt : k < l.length := by omega
 have hwm := wt_mem (f := wtRow) hlt
 have hfl := found_le (q := q) (l := l) (k := k)
 refine zau ?_
 refine sQ [1, 2, 4, 5, 6] [2] ?_
 refine sw_draw hm_ ?_
 refine dA 0 ?_ (x := lD [val _, val _, sl .v _, sl .v _] ty_27)
 refine zcx ?_
 refine dA 6 ?_ (x := loc_index (by decide) sl_36 (by exact ⟨⟩) (by exact rfl) (by exact getm2 (by omega) rfl) (by exact rfl))
 refine dA 14 ?_ (x := lE [val _, sl .v _] ty_63)
 refine dA 31 ?_ (x := cL [(true, [val _, val _, sl _ _, sl _ _]), (true, [val _, sl _ _])] [(true, [val _, val _, sl .v _, sl .v _]), (true, [val _, sl .v _])] c_53 (hs := by exact spec_MatchesRow))
 refine sc (fun hbb => ?_) (fun hbb => ?_)
 have hc := hbb
 refine sG [1, 2, 4, 5, 6] [2] ?_
 refine zcn ?_
 refine zco ?_
 refine zcj ?_
 exact zlb
 have hc := hbb
 refine sw_skip ?_
 exact zlb
 have hend : k = l.length := by omega
 have htk : l.take k = l := List.take_of_length_le (by omega)
 have hfw : wtRowS (found q (l.take k)) ≤ 68719476736 := by rw [htk]; have := found_wt q l; omega
 refine sw_exit ?_
 refine sT [1, 2, 4, 5, 6] [2] ?_
 refine rA ?_ (x := vM false [sl .v _])
 refine rA ?_ (x := cL [(false, [sl _ _])] [(false, [sl .v _])] c_55 (hs := by exact (spec_SortRows (by omega))))
 refine rA ?_ (x := tA)
 refine sw_ret ?_
 exact (aI (by refine slc_eq ?_; rw [htk]) tI)
theorem spec_DrawFinishCluster {code : List Int}  (hb : code.length ≤ 9223372036854775807) (hb2 : code.length ≤ 4611686018427387904) : SCall Tryz.prog 6 [(false, [sl .v (code.map cU8)])] (resRV [(true, [val (vI (drClu code hb).1.Query.Id), val (vI (drClu code hb).1.Query.Tenant), sl (.own 79 3) ((drClu code hb).1.Query.Conds.map cCond), sl (.own 3 1) ((drClu code hb).1.Query.Out.map cInt), sl (.own 36 1) ((drClu code hb).1.Parts.map (cRowS (.own 63 2) (.own 3 1))), sl (.own 4 1) ((drClu code hb).1.Up.map cBool), sl (.own 3 1) ((drClu code hb).1.At.map cInt), sl (.own 3 1) ((drClu code hb).1.Pos.map cInt), sl (.own 36 1) ((drClu code hb).1.Buffer.map (cRowS (.own 63 2) (.own 3 1))), sl (.own 3 1) ((drClu code hb).1.Done.map cInt), sl (.own 36 1) ((drClu code hb).1.Rows.map (cRowS (.own 63 2) (.own 3 1)))])]) := by
 refine sF Tryz.func6 fun h0 w0 Fz0 => ?_
 refine sj 0 fun hl0 => ?_
 refine sR ?_
 refine rX ?_ (x := (loc_alloc (by decide) z_31 zo_31))
 refine sT [0, 2] [2] ?_
 refine rA ?_ (x := vM false [sl .v _])
 refine rX ?_ (x := (loc_ncall (qs := [(false, [sl _ _])]) (as_ := [(false, [sl .v _])]) (by decide) c_33 (by exact (aI (by exact ⟨⟩) tI)) (by exact (aI (aI rfl (ToL.cons PV.to_none ToL.nil)) tI)) (by exact (n_l1New hb hb2))))
 refine rA ?_ (x := loc_xcall0 (bx := 4) (qs := []) (as_ := []) (by decide) c_32 rfl (by exact ⟨⟩) (by exact ⟨⟩) (by exact (BorL.cons (bor_sl _) (BorL.cons (bor_val _) (BorL.cons (bor_val _) BorL.nil)))) (by exact borA_nil) (by exact x_l18Any))
 refine rA ?_ (x := loc_store (ag := true) (vs := [val _, val _, sl _ _, sl _ _, sl _ _, sl _ _, sl _ _, sl _ _, sl _ _, sl _ _, sl _ _]) ty_31 (by exact ⟨⟩) (by exact rfl) (by exact nl rfl))
 exact zhv
end Go.Proofs.YtmkhofdkdklpdaaGreat
