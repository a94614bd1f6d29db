/- What functions of the program compute. No condition. -/
import Derived.Test.YtmkhofdkdklpdaaGreatCZMFnClusters
import Derived.Test.YtmkhofdkdklpdaaGreatCFcFnClusters
import Derived.Test.YtmkhofdkdklpdaaGreatCCluEFnClusters
import Derived.Test.YtmkhofdkdklpdaaGreatCSrtRFnClusters
import Derived.Test.YtmkhofdkdklpdaaGreatCDi
import Derived.KernelRfl
set_option linter.unusedVariables false
set_option linter.unusedSimpArgs false
namespace Go.Proofs.YtmkhofdkdklpdaaGreat
open Go Go.RowKit M PV
set_option maxRecDepth 10000
attribute [local irreducible] PV.Lcl PV.LclR RV.Lcl
theorem impl_ClusterRows {p3 p4 p9 p10 p13 p14 : Fl} {c : Cluster}  (hb : wtCluster c ≤ 68719476736) : SCall Tryz.prog 16 [(true, [val (vI c.Query.Id), val (vI c.Query.Tenant), sl .v (c.Query.Conds.map cCond), sl .v (c.Query.Out.map cInt), sl .v (c.Parts.map (cRowS p3 p4)), sl .v (c.Up.map cBool), sl .v (c.At.map cInt), sl .v (c.Pos.map cInt), sl .v (c.Buffer.map (cRowS p9 p10)), sl .v (c.Done.map cInt), sl .v (c.Rows.map (cRowS p13 p14))])] (resRV [(false, [sl (.own 63 2) ((cluRows c).map (cRow (.own 3 1)))])]) := by
 refine sF Tryz.func16 fun h0 w0 Fz0 => ?_
 refine sn 0 2 fun hl0_2 => ?_
 refine sn 0 3 fun hl0_3 => ?_
 refine sn 0 4 fun hl0_4 => ?_
 refine sn 0 5 fun hl0_5 => ?_
 refine sn 0 6 fun hl0_6 => ?_
 refine sn 0 7 fun hl0_7 => ?_
 refine sn 0 8 fun hl0_8 => ?_
 refine sn 0 9 fun hl0_9 => ?_
 refine sn 0 10 fun hl0_10 => ?_
 have hbu := hb
 simp only [wtCluster, wtInt] at hbu
 have hfk := flat_twt c.Rows
 have hwR : wtRowSS c.Rows = c.Rows.length + (c.Rows.map wtRowS).sum := rfl
 refine zfn ?_
 refine sT [1, 2] [1] ?_
 refine zch ?_
 refine sS [1, 2, 3] [1] ?_
 refine zh2 ?_
 refine rA ?_ (x := nT)
 refine sc (fun hba => ?_) (fun hba => ?_)
 have hr := cluRows_no (c := c) (by simpa using hba)
 refine sS [1, 2, 3] [1] ?_
 refine zjq ?_
 refine sw_ret ?_
 exact (aI (by refine slc_eq ?_; rw [hr]; try rfl) tI)
 have hcl : isCl c = true := by simpa using hba
 have hr := cluRows_ok hcl
 refine zaj ?_
 refine sS [1, 2, 3] [1] ?_
 refine zgj ?_
 refine rA ?_ (x := lN sl_28)
 refine zbm ?_
 refine sP [1, 2, 3, 12, 13, 14] [1] ?_
 refine sL [1, 2, 12, 13] [1] (fun k : Nat => k ≤ c.Rows.length) (fun k : Nat => [(3, RV.slc (.own 63 2) (((c.Rows.take k).flatten).map (cRow .v))), (14, RV.int (k : Int))]) (fun k : Nat => []) (fun k : Nat => c.Rows.length - k) 0 (by omega) (by exact aI (by exact rfl) (aI (by exact rfl) (tI))) (by exact ⟨⟩) ?_
 rintro k hk
 have hfl : (c.Rows.take k).flatten.length ≤ wtRowS (c.Rows.take k).flatten := Nat.le_add_right _ _
 have hfk2 := hfk k
 refine zbn ?_
 refine sc (fun hbb => ?_) (fun hbb => ?_)
 have hlt : k < c.Rows.length := by omega
 have hwm := wt_mem (f := wtRowS) hlt
 have hln : (c.Rows[k]).length ≤ wtRowS c.Rows[k] := Nat.le_add_right _ _
 refine za6 ?_
 refine sT [1, 2, 3, 12, 13, 14] [1] ?_
 refine zky ?_
 refine rA ?_ (x := vA false [sl .v _])
 refine sG [1, 2, 3, 5, 12, 13, 14] [1] ?_
 refine rA ?_ (x := tM)
 refine rA ?_ (x := vM false [sl .v _])
 refine zkz ?_
 refine sG [1, 2, 3, 5, 12, 13, 14] [1] ?_
 refine zbr ?_
 refine nx (k + 1) (by omega) (e := (by exact aI (by exact slc_eq (by rw [flat_succ hlt, List.map_append]; try rfl)) (aI (by exact int_eq (by omega)) (tI))))
 have hend : (c.Rows.take k).flatten = c.Rows.flatten := by rw [List.take_of_length_le (by omega)]
 refine sw_exit ?_
 refine sT [1, 2, 3, 12, 13, 14] [1] ?_
 refine rA ?_ (x := vM false [sl .v _])
 refine rA ?_ (x := cL [(false, [sl _ _])] [(false, [sl .v _])] c_52 (hs := by exact (impl_SortRows (by omega))))
 refine rA ?_ (x := tA)
 refine sw_ret ?_
 exact (aI (by refine slc_eq ?_; rw [hr, hend]) tI)
end Go.Proofs.YtmkhofdkdklpdaaGreat
