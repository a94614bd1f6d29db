/- What functions of the program compute. No condition. -/
import Derived.Test.YtmkhofdkdklpdaaGreatCZMFnClusters
import Derived.Test.YtmkhofdkdklpdaaGreatCFcFnClusters
import Derived.Test.YtmkhofdkdklpdaaGreatCCluBFnClusters
import Derived.KernelRfl
set_option linter.unusedVariables false
set_option linter.unusedSimpArgs false
namespace Go.Proofs.YtmkhofdkdklpdaaGreat
open Go Go.RowKit M PV
set_option maxRecDepth 10000
attribute [local irreducible] PV.Lcl PV.LclR RV.Lcl
theorem spec_l18Found {p3 p4 p9 p10 p13 p14 : Fl} {c : Cluster} {s : Int} {n : Int}  (hs : 0 ≤ s ∧ s.toNat < c.Parts.length) (hb : wtRowSS c.Parts ≤ 68719476736) : SCall Tryz.prog 49 [(true, [val (vI c.Query.Id), val (vI c.Query.Tenant), sl .v (c.Query.Conds.map cCond), sl .v (c.Query.Out.map cInt), sl .v (c.Parts.map (cRowS p3 p4)), sl .v (c.Up.map cBool), sl .v (c.At.map cInt), sl .v (c.Pos.map cInt), sl .v (c.Buffer.map (cRowS p9 p10)), sl .v (c.Done.map cInt), sl .v (c.Rows.map (cRowS p13 p14))]), (false, [val (vI s)]), (false, [val (vI n)])] (resRV [(false, [sl (.own 63 2) ((found c.Query ((partAt c s).take n.toNat)).map (cRow (.own 3 1)))])]) := by
 refine sF Tryz.func49 fun h0 w0 Fz0 => ?_
 refine sn 0 2 fun hl0_2 => ?_
 refine sn 0 3 fun hl0_3 => ?_
 refine sn 0 4 fun hl0_4 => ?_
 refine sn 0 5 fun hl0_5 => ?_
 refine sn 0 6 fun hl0_6 => ?_
 refine sn 0 7 fun hl0_7 => ?_
 refine sn 0 8 fun hl0_8 => ?_
 refine sn 0 9 fun hl0_9 => ?_
 refine sn 0 10 fun hl0_10 => ?_
 have hbu := part_wt (s := s) hb
 have hbu2 := hbu
 simp only [wtRowS] at hbu2
 refine zfn ?_
 refine sT [1, 2, 3, 6] [3] ?_
 refine zch ?_
 refine sS [1, 2, 3, 6, 7] [3] ?_
 refine zas ?_
 refine sP [1, 2, 3, 6, 7, 8] [3] ?_
 refine sL [1, 2, 3, 6] [3] (fun k : Nat => k ≤ (partAt c s).length ∧ (k = 0 ∨ (k : Int) ≤ n)) (fun k : Nat => [(7, RV.slc (.own 63 2) ((found c.Query ((partAt c s).take k)).map (cRow (.own 3 1)))), (8, RV.int (k : Int))]) (fun k : Nat => []) (fun k : Nat => (partAt c s).length - k) 0 (by exact ⟨by omega, .inl rfl⟩) (by exact aI (by first | exact rfl | simp) (aI (by exact rfl) (tI))) (by exact ⟨⟩) ?_
 rintro k ⟨hk, ha⟩
 refine zfo ?_
 refine rM ?_
 refine cx 13 (fun ga sga => ?_) (fun ga sga => ?_)
 refine rB ga ?_ (x := sM)
 refine zer ?_
 refine rB ga ?_ (x := sM)
 refine rB ga ?_ (x := loc_index (k := s.toNat) (by decide) sl_28 (by exact ⟨⟩) (by omega) (by exact getm2 hs.2 (by rw [partAt_eq hs.2])) (by exact rfl))
 refine rB ga ?_ (x := lE [sl .v _] ty_36)
 refine rB ga ?_ (x := lN sl_36)
 refine za5 ?_
 refine sc (fun hba => ?_) (fun hba => ?_)
 have hlt : k < (partAt c s).length := by first | omega | (simp_all; done) | (simp_all; omega)
 have hln : (k : Int) < n := by first | omega | (simp_all; done) | (simp_all; omega)
 have hwm := wt_mem (f := wtRow) hlt
 have hfl := found_le (q := c.Query) (l := (partAt c s)) (k := k)
 refine zau ?_
 refine sQ [1, 2, 3, 6, 7, 8] [3] ?_
 refine sw_draw hm_ ?_
 refine zfp ?_
 refine zfq ?_
 refine dA 0 ?_ (x := sM)
 refine dA 28 ?_ (x := loc_index (k := s.toNat) (by decide) sl_28 (by exact ⟨⟩) (by omega) (by exact getm2 hs.2 (by rw [partAt_eq hs.2])) (by exact rfl))
 refine dA 60 ?_ (x := lE [sl .v _] ty_36)
 refine dA 0 ?_ (x := sM)
 refine dA 252 ?_ (x := loc_index (by decide) sl_36 (by exact ⟨⟩) (by exact rfl) (by exact getm2 (by omega) rfl) (by exact rfl))
 refine dA 508 ?_ (x := lE [val _, sl .v _] ty_63)
 refine dA 1023 ?_ (x := cL [(true, [val _, val _, sl _ _, sl _ _]), (true, [val _, sl _ _])] [(true, [val _, val _, sl .v _, sl .v _]), (true, [val _, sl .v _])] c_53 (hs := by exact spec_MatchesRow))
 refine sc (fun hbb => ?_) (fun hbb => ?_)
 have hc := hbb
 refine sG [1, 2, 3, 6, 7, 8] [3] ?_
 refine rA ?_ (x := tM)
 refine zfr ?_
 refine rM ?_
 refine rA ?_ (x := loc_index (k := s.toNat) (by decide) sl_28 (by exact ⟨⟩) (by omega) (by exact getm2 hs.2 (by rw [partAt_eq hs.2])) (by exact rfl))
 refine rA ?_ (x := lE [sl .v _] ty_36)
 refine rM ?_
 refine zco ?_
 refine zcj ?_
 exact zfs
 have hc := hbb
 refine sw_skip ?_
 exact zfs
 exact zft
 refine zaa ?_
 refine scF ?_
 exact zft
end Go.Proofs.YtmkhofdkdklpdaaGreat
