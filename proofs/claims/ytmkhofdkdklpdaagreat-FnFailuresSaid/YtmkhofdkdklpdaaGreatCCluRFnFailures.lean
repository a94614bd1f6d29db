/- What functions of the program compute. No condition. -/
import Derived.Test.YtmkhofdkdklpdaaGreatCZMFnFailures
import Derived.Test.YtmkhofdkdklpdaaGreatCFcFnFailures
import Derived.Test.YtmkhofdkdklpdaaGreatCCluEFnFailures
import Derived.Test.YtmkhofdkdklpdaaGreatCSrtRFnFailures
import Derived.Test.YtmkhofdkdklpdaaGreatCDi
import Derived.KernelRfl
set_option linter.unusedVariables false
set_option linter.unusedSimpArgs false
namespace Go.Proofs.YtmkhofdkdklpdaaGreat
open Go Go.RowKit M PV
set_option maxRecDepth 10000
attribute [local irreducible] PV.Lcl PV.LclR RV.Lcl
theorem impl_ClusterRows {p3 p4 p9 p10 p13 p14 : Fl} {c : Cluster}  (hb : wtCluster c ≤ 68719476736) : SCall Tryz.prog 16 [(true, [val (vI c.Query.Id), val (vI c.Query.Tenant), sl .v (c.Query.Conds.map cCond), sl .v (c.Query.Out.map cInt), sl .v (c.Parts.map (cRowS p3 p4)), sl .v (c.Up.map cBool), sl .v (c.At.map cInt), sl .v (c.Pos.map cInt), sl .v (c.Buffer.map (cRowS p9 p10)), sl .v (c.Done.map cInt), sl .v (c.Rows.map (cRowS p13 p14))])] (resRV [(false, [sl (.own 63 2) ((cluRows c).map (cRow (.own 3 1)))])]) := by
 refine sF Tryz.func16 fun h0 w0 Fz0 => ?_
 refine sn 0 2 fun hl0_2 => ?_
 refine sn 0 3 fun hl0_3 => ?_
 refine sn 0 4 fun hl0_4 => ?_
 refine sn 0 5 fun hl0_5 => ?_
 refine sn 0 6 fun hl0_6 => ?_
 refine sn 0 7 fun hl0_7 => ?_
 refine sn 0 8 fun hl0_8 => ?_
 refine sn 0 9 fun hl0_9 => ?_
 refine sn 0 10 fun hl0_10 => ?_
 have hbu := hb
 simp only [wtCluster, wtInt] at hbu
 have hfk := flat_twt c.Rows
 have hwR : wtRowSS c.Rows = c.Rows.length + (c.Rows.map wtRowS).sum := rfl
 refine zfk ?_
 refine sT [1, 2] [1] ?_
 refine zci ?_
 refine sS [1, 2, 3] [1] ?_
 refine zgv ?_
 refine rA ?_ (x := nT)
 refine sc (fun hba => ?_) (fun hba => ?_)
 have hr := cluRows_no (c := c) (by simpa using hba)
 refine sS [1, 2, 3] [1] ?_
 refine rA ?_ (x := tM)
 refine zjt ?_
 exact (aI (by refine slc_eq ?_; rw [hr]; try rfl) tI)
 have hcl : isCl c = true := by simpa using hba
 have hr := cluRows_ok hcl
 refine zaj ?_
 refine sS [1, 2, 3] [1] ?_
 refine zgd ?_
 refine rA ?_ (x := lN sl_28)
 refine zbr ?_
 refine sP [1, 2, 3, 12, 13, 14] [1] ?_
 refine sL [1, 2, 12, 13] [1] (fun k : Nat => k ≤ c.Rows.length) (fun k : Nat => [(3, RV.slc (.own 63 2) (((c.Rows.take k).flatten).map (cRow .v))), (14, RV.int (k : Int))]) (fun k : Nat => []) (fun k : Nat => c.Rows.length - k) 0 (by omega) (by exact aI (by exact rfl) (aI (by exact rfl) (tI))) (by exact ⟨⟩) ?_
 rintro k hk
 have hfl : (c.Rows.take k).flatten.length ≤ wtRowS (c.Rows.take k).flatten := Nat.le_add_right _ _
 have hfk2 := hfk k
 refine zbs ?_
 refine sc (fun hbb => ?_) (fun hbb => ?_)
 have hlt : k < c.Rows.length := by omega
 have hwm := wt_mem (f := wtRowS) hlt
 have hln : (c.Rows[k]).length ≤ wtRowS c.Rows[k] := Nat.le_add_right _ _
 refine za6 ?_
 refine sT [1, 2, 3, 12, 13, 14] [1] ?_
 refine rA ?_ (x := loc_index (by decide) sl_28 (by exact ⟨⟩) (by exact rfl) (by exact getm2 (by omega) rfl) (by exact rfl))
 refine rA ?_ (x := loc_eload (qs := [sl .v _]) (by decide) ty_36 (fun _ => rfl) (by exact nl rfl) (by exact (ToL.cons (PV.to_map (fun _ => (ToL.cons (PV.To.refl _) (ToL.cons (PV.to_map (fun _ => (ToL.cons (PV.To.refl _) ToL.nil))) ToL.nil)))) ToL.nil)) (by exact (BorL.cons (bor_sl _) BorL.nil)))
 refine rA ?_ (x := vA false [sl .v _])
 refine sG [1, 2, 3, 5, 12, 13, 14] [1] ?_
 refine rA ?_ (x := tM)
 refine rA ?_ (x := vM false [sl .v _])
 refine zl7 ?_
 refine sG [1, 2, 3, 5, 12, 13, 14] [1] ?_
 refine zbv ?_
 refine nx (k + 1) (by omega) (e := (by exact aI (by exact slc_eq (by rw [flat_succ hlt, List.map_append]; try rfl)) (aI (by exact int_eq (by omega)) (tI))))
 have hend : (c.Rows.take k).flatten = c.Rows.flatten := by rw [List.take_of_length_le (by omega)]
 refine sw_exit ?_
 refine sT [1, 2, 3, 12, 13, 14] [1] ?_
 refine rA ?_ (x := vM false [sl .v _])
 refine rA ?_ (x := cL [(false, [sl _ _])] [(false, [sl .v _])] c_52 (hs := by exact (impl_SortRows (by omega))))
 refine zjt ?_
 exact (aI (by refine slc_eq ?_; rw [hr, hend]) tI)
theorem spec_ClusterRows {p3 p4 p9 p10 p13 p14 : Fl} {c : Cluster}  (hb : wtCluster c ≤ 68719476736) : SCall Tryz.prog 29 [(true, [val (vI c.Query.Id), val (vI c.Query.Tenant), sl .v (c.Query.Conds.map cCond), sl .v (c.Query.Out.map cInt), sl .v (c.Parts.map (cRowS p3 p4)), sl .v (c.Up.map cBool), sl .v (c.At.map cInt), sl .v (c.Pos.map cInt), sl .v (c.Buffer.map (cRowS p9 p10)), sl .v (c.Done.map cInt), sl .v (c.Rows.map (cRowS p13 p14))])] (resRV [(false, [sl (.own 63 2) ((cluRows c).map (cRow .v))])]) := by
 refine sF Tryz.func29 fun h0 w0 Fz0 => ?_
 refine sn 0 2 fun hl0_2 => ?_
 refine sn 0 3 fun hl0_3 => ?_
 refine sn 0 4 fun hl0_4 => ?_
 refine sn 0 5 fun hl0_5 => ?_
 refine sn 0 6 fun hl0_6 => ?_
 refine sn 0 7 fun hl0_7 => ?_
 refine sn 0 8 fun hl0_8 => ?_
 refine sn 0 9 fun hl0_9 => ?_
 refine sn 0 10 fun hl0_10 => ?_
 have hbu := hb
 simp only [wtCluster, wtInt] at hbu
 have hfk := flat_twt c.Rows
 have hwR : wtRowSS c.Rows = c.Rows.length + (c.Rows.map wtRowS).sum := rfl
 refine zfk ?_
 refine sT [1, 2] [1] ?_
 refine zci ?_
 refine sS [1, 2, 3] [1] ?_
 refine zas ?_
 refine sP [1, 2, 3, 4] [1] ?_
 refine sL [1, 2] [1] (fun k : Nat => k ≤ c.Rows.length ∧ (0 < k → isCl c = true)) (fun k : Nat => [(3, RV.slc (.own 63 2) (((c.Rows.take k).flatten).map (cRow (.own 3 1)))), (4, RV.int (k : Int))]) (fun k : Nat => []) (fun k : Nat => c.Rows.length - k) 0 (by exact ⟨Nat.zero_le _, fun h => absurd h (Nat.lt_irrefl _)⟩) (by exact aI (by exact rfl) (aI (by exact rfl) (tI))) (by exact ⟨⟩) ?_
 rintro k ⟨hk, hkc⟩
 have hfl : (c.Rows.take k).flatten.length ≤ wtRowS (c.Rows.take k).flatten := Nat.le_add_right _ _
 have hfk2 := hfk k
 refine za4 ?_
 refine zgd ?_
 refine rA ?_ (x := lN sl_28)
 refine rA ?_ (x := B_lss)
 refine rM ?_
 refine cx 11 (fun ga sga => ?_) (fun ga sga => ?_)
 refine rB ga ?_ (x := lD [val _, val _, sl .v _, sl .v _, sl .v _, sl .v _, sl .v _, sl .v _, sl .v _, sl .v _, sl .v _] ty_31)
 refine rB ga ?_ (x := cL [(true, [val _, val _, sl _ _, sl _ _, sl _ _, sl _ _, sl _ _, sl _ _, sl _ _, sl _ _, sl _ _])] [(true, [val _, val _, sl .v _, sl .v _, sl .v _, sl .v _, sl .v _, sl .v _, sl .v _, sl .v _, sl .v _])] c_11 (hs := by exact spec_IsCluster (by omega)))
 refine rA ?_ (x := pkT ga)
 refine sc (fun hba => ?_) (fun hba => ?_)
 have hlt : k < c.Rows.length := by omega
 have hwm := wt_mem (f := wtRowS) hlt
 have hln : (c.Rows[k]).length ≤ wtRowS c.Rows[k] := Nat.le_add_right _ _
 have hcl : isCl c = true := by first | assumption | simpa using hba
 refine za6 ?_
 refine sH [1, 2, 3, 4] [1] ?_
 refine rA ?_ (x := tM)
 refine zgd ?_
 refine rM ?_
 refine zhl ?_
 refine rA ?_ (x := loc_append (by decide) sl_36 z_63 rfl rfl (by decide) rfl (by simp only [List.length_map, List.length_append, List.length_cons, List.length_nil]; omega) (by simp only [List.length_map, List.length_append, List.length_cons, List.length_nil]; omega))
 refine rA ?_ (x := tA)
 refine sG [1, 2, 3, 4] [1] ?_
 refine za8 ?_
 refine nx (k + 1) (by exact ⟨by omega, fun _ => hcl⟩) (e := (by exact aI (by exact slc_eq (by rw [flat_succ hlt, List.map_append]; try rfl)) (aI (by exact int_eq (by omega)) (tI))))
 have hend := cluRows_fin hkc (by first | exact .inl (by assumption) | exact .inl (by simpa using hba) | exact .inr (by omega))
 exact zl8
 refine zaa ?_
 have hend := cluRows_fin hkc (by first | exact .inl (by assumption) | exact .inl (by simpa using hb_) | exact .inr (by omega))
 exact zl8
end Go.Proofs.YtmkhofdkdklpdaaGreat
