/- What functions of the program compute. No condition. -/
import Derived.Test.YtmkhofdkdklpdaaGreatCZMFnClusters
import Derived.Test.YtmkhofdkdklpdaaGreatCFcFnClusters
import Derived.Test.YtmkhofdkdklpdaaGreatCProgFnClusters
import Derived.KernelRfl
set_option linter.unusedVariables false
set_option linter.unusedSimpArgs false
namespace Go.Proofs.YtmkhofdkdklpdaaGreat
open Go Go.RowKit M PV
set_option maxRecDepth 10000
attribute [local irreducible] PV.Lcl PV.LclR RV.Lcl
theorem impl_copyQuery {x : Query}  (hb : wtQuery x ≤ 68719476736) : SCall Tryz.prog 69 [(true, [val (vI x.Id), val (vI x.Tenant), sl .v (x.Conds.map cCond), sl .v (x.Out.map cInt)])] (resRV [(true, [val (vI x.Id), val (vI x.Tenant), sl (.own 79 3) (x.Conds.map cCond), sl (.own 3 1) (x.Out.map cInt)])]) := by
 refine sF Tryz.func69 fun h0 w0 Fz0 => ?_
 refine sn 0 2 fun hl0_2 => ?_
 refine sn 0 3 fun hl0_3 => ?_
 have hbu := hb
 simp only [wtQuery, wtCondS, wtIntS, wtInt] at hbu
 refine zdq ?_
 refine rX ?_ (x := (loc_alloc (by decide) z_27 zo_27))
 refine sT [1, 2] [1, 2] ?_
 refine rA ?_ (x := loc_bslice (qs := []) (by decide) sl_24 z_79 (by decide) rfl rfl rfl rfl rfl (by exact nl rfl) (by exact ⟨⟩) rfl)
 refine zf8 ?_
 refine rA ?_ (x := loc_appendb (by decide) sl_24 z_79 rfl rfl (by decide) (by first | (intro cs hcs; obtain ⟨x, _, rfl⟩ := List.mem_map.1 hcs; exact rfl) | simp) (by first | (intro cs hcs; obtain ⟨x, _, rfl⟩ := List.mem_map.1 hcs; exact (BorL.cons (bor_val _) (BorL.cons (bor_val _) (BorL.cons (bor_val _) BorL.nil)))) | simp) (by simp only [List.length_map, List.length_append, List.length_cons, List.length_nil]; omega) (by simp only [List.length_map, List.length_append, List.length_cons, List.length_nil]; omega))
 refine zhl ?_
 refine zhm ?_
 refine sw_reg ?_
 refine ze9 ?_
 refine rA ?_ (x := cL [(false, [sl _ _])] [(false, [sl .v _])] c_71 (hs := by exact impl_copyInts (by omega)))
 refine zbe ?_
 refine zhm ?_
 refine sw_reg ?_
 refine zbg ?_
 exact zhn
theorem spec_l6Query {x : Query}  (hb : wtQuery x ≤ 68719476736) : SCall Tryz.prog 72 [(true, [val (vI x.Id), val (vI x.Tenant), sl .v (x.Conds.map cCond), sl .v (x.Out.map cInt)])] (resRV [(true, [val (vI x.Id), val (vI x.Tenant), sl (.own 79 3) (x.Conds.map cCond), sl (.own 3 1) (x.Out.map cInt)])]) := by
 refine sF Tryz.func72 fun h0 w0 Fz0 => ?_
 refine sn 0 2 fun hl0_2 => ?_
 refine sn 0 3 fun hl0_3 => ?_
 have hbu := hb
 simp only [wtQuery, wtCondS, wtIntS, wtInt] at hbu
 refine zdq ?_
 refine rX ?_ (x := (loc_alloc (by decide) z_27 zo_27))
 refine sw_seq ?_
 refine zce ?_
 refine dA 0 ?_ (x := lF fd_27_0)
 refine dA 1 ?_ (x := lD [val _] ty_3)
 refine dA 0 ?_ (x := lF fd_27_1)
 refine dA 4 ?_ (x := lD [val _] ty_3)
 refine dA 0 ?_ (x := loc_bslice (qs := []) (by decide) sl_24 z_79 (by decide) rfl rfl rfl rfl rfl (by exact nl rfl) (by exact ⟨⟩) rfl)
 refine dA 0 ?_ (x := lF fd_27_2)
 refine dA 32 ?_ (x := lD [sl .v _] ty_24)
 refine dA 112 ?_ (x := loc_appendb (by decide) sl_24 z_79 rfl rfl (by decide) (by first | (intro cs hcs; obtain ⟨x, _, rfl⟩ := List.mem_map.1 hcs; exact rfl) | simp) (by first | (intro cs hcs; obtain ⟨x, _, rfl⟩ := List.mem_map.1 hcs; exact (BorL.cons (bor_val _) (BorL.cons (bor_val _) (BorL.cons (bor_val _) BorL.nil)))) | simp) (by simp only [List.length_map, List.length_append, List.length_cons, List.length_nil]; omega) (by simp only [List.length_map, List.length_append, List.length_cons, List.length_nil]; omega))
 refine dA 0 ?_ (x := loc_bslice (qs := []) (by decide) sl_25 z_3 (by decide) rfl rfl rfl rfl rfl (by exact nl rfl) (by exact ⟨⟩) rfl)
 refine dA 0 ?_ (x := lF fd_27_3)
 refine dA 512 ?_ (x := lD [sl .v _] ty_25)
 refine dA 2032 ?_ (x := loc_appendb (by decide) sl_25 z_3 rfl rfl (by decide) (by first | (intro cs hcs; obtain ⟨x, _, rfl⟩ := List.mem_map.1 hcs; exact rfl) | simp) (by first | (intro cs hcs; obtain ⟨x, _, rfl⟩ := List.mem_map.1 hcs; exact (BorL.cons (bor_val _) BorL.nil)) | simp) (by simp only [List.length_map, List.length_append, List.length_cons, List.length_nil]; omega) (by simp only [List.length_map, List.length_append, List.length_cons, List.length_nil]; omega))
 refine dA 4095 ?_ (x := loc_build (qs := [(false, [val _]), (false, [val _]), (false, [sl _ _]), (false, [sl _ _])]) (cs := [val _, val _, sl _ _, sl _ _]) (by decide) z_27 zo_27 pl_27 (by exact rfl) (by exact (aI (by exact ⟨⟩) (aI (by exact ⟨⟩) (aI (by exact ⟨⟩) (aI (by exact ⟨⟩) tI))))) rfl (by exact rfl))
 refine dA 8191 ?_ (x := loc_store (ag := true) (vs := [val _, val _, sl _ _, sl _ _]) ty_27 (by exact ⟨⟩) (by exact rfl) (by exact nl rfl))
 exact zhn
theorem impl_copyParts {p1 p2 : Fl} {x : List (List Row)}  (hb : wtRowSS x ≤ 68719476736) : SCall Tryz.prog 70 [(false, [sl .v (x.map (cRowS p1 p2))])] (resRV [(false, [sl (.own 36 1) (x.map (cRowS (.own 63 2) (.own 3 1)))])]) := by
 refine sF Tryz.func70 fun h0 w0 Fz0 => ?_
 refine sj 0 fun hl0 => ?_
 have hbu := hb
 simp only [wtRowSS] at hbu
 refine zho ?_
 refine sS [0, 2] [] ?_
 refine zhp ?_
 refine sw_seq ?_
 refine sS [0, 2, 3] [] ?_
 refine zdd ?_
 refine zbm ?_
 refine sP [0, 2, 3, 7, 8, 9] [] ?_
 refine sL [0, 2, 7, 8] [] (fun k : Nat => k ≤ x.length) (fun k : Nat => [(3, RV.slc (.own 36 1) ((x.take k).map (cRowS (.own 63 2) (.own 3 1)))), (9, RV.int (k : Int))]) (fun k : Nat => []) (fun k : Nat => x.length - k) 0 (by omega) (by exact aI (by first | exact rfl | simp) (aI (by exact rfl) (tI))) (by exact ⟨⟩) ?_
 rintro k hk
 refine zbn ?_
 refine sc (fun hba => ?_) (fun hba => ?_)
 have hlt : k < x.length := by omega
 have hwm := wt_mem (f := wtRowS) hlt
 have htl : (x.take k).length = k := by rw [List.length_take]; omega
 refine za6 ?_
 refine sS [0, 2, 3, 7, 8, 9] [] ?_
 refine zfi ?_
 refine rA ?_ (x := vA false [sl .v _])
 refine sG [0, 2, 3, 5, 7, 8, 9] [] ?_
 refine rA ?_ (x := tM)
 refine zhq ?_
 refine zhr ?_
 refine rA ?_ (x := tA)
 refine sG [0, 2, 3, 5, 7, 8, 9] [] ?_
 refine zbr ?_
 exact zck
 exact zcl
theorem spec_l18CopyParts {p1 p2 : Fl} {x : List (List Row)}  (hb : wtRowSS x ≤ 68719476736) : SCall Tryz.prog 73 [(false, [sl .v (x.map (cRowS p1 p2))])] (resRV [(false, [sl (.own 36 1) (x.map (cRowS (.own 63 2) (.own 3 1)))])]) := by
 refine sF Tryz.func73 fun h0 w0 Fz0 => ?_
 refine sj 0 fun hl0 => ?_
 have hbu := hb
 simp only [wtRowSS] at hbu
 refine zho ?_
 refine sS [0, 2] [] ?_
 refine zhp ?_
 refine sw_seq ?_
 refine za3 ?_
 refine sL [0, 2] [] (fun k : Nat => k ≤ x.length) (fun k : Nat => [(3, RV.slc (.own 36 1) ((x.take k).map (cRowS (.own 63 2) (.own 3 1)))), (4, RV.int (k : Int))]) (fun k : Nat => []) (fun k : Nat => x.length - k) 0 (by omega) (by exact aI (by first | exact rfl | simp) (aI (by exact rfl) (tI))) (by exact ⟨⟩) ?_
 rintro k hk
 refine za4 ?_
 refine zde ?_
 refine sc (fun hba => ?_) (fun hba => ?_)
 have hlt : k < x.length := by omega
 have hwm := wt_mem (f := wtRowS) hlt
 have htl : (x.take k).length = k := by rw [List.length_take]; omega
 refine za6 ?_
 refine sG [0, 2, 3, 4] [] ?_
 refine zcn ?_
 refine zfi ?_
 refine rA ?_ (x := cL [(false, [sl _ _])] [(false, [sl .v _])] c_66 (hs := by exact spec_l9Rows (by omega)))
 refine zhr ?_
 exact zcq
 have hend : k = x.length := by omega
 exact zcr
theorem impl_copyCluster {p3 p4 p9 p10 p13 p14 : Fl} {x : Cluster}  (hb : wtCluster x ≤ 68719476736) : SCall Tryz.prog 34 [(true, [val (vI x.Query.Id), val (vI x.Query.Tenant), sl .v (x.Query.Conds.map cCond), sl .v (x.Query.Out.map cInt), sl .v (x.Parts.map (cRowS p3 p4)), sl .v (x.Up.map cBool), sl .v (x.At.map cInt), sl .v (x.Pos.map cInt), sl .v (x.Buffer.map (cRowS p9 p10)), sl .v (x.Done.map cInt), sl .v (x.Rows.map (cRowS p13 p14))])] (resRV [(true, [val (vI x.Query.Id), val (vI x.Query.Tenant), sl (.own 79 3) (x.Query.Conds.map cCond), sl (.own 3 1) (x.Query.Out.map cInt), sl (.own 36 1) (x.Parts.map (cRowS (.own 63 2) (.own 3 1))), sl (.own 4 1) (x.Up.map cBool), sl (.own 3 1) (x.At.map cInt), sl (.own 3 1) (x.Pos.map cInt), sl (.own 36 1) (x.Buffer.map (cRowS (.own 63 2) (.own 3 1))), sl (.own 3 1) (x.Done.map cInt), sl (.own 36 1) (x.Rows.map (cRowS (.own 63 2) (.own 3 1)))])]) := by
 refine sF Tryz.func34 fun h0 w0 Fz0 => ?_
 refine sn 0 2 fun hl0_2 => ?_
 refine sn 0 3 fun hl0_3 => ?_
 refine sn 0 4 fun hl0_4 => ?_
 refine sn 0 5 fun hl0_5 => ?_
 refine sn 0 6 fun hl0_6 => ?_
 refine sn 0 7 fun hl0_7 => ?_
 refine sn 0 8 fun hl0_8 => ?_
 refine sn 0 9 fun hl0_9 => ?_
 refine sn 0 10 fun hl0_10 => ?_
 have hbu := hb
 simp only [wtCluster, wtInt] at hbu
 have hb1 := wtIntS_len x.At
 have hb2 := wtIntS_len x.Pos
 have hb3 := wtIntS_len x.Done
 have hb4 : x.Up.length ≤ wtBoolS x.Up := Nat.le_add_right _ _
 refine zen ?_
 refine zhs ?_
 refine zce ?_
 refine zfp ?_
 refine dA 3 ?_ (x := cL [(true, [val _, val _, sl _ _, sl _ _])] [(true, [val _, val _, sl .v _, sl .v _])] c_69 (hs := by exact impl_copyQuery (by omega)))
 refine dA 0 ?_ (x := lF fd_31_1)
 refine dA 8 ?_ (x := lD [sl .v _] ty_28)
 refine dA 31 ?_ (x := cL [(false, [sl _ _])] [(false, [sl .v _])] c_70 (hs := by exact impl_copyParts (by omega)))
 refine zht ?_
 refine zhu ?_
 refine dA 0 ?_ (x := lF fd_31_3)
 refine dA 1024 ?_ (x := lD [sl .v _] ty_25)
 refine dA 4095 ?_ (x := cL [(false, [sl _ _])] [(false, [sl .v _])] c_71 (hs := by exact impl_copyInts (by omega)))
 refine dA 0 ?_ (x := lF fd_31_4)
 refine dA 8192 ?_ (x := lD [sl .v _] ty_25)
 refine dA 32767 ?_ (x := cL [(false, [sl _ _])] [(false, [sl .v _])] c_71 (hs := by exact impl_copyInts (by omega)))
 refine dA 0 ?_ (x := lF fd_31_5)
 refine dA 65536 ?_ (x := lD [sl .v _] ty_28)
 refine dA 262143 ?_ (x := cL [(false, [sl _ _])] [(false, [sl .v _])] c_70 (hs := by exact impl_copyParts (by omega)))
 refine dA 0 ?_ (x := lF fd_31_6)
 refine dA 524288 ?_ (x := lD [sl .v _] ty_25)
 refine dA 2097151 ?_ (x := cL [(false, [sl _ _])] [(false, [sl .v _])] c_71 (hs := by exact impl_copyInts (by omega)))
 refine dA 0 ?_ (x := lF fd_31_7)
 refine dA 4194304 ?_ (x := lD [sl .v _] ty_28)
 refine dA 16777215 ?_ (x := cL [(false, [sl _ _])] [(false, [sl .v _])] c_70 (hs := by exact impl_copyParts (by omega)))
 refine dA 33554431 ?_ (x := loc_build (qs := [(true, [val _, val _, sl _ _, sl _ _]), (false, [sl _ _]), (false, [sl _ _]), (false, [sl _ _]), (false, [sl _ _]), (false, [sl _ _]), (false, [sl _ _]), (false, [sl _ _])]) (cs := [val _, val _, sl _ _, sl _ _, sl _ _, sl _ _, sl _ _, sl _ _, sl _ _, sl _ _, sl _ _]) (by decide) z_31 zo_31 pl_31 (by exact rfl) (by exact (aI (by exact ⟨⟩) (aI (by exact ⟨⟩) (aI (by exact ⟨⟩) (aI (by exact ⟨⟩) (aI (by exact ⟨⟩) (aI (by exact ⟨⟩) (aI (by exact ⟨⟩) (aI (by exact ⟨⟩) tI))))))))) rfl (by exact rfl))
 refine dA 67108863 ?_ (x := loc_store (ag := true) (vs := [val _, val _, sl _ _, sl _ _, sl _ _, sl _ _, sl _ _, sl _ _, sl _ _, sl _ _, sl _ _]) ty_31 (by exact ⟨⟩) (by exact rfl) (by exact nl rfl))
 exact zhv
theorem spec_l18Copy {p3 p4 p9 p10 p13 p14 : Fl} {x : Cluster}  (hb : wtCluster x ≤ 68719476736) : SCall Tryz.prog 38 [(true, [val (vI x.Query.Id), val (vI x.Query.Tenant), sl .v (x.Query.Conds.map cCond), sl .v (x.Query.Out.map cInt), sl .v (x.Parts.map (cRowS p3 p4)), sl .v (x.Up.map cBool), sl .v (x.At.map cInt), sl .v (x.Pos.map cInt), sl .v (x.Buffer.map (cRowS p9 p10)), sl .v (x.Done.map cInt), sl .v (x.Rows.map (cRowS p13 p14))])] (resRV [(true, [val (vI x.Query.Id), val (vI x.Query.Tenant), sl (.own 79 3) (x.Query.Conds.map cCond), sl (.own 3 1) (x.Query.Out.map cInt), sl (.own 36 1) (x.Parts.map (cRowS (.own 63 2) (.own 3 1))), sl (.own 4 1) (x.Up.map cBool), sl (.own 3 1) (x.At.map cInt), sl (.own 3 1) (x.Pos.map cInt), sl (.own 36 1) (x.Buffer.map (cRowS (.own 63 2) (.own 3 1))), sl (.own 3 1) (x.Done.map cInt), sl (.own 36 1) (x.Rows.map (cRowS (.own 63 2) (.own 3 1)))])]) := by
 refine sF Tryz.func38 fun h0 w0 Fz0 => ?_
 refine sn 0 2 fun hl0_2 => ?_
 refine sn 0 3 fun hl0_3 => ?_
 refine sn 0 4 fun hl0_4 => ?_
 refine sn 0 5 fun hl0_5 => ?_
 refine sn 0 6 fun hl0_6 => ?_
 refine sn 0 7 fun hl0_7 => ?_
 refine sn 0 8 fun hl0_8 => ?_
 refine sn 0 9 fun hl0_9 => ?_
 refine sn 0 10 fun hl0_10 => ?_
 have hbu := hb
 simp only [wtCluster, wtInt] at hbu
 have hb1 := wtIntS_len x.At
 have hb2 := wtIntS_len x.Pos
 have hb3 := wtIntS_len x.Done
 have hb4 : x.Up.length ≤ wtBoolS x.Up := Nat.le_add_right _ _
 refine zen ?_
 refine zhs ?_
 refine zce ?_
 refine zfp ?_
 refine dA 3 ?_ (x := cL [(true, [val _, val _, sl _ _, sl _ _])] [(true, [val _, val _, sl .v _, sl .v _])] c_72 (hs := by exact spec_l6Query (by omega)))
 refine dA 0 ?_ (x := lF fd_31_1)
 refine dA 8 ?_ (x := lD [sl .v _] ty_28)
 refine dA 31 ?_ (x := cL [(false, [sl _ _])] [(false, [sl .v _])] c_73 (hs := by exact spec_l18CopyParts (by omega)))
 refine zht ?_
 refine zhu ?_
 refine dA 0 ?_ (x := loc_bslice (qs := []) (by decide) sl_25 z_3 (by decide) rfl rfl rfl rfl rfl (by exact nl rfl) (by exact ⟨⟩) rfl)
 refine dA 0 ?_ (x := lF fd_31_3)
 refine dA 2048 ?_ (x := lD [sl .v _] ty_25)
 refine dA 8191 ?_ (x := loc_appendb (by decide) sl_25 z_3 rfl rfl (by decide) (by first | (intro cs hcs; obtain ⟨x, _, rfl⟩ := List.mem_map.1 hcs; exact rfl) | simp) (by first | (intro cs hcs; obtain ⟨x, _, rfl⟩ := List.mem_map.1 hcs; exact (BorL.cons (bor_val _) BorL.nil)) | simp) (by simp only [List.length_map, List.length_append, List.length_cons, List.length_nil]; omega) (by simp only [List.length_map, List.length_append, List.length_cons, List.length_nil]; omega))
 refine dA 0 ?_ (x := loc_bslice (qs := []) (by decide) sl_25 z_3 (by decide) rfl rfl rfl rfl rfl (by exact nl rfl) (by exact ⟨⟩) rfl)
 refine dA 0 ?_ (x := lF fd_31_4)
 refine dA 32768 ?_ (x := lD [sl .v _] ty_25)
 refine dA 131071 ?_ (x := loc_appendb (by decide) sl_25 z_3 rfl rfl (by decide) (by first | (intro cs hcs; obtain ⟨x, _, rfl⟩ := List.mem_map.1 hcs; exact rfl) | simp) (by first | (intro cs hcs; obtain ⟨x, _, rfl⟩ := List.mem_map.1 hcs; exact (BorL.cons (bor_val _) BorL.nil)) | simp) (by simp only [List.length_map, List.length_append, List.length_cons, List.length_nil]; omega) (by simp only [List.length_map, List.length_append, List.length_cons, List.length_nil]; omega))
 refine dA 0 ?_ (x := lF fd_31_5)
 refine dA 262144 ?_ (x := lD [sl .v _] ty_28)
 refine dA 1048575 ?_ (x := cL [(false, [sl _ _])] [(false, [sl .v _])] c_73 (hs := by exact spec_l18CopyParts (by omega)))
 refine dA 0 ?_ (x := loc_bslice (qs := []) (by decide) sl_25 z_3 (by decide) rfl rfl rfl rfl rfl (by exact nl rfl) (by exact ⟨⟩) rfl)
 refine dA 0 ?_ (x := lF fd_31_6)
 refine dA 4194304 ?_ (x := lD [sl .v _] ty_25)
 refine dA 16777215 ?_ (x := loc_appendb (by decide) sl_25 z_3 rfl rfl (by decide) (by first | (intro cs hcs; obtain ⟨x, _, rfl⟩ := List.mem_map.1 hcs; exact rfl) | simp) (by first | (intro cs hcs; obtain ⟨x, _, rfl⟩ := List.mem_map.1 hcs; exact (BorL.cons (bor_val _) BorL.nil)) | simp) (by simp only [List.length_map, List.length_append, List.length_cons, List.length_nil]; omega) (by simp only [List.length_map, List.length_append, List.length_cons, List.length_nil]; omega))
 refine dA 0 ?_ (x := lF fd_31_7)
 refine dA 33554432 ?_ (x := lD [sl .v _] ty_28)
 refine dA 134217727 ?_ (x := cL [(false, [sl _ _])] [(false, [sl .v _])] c_73 (hs := by exact spec_l18CopyParts (by omega)))
 refine dA 268435455 ?_ (x := loc_build (qs := [(true, [val _, val _, sl _ _, sl _ _]), (false, [sl _ _]), (false, [sl _ _]), (false, [sl _ _]), (false, [sl _ _]), (false, [sl _ _]), (false, [sl _ _]), (false, [sl _ _])]) (cs := [val _, val _, sl _ _, sl _ _, sl _ _, sl _ _, sl _ _, sl _ _, sl _ _, sl _ _, sl _ _]) (by decide) z_31 zo_31 pl_31 (by exact rfl) (by exact (aI (by exact ⟨⟩) (aI (by exact ⟨⟩) (aI (by exact ⟨⟩) (aI (by exact ⟨⟩) (aI (by exact ⟨⟩) (aI (by exact ⟨⟩) (aI (by exact ⟨⟩) (aI (by exact ⟨⟩) tI))))))))) rfl (by exact rfl))
 refine dA 536870911 ?_ (x := loc_store (ag := true) (vs := [val _, val _, sl _ _, sl _ _, sl _ _, sl _ _, sl _ _, sl _ _, sl _ _, sl _ _, sl _ _]) ty_31 (by exact ⟨⟩) (by exact rfl) (by exact nl rfl))
 exact zhv
end Go.Proofs.YtmkhofdkdklpdaaGreat
