/- What functions of the program compute. No condition. -/
import Derived.Test.YteflgldonmgejaaGreatCZMRunAdaptive
import Derived.Test.YteflgldonmgejaaGreatCFcRunAdaptive
import Derived.Test.YteflgldonmgejaaGreatCEngRunAdaptive
import Derived.Test.YteflgldonmgejaaGreatCIdiRunAdaptive
import Derived.KernelRfl
set_option linter.unusedVariables false
set_option linter.unusedSimpArgs false
namespace Go.Proofs.YteflgldonmgejaaGreat
open Go Go.RowKit M PV
set_option maxRecDepth 10000
attribute [local irreducible] PV.Lcl PV.LclR RV.Lcl
theorem FCpy_pl_148 : placesI Tryz.prog 148 = some [(0, 1), (1, 1), (2, 1), (3, 1), (4, 1)] := by kernel_rfl
theorem FCpy_pl_151 : placesI Tryz.prog 151 = some [(0, 1), (1, 1), (2, 1), (3, 1)] := by kernel_rfl
theorem FCpy_pl_35 : placesI Tryz.prog 35 = some [(0, 1), (1, 1)] := by kernel_rfl
theorem FCpy_pl_40 : placesI Tryz.prog 40 = some [(0, 2), (2, 1), (3, 1), (4, 1), (5, 1), (6, 1), (7, 1)] := by kernel_rfl
theorem impl_copyCharge {x : Charge}  (hb : wtCharge x ≤ 68719476736) : SCall Tryz.prog 146 [(true, [val (vI x.Segment), val (vI x.Base), sl .v (x.Ids.map cInt), sl .v (x.Tenants.map cInt), sl .v (x.Rows.map cInt)])] (resRV [(true, [val (vI x.Segment), val (vI x.Base), sl (.own 3 1) (x.Ids.map cInt), sl (.own 3 1) (x.Tenants.map cInt), sl (.own 3 1) (x.Rows.map cInt)])]) := by
 refine sF Tryz.func146 fun h0 w0 Fz0 => ?_
 refine sn 0 2 fun hl0_2 => ?_
 refine sn 0 3 fun hl0_3 => ?_
 refine sn 0 4 fun hl0_4 => ?_
 have hbu := hb
 simp only [wtCharge, wtIntS_len, wtInt] at hbu
 refine zbb ?_
 refine zgk ?_
 refine dA 0 ?_ (x := lF fd_148_2)
 refine dA 1 ?_ (x := lD [sl .v _] ty_25)
 refine dA 3 ?_ (x := cL [(false, [sl _ _])] [(false, [sl .v _])] c_134 (hs := by exact impl_copyInts (by omega)))
 refine dA 0 ?_ (x := lF fd_148_3)
 refine zn0 ?_
 refine dA 0 ?_ (x := lF fd_148_4)
 refine dA 64 ?_ (x := lD [sl .v _] ty_25)
 refine dA 255 ?_ (x := cL [(false, [sl _ _])] [(false, [sl .v _])] c_134 (hs := by exact impl_copyInts (by omega)))
 refine dA 223 ?_ (x := lF fd_148_2)
 refine dA 1023 ?_ (x := loc_store (ag := false) (vs := [sl _ _]) ty_25 (by exact ⟨⟩) (by exact rfl) (by exact nl rfl))
 refine dA 2047 ?_ (x := lF fd_148_3)
 refine dA 4095 ?_ (x := loc_store (ag := false) (vs := [sl _ _]) ty_25 (by exact ⟨⟩) (by exact rfl) (by exact nl rfl))
 refine dA 8191 ?_ (x := lF fd_148_4)
 refine zn1 ?_
 refine sO [(1, _), (2, _)] [(1, (148, [val _, val _, sl _ _, sl _ _, sl _ _])), (2, _)] ?_
 exact zbf
theorem spec_l10Copy {x : Charge}  (hb : wtCharge x ≤ 68719476736) : SCall Tryz.prog 141 [(true, [val (vI x.Segment), val (vI x.Base), sl .v (x.Ids.map cInt), sl .v (x.Tenants.map cInt), sl .v (x.Rows.map cInt)])] (resRV [(true, [val (vI x.Segment), val (vI x.Base), sl (.own 3 1) (x.Ids.map cInt), sl (.own 3 1) (x.Tenants.map cInt), sl (.own 3 1) (x.Rows.map cInt)])]) := by
 refine sF Tryz.func141 fun h0 w0 Fz0 => ?_
 refine sn 0 2 fun hl0_2 => ?_
 refine sn 0 3 fun hl0_3 => ?_
 refine sn 0 4 fun hl0_4 => ?_
 have hbu := hb
 simp only [wtCharge, wtIntS_len, wtInt] at hbu
 refine zbb ?_
 refine zgk ?_
 refine dA 0 ?_ (x := lF fd_148_0)
 refine dA 1 ?_ (x := lD [val _] ty_3)
 refine dA 0 ?_ (x := lF fd_148_1)
 refine dA 4 ?_ (x := lD [val _] ty_3)
 refine dA 0 ?_ (x := loc_bslice (qs := []) (by decide) sl_25 z_3 (by decide) rfl rfl rfl rfl rfl (by exact nl rfl) (by exact ⟨⟩) rfl)
 refine dA 0 ?_ (x := lF fd_148_2)
 refine dA 32 ?_ (x := lD [sl .v _] ty_25)
 refine dA 112 ?_ (x := loc_appendb (by decide) sl_25 z_3 rfl rfl (by decide) (by first | (intro cs hcs; obtain ⟨x, _, rfl⟩ := List.mem_map.1 hcs; exact rfl) | simp) (by first | (intro cs hcs; obtain ⟨x, _, rfl⟩ := List.mem_map.1 hcs; exact (BorL.cons (bor_val _) BorL.nil)) | simp) (by simp only [List.length_map, List.length_append, List.length_cons, List.length_nil]; omega) (by simp only [List.length_map, List.length_append, List.length_cons, List.length_nil]; omega))
 refine dA 0 ?_ (x := loc_bslice (qs := []) (by decide) sl_25 z_3 (by decide) rfl rfl rfl rfl rfl (by exact nl rfl) (by exact ⟨⟩) rfl)
 refine dA 0 ?_ (x := lF fd_148_3)
 refine zkl ?_
 refine dA 0 ?_ (x := loc_bslice (qs := []) (by decide) sl_25 z_3 (by decide) rfl rfl rfl rfl rfl (by exact nl rfl) (by exact ⟨⟩) rfl)
 refine dA 0 ?_ (x := lF fd_148_4)
 refine dA 8192 ?_ (x := lD [sl .v _] ty_25)
 refine dA 32752 ?_ (x := loc_appendb (by decide) sl_25 z_3 rfl rfl (by decide) (by first | (intro cs hcs; obtain ⟨x, _, rfl⟩ := List.mem_map.1 hcs; exact rfl) | simp) (by first | (intro cs hcs; obtain ⟨x, _, rfl⟩ := List.mem_map.1 hcs; exact (BorL.cons (bor_val _) BorL.nil)) | simp) (by simp only [List.length_map, List.length_append, List.length_cons, List.length_nil]; omega) (by simp only [List.length_map, List.length_append, List.length_cons, List.length_nil]; omega))
 refine dA 65535 ?_ (x := loc_build (qs := [(false, [val _]), (false, [val _]), (false, [sl _ _]), (false, [sl _ _]), (false, [sl _ _])]) (cs := [val _, val _, sl _ _, sl _ _, sl _ _]) (by decide) z_148 zo_148 FCpy_pl_148 (by exact rfl) (by exact (aI (by exact ⟨⟩) (aI (by exact ⟨⟩) (aI (by exact ⟨⟩) (aI (by exact ⟨⟩) (aI (by exact ⟨⟩) tI)))))) rfl (by exact rfl))
 refine dA 131071 ?_ (x := loc_store (ag := true) (vs := [val _, val _, sl _ _, sl _ _, sl _ _]) ty_148 (by exact ⟨⟩) (by exact rfl) (by exact nl rfl))
 exact zn2
theorem impl_copyActive {p4 : Fl} {x : Active}  (hb : wtActive x ≤ 68719476736) : SCall Tryz.prog 144 [(true, [val (vI x.Query.Id), val (vI x.Query.Tenant), sl .v (x.Query.Conds.map cCond), sl .v (x.Query.Out.map cInt), val (vI x.Time), sl .v (x.Todo.map cInt), val (vI x.Age), val (vI x.Sent), val (vI x.Cap), sl .v (x.Rows.map (cRow p4))])] (resRV [(true, [val (vI x.Query.Id), val (vI x.Query.Tenant), sl (.own 193 3) (x.Query.Conds.map cCond), sl (.own 3 1) (x.Query.Out.map cInt), val (vI x.Time), sl (.own 3 1) (x.Todo.map cInt), val (vI x.Age), val (vI x.Sent), val (vI x.Cap), sl (.own 66 2) (x.Rows.map (cRow (.own 3 1)))])]) := by
 refine sF Tryz.func144 fun h0 w0 Fz0 => ?_
 refine sn 0 2 fun hl0_2 => ?_
 refine sn 0 3 fun hl0_3 => ?_
 refine sn 0 5 fun hl0_5 => ?_
 refine sn 0 9 fun hl0_9 => ?_
 have hbu := hb
 simp only [wtActive, wtIntS_len, wtInt] at hbu
 refine zaq ?_
 refine rX ?_ (x := (loc_alloc (by decide) z_142 zo_142))
 refine zgk ?_
 refine dA 0 ?_ (x := lF fd_142_0)
 refine zn3 ?_
 refine dA 0 ?_ (x := lF fd_142_2)
 refine zn0 ?_
 refine dA 0 ?_ (x := lF fd_142_6)
 refine dA 64 ?_ (x := lD [sl .v _] ty_93)
 refine dA 255 ?_ (x := cL [(false, [sl _ _])] [(false, [sl .v _])] c_208 (hs := by exact impl_copyRows (by omega)))
 refine dA 223 ?_ (x := lF fd_142_0)
 refine dA 1023 ?_ (x := loc_store (ag := true) (vs := [val _, val _, sl _ _, sl _ _]) ty_65 (by exact ⟨⟩) (by exact rfl) (by exact nl rfl))
 refine dA 2047 ?_ (x := lF fd_142_2)
 refine dA 4095 ?_ (x := loc_store (ag := false) (vs := [sl _ _]) ty_25 (by exact ⟨⟩) (by exact rfl) (by exact nl rfl))
 refine dA 8191 ?_ (x := lF fd_142_6)
 refine dA 16383 ?_ (x := loc_store (ag := false) (vs := [sl _ _]) ty_93 (by exact ⟨⟩) (by exact rfl) (by exact nl rfl))
 refine sw_seq ?_
 refine sO [(1, _), (2, _)] [(1, (142, [val _, val _, sl _ _, sl _ _, val _, sl _ _, val _, val _, val _, sl _ _])), (2, _)] ?_
 exact zby
theorem impl_copyFinished {p3 : Fl} {x : Finished}  (hb : wtFinished x ≤ 68719476736) : SCall Tryz.prog 145 [(true, [val (vI x.Query.Id), val (vI x.Query.Tenant), sl .v (x.Query.Conds.map cCond), sl .v (x.Query.Out.map cInt), val (vI x.Time), val (vI x.Steps), sl .v (x.Rows.map (cRow p3))])] (resRV [(true, [val (vI x.Query.Id), val (vI x.Query.Tenant), sl (.own 193 3) (x.Query.Conds.map cCond), sl (.own 3 1) (x.Query.Out.map cInt), val (vI x.Time), val (vI x.Steps), sl (.own 66 2) (x.Rows.map (cRow (.own 3 1)))])]) := by
 refine sF Tryz.func145 fun h0 w0 Fz0 => ?_
 refine sn 0 2 fun hl0_2 => ?_
 refine sn 0 3 fun hl0_3 => ?_
 refine sn 0 6 fun hl0_6 => ?_
 have hbu := hb
 simp only [wtFinished, wtInt] at hbu
 refine zau ?_
 refine rX ?_ (x := (loc_alloc (by decide) z_144 zo_144))
 refine zgk ?_
 refine dA 0 ?_ (x := lF fd_144_0)
 refine zn3 ?_
 refine dA 0 ?_ (x := lF fd_144_3)
 refine dA 8 ?_ (x := lD [sl .v _] ty_93)
 refine dA 31 ?_ (x := cL [(false, [sl _ _])] [(false, [sl .v _])] c_208 (hs := by exact impl_copyRows (by omega)))
 refine dA 31 ?_ (x := lF fd_144_0)
 refine dA 127 ?_ (x := loc_store (ag := true) (vs := [val _, val _, sl _ _, sl _ _]) ty_65 (by exact ⟨⟩) (by exact rfl) (by exact nl rfl))
 refine dA 255 ?_ (x := lF fd_144_3)
 refine dA 511 ?_ (x := loc_store (ag := false) (vs := [sl _ _]) ty_93 (by exact ⟨⟩) (by exact rfl) (by exact nl rfl))
 refine sw_seq ?_
 refine sO [(1, _), (2, _)] [(1, (144, [val _, val _, sl _ _, sl _ _, val _, val _, sl _ _])), (2, _)] ?_
 exact zc1
theorem spec_l7One {a : Int} {b : List Int} {c : Int} {d : Int}  (hb : b.length ≤ 68719476736) : SCall Tryz.prog 230 [(false, [val (vI a)]), (false, [sl .v (b.map cInt)]), (false, [val (vI c)]), (false, [val (vI d)])] (resRV [(true, [val (vI (Version.mk a b c d).Id), sl (.own 3 1) ((Version.mk a b c d).Values.map cInt), val (vI (Version.mk a b c d).Born), val (vI (Version.mk a b c d).Died)])]) := by
 refine sF Tryz.func230 fun h0 w0 Fz0 => ?_
 refine sj 1 fun hl1 => ?_
 refine sR ?_
 refine rX ?_ (x := (loc_alloc (by decide) z_151 zo_151))
 refine sT [0, 1, 2, 3, 8] [8] ?_
 refine rM ?_
 refine zfs ?_
 refine zfo ?_
 refine rA ?_ (x := loc_build (qs := [(false, [val _]), (false, [sl _ _]), (false, [val _]), (false, [val _])]) (cs := [val _, sl _ _, val _, val _]) (by decide) z_151 zo_151 FCpy_pl_151 (by exact rfl) (by exact (aI (by exact ⟨⟩) (aI (by exact ⟨⟩) (aI (by exact ⟨⟩) (aI (by exact ⟨⟩) tI))))) rfl (by exact rfl))
 refine zbl ?_
 exact (Exists.intro 8 (Exists.intro _ (aI (by exact rfl) (aI (by exact rfl) (aI ty_151 (aI (fun h => nomatch h) tI))))))
theorem spec_l7Part {p1 : Fl} {x : List Version}  (hb : wtVersionS x ≤ 68719476736) : SCall Tryz.prog 205 [(false, [sl .v (x.map (cVersion p1))])] (resRV [(false, [sl (.own 151 4) (x.map (cVersion (.own 3 1)))])]) := by
 refine sF Tryz.func205 fun h0 w0 Fz0 => ?_
 refine sj 0 fun hl0 => ?_
 have hbu := hb
 simp only [wtVersionS] at hbu
 refine zbq ?_
 refine sS [0, 2] [] ?_
 refine zhw ?_
 refine zgo ?_
 refine zgs ?_
 refine sL [0, 2] [] (fun k : Nat => k ≤ x.length) (fun k : Nat => [(3, RV.slc (.own 151 4) ((x.take k).map (cVersion (.own 3 1)))), (4, RV.int (k : Int))]) (fun k : Nat => []) (fun k : Nat => x.length - k) 0 (by omega) (by exact aI (by first | exact rfl | simp) (aI (by exact rfl) (tI))) (by exact ⟨⟩) ?_
 rintro k hk
 refine zae ?_
 refine zd7 ?_
 refine sc (fun hba => ?_) (fun hba => ?_)
 have hlt : k < x.length := by omega
 have hwm := wt_mem (f := wtVersion) hlt
 have htl : (x.take k).length = k := by rw [List.length_take]; omega
 have hwv : wtVersion x[k] = x[k].Values.length := by simp only [wtVersion, wtIntS_len, wtInt]; omega
 refine zed ?_
 refine sP [0, 2, 3, 4] [] ?_
 refine zn4 ?_
 refine zck ?_
 refine zn5 ?_
 refine zkg ?_
 refine zn6 ?_
 refine dA 960 ?_ (x := lE [sl .v _] ty_25)
 refine zck ?_
 refine dA 6144 ?_ (x := loc_index (by decide) sl_149 (by exact ⟨⟩) (by exact rfl) (by exact getm2 (by omega) rfl) (by exact rfl))
 refine dA 14336 ?_ (x := loc_efield (by decide) fd_151_2 (by exact nl rfl))
 refine dA 30720 ?_ (x := lE [val _] ty_3)
 refine zck ?_
 refine dA 196608 ?_ (x := loc_index (by decide) sl_149 (by exact ⟨⟩) (by exact rfl) (by exact getm2 (by omega) rfl) (by exact rfl))
 refine dA 458752 ?_ (x := loc_efield (by decide) fd_151_3 (by exact nl rfl))
 refine dA 983040 ?_ (x := lE [val _] ty_3)
 refine dA 2097150 ?_ (x := cL [(false, [val _]), (false, [sl _ _]), (false, [val _]), (false, [val _])] [(false, [val _]), (false, [sl .v _]), (false, [val _]), (false, [val _])] c_230 (hs := by exact (spec_l7One (by omega))))
 refine dA 4194302 ?_ (x := loc_bslice (qs := [(true, [val _, sl _ _, val _, val _])]) (by decide) sl_149 z_151 (by decide) rfl rfl rfl rfl rfl (by exact nl rfl) (by exact (aI (by exact ⟨⟩) tI)) rfl)
 refine dA 8388607 ?_ (x := loc_append (by decide) sl_149 z_151 rfl rfl (by decide) rfl (by simp only [List.length_map, List.length_append, List.length_cons, List.length_nil]; omega) (by simp only [List.length_map, List.length_append, List.length_cons, List.length_nil]; omega))
 refine dA 16777215 ?_ (x := tA)
 refine sG [0, 2, 3, 4] [] ?_
 exact zgu
 exact zgv
theorem impl_copyStore {p1 p2 : Fl} {s : Store}  (hb : wtStore s ≤ 68719476736) : SCall Tryz.prog 143 [(true, [sl .v (s.Segments.map (cVersionS p1 p2)), val (vI s.Now)])] (resRV [(true, [sl (.own 149 1) (s.Segments.map (cVersionS (.own 151 4) (.own 3 1))), val (vI s.Now)])]) := by
 refine sF Tryz.func143 fun h0 w0 Fz0 => ?_
 refine sn 0 0 fun hl0_0 => ?_
 have hbu := hb
 simp only [wtStore, wtVersionSS, wtInt] at hbu
 refine zav ?_
 refine zc2 ?_
 refine rA ?_ (x := lF fd_35_1)
 refine zn7 ?_
 refine zn8 ?_
 refine zie ?_
 refine zc3 ?_
 refine zhy ?_
 refine zfl ?_
 refine sP [1, 2, 3, 13, 14, 15] [1, 2, 3] ?_
 refine sL [1, 2, 3, 13, 14] [1, 2] (fun k : Nat => k ≤ s.Segments.length) (fun k : Nat => [(15, RV.int (k : Int))]) (fun k : Nat => [(3, (35, [sl (.own 149 1) ((s.Segments.take k).map (cVersionS (.own 151 4) (.own 3 1))), val (vI s.Now)]))]) (fun k : Nat => s.Segments.length - k) 0 (by omega) (by exact aI (by exact rfl) (tI)) (by exact aI (by exact rfl) (tI)) ?_
 rintro k hk
 refine zfm ?_
 refine sc (fun hba => ?_) (fun hba => ?_)
 have hlt : k < s.Segments.length := by omega
 have hwm := wt_mem (f := wtVersionS) hlt
 have hws : wtVersionS s.Segments[k] = s.Segments[k].length + (s.Segments[k].map wtVersion).sum := rfl
 have htl : (s.Segments.take k).length = k := by rw [List.length_take]; omega
 refine zed ?_
 refine sT [1, 2, 3, 13, 14, 15] [1, 2, 3] ?_
 refine zi3 ?_
 refine rA ?_ (x := vA false [sl .v _])
 refine sS [1, 2, 3, 5, 13, 14, 15] [1, 2, 3] ?_
 refine zhw ?_
 refine sw_seq ?_
 refine sS [1, 2, 3, 5, 6, 13, 14, 15] [1, 2, 3] ?_
 refine zd6 ?_
 refine zfl ?_
 refine sP [1, 2, 3, 5, 6, 13, 14, 15, 20, 21, 22] [1, 2, 3] ?_
 refine sL [1, 2, 3, 5, 13, 14, 15, 20, 21] [1, 2, 3] (fun j : Nat => j ≤ s.Segments[k].length) (fun j : Nat => [(6, RV.slc (.own 151 4) ((s.Segments[k].take j).map (cVersion (.own 3 1)))), (22, RV.int (j : Int))]) (fun j : Nat => []) (fun j : Nat => s.Segments[k].length - j) 0 (by omega) (by exact aI (by exact rfl) (aI (by exact rfl) (tI))) (by exact ⟨⟩) ?_
 rintro j hj
 refine zfm ?_
 refine sc (fun hbb => ?_) (fun hbb => ?_)
 have hlt2 : j < s.Segments[k].length := by omega
 have hwm2 := wt_mem (f := wtVersion) hlt2
 have hwv : wtVersion s.Segments[k][j] = s.Segments[k][j].Values.length := by simp only [wtVersion, wtIntS_len, wtInt]; omega
 have htl2 : (s.Segments[k].take j).length = j := by rw [List.length_take]; omega
 refine zed ?_
 refine sT [1, 2, 3, 5, 6, 13, 14, 15, 20, 21, 22] [1, 2, 3] ?_
 refine zic ?_
 refine zid ?_
 refine sO [(1, _), (2, _), (3, _), (5, _), (6, _), (8, _), (13, _), (14, _), (15, _), (20, _), (21, _), (22, _)] [(1, _), (2, _), (3, _), (8, (151, [val _, sl _ _, val _, val _]))] ?_
 refine zn4 ?_
 refine dA 0 ?_ (x := lF fd_151_0)
 refine dA 2 ?_ (x := lD [val _] ty_3)
 refine dA 0 ?_ (x := lF fd_151_1)
 refine dA 8 ?_ (x := lD [sl .v _] ty_25)
 refine dA 24 ?_ (x := cL [(false, [sl _ _])] [(false, [sl .v _])] c_134 (hs := by exact impl_copyInts (by omega)))
 refine dA 0 ?_ (x := lF fd_151_2)
 refine dA 64 ?_ (x := lD [val _] ty_3)
 refine dA 0 ?_ (x := lF fd_151_3)
 refine dA 256 ?_ (x := lD [val _] ty_3)
 refine dA 1022 ?_ (x := loc_build (qs := [(false, [val _]), (false, [sl _ _]), (false, [val _]), (false, [val _])]) (cs := [val _, sl _ _, val _, val _]) (by decide) z_151 zo_151 FCpy_pl_151 (by exact rfl) (by exact (aI (by exact ⟨⟩) (aI (by exact ⟨⟩) (aI (by exact ⟨⟩) (aI (by exact ⟨⟩) tI))))) rfl (by exact rfl))
 refine dA 2046 ?_ (x := loc_bslice (qs := [(true, [val _, sl _ _, val _, val _])]) (by decide) sl_149 z_151 (by decide) rfl rfl rfl rfl rfl (by exact nl rfl) (by exact (aI (by exact ⟨⟩) tI)) rfl)
 refine dA 4095 ?_ (x := loc_append (by decide) sl_149 z_151 rfl rfl (by decide) rfl (by simp only [List.length_map, List.length_append, List.length_cons, List.length_nil]; omega) (by simp only [List.length_map, List.length_append, List.length_cons, List.length_nil]; omega))
 refine dA 8191 ?_ (x := tA)
 refine sG [1, 2, 3, 5, 6, 8, 13, 14, 15, 20, 21, 22] [1, 2, 3, 8] ?_
 refine zfp ?_
 refine nx (j + 1) (by omega) (e := (by exact aI (by exact slc_eq (by rw [tk_succ hlt2, List.map_append]; exact rfl)) (aI (by exact rfl) (tI))))
 have hend2 : j = s.Segments[k].length := by omega
 refine sw_exit ?_
 refine sH [1, 2, 3, 5, 6, 13, 14, 15, 20, 21, 22] [1, 2, 3] ?_
 refine rA ?_ (x := lF fd_35_0)
 refine rA ?_ (x := loc_ltake (ms := [sl _ _]) (qs := [sl .v _]) (by decide) ty_33 (fun _ => rfl) (by exact nl rfl) (by exact rfl) (by exact (ToL.cons PV.to_none ToL.nil)) (by exact (BorL.cons (bor_sl _) BorL.nil)))
 refine rA ?_ (x := tM)
 refine rA ?_ (x := loc_bslice (qs := [(false, [sl _ _])]) (by decide) sl_33 z_149 (by decide) rfl rfl rfl rfl rfl (by exact nl rfl) (by exact (aI (by exact ⟨⟩) tI)) rfl)
 refine rA ?_ (x := loc_append (by decide) sl_33 z_149 rfl rfl (by decide) rfl (by simp only [List.length_map, List.length_append, List.length_cons, List.length_nil]; omega) (by simp only [List.length_map, List.length_append, List.length_cons, List.length_nil]; omega))
 refine zc4 ?_
 refine sO [(1, _), (2, _), (3, _), (5, _), (13, _), (14, _), (15, _), (20, _), (21, _), (22, _)] [(1, _), (2, _), (3, (35, [sl _ _, val _]))] ?_
 refine sw_reg ?_
 refine zfp ?_
 refine nx (k + 1) (by omega) (f := (by exact aI (by rw [hend2, List.take_length, tk_succ hlt]; simp only [List.map_append]; exact rfl) (tI)))
 have hend : k = s.Segments.length := by omega
 refine sw_exit ?_
 refine sT [1, 2, 3, 13, 14, 15] [1, 2, 3] ?_
 exact zn9
theorem spec_l7Copy {p1 p2 : Fl} {s : Store}  (hb : wtStore s ≤ 68719476736) : SCall Tryz.prog 138 [(true, [sl .v (s.Segments.map (cVersionS p1 p2)), val (vI s.Now)])] (resRV [(true, [sl (.own 149 1) (s.Segments.map (cVersionS (.own 151 4) (.own 3 1))), val (vI s.Now)])]) := by
 refine sF Tryz.func138 fun h0 w0 Fz0 => ?_
 refine sn 0 0 fun hl0_0 => ?_
 have hbu := hb
 simp only [wtStore, wtVersionSS, wtInt] at hbu
 refine zav ?_
 refine zc2 ?_
 refine rA ?_ (x := lF fd_35_1)
 refine zn7 ?_
 refine zn8 ?_
 refine zie ?_
 refine zc3 ?_
 refine zhx ?_
 refine sP [1, 2, 3, 4] [1, 2, 3] ?_
 refine sL [1, 2, 3] [1, 2] (fun k : Nat => k ≤ s.Segments.length) (fun k : Nat => [(4, RV.int (k : Int))]) (fun k : Nat => [(3, (35, [sl (.own 149 1) ((s.Segments.take k).map (cVersionS (.own 151 4) (.own 3 1))), val (vI s.Now)]))]) (fun k : Nat => s.Segments.length - k) 0 (by omega) (by exact aI (by exact rfl) (tI)) (by exact aI (by exact rfl) (tI)) ?_
 rintro k hk
 refine zg2 ?_
 refine zhy ?_
 refine rA ?_ (x := B_lss)
 refine sc (fun hba => ?_) (fun hba => ?_)
 have hlt : k < s.Segments.length := by omega
 have hwm := wt_mem (f := wtVersionS) hlt
 have hws : wtVersionS s.Segments[k] = s.Segments[k].length + (s.Segments[k].map wtVersion).sum := rfl
 have htl : (s.Segments.take k).length = k := by rw [List.length_take]; omega
 refine zed ?_
 refine sQ [1, 2, 3, 4] [1, 2, 3] ?_
 refine sw_draw hm_ ?_
 refine dA 0 ?_ (x := lF fd_35_0)
 refine dA 1 ?_ (x := loc_ltake (ms := [sl _ _]) (qs := [sl .v _]) (by decide) ty_33 (fun _ => rfl) (by exact nl rfl) (by exact rfl) (by exact (ToL.cons PV.to_none ToL.nil)) (by exact (BorL.cons (bor_sl _) BorL.nil)))
 refine dA 0 ?_ (x := lF fd_35_0)
 refine dA 4 ?_ (x := lD [sl .v _] ty_33)
 refine dA 0 ?_ (x := sM)
 refine dA 28 ?_ (x := loc_index (by decide) sl_33 (by exact ⟨⟩) (by exact rfl) (by exact getm2 (by omega) rfl) (by exact rfl))
 refine dA 60 ?_ (x := lE [sl .v _] ty_149)
 refine dA 124 ?_ (x := cL [(false, [sl _ _])] [(false, [sl .v _])] c_205 (hs := by exact (spec_l7Part (by omega))))
 refine dA 252 ?_ (x := loc_bslice (qs := [(false, [sl _ _])]) (by decide) sl_33 z_149 (by decide) rfl rfl rfl rfl rfl (by exact nl rfl) (by exact (aI (by exact ⟨⟩) tI)) rfl)
 refine dA 511 ?_ (x := loc_append (by decide) sl_33 z_149 rfl rfl (by decide) rfl (by simp only [List.length_map, List.length_append, List.length_cons, List.length_nil]; omega) (by simp only [List.length_map, List.length_append, List.length_cons, List.length_nil]; omega))
 refine dA 1023 ?_ (x := lF fd_35_0)
 refine dA 2047 ?_ (x := loc_store (ag := false) (vs := [sl _ _]) ty_33 (by exact ⟨⟩) (by exact rfl) (by exact nl rfl))
 refine sO [(1, _), (2, _), (3, _), (4, _)] [(1, _), (2, _), (3, (35, [sl _ _, val _]))] ?_
 exact zna
 have hend : k = s.Segments.length := by omega
 refine sw_exit ?_
 refine sT [1, 2, 3, 4] [1, 2, 3] ?_
 exact zn9
theorem impl_copyEngine {p1 p2 p5 p6 p7 p8 p9 p11 p12 p13 p14 p16 p17 p18 : Fl} {e : Engine}  (hb : wtEngine e ≤ 68719476736) : SCall Tryz.prog 71 [(true, [sl .v (e.Store.Segments.map (cVersionS p1 p2)), val (vI e.Store.Now), val (vI e.Cursor), sl .v (e.Order.map cInt), sl .v (e.Active.map (cActive p5 p6 p7 p8 p9)), sl .v (e.Done.map (cFinished p11 p12 p13 p14)), sl .v (e.Ledger.map (cCharge p16 p17 p18)), val (vI e.Steps)])] (resRV [(true, [sl (.own 149 1) (e.Store.Segments.map (cVersionS (.own 151 4) (.own 3 1))), val (vI e.Store.Now), val (vI e.Cursor), sl (.own 3 1) (e.Order.map cInt), sl (.own 142 10) (e.Active.map (cActive (.own 193 3) (.own 3 1) (.own 3 1) (.own 66 2) (.own 3 1))), sl (.own 144 7) (e.Done.map (cFinished (.own 193 3) (.own 3 1) (.own 66 2) (.own 3 1))), sl (.own 148 5) (e.Ledger.map (cCharge (.own 3 1) (.own 3 1) (.own 3 1))), val (vI e.Steps)])]) := by
 refine sF Tryz.func71 fun h0 w0 Fz0 => ?_
 refine sn 0 0 fun hl0_0 => ?_
 refine sn 0 3 fun hl0_3 => ?_
 refine sn 0 4 fun hl0_4 => ?_
 refine sn 0 5 fun hl0_5 => ?_
 refine sn 0 6 fun hl0_6 => ?_
 have hbu := hb
 simp only [wtEngine, wtActiveS, wtFinishedS, wtChargeS, wtIntS_len, wtInt] at hbu
 refine zc6 ?_
 refine zgk ?_
 refine zm3 ?_
 refine dA 3 ?_ (x := cL [(true, [sl _ _, val _])] [(true, [sl .v _, val _])] c_143 (hs := by exact (impl_copyStore (by omega))))
 refine dA 0 ?_ (x := lF fd_40_1)
 refine dA 8 ?_ (x := lD [val _] ty_3)
 refine dA 0 ?_ (x := lF fd_40_2)
 refine dA 32 ?_ (x := lD [sl .v _] ty_25)
 refine dA 103 ?_ (x := cL [(false, [sl _ _])] [(false, [sl .v _])] c_134 (hs := by exact impl_copyInts (by omega)))
 refine dA 0 ?_ (x := lF fd_40_6)
 refine dA 256 ?_ (x := lD [val _] ty_3)
 refine dA 1023 ?_ (x := loc_build (qs := [(true, [sl _ _, val _]), (false, [val _]), (false, [sl _ _]), (false, [val _])]) (cs := [sl _ _, val _, val _, sl _ _, sl _ _, sl _ _, sl _ _, val _]) (by decide) z_40 zo_40 FCpy_pl_40 (by exact rfl) (by exact (aI (by exact ⟨⟩) (aI (by exact ⟨⟩) (aI (by exact ⟨⟩) (aI (by exact ⟨⟩) tI))))) rfl (by exact rfl))
 refine Run.step 0 (by exact ⟨⟩) (by exact ⟨⟩) (LocG.of rfl (loc_alloc (by decide) z_40 zo_40)) (free1 (Free.of_ rfl)) (by kernel_rfl) ?_
 refine dA 4095 ?_ (x := loc_store (ag := true) (vs := [sl _ _, val _, val _, sl _ _, sl _ _, sl _ _, sl _ _, val _]) ty_40 (by exact ⟨⟩) (by exact rfl) (by exact nl rfl))
 refine zie ?_
 refine zc7 ?_
 refine zm0 ?_
 refine sP [1, 2, 3, 22, 23, 24] [1, 2, 3] ?_
 refine sL [1, 2, 3, 22, 23] [1, 2] (fun k : Nat => k ≤ e.Active.length) (fun k : Nat => [(24, RV.int (k : Int))]) (fun k : Nat => [(3, (40, [sl (.own 149 1) (e.Store.Segments.map (cVersionS (.own 151 4) (.own 3 1))), val (vI e.Store.Now), val (vI e.Cursor), sl (.own 3 1) (e.Order.map cInt), sl (.own 142 10) ((e.Active.take k).map (cActive (.own 193 3) (.own 3 1) (.own 3 1) (.own 66 2) (.own 3 1))), sl (.own 144 7) (([] : List Finished).map (cFinished (.own 193 3) (.own 3 1) (.own 66 2) (.own 3 1))), sl (.own 148 5) (([] : List Charge).map (cCharge (.own 3 1) (.own 3 1) (.own 3 1))), val (vI e.Steps)]))]) (fun k : Nat => e.Active.length - k) 0 (by omega) (by exact aI (by exact rfl) (tI)) (by exact aI (by exact rfl) (tI)) ?_
 rintro k hk
 refine zfm ?_
 refine sc (fun hba => ?_) (fun hba => ?_)
 have hlt : k < e.Active.length := by omega
 have hwm := wt_mem (f := wtActive) hlt
 have hwu : wtActive e.Active[k] = wtQuery e.Active[k].Query + e.Active[k].Todo.length + wtRowS e.Active[k].Rows := by simp only [wtActive, wtIntS_len, wtInt]; omega
 have htl : (e.Active.take k).length = k := by rw [List.length_take]; omega
 refine zed ?_
 refine sT [1, 2, 3, 22, 23, 24] [1, 2, 3] ?_
 refine zm1 ?_
 refine znb ?_
 refine sO [(1, _), (2, _), (3, _), (5, _), (22, _), (23, _), (24, _)] [(1, _), (2, _), (3, _), (5, (142, [val _, val _, sl _ _, sl _ _, val _, sl _ _, val _, val _, val _, sl _ _]))] ?_
 refine sw_draw hm_ ?_
 refine dA 0 ?_ (x := lF fd_40_3)
 refine dA 1 ?_ (x := loc_ltake (ms := [sl _ _]) (qs := [sl .v _]) (by decide) ty_36 (fun _ => rfl) (by exact nl rfl) (by exact rfl) (by exact (ToL.cons PV.to_none ToL.nil)) (by exact (BorL.cons (bor_sl _) BorL.nil)))
 refine dA 0 ?_ (x := lD [val _, val _, sl .v _, sl .v _, val _, sl .v _, val _, val _, val _, sl .v _] ty_142)
 refine dA 4 ?_ (x := cL [(true, [val _, val _, sl _ _, sl _ _, val _, sl _ _, val _, val _, val _, sl _ _])] [(true, [val _, val _, sl .v _, sl .v _, val _, sl .v _, val _, val _, val _, sl .v _])] c_144 (hs := by exact (impl_copyActive (by omega))))
 refine dA 12 ?_ (x := loc_bslice (qs := [(true, [val _, val _, sl _ _, sl _ _, val _, sl _ _, val _, val _, val _, sl _ _])]) (by decide) sl_36 z_142 (by decide) rfl rfl rfl rfl rfl (by exact nl rfl) (by exact (aI (by exact ⟨⟩) tI)) rfl)
 refine dA 31 ?_ (x := loc_append (by decide) sl_36 z_142 rfl rfl (by decide) rfl (by simp only [List.length_map, List.length_append, List.length_cons, List.length_nil]; omega) (by simp only [List.length_map, List.length_append, List.length_cons, List.length_nil]; omega))
 refine dA 63 ?_ (x := lF fd_40_3)
 refine dA 127 ?_ (x := loc_store (ag := false) (vs := [sl _ _]) ty_36 (by exact ⟨⟩) (by exact rfl) (by exact nl rfl))
 refine sO [(1, _), (2, _), (3, _), (5, _), (22, _), (23, _), (24, _)] [(1, _), (2, _), (3, (40, [sl _ _, val _, val _, sl _ _, sl _ _, sl _ _, sl _ _, val _])), (5, _)] ?_
 exact znc
 have hend0 : k = e.Active.length := by omega
 refine zhm ?_
 refine sT [1, 2, 3, 22, 23, 24] [1, 2, 3] ?_
 refine zdp ?_
 refine rA ?_ (x := lN sl_37)
 refine zfl ?_
 refine sP [1, 2, 3, 22, 23, 24, 37, 38, 39] [1, 2, 3] ?_
 refine sL [1, 2, 3, 22, 23, 24, 37, 38] [1, 2] (fun k : Nat => k ≤ e.Done.length) (fun k : Nat => [(39, RV.int (k : Int))]) (fun k : Nat => [(3, (40, [sl (.own 149 1) (e.Store.Segments.map (cVersionS (.own 151 4) (.own 3 1))), val (vI e.Store.Now), val (vI e.Cursor), sl (.own 3 1) (e.Order.map cInt), sl (.own 142 10) (e.Active.map (cActive (.own 193 3) (.own 3 1) (.own 3 1) (.own 66 2) (.own 3 1))), sl (.own 144 7) ((e.Done.take k).map (cFinished (.own 193 3) (.own 3 1) (.own 66 2) (.own 3 1))), sl (.own 148 5) (([] : List Charge).map (cCharge (.own 3 1) (.own 3 1) (.own 3 1))), val (vI e.Steps)]))]) (fun k : Nat => e.Done.length - k) 0 (by omega) (by exact aI (by exact rfl) (tI)) (by exact aI (by rw [hend0, List.take_length]; exact rfl) (tI)) ?_
 rintro k hk
 refine zfm ?_
 refine sc (fun hbb => ?_) (fun hbb => ?_)
 have hlt : k < e.Done.length := by omega
 have hwm := wt_mem (f := wtFinished) hlt
 have hwu : wtFinished e.Done[k] = wtQuery e.Done[k].Query + wtRowS e.Done[k].Rows := by simp only [wtFinished, wtInt]; omega
 have htl : (e.Done.take k).length = k := by rw [List.length_take]; omega
 refine zed ?_
 refine sT [1, 2, 3, 22, 23, 24, 37, 38, 39] [1, 2, 3] ?_
 refine zm6 ?_
 refine zm7 ?_
 refine sO [(1, _), (2, _), (3, _), (7, _), (22, _), (23, _), (24, _), (37, _), (38, _), (39, _)] [(1, _), (2, _), (3, _), (7, (144, [val _, val _, sl _ _, sl _ _, val _, val _, sl _ _]))] ?_
 refine sw_draw hm_ ?_
 refine dA 0 ?_ (x := lF fd_40_4)
 refine dA 1 ?_ (x := loc_ltake (ms := [sl _ _]) (qs := [sl .v _]) (by decide) ty_37 (fun _ => rfl) (by exact nl rfl) (by exact rfl) (by exact (ToL.cons PV.to_none ToL.nil)) (by exact (BorL.cons (bor_sl _) BorL.nil)))
 refine dA 0 ?_ (x := lD [val _, val _, sl .v _, sl .v _, val _, val _, sl .v _] ty_144)
 refine dA 4 ?_ (x := cL [(true, [val _, val _, sl _ _, sl _ _, val _, val _, sl _ _])] [(true, [val _, val _, sl .v _, sl .v _, val _, val _, sl .v _])] c_145 (hs := by exact (impl_copyFinished (by omega))))
 refine dA 12 ?_ (x := loc_bslice (qs := [(true, [val _, val _, sl _ _, sl _ _, val _, val _, sl _ _])]) (by decide) sl_37 z_144 (by decide) rfl rfl rfl rfl rfl (by exact nl rfl) (by exact (aI (by exact ⟨⟩) tI)) rfl)
 refine dA 31 ?_ (x := loc_append (by decide) sl_37 z_144 rfl rfl (by decide) rfl (by simp only [List.length_map, List.length_append, List.length_cons, List.length_nil]; omega) (by simp only [List.length_map, List.length_append, List.length_cons, List.length_nil]; omega))
 refine dA 63 ?_ (x := lF fd_40_4)
 refine dA 127 ?_ (x := loc_store (ag := false) (vs := [sl _ _]) ty_37 (by exact ⟨⟩) (by exact rfl) (by exact nl rfl))
 refine sO [(1, _), (2, _), (3, _), (7, _), (22, _), (23, _), (24, _), (37, _), (38, _), (39, _)] [(1, _), (2, _), (3, (40, [sl _ _, val _, val _, sl _ _, sl _ _, sl _ _, sl _ _, val _])), (7, _)] ?_
 exact znc
 have hend1 : k = e.Done.length := by omega
 refine zhm ?_
 refine sT [1, 2, 3, 22, 23, 24, 37, 38, 39] [1, 2, 3] ?_
 refine zdq ?_
 refine rA ?_ (x := lN sl_38)
 refine zfl ?_
 refine sP [1, 2, 3, 22, 23, 24, 37, 38, 39, 52, 53, 54] [1, 2, 3] ?_
 refine sL [1, 2, 3, 22, 23, 24, 37, 38, 39, 52, 53] [1, 2] (fun k : Nat => k ≤ e.Ledger.length) (fun k : Nat => [(54, RV.int (k : Int))]) (fun k : Nat => [(3, (40, [sl (.own 149 1) (e.Store.Segments.map (cVersionS (.own 151 4) (.own 3 1))), val (vI e.Store.Now), val (vI e.Cursor), sl (.own 3 1) (e.Order.map cInt), sl (.own 142 10) (e.Active.map (cActive (.own 193 3) (.own 3 1) (.own 3 1) (.own 66 2) (.own 3 1))), sl (.own 144 7) (e.Done.map (cFinished (.own 193 3) (.own 3 1) (.own 66 2) (.own 3 1))), sl (.own 148 5) ((e.Ledger.take k).map (cCharge (.own 3 1) (.own 3 1) (.own 3 1))), val (vI e.Steps)]))]) (fun k : Nat => e.Ledger.length - k) 0 (by omega) (by exact aI (by exact rfl) (tI)) (by exact aI (by rw [hend1, List.take_length]; exact rfl) (tI)) ?_
 rintro k hk
 refine zfm ?_
 refine sc (fun hbc => ?_) (fun hbc => ?_)
 have hlt : k < e.Ledger.length := by omega
 have hwm := wt_mem (f := wtCharge) hlt
 skip
 have htl : (e.Ledger.take k).length = k := by rw [List.length_take]; omega
 refine zed ?_
 refine sT [1, 2, 3, 22, 23, 24, 37, 38, 39, 52, 53, 54] [1, 2, 3] ?_
 refine zma ?_
 refine zmb ?_
 refine sO [(1, _), (2, _), (3, _), (9, _), (22, _), (23, _), (24, _), (37, _), (38, _), (39, _), (52, _), (53, _), (54, _)] [(1, _), (2, _), (3, _), (9, (148, [val _, val _, sl _ _, sl _ _, sl _ _]))] ?_
 refine sw_draw hm_ ?_
 refine znd ?_
 refine dA 0 ?_ (x := lD [val _, val _, sl .v _, sl .v _, sl .v _] ty_148)
 refine dA 4 ?_ (x := cL [(true, [val _, val _, sl _ _, sl _ _, sl _ _])] [(true, [val _, val _, sl .v _, sl .v _, sl .v _])] c_146 (hs := by exact (impl_copyCharge (by omega))))
 refine dA 12 ?_ (x := loc_bslice (qs := [(true, [val _, val _, sl _ _, sl _ _, sl _ _])]) (by decide) sl_38 z_148 (by decide) rfl rfl rfl rfl rfl (by exact nl rfl) (by exact (aI (by exact ⟨⟩) tI)) rfl)
 refine dA 31 ?_ (x := loc_append (by decide) sl_38 z_148 rfl rfl (by decide) rfl (by simp only [List.length_map, List.length_append, List.length_cons, List.length_nil]; omega) (by simp only [List.length_map, List.length_append, List.length_cons, List.length_nil]; omega))
 refine dA 63 ?_ (x := lF fd_40_5)
 refine dA 127 ?_ (x := loc_store (ag := false) (vs := [sl _ _]) ty_38 (by exact ⟨⟩) (by exact rfl) (by exact nl rfl))
 refine sO [(1, _), (2, _), (3, _), (9, _), (22, _), (23, _), (24, _), (37, _), (38, _), (39, _), (52, _), (53, _), (54, _)] [(1, _), (2, _), (3, (40, [sl _ _, val _, val _, sl _ _, sl _ _, sl _ _, sl _ _, val _])), (9, _)] ?_
 exact znc
 have hend2 : k = e.Ledger.length := by omega
 refine sw_exit ?_
 refine sT [1, 2, 3, 22, 23, 24, 37, 38, 39, 52, 53, 54] [1, 2, 3] ?_
 exact zne
theorem spec_l9Copy {p1 p2 p5 p6 p7 p8 p9 p11 p12 p13 p14 p16 p17 p18 : Fl} {e : Engine}  (hb : wtEngine e ≤ 68719476736) : SCall Tryz.prog 69 [(true, [sl .v (e.Store.Segments.map (cVersionS p1 p2)), val (vI e.Store.Now), val (vI e.Cursor), sl .v (e.Order.map cInt), sl .v (e.Active.map (cActive p5 p6 p7 p8 p9)), sl .v (e.Done.map (cFinished p11 p12 p13 p14)), sl .v (e.Ledger.map (cCharge p16 p17 p18)), val (vI e.Steps)])] (resRV [(true, [sl (.own 149 1) (e.Store.Segments.map (cVersionS (.own 151 4) (.own 3 1))), val (vI e.Store.Now), val (vI e.Cursor), sl (.own 3 1) (e.Order.map cInt), sl (.own 142 10) (e.Active.map (cActive (.own 193 3) (.own 3 1) (.own 3 1) (.own 66 2) (.own 3 1))), sl (.own 144 7) (e.Done.map (cFinished (.own 193 3) (.own 3 1) (.own 66 2) (.own 3 1))), sl (.own 148 5) (e.Ledger.map (cCharge (.own 3 1) (.own 3 1) (.own 3 1))), val (vI e.Steps)])]) := by
 refine sF Tryz.func69 fun h0 w0 Fz0 => ?_
 refine sn 0 0 fun hl0_0 => ?_
 refine sn 0 3 fun hl0_3 => ?_
 refine sn 0 4 fun hl0_4 => ?_
 refine sn 0 5 fun hl0_5 => ?_
 refine sn 0 6 fun hl0_6 => ?_
 have hbu := hb
 simp only [wtEngine, wtActiveS, wtFinishedS, wtChargeS, wtIntS_len, wtInt] at hbu
 refine zc6 ?_
 refine zgk ?_
 refine zm3 ?_
 refine dA 3 ?_ (x := cL [(true, [sl _ _, val _])] [(true, [sl .v _, val _])] c_138 (hs := by exact (spec_l7Copy (by omega))))
 refine dA 0 ?_ (x := lF fd_40_1)
 refine dA 8 ?_ (x := lD [val _] ty_3)
 refine dA 0 ?_ (x := loc_bslice (qs := []) (by decide) sl_25 z_3 (by decide) rfl rfl rfl rfl rfl (by exact nl rfl) (by exact ⟨⟩) rfl)
 refine dA 0 ?_ (x := lF fd_40_2)
 refine dA 64 ?_ (x := lD [sl .v _] ty_25)
 refine dA 231 ?_ (x := loc_appendb (by decide) sl_25 z_3 rfl rfl (by decide) (by first | (intro cs hcs; obtain ⟨x, _, rfl⟩ := List.mem_map.1 hcs; exact rfl) | simp) (by first | (intro cs hcs; obtain ⟨x, _, rfl⟩ := List.mem_map.1 hcs; exact (BorL.cons (bor_val _) BorL.nil)) | simp) (by simp only [List.length_map, List.length_append, List.length_cons, List.length_nil]; omega) (by simp only [List.length_map, List.length_append, List.length_cons, List.length_nil]; omega))
 refine dA 0 ?_ (x := lF fd_40_6)
 refine dA 512 ?_ (x := lD [val _] ty_3)
 refine dA 2047 ?_ (x := loc_build (qs := [(true, [sl _ _, val _]), (false, [val _]), (false, [sl _ _]), (false, [val _])]) (cs := [sl _ _, val _, val _, sl _ _, sl _ _, sl _ _, sl _ _, val _]) (by decide) z_40 zo_40 FCpy_pl_40 (by exact rfl) (by exact (aI (by exact ⟨⟩) (aI (by exact ⟨⟩) (aI (by exact ⟨⟩) (aI (by exact ⟨⟩) tI))))) rfl (by exact rfl))
 refine Run.step 0 (by exact ⟨⟩) (by exact ⟨⟩) (LocG.of rfl (loc_alloc (by decide) z_40 zo_40)) (free1 (Free.of_ rfl)) (by kernel_rfl) ?_
 refine dA 8191 ?_ (x := loc_store (ag := true) (vs := [sl _ _, val _, val _, sl _ _, sl _ _, sl _ _, sl _ _, val _]) ty_40 (by exact ⟨⟩) (by exact rfl) (by exact nl rfl))
 refine zie ?_
 refine zc7 ?_
 refine zhx ?_
 refine sP [1, 2, 3, 4] [1, 2, 3] ?_
 refine sL [1, 2, 3] [1, 2] (fun k : Nat => k ≤ e.Active.length) (fun k : Nat => [(4, RV.int (k : Int))]) (fun k : Nat => [(3, (40, [sl (.own 149 1) (e.Store.Segments.map (cVersionS (.own 151 4) (.own 3 1))), val (vI e.Store.Now), val (vI e.Cursor), sl (.own 3 1) (e.Order.map cInt), sl (.own 142 10) ((e.Active.take k).map (cActive (.own 193 3) (.own 3 1) (.own 3 1) (.own 66 2) (.own 3 1))), sl (.own 144 7) (([] : List Finished).map (cFinished (.own 193 3) (.own 3 1) (.own 66 2) (.own 3 1))), sl (.own 148 5) (([] : List Charge).map (cCharge (.own 3 1) (.own 3 1) (.own 3 1))), val (vI e.Steps)]))]) (fun k : Nat => e.Active.length - k) 0 (by omega) (by exact aI (by exact rfl) (tI)) (by exact aI (by exact rfl) (tI)) ?_
 rintro k hk
 refine zg2 ?_
 refine zmf ?_
 refine sc (fun hba => ?_) (fun hba => ?_)
 have hlt : k < e.Active.length := by omega
 have hwm := wt_mem (f := wtActive) hlt
 have hwu : wtActive e.Active[k] = wtQuery e.Active[k].Query + e.Active[k].Todo.length + wtRowS e.Active[k].Rows := by simp only [wtActive, wtIntS_len, wtInt]; omega
 have htl : (e.Active.take k).length = k := by rw [List.length_take]; omega
 refine zed ?_
 refine sT [1, 2, 3, 4] [1, 2, 3] ?_
 refine zdo ?_
 refine rM ?_
 refine zm1 ?_
 refine znb ?_
 refine sw_seq ?_
 refine znf ?_
 refine zdc ?_
 refine rA ?_ (x := cL [(true, [val _, val _, sl _ _, sl _ _])] [(true, [val _, val _, sl .v _, sl .v _])] c_139 (hs := by exact spec_l6Query (by omega)))
 refine rA ?_ (x := lF fd_142_0)
 refine zbu ?_
 refine znf ?_
 refine rA ?_ (x := loc_bslice (qs := []) (by decide) sl_25 z_3 (by decide) rfl rfl rfl rfl rfl (by exact nl rfl) (by exact ⟨⟩) rfl)
 refine zdf ?_
 refine rA ?_ (x := loc_appendb (by decide) sl_25 z_3 rfl rfl (by decide) (by first | (intro cs hcs; obtain ⟨x, _, rfl⟩ := List.mem_map.1 hcs; exact rfl) | simp) (by first | (intro cs hcs; obtain ⟨x, _, rfl⟩ := List.mem_map.1 hcs; exact (BorL.cons (bor_val _) BorL.nil)) | simp) (by simp only [List.length_map, List.length_append, List.length_cons, List.length_nil]; omega) (by simp only [List.length_map, List.length_append, List.length_cons, List.length_nil]; omega))
 refine rA ?_ (x := lF fd_142_2)
 refine zbe ?_
 refine znf ?_
 refine rA ?_ (x := lF fd_142_6)
 refine zng ?_
 refine zbx ?_
 refine znf ?_
 refine rA ?_ (x := lF fd_40_3)
 refine rA ?_ (x := loc_ltake (ms := [sl _ _]) (qs := [sl .v _]) (by decide) ty_36 (fun _ => rfl) (by exact nl rfl) (by exact rfl) (by exact (ToL.cons PV.to_none ToL.nil)) (by exact (BorL.cons (bor_sl _) BorL.nil)))
 refine znh ?_
 refine zc9 ?_
 refine sO [(1, _), (2, _), (3, _), (4, _), (5, _)] [(1, _), (2, _), (3, (40, [sl _ _, val _, val _, sl _ _, sl _ _, sl _ _, sl _ _, val _])), (5, (142, [val _, val _, sl _ _, sl _ _, val _, sl _ _, val _, val _, val _, sl _ _]))] ?_
 exact zna
 have hend0 : k = e.Active.length := by omega
 refine zhm ?_
 refine sT [1, 2, 3, 4] [1, 2, 3] ?_
 refine zhx ?_
 refine sP [1, 2, 3, 4, 6] [1, 2, 3] ?_
 refine sL [1, 2, 3, 4] [1, 2] (fun k : Nat => k ≤ e.Done.length) (fun k : Nat => [(6, RV.int (k : Int))]) (fun k : Nat => [(3, (40, [sl (.own 149 1) (e.Store.Segments.map (cVersionS (.own 151 4) (.own 3 1))), val (vI e.Store.Now), val (vI e.Cursor), sl (.own 3 1) (e.Order.map cInt), sl (.own 142 10) (e.Active.map (cActive (.own 193 3) (.own 3 1) (.own 3 1) (.own 66 2) (.own 3 1))), sl (.own 144 7) ((e.Done.take k).map (cFinished (.own 193 3) (.own 3 1) (.own 66 2) (.own 3 1))), sl (.own 148 5) (([] : List Charge).map (cCharge (.own 3 1) (.own 3 1) (.own 3 1))), val (vI e.Steps)]))]) (fun k : Nat => e.Done.length - k) 0 (by omega) (by exact aI (by exact rfl) (tI)) (by exact aI (by rw [hend0, List.take_length]; exact rfl) (tI)) ?_
 rintro k hk
 refine zg2 ?_
 refine zdp ?_
 refine zdl ?_
 refine sc (fun hbb => ?_) (fun hbb => ?_)
 have hlt : k < e.Done.length := by omega
 have hwm := wt_mem (f := wtFinished) hlt
 have hwu : wtFinished e.Done[k] = wtQuery e.Done[k].Query + wtRowS e.Done[k].Rows := by simp only [wtFinished, wtInt]; omega
 have htl : (e.Done.take k).length = k := by rw [List.length_take]; omega
 refine zed ?_
 refine sT [1, 2, 3, 4, 6] [1, 2, 3] ?_
 refine zdp ?_
 refine rM ?_
 refine zm6 ?_
 refine zm7 ?_
 refine sw_seq ?_
 refine zni ?_
 refine zdj ?_
 refine rA ?_ (x := cL [(true, [val _, val _, sl _ _, sl _ _])] [(true, [val _, val _, sl .v _, sl .v _])] c_139 (hs := by exact spec_l6Query (by omega)))
 refine rA ?_ (x := lF fd_144_0)
 refine zbu ?_
 refine zni ?_
 refine rA ?_ (x := lF fd_144_3)
 refine zng ?_
 refine zc0 ?_
 refine zni ?_
 refine znj ?_
 refine rA ?_ (x := loc_ltake (ms := [val _, val _, sl _ _, sl _ _, val _, val _, sl _ _]) (qs := [val _, val _, sl .v _, sl .v _, val _, val _, sl .v _]) (by decide) ty_144 (fun h => nomatch h) (by exact nl rfl) (by exact rfl) (by exact (ToL.cons (PV.To.refl _) (ToL.cons (PV.To.refl _) (ToL.cons PV.to_none (ToL.cons PV.to_none (ToL.cons (PV.To.refl _) (ToL.cons (PV.To.refl _) (ToL.cons PV.to_none ToL.nil)))))))) (by exact lq))
 refine znk ?_
 refine zca ?_
 refine sO [(1, _), (2, _), (3, _), (4, _), (6, _), (7, _)] [(1, _), (2, _), (3, (40, [sl _ _, val _, val _, sl _ _, sl _ _, sl _ _, sl _ _, val _])), (7, (144, [val _, val _, sl _ _, sl _ _, val _, val _, sl _ _]))] ?_
 exact zna
 have hend1 : k = e.Done.length := by omega
 refine zhm ?_
 refine sT [1, 2, 3, 4, 6] [1, 2, 3] ?_
 refine zhx ?_
 refine sP [1, 2, 3, 4, 6, 8] [1, 2, 3] ?_
 refine sL [1, 2, 3, 4, 6] [1, 2] (fun k : Nat => k ≤ e.Ledger.length) (fun k : Nat => [(8, RV.int (k : Int))]) (fun k : Nat => [(3, (40, [sl (.own 149 1) (e.Store.Segments.map (cVersionS (.own 151 4) (.own 3 1))), val (vI e.Store.Now), val (vI e.Cursor), sl (.own 3 1) (e.Order.map cInt), sl (.own 142 10) (e.Active.map (cActive (.own 193 3) (.own 3 1) (.own 3 1) (.own 66 2) (.own 3 1))), sl (.own 144 7) (e.Done.map (cFinished (.own 193 3) (.own 3 1) (.own 66 2) (.own 3 1))), sl (.own 148 5) ((e.Ledger.take k).map (cCharge (.own 3 1) (.own 3 1) (.own 3 1))), val (vI e.Steps)]))]) (fun k : Nat => e.Ledger.length - k) 0 (by omega) (by exact aI (by exact rfl) (tI)) (by exact aI (by rw [hend1, List.take_length]; exact rfl) (tI)) ?_
 rintro k hk
 refine zg2 ?_
 refine zdq ?_
 refine zd3 ?_
 refine sc (fun hbc => ?_) (fun hbc => ?_)
 have hlt : k < e.Ledger.length := by omega
 have hwm := wt_mem (f := wtCharge) hlt
 skip
 have htl : (e.Ledger.take k).length = k := by rw [List.length_take]; omega
 refine zed ?_
 refine sQ [1, 2, 3, 4, 6, 8] [1, 2, 3] ?_
 refine sw_draw hm_ ?_
 refine znd ?_
 refine dA 0 ?_ (x := lF fd_40_5)
 refine dA 4 ?_ (x := lD [sl .v _] ty_38)
 refine dA 0 ?_ (x := sM)
 refine dA 28 ?_ (x := loc_index (by decide) sl_38 (by exact ⟨⟩) (by exact rfl) (by exact getm2 (by omega) rfl) (by exact rfl))
 refine dA 60 ?_ (x := lE [val _, val _, sl .v _, sl .v _, sl .v _] ty_148)
 refine dA 124 ?_ (x := cL [(true, [val _, val _, sl _ _, sl _ _, sl _ _])] [(true, [val _, val _, sl .v _, sl .v _, sl .v _])] c_141 (hs := by exact (spec_l10Copy (by omega))))
 refine dA 252 ?_ (x := loc_bslice (qs := [(true, [val _, val _, sl _ _, sl _ _, sl _ _])]) (by decide) sl_38 z_148 (by decide) rfl rfl rfl rfl rfl (by exact nl rfl) (by exact (aI (by exact ⟨⟩) tI)) rfl)
 refine dA 511 ?_ (x := loc_append (by decide) sl_38 z_148 rfl rfl (by decide) rfl (by simp only [List.length_map, List.length_append, List.length_cons, List.length_nil]; omega) (by simp only [List.length_map, List.length_append, List.length_cons, List.length_nil]; omega))
 refine dA 1023 ?_ (x := lF fd_40_5)
 refine dA 2047 ?_ (x := loc_store (ag := false) (vs := [sl _ _]) ty_38 (by exact ⟨⟩) (by exact rfl) (by exact nl rfl))
 refine sO [(1, _), (2, _), (3, _), (4, _), (6, _), (8, _)] [(1, _), (2, _), (3, (40, [sl _ _, val _, val _, sl _ _, sl _ _, sl _ _, sl _ _, val _]))] ?_
 exact zna
 have hend2 : k = e.Ledger.length := by omega
 refine sw_exit ?_
 refine sT [1, 2, 3, 4, 6, 8] [1, 2, 3] ?_
 exact zne
end Go.Proofs.YteflgldonmgejaaGreat
