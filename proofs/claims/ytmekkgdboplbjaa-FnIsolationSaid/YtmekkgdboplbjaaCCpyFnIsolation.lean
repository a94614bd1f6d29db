/- What functions of the program compute. No condition. -/
import Derived.Test.YtmekkgdboplbjaaCZMFnIsolation
import Derived.Test.YtmekkgdboplbjaaCFcFnIsolation
import Derived.Test.YtmekkgdboplbjaaCEngFnIsolation
import Derived.Test.YtmekkgdboplbjaaCIdiFnIsolation
import Derived.KernelRfl
set_option linter.unusedVariables false
set_option linter.unusedSimpArgs false
namespace Go.Proofs.Ytmekkgdboplbjaa
open Go Go.RowKit M PV
set_option maxRecDepth 10000
attribute [local irreducible] PV.Lcl PV.LclR RV.Lcl
theorem FCpy_pl_107 : placesI Try.prog 107 = some [(0, 1), (1, 1), (2, 1), (3, 1)] := by kernel_rfl
theorem FCpy_pl_26 : placesI Try.prog 26 = some [(0, 1), (1, 1)] := by kernel_rfl
theorem FCpy_pl_32 : placesI Try.prog 32 = some [(0, 2), (2, 1), (3, 1), (4, 1), (5, 1), (6, 1), (7, 1)] := by kernel_rfl
theorem impl_copyCharge {x : Charge}  (hb : wtCharge x ≤ 68719476736) : SCall Try.prog 45 [(true, [val (vI x.Segment), val (vI x.Base), sl .v (x.Ids.map cInt), sl .v (x.Tenants.map cInt), sl .v (x.Rows.map cInt)])] (resRV [(true, [val (vI x.Segment), val (vI x.Base), sl (.own 3 1) (x.Ids.map cInt), sl (.own 3 1) (x.Tenants.map cInt), sl (.own 3 1) (x.Rows.map cInt)])]) := by
 refine sF Try.func45 fun h0 w0 Fz0 => ?_
 refine sn 0 2 fun hl0_2 => ?_
 refine sn 0 3 fun hl0_3 => ?_
 refine sn 0 4 fun hl0_4 => ?_
 have hbu := hb
 simp only [wtCharge, wtIntS_len, wtInt] at hbu
 refine zea ?_
 refine rX ?_ (x := (loc_alloc (by decide) z_73 zo_73))
 refine sw_seq ?_
 refine zb0 ?_
 refine dA 0 ?_ (x := lF fd_73_2)
 refine dA 1 ?_ (x := lD [sl .v _] ty_27)
 refine dA 3 ?_ (x := cL [(false, [sl _ _])] [(false, [sl .v _])] c_43 (hs := by exact impl_copyInts (by omega)))
 refine dA 0 ?_ (x := lF fd_73_3)
 refine zf6 ?_
 refine dA 0 ?_ (x := lF fd_73_4)
 refine dA 64 ?_ (x := lD [sl .v _] ty_27)
 refine dA 255 ?_ (x := cL [(false, [sl _ _])] [(false, [sl .v _])] c_43 (hs := by exact impl_copyInts (by omega)))
 refine dA 223 ?_ (x := lF fd_73_2)
 refine dA 1023 ?_ (x := loc_store (ag := false) (vs := [sl _ _]) ty_27 (by exact ⟨⟩) (by exact rfl) (by exact nl rfl))
 refine dA 2047 ?_ (x := lF fd_73_3)
 refine dA 4095 ?_ (x := loc_store (ag := false) (vs := [sl _ _]) ty_27 (by exact ⟨⟩) (by exact rfl) (by exact nl rfl))
 refine dA 8191 ?_ (x := lF fd_73_4)
 refine dA 16383 ?_ (x := loc_store (ag := false) (vs := [sl _ _]) ty_27 (by exact ⟨⟩) (by exact rfl) (by exact nl rfl))
 refine sw_seq ?_
 refine sO [(1, _), (2, _)] [(1, (73, [val _, val _, sl _ _, sl _ _, sl _ _])), (2, _)] ?_
 refine sw_reg ?_
 refine rA ?_ (x := loc_ltake (ms := [val _, val _, sl _ _, sl _ _, sl _ _]) (qs := [val _, val _, sl .v _, sl .v _, sl .v _]) (by decide) ty_73 (fun h => nomatch h) (by exact nl rfl) (by exact rfl) (by exact (ToL.cons (PV.To.refl _) (ToL.cons (PV.To.refl _) (ToL.cons PV.to_none (ToL.cons PV.to_none (ToL.cons PV.to_none ToL.nil)))))) (by exact lq))
 refine rA ?_ (x := loc_store (ag := true) (vs := [val _, val _, sl _ _, sl _ _, sl _ _]) ty_73 (by exact ⟨⟩) (by exact rfl) (by exact nl rfl))
 refine sw_ret ?_
 exact (Exists.intro 2 (Exists.intro _ (aI (by exact rfl) (aI (by exact rfl) (aI ty_73 (aI (fun h => nomatch h) tI))))))
theorem impl_copyActive {p4 : Fl} {x : Active}  (hb : wtActive x ≤ 68719476736) : SCall Try.prog 44 [(true, [val (vI x.Query.Id), val (vI x.Query.Tenant), sl .v (x.Query.Conds.map cCond), sl .v (x.Query.Out.map cInt), val (vI x.Time), sl .v (x.Todo.map cInt), val (vI x.Age), val (vI x.Sent), val (vI x.Cap), sl .v (x.Rows.map (cRow p4))])] (resRV [(true, [val (vI x.Query.Id), val (vI x.Query.Tenant), sl (.own 41 3) (x.Query.Conds.map cCond), sl (.own 3 1) (x.Query.Out.map cInt), val (vI x.Time), sl (.own 3 1) (x.Todo.map cInt), val (vI x.Age), val (vI x.Sent), val (vI x.Cap), sl (.own 45 2) (x.Rows.map (cRow (.own 3 1)))])]) := by
 refine sF Try.func44 fun h0 w0 Fz0 => ?_
 refine sn 0 2 fun hl0_2 => ?_
 refine sn 0 3 fun hl0_3 => ?_
 refine sn 0 5 fun hl0_5 => ?_
 refine sn 0 9 fun hl0_9 => ?_
 have hbu := hb
 simp only [wtActive, wtIntS_len, wtInt] at hbu
 refine zf7 ?_
 refine rX ?_ (x := (loc_alloc (by decide) z_70 zo_70))
 refine sw_seq ?_
 refine zb0 ?_
 refine dA 0 ?_ (x := lF fd_70_0)
 refine zf8 ?_
 refine dA 0 ?_ (x := lF fd_70_2)
 refine zf6 ?_
 refine dA 0 ?_ (x := lF fd_70_6)
 refine dA 64 ?_ (x := lD [sl .v _] ty_52)
 refine dA 255 ?_ (x := cL [(false, [sl _ _])] [(false, [sl .v _])] c_64 (hs := by exact impl_copyRows (by omega)))
 refine dA 223 ?_ (x := lF fd_70_0)
 refine dA 1023 ?_ (x := loc_store (ag := true) (vs := [val _, val _, sl _ _, sl _ _]) ty_38 (by exact ⟨⟩) (by exact rfl) (by exact nl rfl))
 refine dA 2047 ?_ (x := lF fd_70_2)
 refine dA 4095 ?_ (x := loc_store (ag := false) (vs := [sl _ _]) ty_27 (by exact ⟨⟩) (by exact rfl) (by exact nl rfl))
 refine dA 8191 ?_ (x := lF fd_70_6)
 refine dA 16383 ?_ (x := loc_store (ag := false) (vs := [sl _ _]) ty_52 (by exact ⟨⟩) (by exact rfl) (by exact nl rfl))
 refine sw_seq ?_
 refine sO [(1, _), (2, _)] [(1, (70, [val _, val _, sl _ _, sl _ _, val _, sl _ _, val _, val _, val _, sl _ _])), (2, _)] ?_
 refine sw_reg ?_
 refine rA ?_ (x := loc_ltake (ms := [val _, val _, sl _ _, sl _ _, val _, sl _ _, val _, val _, val _, sl _ _]) (qs := [val _, val _, sl .v _, sl .v _, val _, sl .v _, val _, val _, val _, sl .v _]) (by decide) ty_70 (fun h => nomatch h) (by exact nl rfl) (by exact rfl) (by exact (ToL.cons (PV.To.refl _) (ToL.cons (PV.To.refl _) (ToL.cons PV.to_none (ToL.cons PV.to_none (ToL.cons (PV.To.refl _) (ToL.cons PV.to_none (ToL.cons (PV.To.refl _) (ToL.cons (PV.To.refl _) (ToL.cons (PV.To.refl _) (ToL.cons PV.to_none ToL.nil))))))))))) (by exact lq))
 refine rA ?_ (x := loc_store (ag := true) (vs := [val _, val _, sl _ _, sl _ _, val _, sl _ _, val _, val _, val _, sl _ _]) ty_70 (by exact ⟨⟩) (by exact rfl) (by exact nl rfl))
 refine sw_ret ?_
 exact (Exists.intro 2 (Exists.intro _ (aI (by exact rfl) (aI (by exact rfl) (aI ty_70 (aI (fun h => nomatch h) tI))))))
theorem impl_copyFinished {p3 : Fl} {x : Finished}  (hb : wtFinished x ≤ 68719476736) : SCall Try.prog 32 [(true, [val (vI x.Query.Id), val (vI x.Query.Tenant), sl .v (x.Query.Conds.map cCond), sl .v (x.Query.Out.map cInt), val (vI x.Time), val (vI x.Steps), sl .v (x.Rows.map (cRow p3))])] (resRV [(true, [val (vI x.Query.Id), val (vI x.Query.Tenant), sl (.own 41 3) (x.Query.Conds.map cCond), sl (.own 3 1) (x.Query.Out.map cInt), val (vI x.Time), val (vI x.Steps), sl (.own 45 2) (x.Rows.map (cRow (.own 3 1)))])]) := by
 refine sF Try.func32 fun h0 w0 Fz0 => ?_
 refine sn 0 2 fun hl0_2 => ?_
 refine sn 0 3 fun hl0_3 => ?_
 refine sn 0 6 fun hl0_6 => ?_
 have hbu := hb
 simp only [wtFinished, wtInt] at hbu
 refine sR ?_
 refine rX ?_ (x := (loc_box (ag := true) (cs := [val _, val _, sl _ _, sl _ _, val _, val _, sl _ _]) (by decide) (by exact ⟨⟩)))
 refine rX ?_ (x := (loc_alloc (by decide) z_54 zo_54))
 refine sw_seq ?_
 refine zb0 ?_
 refine dA 0 ?_ (x := lF fd_54_0)
 refine zf8 ?_
 refine dA 0 ?_ (x := lF fd_54_3)
 refine dA 8 ?_ (x := lD [sl .v _] ty_52)
 refine dA 31 ?_ (x := cL [(false, [sl _ _])] [(false, [sl .v _])] c_64 (hs := by exact impl_copyRows (by omega)))
 refine dA 31 ?_ (x := lF fd_54_0)
 refine dA 127 ?_ (x := loc_store (ag := true) (vs := [val _, val _, sl _ _, sl _ _]) ty_38 (by exact ⟨⟩) (by exact rfl) (by exact nl rfl))
 refine dA 255 ?_ (x := lF fd_54_3)
 refine dA 511 ?_ (x := loc_store (ag := false) (vs := [sl _ _]) ty_52 (by exact ⟨⟩) (by exact rfl) (by exact nl rfl))
 refine sw_seq ?_
 refine sO [(1, _), (2, _)] [(1, (54, [val _, val _, sl _ _, sl _ _, val _, val _, sl _ _])), (2, _)] ?_
 refine sw_reg ?_
 refine rA ?_ (x := loc_ltake (ms := [val _, val _, sl _ _, sl _ _, val _, val _, sl _ _]) (qs := [val _, val _, sl .v _, sl .v _, val _, val _, sl .v _]) (by decide) ty_54 (fun h => nomatch h) (by exact nl rfl) (by exact rfl) (by exact (ToL.cons (PV.To.refl _) (ToL.cons (PV.To.refl _) (ToL.cons PV.to_none (ToL.cons PV.to_none (ToL.cons (PV.To.refl _) (ToL.cons (PV.To.refl _) (ToL.cons PV.to_none ToL.nil)))))))) (by exact lq))
 refine rA ?_ (x := loc_store (ag := true) (vs := [val _, val _, sl _ _, sl _ _, val _, val _, sl _ _]) ty_54 (by exact ⟨⟩) (by exact rfl) (by exact nl rfl))
 refine sw_ret ?_
 exact (Exists.intro 2 (Exists.intro _ (aI (by exact rfl) (aI (by exact rfl) (aI ty_54 (aI (fun h => nomatch h) tI))))))
theorem spec_l7One {a : Int} {b : List Int} {c : Int} {d : Int}  (hb : b.length ≤ 68719476736) : SCall Try.prog 91 [(false, [val (vI a)]), (false, [sl .v (b.map cInt)]), (false, [val (vI c)]), (false, [val (vI d)])] (resRV [(true, [val (vI (Version.mk a b c d).Id), sl (.own 3 1) ((Version.mk a b c d).Values.map cInt), val (vI (Version.mk a b c d).Born), val (vI (Version.mk a b c d).Died)])]) := by
 refine sF Try.func91 fun h0 w0 Fz0 => ?_
 refine sj 1 fun hl1 => ?_
 refine sR ?_
 refine rX ?_ (x := (loc_alloc (by decide) z_107 zo_107))
 refine sT [0, 1, 2, 3, 8] [8] ?_
 refine rM ?_
 refine zac ?_
 refine za8 ?_
 refine rA ?_ (x := loc_build (qs := [(false, [val _]), (false, [sl _ _]), (false, [val _]), (false, [val _])]) (cs := [val _, sl _ _, val _, val _]) (by decide) z_107 zo_107 FCpy_pl_107 (by exact rfl) (by exact (aI (by exact ⟨⟩) (aI (by exact ⟨⟩) (aI (by exact ⟨⟩) (aI (by exact ⟨⟩) tI))))) rfl (by exact rfl))
 refine rA ?_ (x := loc_store (ag := true) (vs := [val _, sl _ _, val _, val _]) ty_107 (by exact ⟨⟩) (by exact rfl) (by exact nl rfl))
 refine sw_ret ?_
 exact (Exists.intro 8 (Exists.intro _ (aI (by exact rfl) (aI (by exact rfl) (aI ty_107 (aI (fun h => nomatch h) tI))))))
theorem spec_l7Part {p1 : Fl} {x : List Version}  (hb : wtVersionS x ≤ 68719476736) : SCall Try.prog 70 [(false, [sl .v (x.map (cVersion p1))])] (resRV [(false, [sl (.own 107 4) (x.map (cVersion (.own 3 1)))])]) := by
 refine sF Try.func70 fun h0 w0 Fz0 => ?_
 refine sj 0 fun hl0 => ?_
 have hbu := hb
 simp only [wtVersionS] at hbu
 refine sR ?_
 refine rA ?_ (x := loc_const (.inr rfl) (by decide) (ok_nil (t := 107) (e := 4)))
 refine sS [0, 2] [] ?_
 refine zd8 ?_
 refine sw_seq ?_
 refine sS [0, 2, 3] [] ?_
 refine zao ?_
 refine sP [0, 2, 3, 4] [] ?_
 refine sL [0, 2] [] (fun k : Nat => k ≤ x.length) (fun k : Nat => [(3, RV.slc (.own 107 4) ((x.take k).map (cVersion (.own 3 1)))), (4, RV.int (k : Int))]) (fun k : Nat => []) (fun k : Nat => x.length - k) 0 (by omega) (by exact aI (by first | exact rfl | simp) (aI (by exact rfl) (tI))) (by exact ⟨⟩) ?_
 rintro k hk
 refine zap ?_
 refine zdj ?_
 refine rA ?_ (x := B_lss)
 refine sc (fun hba => ?_) (fun hba => ?_)
 have hlt : k < x.length := by omega
 have hwm := wt_mem (f := wtVersion) hlt
 have htl : (x.take k).length = k := by rw [List.length_take]; omega
 have hwv : wtVersion x[k] = x[k].Values.length := by simp only [wtVersion, wtIntS_len, wtInt]; omega
 refine za6 ?_
 refine sP [0, 2, 3, 4] [] ?_
 refine sw_draw hm_ ?_
 refine dA 0 ?_ (x := tM)
 refine zdo ?_
 refine dA 6 ?_ (x := loc_index (by decide) sl_71 (by exact ⟨⟩) (by exact rfl) (by exact getm2 (by omega) rfl) (by exact rfl))
 refine dA 14 ?_ (x := loc_efield (by decide) fd_107_0 (by exact nl rfl))
 refine dA 30 ?_ (x := lE [val _] ty_3)
 refine zdo ?_
 refine dA 192 ?_ (x := loc_index (by decide) sl_71 (by exact ⟨⟩) (by exact rfl) (by exact getm2 (by omega) rfl) (by exact rfl))
 refine dA 448 ?_ (x := loc_efield (by decide) fd_107_1 (by exact nl rfl))
 refine dA 960 ?_ (x := lE [sl .v _] ty_27)
 refine zdo ?_
 refine dA 6144 ?_ (x := loc_index (by decide) sl_71 (by exact ⟨⟩) (by exact rfl) (by exact getm2 (by omega) rfl) (by exact rfl))
 refine dA 14336 ?_ (x := loc_efield (by decide) fd_107_2 (by exact nl rfl))
 refine dA 30720 ?_ (x := lE [val _] ty_3)
 refine zdo ?_
 refine dA 196608 ?_ (x := loc_index (by decide) sl_71 (by exact ⟨⟩) (by exact rfl) (by exact getm2 (by omega) rfl) (by exact rfl))
 refine dA 458752 ?_ (x := loc_efield (by decide) fd_107_3 (by exact nl rfl))
 refine dA 983040 ?_ (x := lE [val _] ty_3)
 refine dA 2097150 ?_ (x := cL [(false, [val _]), (false, [sl _ _]), (false, [val _]), (false, [val _])] [(false, [val _]), (false, [sl .v _]), (false, [val _]), (false, [val _])] c_91 (hs := by exact (spec_l7One (by omega))))
 refine dA 4194302 ?_ (x := loc_bslice (qs := [(true, [val _, sl _ _, val _, val _])]) (by decide) sl_71 z_107 (by decide) rfl rfl rfl rfl rfl (by exact nl rfl) (by exact (aI (by exact ⟨⟩) tI)) rfl)
 refine dA 8388607 ?_ (x := loc_append (by decide) sl_71 z_107 rfl rfl (by decide) rfl (by simp only [List.length_map, List.length_append, List.length_cons, List.length_nil]; omega) (by simp only [List.length_map, List.length_append, List.length_cons, List.length_nil]; omega))
 refine dA 16777215 ?_ (x := tA)
 refine sG [0, 2, 3, 4] [] ?_
 refine zdb ?_
 exact zb6
 have hend : k = x.length := by omega
 refine sw_exit ?_
 refine sS [0, 2, 3, 4] [] ?_
 exact zb7
theorem impl_copyStore {p1 p2 : Fl} {s : Store}  (hb : wtStore s ≤ 68719476736) : SCall Try.prog 42 [(true, [sl .v (s.Segments.map (cVersionS p1 p2)), val (vI s.Now)])] (resRV [(true, [sl (.own 71 1) (s.Segments.map (cVersionS (.own 107 4) (.own 3 1))), val (vI s.Now)])]) := by
 refine sF Try.func42 fun h0 w0 Fz0 => ?_
 refine sn 0 0 fun hl0_0 => ?_
 have hbu := hb
 simp only [wtStore, wtVersionSS, wtInt] at hbu
 refine zd7 ?_
 refine rX ?_ (x := (loc_alloc (by decide) z_26 zo_26))
 refine sT [1, 2] [1, 2] ?_
 refine rA ?_ (x := lF fd_26_1)
 refine zf9 ?_
 refine zfa ?_
 refine zfb ?_
 refine zdd ?_
 refine za4 ?_
 refine sP [1, 2, 3, 13, 14, 15] [1, 2, 3] ?_
 refine sL [1, 2, 3, 13, 14] [1, 2] (fun k : Nat => k ≤ s.Segments.length) (fun k : Nat => [(15, RV.int (k : Int))]) (fun k : Nat => [(3, (26, [sl (.own 71 1) ((s.Segments.take k).map (cVersionS (.own 107 4) (.own 3 1))), val (vI s.Now)]))]) (fun k : Nat => s.Segments.length - k) 0 (by omega) (by exact aI (by exact rfl) (tI)) (by exact aI (by exact rfl) (tI)) ?_
 rintro k hk
 refine za5 ?_
 refine sc (fun hba => ?_) (fun hba => ?_)
 have hlt : k < s.Segments.length := by omega
 have hwm := wt_mem (f := wtVersionS) hlt
 have hws : wtVersionS s.Segments[k] = s.Segments[k].length + (s.Segments[k].map wtVersion).sum := rfl
 have htl : (s.Segments.take k).length = k := by rw [List.length_take]; omega
 refine za6 ?_
 refine sT [1, 2, 3, 13, 14, 15] [1, 2, 3] ?_
 refine zdq ?_
 refine sS [1, 2, 3, 5, 13, 14, 15] [1, 2, 3] ?_
 refine zd8 ?_
 refine sw_seq ?_
 refine sS [1, 2, 3, 5, 6, 13, 14, 15] [1, 2, 3] ?_
 refine zdr ?_
 refine sP [1, 2, 3, 5, 6, 13, 14, 15, 20, 21, 22] [1, 2, 3] ?_
 refine sL [1, 2, 3, 5, 13, 14, 15, 20, 21] [1, 2, 3] (fun j : Nat => j ≤ s.Segments[k].length) (fun j : Nat => [(6, RV.slc (.own 107 4) ((s.Segments[k].take j).map (cVersion (.own 3 1)))), (22, RV.int (j : Int))]) (fun j : Nat => []) (fun j : Nat => s.Segments[k].length - j) 0 (by omega) (by exact aI (by exact rfl) (aI (by exact rfl) (tI))) (by exact ⟨⟩) ?_
 rintro j hj
 refine za5 ?_
 refine sc (fun hbb => ?_) (fun hbb => ?_)
 have hlt2 : j < s.Segments[k].length := by omega
 have hwm2 := wt_mem (f := wtVersion) hlt2
 have hwv : wtVersion s.Segments[k][j] = s.Segments[k][j].Values.length := by simp only [wtVersion, wtIntS_len, wtInt]; omega
 have htl2 : (s.Segments[k].take j).length = j := by rw [List.length_take]; omega
 refine za6 ?_
 refine sT [1, 2, 3, 5, 6, 13, 14, 15, 20, 21, 22] [1, 2, 3] ?_
 refine zds ?_
 refine zdt ?_
 refine sO [(1, _), (2, _), (3, _), (5, _), (6, _), (8, _), (13, _), (14, _), (15, _), (20, _), (21, _), (22, _)] [(1, _), (2, _), (3, _), (8, (107, [val _, sl _ _, val _, val _]))] ?_
 refine sw_draw hm_ ?_
 refine dA 0 ?_ (x := tM)
 refine dA 0 ?_ (x := lF fd_107_0)
 refine dA 2 ?_ (x := lD [val _] ty_3)
 refine dA 0 ?_ (x := lF fd_107_1)
 refine dA 8 ?_ (x := lD [sl .v _] ty_27)
 refine dA 24 ?_ (x := cL [(false, [sl _ _])] [(false, [sl .v _])] c_43 (hs := by exact impl_copyInts (by omega)))
 refine dA 0 ?_ (x := lF fd_107_2)
 refine dA 64 ?_ (x := lD [val _] ty_3)
 refine dA 0 ?_ (x := lF fd_107_3)
 refine dA 256 ?_ (x := lD [val _] ty_3)
 refine dA 1022 ?_ (x := loc_build (qs := [(false, [val _]), (false, [sl _ _]), (false, [val _]), (false, [val _])]) (cs := [val _, sl _ _, val _, val _]) (by decide) z_107 zo_107 FCpy_pl_107 (by exact rfl) (by exact (aI (by exact ⟨⟩) (aI (by exact ⟨⟩) (aI (by exact ⟨⟩) (aI (by exact ⟨⟩) tI))))) rfl (by exact rfl))
 refine dA 2046 ?_ (x := loc_bslice (qs := [(true, [val _, sl _ _, val _, val _])]) (by decide) sl_71 z_107 (by decide) rfl rfl rfl rfl rfl (by exact nl rfl) (by exact (aI (by exact ⟨⟩) tI)) rfl)
 refine dA 4095 ?_ (x := loc_append (by decide) sl_71 z_107 rfl rfl (by decide) rfl (by simp only [List.length_map, List.length_append, List.length_cons, List.length_nil]; omega) (by simp only [List.length_map, List.length_append, List.length_cons, List.length_nil]; omega))
 refine dA 8191 ?_ (x := tA)
 refine sG [1, 2, 3, 5, 6, 8, 13, 14, 15, 20, 21, 22] [1, 2, 3, 8] ?_
 refine zaa ?_
 refine nx (j + 1) (by omega) (e := (by exact aI (by exact slc_eq (by rw [tk_succ hlt2, List.map_append]; exact rfl)) (aI (by exact rfl) (tI))))
 have hend2 : j = s.Segments[k].length := by omega
 refine sw_exit ?_
 refine sH [1, 2, 3, 5, 6, 13, 14, 15, 20, 21, 22] [1, 2, 3] ?_
 refine zfc ?_
 refine rA ?_ (x := tM)
 refine zfd ?_
 refine zfe ?_
 refine sO [(1, _), (2, _), (3, _), (5, _), (13, _), (14, _), (15, _), (20, _), (21, _), (22, _)] [(1, _), (2, _), (3, (26, [sl _ _, val _]))] ?_
 refine sw_reg ?_
 refine zaa ?_
 refine nx (k + 1) (by omega) (f := (by exact aI (by rw [hend2, List.take_length, tk_succ hlt]; simp only [List.map_append]; exact rfl) (tI)))
 have hend : k = s.Segments.length := by omega
 refine sw_exit ?_
 refine sT [1, 2, 3, 13, 14, 15] [1, 2, 3] ?_
 exact zff
theorem spec_l7Copy {p1 p2 : Fl} {s : Store}  (hb : wtStore s ≤ 68719476736) : SCall Try.prog 35 [(true, [sl .v (s.Segments.map (cVersionS p1 p2)), val (vI s.Now)])] (resRV [(true, [sl (.own 71 1) (s.Segments.map (cVersionS (.own 107 4) (.own 3 1))), val (vI s.Now)])]) := by
 refine sF Try.func35 fun h0 w0 Fz0 => ?_
 refine sn 0 0 fun hl0_0 => ?_
 have hbu := hb
 simp only [wtStore, wtVersionSS, wtInt] at hbu
 refine zd7 ?_
 refine rX ?_ (x := (loc_alloc (by decide) z_26 zo_26))
 refine sT [1, 2] [1, 2] ?_
 refine rA ?_ (x := lF fd_26_1)
 refine zf9 ?_
 refine zfa ?_
 refine zfb ?_
 refine zao ?_
 refine sP [1, 2, 3, 4] [1, 2, 3] ?_
 refine sL [1, 2, 3] [1, 2] (fun k : Nat => k ≤ s.Segments.length) (fun k : Nat => [(4, RV.int (k : Int))]) (fun k : Nat => [(3, (26, [sl (.own 71 1) ((s.Segments.take k).map (cVersionS (.own 107 4) (.own 3 1))), val (vI s.Now)]))]) (fun k : Nat => s.Segments.length - k) 0 (by omega) (by exact aI (by exact rfl) (tI)) (by exact aI (by exact rfl) (tI)) ?_
 rintro k hk
 refine zap ?_
 refine zd9 ?_
 refine sc (fun hba => ?_) (fun hba => ?_)
 have hlt : k < s.Segments.length := by omega
 have hwm := wt_mem (f := wtVersionS) hlt
 have hws : wtVersionS s.Segments[k] = s.Segments[k].length + (s.Segments[k].map wtVersion).sum := rfl
 have htl : (s.Segments.take k).length = k := by rw [List.length_take]; omega
 refine za6 ?_
 refine sQ [1, 2, 3, 4] [1, 2, 3] ?_
 refine sw_draw hm_ ?_
 refine dA 0 ?_ (x := lF fd_26_0)
 refine dA 1 ?_ (x := loc_ltake (ms := [sl _ _]) (qs := [sl .v _]) (by decide) ty_24 (fun _ => rfl) (by exact nl rfl) (by exact rfl) (by exact (ToL.cons PV.to_none ToL.nil)) (by exact (BorL.cons (bor_sl _) BorL.nil)))
 refine dA 0 ?_ (x := lF fd_26_0)
 refine dA 4 ?_ (x := lD [sl .v _] ty_24)
 refine dA 0 ?_ (x := sM)
 refine dA 28 ?_ (x := loc_index (by decide) sl_24 (by exact ⟨⟩) (by exact rfl) (by exact getm2 (by omega) rfl) (by exact rfl))
 refine dA 60 ?_ (x := lE [sl .v _] ty_71)
 refine dA 124 ?_ (x := cL [(false, [sl _ _])] [(false, [sl .v _])] c_70 (hs := by exact (spec_l7Part (by omega))))
 refine dA 252 ?_ (x := loc_bslice (qs := [(false, [sl _ _])]) (by decide) sl_24 z_71 (by decide) rfl rfl rfl rfl rfl (by exact nl rfl) (by exact (aI (by exact ⟨⟩) tI)) rfl)
 refine dA 511 ?_ (x := loc_append (by decide) sl_24 z_71 rfl rfl (by decide) rfl (by simp only [List.length_map, List.length_append, List.length_cons, List.length_nil]; omega) (by simp only [List.length_map, List.length_append, List.length_cons, List.length_nil]; omega))
 refine dA 1023 ?_ (x := lF fd_26_0)
 refine dA 2047 ?_ (x := loc_store (ag := false) (vs := [sl _ _]) ty_24 (by exact ⟨⟩) (by exact rfl) (by exact nl rfl))
 refine sO [(1, _), (2, _), (3, _), (4, _)] [(1, _), (2, _), (3, (26, [sl _ _, val _]))] ?_
 refine zfg ?_
 exact zfh
 have hend : k = s.Segments.length := by omega
 refine sw_exit ?_
 refine sT [1, 2, 3, 4] [1, 2, 3] ?_
 exact zff
theorem impl_copyEngine {p1 p2 p5 p6 p7 p8 p9 p11 p12 p13 p14 p16 p17 p18 : Fl} {e : Engine}  (hb : wtEngine e ≤ 68719476736) : SCall Try.prog 17 [(true, [sl .v (e.Store.Segments.map (cVersionS p1 p2)), val (vI e.Store.Now), val (vI e.Cursor), sl .v (e.Order.map cInt), sl .v (e.Active.map (cActive p5 p6 p7 p8 p9)), sl .v (e.Done.map (cFinished p11 p12 p13 p14)), sl .v (e.Ledger.map (cCharge p16 p17 p18)), val (vI e.Steps)])] (resRV [(true, [sl (.own 71 1) (e.Store.Segments.map (cVersionS (.own 107 4) (.own 3 1))), val (vI e.Store.Now), val (vI e.Cursor), sl (.own 3 1) (e.Order.map cInt), sl (.own 70 10) (e.Active.map (cActive (.own 41 3) (.own 3 1) (.own 3 1) (.own 45 2) (.own 3 1))), sl (.own 54 7) (e.Done.map (cFinished (.own 41 3) (.own 3 1) (.own 45 2) (.own 3 1))), sl (.own 73 5) (e.Ledger.map (cCharge (.own 3 1) (.own 3 1) (.own 3 1))), val (vI e.Steps)])]) := by
 refine sF Try.func17 fun h0 w0 Fz0 => ?_
 refine sn 0 0 fun hl0_0 => ?_
 refine sn 0 3 fun hl0_3 => ?_
 refine sn 0 4 fun hl0_4 => ?_
 refine sn 0 5 fun hl0_5 => ?_
 refine sn 0 6 fun hl0_6 => ?_
 have hbu := hb
 simp only [wtEngine, wtActiveS, wtFinishedS, wtChargeS, wtIntS_len, wtInt] at hbu
 refine zfi ?_
 refine sw_seq ?_
 refine zb0 ?_
 refine dA 0 ?_ (x := lF fd_32_0)
 refine dA 1 ?_ (x := lD [sl .v _, val _] ty_26)
 refine dA 3 ?_ (x := cL [(true, [sl _ _, val _])] [(true, [sl .v _, val _])] c_42 (hs := by exact (impl_copyStore (by omega))))
 refine dA 0 ?_ (x := lF fd_32_1)
 refine dA 8 ?_ (x := lD [val _] ty_3)
 refine dA 0 ?_ (x := lF fd_32_2)
 refine dA 32 ?_ (x := lD [sl .v _] ty_27)
 refine dA 103 ?_ (x := cL [(false, [sl _ _])] [(false, [sl .v _])] c_43 (hs := by exact impl_copyInts (by omega)))
 refine dA 0 ?_ (x := lF fd_32_6)
 refine dA 256 ?_ (x := lD [val _] ty_3)
 refine dA 1023 ?_ (x := loc_build (qs := [(true, [sl _ _, val _]), (false, [val _]), (false, [sl _ _]), (false, [val _])]) (cs := [sl _ _, val _, val _, sl _ _, sl _ _, sl _ _, sl _ _, val _]) (by decide) z_32 zo_32 FCpy_pl_32 (by exact rfl) (by exact (aI (by exact ⟨⟩) (aI (by exact ⟨⟩) (aI (by exact ⟨⟩) (aI (by exact ⟨⟩) tI))))) rfl (by exact rfl))
 refine Run.step 0 (by exact ⟨⟩) (by exact ⟨⟩) (LocG.of rfl (loc_alloc (by decide) z_32 zo_32)) (free1 (Free.of_ rfl)) (by kernel_rfl) ?_
 refine dA 4095 ?_ (x := loc_store (ag := true) (vs := [sl _ _, val _, val _, sl _ _, sl _ _, sl _ _, sl _ _, val _]) ty_32 (by exact ⟨⟩) (by exact rfl) (by exact nl rfl))
 refine zdk ?_
 refine zfj ?_
 refine zeq ?_
 refine sP [1, 2, 3, 22, 23, 24] [1, 2, 3] ?_
 refine sL [1, 2, 3, 22, 23] [1, 2] (fun k : Nat => k ≤ e.Active.length) (fun k : Nat => [(24, RV.int (k : Int))]) (fun k : Nat => [(3, (32, [sl (.own 71 1) (e.Store.Segments.map (cVersionS (.own 107 4) (.own 3 1))), val (vI e.Store.Now), val (vI e.Cursor), sl (.own 3 1) (e.Order.map cInt), sl (.own 70 10) ((e.Active.take k).map (cActive (.own 41 3) (.own 3 1) (.own 3 1) (.own 45 2) (.own 3 1))), sl (.own 54 7) (([] : List Finished).map (cFinished (.own 41 3) (.own 3 1) (.own 45 2) (.own 3 1))), sl (.own 73 5) (([] : List Charge).map (cCharge (.own 3 1) (.own 3 1) (.own 3 1))), val (vI e.Steps)]))]) (fun k : Nat => e.Active.length - k) 0 (by omega) (by exact aI (by exact rfl) (tI)) (by exact aI (by exact rfl) (tI)) ?_
 rintro k hk
 refine za5 ?_
 refine sc (fun hba => ?_) (fun hba => ?_)
 have hlt : k < e.Active.length := by omega
 have hwm := wt_mem (f := wtActive) hlt
 have hwu : wtActive e.Active[k] = wtQuery e.Active[k].Query + e.Active[k].Todo.length + wtRowS e.Active[k].Rows := by simp only [wtActive, wtIntS_len, wtInt]; omega
 have htl : (e.Active.take k).length = k := by rw [List.length_take]; omega
 refine za6 ?_
 refine sT [1, 2, 3, 22, 23, 24] [1, 2, 3] ?_
 refine zer ?_
 refine zfk ?_
 refine sO [(1, _), (2, _), (3, _), (5, _), (22, _), (23, _), (24, _)] [(1, _), (2, _), (3, _), (5, (70, [val _, val _, sl _ _, sl _ _, val _, sl _ _, val _, val _, val _, sl _ _]))] ?_
 refine sw_draw hm_ ?_
 refine dA 0 ?_ (x := lF fd_32_3)
 refine dA 1 ?_ (x := loc_ltake (ms := [sl _ _]) (qs := [sl .v _]) (by decide) ty_28 (fun _ => rfl) (by exact nl rfl) (by exact rfl) (by exact (ToL.cons PV.to_none ToL.nil)) (by exact (BorL.cons (bor_sl _) BorL.nil)))
 refine dA 0 ?_ (x := lD [val _, val _, sl .v _, sl .v _, val _, sl .v _, val _, val _, val _, sl .v _] ty_70)
 refine dA 4 ?_ (x := cL [(true, [val _, val _, sl _ _, sl _ _, val _, sl _ _, val _, val _, val _, sl _ _])] [(true, [val _, val _, sl .v _, sl .v _, val _, sl .v _, val _, val _, val _, sl .v _])] c_44 (hs := by exact (impl_copyActive (by omega))))
 refine dA 12 ?_ (x := loc_bslice (qs := [(true, [val _, val _, sl _ _, sl _ _, val _, sl _ _, val _, val _, val _, sl _ _])]) (by decide) sl_28 z_70 (by decide) rfl rfl rfl rfl rfl (by exact nl rfl) (by exact (aI (by exact ⟨⟩) tI)) rfl)
 refine dA 31 ?_ (x := loc_append (by decide) sl_28 z_70 rfl rfl (by decide) rfl (by simp only [List.length_map, List.length_append, List.length_cons, List.length_nil]; omega) (by simp only [List.length_map, List.length_append, List.length_cons, List.length_nil]; omega))
 refine dA 63 ?_ (x := lF fd_32_3)
 refine dA 127 ?_ (x := loc_store (ag := false) (vs := [sl _ _]) ty_28 (by exact ⟨⟩) (by exact rfl) (by exact nl rfl))
 refine sO [(1, _), (2, _), (3, _), (5, _), (22, _), (23, _), (24, _)] [(1, _), (2, _), (3, (32, [sl _ _, val _, val _, sl _ _, sl _ _, sl _ _, sl _ _, val _])), (5, _)] ?_
 exact zfl
 have hend0 : k = e.Active.length := by omega
 refine zbx ?_
 refine sT [1, 2, 3, 22, 23, 24] [1, 2, 3] ?_
 refine zev ?_
 refine rA ?_ (x := lN sl_29)
 refine za4 ?_
 refine sP [1, 2, 3, 22, 23, 24, 37, 38, 39] [1, 2, 3] ?_
 refine sL [1, 2, 3, 22, 23, 24, 37, 38] [1, 2] (fun k : Nat => k ≤ e.Done.length) (fun k : Nat => [(39, RV.int (k : Int))]) (fun k : Nat => [(3, (32, [sl (.own 71 1) (e.Store.Segments.map (cVersionS (.own 107 4) (.own 3 1))), val (vI e.Store.Now), val (vI e.Cursor), sl (.own 3 1) (e.Order.map cInt), sl (.own 70 10) (e.Active.map (cActive (.own 41 3) (.own 3 1) (.own 3 1) (.own 45 2) (.own 3 1))), sl (.own 54 7) ((e.Done.take k).map (cFinished (.own 41 3) (.own 3 1) (.own 45 2) (.own 3 1))), sl (.own 73 5) (([] : List Charge).map (cCharge (.own 3 1) (.own 3 1) (.own 3 1))), val (vI e.Steps)]))]) (fun k : Nat => e.Done.length - k) 0 (by omega) (by exact aI (by exact rfl) (tI)) (by exact aI (by rw [hend0, List.take_length]; exact rfl) (tI)) ?_
 rintro k hk
 refine za5 ?_
 refine sc (fun hbb => ?_) (fun hbb => ?_)
 have hlt : k < e.Done.length := by omega
 have hwm := wt_mem (f := wtFinished) hlt
 have hwu : wtFinished e.Done[k] = wtQuery e.Done[k].Query + wtRowS e.Done[k].Rows := by simp only [wtFinished, wtInt]; omega
 have htl : (e.Done.take k).length = k := by rw [List.length_take]; omega
 refine za6 ?_
 refine sT [1, 2, 3, 22, 23, 24, 37, 38, 39] [1, 2, 3] ?_
 refine zew ?_
 refine zex ?_
 refine sO [(1, _), (2, _), (3, _), (7, _), (22, _), (23, _), (24, _), (37, _), (38, _), (39, _)] [(1, _), (2, _), (3, _), (7, (54, [val _, val _, sl _ _, sl _ _, val _, val _, sl _ _]))] ?_
 refine sw_draw hm_ ?_
 refine dA 0 ?_ (x := lF fd_32_4)
 refine dA 1 ?_ (x := loc_ltake (ms := [sl _ _]) (qs := [sl .v _]) (by decide) ty_29 (fun _ => rfl) (by exact nl rfl) (by exact rfl) (by exact (ToL.cons PV.to_none ToL.nil)) (by exact (BorL.cons (bor_sl _) BorL.nil)))
 refine dA 0 ?_ (x := lD [val _, val _, sl .v _, sl .v _, val _, val _, sl .v _] ty_54)
 refine dA 4 ?_ (x := cL [(true, [val _, val _, sl _ _, sl _ _, val _, val _, sl _ _])] [(true, [val _, val _, sl .v _, sl .v _, val _, val _, sl .v _])] c_32 (hs := by exact (impl_copyFinished (by omega))))
 refine dA 12 ?_ (x := loc_bslice (qs := [(true, [val _, val _, sl _ _, sl _ _, val _, val _, sl _ _])]) (by decide) sl_29 z_54 (by decide) rfl rfl rfl rfl rfl (by exact nl rfl) (by exact (aI (by exact ⟨⟩) tI)) rfl)
 refine dA 31 ?_ (x := loc_append (by decide) sl_29 z_54 rfl rfl (by decide) rfl (by simp only [List.length_map, List.length_append, List.length_cons, List.length_nil]; omega) (by simp only [List.length_map, List.length_append, List.length_cons, List.length_nil]; omega))
 refine dA 63 ?_ (x := lF fd_32_4)
 refine dA 127 ?_ (x := loc_store (ag := false) (vs := [sl _ _]) ty_29 (by exact ⟨⟩) (by exact rfl) (by exact nl rfl))
 refine sO [(1, _), (2, _), (3, _), (7, _), (22, _), (23, _), (24, _), (37, _), (38, _), (39, _)] [(1, _), (2, _), (3, (32, [sl _ _, val _, val _, sl _ _, sl _ _, sl _ _, sl _ _, val _])), (7, _)] ?_
 exact zfl
 have hend1 : k = e.Done.length := by omega
 refine zbx ?_
 refine sT [1, 2, 3, 22, 23, 24, 37, 38, 39] [1, 2, 3] ?_
 refine rA ?_ (x := lF fd_32_5)
 refine rA ?_ (x := lD [sl .v _] ty_30)
 refine rA ?_ (x := lN sl_30)
 refine za4 ?_
 refine sP [1, 2, 3, 22, 23, 24, 37, 38, 39, 52, 53, 54] [1, 2, 3] ?_
 refine sL [1, 2, 3, 22, 23, 24, 37, 38, 39, 52, 53] [1, 2] (fun k : Nat => k ≤ e.Ledger.length) (fun k : Nat => [(54, RV.int (k : Int))]) (fun k : Nat => [(3, (32, [sl (.own 71 1) (e.Store.Segments.map (cVersionS (.own 107 4) (.own 3 1))), val (vI e.Store.Now), val (vI e.Cursor), sl (.own 3 1) (e.Order.map cInt), sl (.own 70 10) (e.Active.map (cActive (.own 41 3) (.own 3 1) (.own 3 1) (.own 45 2) (.own 3 1))), sl (.own 54 7) (e.Done.map (cFinished (.own 41 3) (.own 3 1) (.own 45 2) (.own 3 1))), sl (.own 73 5) ((e.Ledger.take k).map (cCharge (.own 3 1) (.own 3 1) (.own 3 1))), val (vI e.Steps)]))]) (fun k : Nat => e.Ledger.length - k) 0 (by omega) (by exact aI (by exact rfl) (tI)) (by exact aI (by rw [hend1, List.take_length]; exact rfl) (tI)) ?_
 rintro k hk
 refine za5 ?_
 refine sc (fun hbc => ?_) (fun hbc => ?_)
 have hlt : k < e.Ledger.length := by omega
 have hwm := wt_mem (f := wtCharge) hlt
 skip
 have htl : (e.Ledger.take k).length = k := by rw [List.length_take]; omega
 refine za6 ?_
 refine sT [1, 2, 3, 22, 23, 24, 37, 38, 39, 52, 53, 54] [1, 2, 3] ?_
 refine zez ?_
 refine zf0 ?_
 refine sO [(1, _), (2, _), (3, _), (9, _), (22, _), (23, _), (24, _), (37, _), (38, _), (39, _), (52, _), (53, _), (54, _)] [(1, _), (2, _), (3, _), (9, (73, [val _, val _, sl _ _, sl _ _, sl _ _]))] ?_
 refine sw_draw hm_ ?_
 refine dA 0 ?_ (x := lF fd_32_5)
 refine dA 1 ?_ (x := loc_ltake (ms := [sl _ _]) (qs := [sl .v _]) (by decide) ty_30 (fun _ => rfl) (by exact nl rfl) (by exact rfl) (by exact (ToL.cons PV.to_none ToL.nil)) (by exact (BorL.cons (bor_sl _) BorL.nil)))
 refine dA 0 ?_ (x := lD [val _, val _, sl .v _, sl .v _, sl .v _] ty_73)
 refine dA 4 ?_ (x := cL [(true, [val _, val _, sl _ _, sl _ _, sl _ _])] [(true, [val _, val _, sl .v _, sl .v _, sl .v _])] c_45 (hs := by exact (impl_copyCharge (by omega))))
 refine dA 12 ?_ (x := loc_bslice (qs := [(true, [val _, val _, sl _ _, sl _ _, sl _ _])]) (by decide) sl_30 z_73 (by decide) rfl rfl rfl rfl rfl (by exact nl rfl) (by exact (aI (by exact ⟨⟩) tI)) rfl)
 refine dA 31 ?_ (x := loc_append (by decide) sl_30 z_73 rfl rfl (by decide) rfl (by simp only [List.length_map, List.length_append, List.length_cons, List.length_nil]; omega) (by simp only [List.length_map, List.length_append, List.length_cons, List.length_nil]; omega))
 refine dA 63 ?_ (x := lF fd_32_5)
 refine dA 127 ?_ (x := loc_store (ag := false) (vs := [sl _ _]) ty_30 (by exact ⟨⟩) (by exact rfl) (by exact nl rfl))
 refine sO [(1, _), (2, _), (3, _), (9, _), (22, _), (23, _), (24, _), (37, _), (38, _), (39, _), (52, _), (53, _), (54, _)] [(1, _), (2, _), (3, (32, [sl _ _, val _, val _, sl _ _, sl _ _, sl _ _, sl _ _, val _])), (9, _)] ?_
 exact zfl
 have hend2 : k = e.Ledger.length := by omega
 refine sw_exit ?_
 refine sT [1, 2, 3, 22, 23, 24, 37, 38, 39, 52, 53, 54] [1, 2, 3] ?_
 refine zfm ?_
 refine sw_ret ?_
 exact (Exists.intro 2 (Exists.intro _ (aI (by exact rfl) (aI (by refine box_eq ?_; rw [hend2, List.take_length]; exact rfl) (aI ty_32 (aI (fun h => nomatch h) tI))))))
end Go.Proofs.Ytmekkgdboplbjaa
