/- What functions of the program compute. No condition. -/
import Derived.Test.YtmekkgdboplbjaaGreatCP0
import Derived.Test.YtmekkgdboplbjaaGreatCQ0
set_option linter.unusedVariables false
set_option linter.unusedSimpArgs false
namespace Go.Proofs.YtmekkgdboplbjaaGreat
open Go Go.RowKit M PV
set_option maxRecDepth 10000
attribute [local irreducible] PV.Lcl PV.LclR RV.Lcl
theorem Kx : cU Tryz.prog 184 = some [(0, 1), (1, 1), (2, 1), (3, 1)] := by kernel_rfl
theorem QX : cU Tryz.prog 26 = some [(0, 1), (1, 1)] := by kernel_rfl
theorem Ky : cU Tryz.prog 32 = some [(0, 2), (2, 1), (3, 1), (4, 1), (5, 1), (6, 1), (7, 1)] := by kernel_rfl
theorem QY : cU Tryz.prog 70 = some [(0, 1), (1, 1), (2, 1), (3, 1), (4, 1)] := by kernel_rfl
theorem QZ {x : dZ}  (hb : lr x ≤ 68719476736) : aw Tryz.prog 147 [(true, [val (vI x.Segment), val (vI x.Base), sl .v (x.Ids.map ai), sl .v (x.Tenants.map ai), sl .v (x.Rows.map ai)])] (av [(true, [val (vI x.Segment), val (vI x.Base), sl (.own 3 1) (x.Ids.map ai), sl (.own 3 1) (x.Tenants.map ai), sl (.own 3 1) (x.Rows.map ai)])]) := by
 refine sF Tryz.func147 fun h0 w0 Fz0 => ?_
 refine sn 0 2 fun hl0_2 => ?_
 refine sn 0 3 fun hl0_3 => ?_
 refine sn 0 4 fun hl0_4 => ?_
 have hbu := hb
 simp only [lr, cu, aV] at hbu
 refine qE ?_
 refine rX ?_ (x := (bB (by decide) gT nJ))
 refine me ?_
 refine dA 0 ?_ (x := lF kE)
 refine dA 1 ?_ (x := lD [sl .v _] aZ)
 refine dA 3 ?_ (x := cL [(false, [sl _ _])] [(false, [sl .v _])] ml (hs := by exact mA (by omega)))
 refine dA 0 ?_ (x := lF jP)
 refine Hz ?_
 refine dA 0 ?_ (x := lF jQ)
 refine dA 64 ?_ (x := lD [sl .v _] aZ)
 refine dA 255 ?_ (x := cL [(false, [sl _ _])] [(false, [sl .v _])] ml (hs := by exact mA (by omega)))
 refine dA 223 ?_ (x := lF kE)
 refine dA 1023 ?_ (x := aQ (ag := false) (vs := [sl _ _]) aZ (by exact ⟨⟩) (by exact rfl) (by exact nl rfl))
 refine dA 2047 ?_ (x := lF jP)
 refine dA 4095 ?_ (x := aQ (ag := false) (vs := [sl _ _]) aZ (by exact ⟨⟩) (by exact rfl) (by exact nl rfl))
 refine dA 8191 ?_ (x := lF jQ)
 refine HW ?_
 refine sO [(1, _), (2, _)] [(1, (70, [val _, val _, sl _ _, sl _ _, sl _ _])), (2, _)] ?_
 refine aM ?_
 refine rA ?_ (x := b8 (ms := [val _, val _, sl _ _, sl _ _, sl _ _]) (qs := [val _, val _, sl .v _, sl .v _, sl .v _]) (by decide) it (fun h => nomatch h) (by exact nl rfl) (by exact rfl) (by exact (ab.cons (PV.To.refl _) (ab.cons (PV.To.refl _) (ab.cons PV.to_none (ab.cons PV.to_none (ab.cons PV.to_none ab.nil)))))) (by exact lq))
 refine rA ?_ (x := aQ (ag := true) (vs := [val _, val _, sl _ _, sl _ _, sl _ _]) it (by exact ⟨⟩) (by exact rfl) (by exact nl rfl))
 exact Dp
theorem Q0 {x : dZ}  (hb : lr x ≤ 68719476736) : aw Tryz.prog 158 [(true, [val (vI x.Segment), val (vI x.Base), sl .v (x.Ids.map ai), sl .v (x.Tenants.map ai), sl .v (x.Rows.map ai)])] (av [(true, [val (vI x.Segment), val (vI x.Base), sl (.own 3 1) (x.Ids.map ai), sl (.own 3 1) (x.Tenants.map ai), sl (.own 3 1) (x.Rows.map ai)])]) := by
 refine sF Tryz.func158 fun h0 w0 Fz0 => ?_
 refine sn 0 2 fun hl0_2 => ?_
 refine sn 0 3 fun hl0_3 => ?_
 refine sn 0 4 fun hl0_4 => ?_
 have hbu := hb
 simp only [lr, cu, aV] at hbu
 refine qE ?_
 refine rX ?_ (x := (bB (by decide) gT nJ))
 refine me ?_
 refine dA 0 ?_ (x := lF rF)
 refine dA 1 ?_ (x := lD [val _] aq)
 refine dA 0 ?_ (x := lF nE)
 refine dA 4 ?_ (x := lD [val _] aq)
 refine dA 0 ?_ (x := bd (qs := []) (by decide) a3 ce (by decide) rfl rfl rfl rfl rfl (by exact nl rfl) (by exact ⟨⟩) rfl)
 refine dA 0 ?_ (x := lF kE)
 refine dA 32 ?_ (x := lD [sl .v _] aZ)
 refine dA 112 ?_ (x := gp (by decide) a3 ce rfl rfl (by decide) (by first | (intro cs hcs; obtain ⟨x, _, rfl⟩ := List.mem_map.1 hcs; exact rfl) | simp) (by first | (intro cs hcs; obtain ⟨x, _, rfl⟩ := List.mem_map.1 hcs; exact (ae.cons (bor_val _) ae.nil)) | simp) (by simp only [List.length_map, List.length_append, List.length_cons, List.length_nil]; omega) (by simp only [List.length_map, List.length_append, List.length_cons, List.length_nil]; omega))
 refine dA 0 ?_ (x := bd (qs := []) (by decide) a3 ce (by decide) rfl rfl rfl rfl rfl (by exact nl rfl) (by exact ⟨⟩) rfl)
 refine dA 0 ?_ (x := lF jP)
 refine Fo ?_
 refine dA 0 ?_ (x := bd (qs := []) (by decide) a3 ce (by decide) rfl rfl rfl rfl rfl (by exact nl rfl) (by exact ⟨⟩) rfl)
 refine dA 0 ?_ (x := lF jQ)
 refine dA 8192 ?_ (x := lD [sl .v _] aZ)
 refine dA 32752 ?_ (x := gp (by decide) a3 ce rfl rfl (by decide) (by first | (intro cs hcs; obtain ⟨x, _, rfl⟩ := List.mem_map.1 hcs; exact rfl) | simp) (by first | (intro cs hcs; obtain ⟨x, _, rfl⟩ := List.mem_map.1 hcs; exact (ae.cons (bor_val _) ae.nil)) | simp) (by simp only [List.length_map, List.length_append, List.length_cons, List.length_nil]; omega) (by simp only [List.length_map, List.length_append, List.length_cons, List.length_nil]; omega))
 refine dA 65535 ?_ (x := cv (qs := [(false, [val _]), (false, [val _]), (false, [sl _ _]), (false, [sl _ _]), (false, [sl _ _])]) (cs := [val _, val _, sl _ _, sl _ _, sl _ _]) (by decide) gT nJ QY (by exact rfl) (by exact (aI (by exact ⟨⟩) (aI (by exact ⟨⟩) (aI (by exact ⟨⟩) (aI (by exact ⟨⟩) (aI (by exact ⟨⟩) tI)))))) rfl (by exact rfl))
 refine dA 131071 ?_ (x := aQ (ag := true) (vs := [val _, val _, sl _ _, sl _ _, sl _ _]) it (by exact ⟨⟩) (by exact rfl) (by exact nl rfl))
 exact Dp
theorem Q1 {p4 : Fl} {x : Active}  (hb : ca x ≤ 68719476736) : aw Tryz.prog 145 [(true, [val (vI x.Query.Id), val (vI x.Query.Tenant), sl .v (x.Query.Conds.map bR), sl .v (x.Query.Out.map ai), val (vI x.Time), sl .v (x.Todo.map ai), val (vI x.Age), val (vI x.Sent), val (vI x.Cap), sl .v (x.Rows.map (bn p4))])] (av [(true, [val (vI x.Query.Id), val (vI x.Query.Tenant), sl (.own 178 3) (x.Query.Conds.map bR), sl (.own 3 1) (x.Query.Out.map ai), val (vI x.Time), sl (.own 3 1) (x.Todo.map ai), val (vI x.Age), val (vI x.Sent), val (vI x.Cap), sl (.own 54 2) (x.Rows.map (bn (.own 3 1)))])]) := by
 refine sF Tryz.func145 fun h0 w0 Fz0 => ?_
 refine sn 0 2 fun hl0_2 => ?_
 refine sn 0 3 fun hl0_3 => ?_
 refine sn 0 5 fun hl0_5 => ?_
 refine sn 0 9 fun hl0_9 => ?_
 have hbu := hb
 simp only [ca, cu, aV] at hbu
 refine Hn ?_
 refine rX ?_ (x := (bB (by decide) fe nH))
 refine me ?_
 refine dA 0 ?_ (x := lF eU)
 refine GD ?_
 refine dA 0 ?_ (x := lF gO)
 refine Hz ?_
 refine dA 0 ?_ (x := lF lv)
 refine dA 64 ?_ (x := lD [sl .v _] ir)
 refine dA 255 ?_ (x := cL [(false, [sl _ _])] [(false, [sl .v _])] JO (hs := by exact Ki (by omega)))
 refine dA 223 ?_ (x := lF eU)
 refine dA 1023 ?_ (x := aQ (ag := true) (vs := [val _, val _, sl _ _, sl _ _]) dp (by exact ⟨⟩) (by exact rfl) (by exact nl rfl))
 refine dA 2047 ?_ (x := lF gO)
 refine dA 4095 ?_ (x := aQ (ag := false) (vs := [sl _ _]) aZ (by exact ⟨⟩) (by exact rfl) (by exact nl rfl))
 refine dA 8191 ?_ (x := lF lv)
 refine dA 16383 ?_ (x := aQ (ag := false) (vs := [sl _ _]) ir (by exact ⟨⟩) (by exact rfl) (by exact nl rfl))
 refine aJ ?_
 refine sO [(1, _), (2, _)] [(1, (108, [val _, val _, sl _ _, sl _ _, val _, sl _ _, val _, val _, val _, sl _ _])), (2, _)] ?_
 refine aM ?_
 refine rA ?_ (x := b8 (ms := [val _, val _, sl _ _, sl _ _, val _, sl _ _, val _, val _, val _, sl _ _]) (qs := [val _, val _, sl .v _, sl .v _, val _, sl .v _, val _, val _, val _, sl .v _]) (by decide) eK (fun h => nomatch h) (by exact nl rfl) (by exact rfl) (by exact (ab.cons (PV.To.refl _) (ab.cons (PV.To.refl _) (ab.cons PV.to_none (ab.cons PV.to_none (ab.cons (PV.To.refl _) (ab.cons PV.to_none (ab.cons (PV.To.refl _) (ab.cons (PV.To.refl _) (ab.cons (PV.To.refl _) (ab.cons PV.to_none ab.nil))))))))))) (by exact lq))
 refine rA ?_ (x := aQ (ag := true) (vs := [val _, val _, sl _ _, sl _ _, val _, sl _ _, val _, val _, val _, sl _ _]) eK (by exact ⟨⟩) (by exact rfl) (by exact nl rfl))
 refine bY ?_
 exact (Exists.intro 2 (Exists.intro _ (aI (by exact rfl) (aI (by exact rfl) (aI eK (aI (fun h => nomatch h) tI))))))
theorem Q2 {p3 : Fl} {x : dP}  (hb : ja x ≤ 68719476736) : aw Tryz.prog 146 [(true, [val (vI x.Query.Id), val (vI x.Query.Tenant), sl .v (x.Query.Conds.map bR), sl .v (x.Query.Out.map ai), val (vI x.Time), val (vI x.Steps), sl .v (x.Rows.map (bn p3))])] (av [(true, [val (vI x.Query.Id), val (vI x.Query.Tenant), sl (.own 178 3) (x.Query.Conds.map bR), sl (.own 3 1) (x.Query.Out.map ai), val (vI x.Time), val (vI x.Steps), sl (.own 54 2) (x.Rows.map (bn (.own 3 1)))])]) := by
 refine sF Tryz.func146 fun h0 w0 Fz0 => ?_
 refine sn 0 2 fun hl0_2 => ?_
 refine sn 0 3 fun hl0_3 => ?_
 refine sn 0 6 fun hl0_6 => ?_
 have hbu := hb
 simp only [ja, aV] at hbu
 refine sR ?_
 refine rX ?_ (x := (db (ag := true) (cs := [val _, val _, sl _ _, sl _ _, val _, val _, sl _ _]) (by decide) (by exact ⟨⟩)))
 refine rX ?_ (x := (bB (by decide) kF uH))
 refine me ?_
 refine dA 0 ?_ (x := lF uE)
 refine GD ?_
 refine dA 0 ?_ (x := lF pk)
 refine dA 8 ?_ (x := lD [sl .v _] ir)
 refine dA 31 ?_ (x := cL [(false, [sl _ _])] [(false, [sl .v _])] JO (hs := by exact Ki (by omega)))
 refine dA 31 ?_ (x := lF uE)
 refine dA 127 ?_ (x := aQ (ag := true) (vs := [val _, val _, sl _ _, sl _ _]) dp (by exact ⟨⟩) (by exact rfl) (by exact nl rfl))
 refine dA 255 ?_ (x := lF pk)
 refine dA 511 ?_ (x := aQ (ag := false) (vs := [sl _ _]) ir (by exact ⟨⟩) (by exact rfl) (by exact nl rfl))
 refine aJ ?_
 refine sO [(1, _), (2, _)] [(1, (63, [val _, val _, sl _ _, sl _ _, val _, val _, sl _ _])), (2, _)] ?_
 refine aM ?_
 refine rA ?_ (x := b8 (ms := [val _, val _, sl _ _, sl _ _, val _, val _, sl _ _]) (qs := [val _, val _, sl .v _, sl .v _, val _, val _, sl .v _]) (by decide) nG (fun h => nomatch h) (by exact nl rfl) (by exact rfl) (by exact (ab.cons (PV.To.refl _) (ab.cons (PV.To.refl _) (ab.cons PV.to_none (ab.cons PV.to_none (ab.cons (PV.To.refl _) (ab.cons (PV.To.refl _) (ab.cons PV.to_none ab.nil)))))))) (by exact lq))
 refine rA ?_ (x := aQ (ag := true) (vs := [val _, val _, sl _ _, sl _ _, val _, val _, sl _ _]) nG (by exact ⟨⟩) (by exact rfl) (by exact nl rfl))
 refine bY ?_
 exact (Exists.intro 2 (Exists.intro _ (aI (by exact rfl) (aI (by exact rfl) (aI nG (aI (fun h => nomatch h) tI))))))
theorem Q3 {a : Int} {b : List Int} {c : Int} {d : Int}  (hb : b.length ≤ 68719476736) : aw Tryz.prog 273 [(false, [val (vI a)]), (false, [sl .v (b.map ai)]), (false, [val (vI c)]), (false, [val (vI d)])] (av [(true, [val (vI (aF.mk a b c d).Id), sl (.own 3 1) ((aF.mk a b c d).Values.map ai), val (vI (aF.mk a b c d).Born), val (vI (aF.mk a b c d).Died)])]) := by
 refine sF Tryz.func273 fun h0 w0 Fz0 => ?_
 refine sj 1 fun hl1 => ?_
 refine sR ?_
 refine rX ?_ (x := (bB (by decide) eV mp))
 refine sT [0, 1, 2, 3, 8] [8] ?_
 refine rM ?_
 refine xF ?_
 refine ku ?_
 refine rA ?_ (x := cv (qs := [(false, [val _]), (false, [sl _ _]), (false, [val _]), (false, [val _])]) (cs := [val _, sl _ _, val _, val _]) (by decide) eV mp Kx (by exact rfl) (by exact (aI (by exact ⟨⟩) (aI (by exact ⟨⟩) (aI (by exact ⟨⟩) (aI (by exact ⟨⟩) tI))))) rfl (by exact rfl))
 refine rA ?_ (x := aQ (ag := true) (vs := [val _, sl _ _, val _, val _]) d2 (by exact ⟨⟩) (by exact rfl) (by exact nl rfl))
 refine bY ?_
 exact (Exists.intro 8 (Exists.intro _ (aI (by exact rfl) (aI (by exact rfl) (aI d2 (aI (fun h => nomatch h) tI))))))
theorem Q4 {p1 : Fl} {x : List aF}  (hb : b3 x ≤ 68719476736) : aw Tryz.prog 232 [(false, [sl .v (x.map (dO p1))])] (av [(false, [sl (.own 184 4) (x.map (dO (.own 3 1)))])]) := by
 refine sF Tryz.func232 fun h0 w0 Fz0 => ?_
 refine sj 0 fun hl0 => ?_
 have hbu := hb
 simp only [b3] at hbu
 refine sR ?_
 refine rA ?_ (x := fj (.inr rfl) (by decide) (fR (t := 184) (e := 4)))
 refine sS [0, 2] [] ?_
 refine mZ ?_
 refine o7 ?_
 refine sL [0, 2] [] (fun k : Nat => k ≤ x.length) (fun k : Nat => [(3, RV.slc (.own 184 4) ((x.take k).map (dO (.own 3 1)))), (4, RV.int (k : Int))]) (fun k : Nat => []) (fun k : Nat => x.length - k) 0 (by omega) (by exact aI (by first | exact rfl | simp) (aI (by exact rfl) (tI))) (by exact ⟨⟩) ?_
 rintro k hk
 refine bu ?_
 refine uu ?_
 refine sc (fun hba => ?_) (fun hba => ?_)
 have hlt : k < x.length := by omega
 have hwm := cR (f := bZ) hlt
 have htl : (x.take k).length = k := by rw [List.length_take]; omega
 have hwv : bZ x[k] = x[k].Values.length := by simp only [bZ, cu, aV]; omega
 refine aT ?_
 refine sP [0, 2, 3, 4] [] ?_
 refine nc ?_
 refine dG ?_
 refine GR ?_
 refine yz ?_
 refine GQ ?_
 refine dA 960 ?_ (x := lE [sl .v _] aZ)
 refine dG ?_
 refine dA 6144 ?_ (x := aD (by decide) bT (by exact ⟨⟩) (by exact rfl) (by exact aE (by omega) rfl) (by exact rfl))
 refine dA 14336 ?_ (x := bl (by decide) im (by exact nl rfl))
 refine dA 30720 ?_ (x := lE [val _] aq)
 refine dG ?_
 refine dA 196608 ?_ (x := aD (by decide) bT (by exact ⟨⟩) (by exact rfl) (by exact aE (by omega) rfl) (by exact rfl))
 refine dA 458752 ?_ (x := bl (by decide) gP (by exact nl rfl))
 refine dA 983040 ?_ (x := lE [val _] aq)
 refine dA 2097150 ?_ (x := cL [(false, [val _]), (false, [sl _ _]), (false, [val _]), (false, [val _])] [(false, [val _]), (false, [sl .v _]), (false, [val _]), (false, [val _])] PN (hs := by exact (Q3 (by omega))))
 refine dA 4194302 ?_ (x := bd (qs := [(true, [val _, sl _ _, val _, val _])]) (by decide) bT eV (by decide) rfl rfl rfl rfl rfl (by exact nl rfl) (by exact (aI (by exact ⟨⟩) tI)) rfl)
 refine dA 8388607 ?_ (x := c8 (by decide) bT eV rfl rfl (by decide) rfl (by simp only [List.length_map, List.length_append, List.length_cons, List.length_nil]; omega) (by simp only [List.length_map, List.length_append, List.length_cons, List.length_nil]; omega))
 refine dA 16777215 ?_ (x := tA)
 refine sG [0, 2, 3, 4] [] ?_
 exact wH
 exact wI
theorem Kz {p1 p2 : Fl} {s : Store}  (hb : cc s ≤ 68719476736) : aw Tryz.prog 143 [(true, [sl .v (s.Segments.map (ax p1 p2)), val (vI s.Now)])] (av [(true, [sl (.own 139 1) (s.Segments.map (ax (.own 184 4) (.own 3 1))), val (vI s.Now)])]) := by
 refine sF Tryz.func143 fun h0 w0 Fz0 => ?_
 refine sn 0 0 fun hl0_0 => ?_
 have hbu := hb
 simp only [cc, fa, aV] at hbu
 refine iJ ?_
 refine rX ?_ (x := (bB (by decide) lz lA))
 refine sT [1, 2] [1, 2] ?_
 refine rA ?_ (x := lF fc)
 refine GE ?_
 refine lf ?_
 refine Ij ?_
 refine aM ?_
 refine i5 ?_
 refine cj ?_
 refine sP [1, 2, 3, 13, 14, 15] [1, 2, 3] ?_
 refine sL [1, 2, 3, 13, 14] [1, 2] (fun k : Nat => k ≤ s.Segments.length) (fun k : Nat => [(15, RV.int (k : Int))]) (fun k : Nat => [(3, (26, [sl (.own 139 1) ((s.Segments.take k).map (ax (.own 184 4) (.own 3 1))), val (vI s.Now)]))]) (fun k : Nat => s.Segments.length - k) 0 (by omega) (by exact aI (by exact rfl) (tI)) (by exact aI (by exact rfl) (tI)) ?_
 rintro k hk
 refine bG ?_
 refine sc (fun hba => ?_) (fun hba => ?_)
 have hlt : k < s.Segments.length := by omega
 have hwm := cR (f := b3) hlt
 have hws : b3 s.Segments[k] = s.Segments[k].length + (s.Segments[k].map bZ).sum := rfl
 have htl : (s.Segments.take k).length = k := by rw [List.length_take]; omega
 refine aT ?_
 refine sT [1, 2, 3, 13, 14, 15] [1, 2, 3] ?_
 refine mY ?_
 refine rA ?_ (x := vA false [sl .v _])
 refine sS [1, 2, 3, 5, 13, 14, 15] [1, 2, 3] ?_
 refine mZ ?_
 refine aJ ?_
 refine sS [1, 2, 3, 5, 6, 13, 14, 15] [1, 2, 3] ?_
 refine i3 ?_
 refine cj ?_
 refine sP [1, 2, 3, 5, 6, 13, 14, 15, 20, 21, 22] [1, 2, 3] ?_
 refine sL [1, 2, 3, 5, 13, 14, 15, 20, 21] [1, 2, 3] (fun j : Nat => j ≤ s.Segments[k].length) (fun j : Nat => [(6, RV.slc (.own 184 4) ((s.Segments[k].take j).map (dO (.own 3 1)))), (22, RV.int (j : Int))]) (fun j : Nat => []) (fun j : Nat => s.Segments[k].length - j) 0 (by omega) (by exact aI (by exact rfl) (aI (by exact rfl) (tI))) (by exact ⟨⟩) ?_
 rintro j hj
 refine bG ?_
 refine sc (fun hbb => ?_) (fun hbb => ?_)
 have hlt2 : j < s.Segments[k].length := by omega
 have hwm2 := cR (f := bZ) hlt2
 have hwv : bZ s.Segments[k][j] = s.Segments[k][j].Values.length := by simp only [bZ, cu, aV]; omega
 have htl2 : (s.Segments[k].take j).length = j := by rw [List.length_take]; omega
 refine aT ?_
 refine sT [1, 2, 3, 5, 6, 13, 14, 15, 20, 21, 22] [1, 2, 3] ?_
 refine tx ?_
 refine oG ?_
 refine sO [(1, _), (2, _), (3, _), (5, _), (6, _), (8, _), (13, _), (14, _), (15, _), (20, _), (21, _), (22, _)] [(1, _), (2, _), (3, _), (8, (184, [val _, sl _ _, val _, val _]))] ?_
 refine nc ?_
 refine dA 0 ?_ (x := lF lx)
 refine dA 2 ?_ (x := lD [val _] aq)
 refine dA 0 ?_ (x := lF jd)
 refine dA 8 ?_ (x := lD [sl .v _] aZ)
 refine dA 24 ?_ (x := cL [(false, [sl _ _])] [(false, [sl .v _])] ml (hs := by exact mA (by omega)))
 refine dA 0 ?_ (x := lF im)
 refine dA 64 ?_ (x := lD [val _] aq)
 refine dA 0 ?_ (x := lF gP)
 refine dA 256 ?_ (x := lD [val _] aq)
 refine dA 1022 ?_ (x := cv (qs := [(false, [val _]), (false, [sl _ _]), (false, [val _]), (false, [val _])]) (cs := [val _, sl _ _, val _, val _]) (by decide) eV mp Kx (by exact rfl) (by exact (aI (by exact ⟨⟩) (aI (by exact ⟨⟩) (aI (by exact ⟨⟩) (aI (by exact ⟨⟩) tI))))) rfl (by exact rfl))
 refine dA 2046 ?_ (x := bd (qs := [(true, [val _, sl _ _, val _, val _])]) (by decide) bT eV (by decide) rfl rfl rfl rfl rfl (by exact nl rfl) (by exact (aI (by exact ⟨⟩) tI)) rfl)
 refine dA 4095 ?_ (x := c8 (by decide) bT eV rfl rfl (by decide) rfl (by simp only [List.length_map, List.length_append, List.length_cons, List.length_nil]; omega) (by simp only [List.length_map, List.length_append, List.length_cons, List.length_nil]; omega))
 refine dA 8191 ?_ (x := tA)
 refine sG [1, 2, 3, 5, 6, 8, 13, 14, 15, 20, 21, 22] [1, 2, 3, 8] ?_
 refine b5 ?_
 refine nx (j + 1) (by omega) (e := (by exact aI (by exact bg (by rw [rt hlt2, List.map_append]; exact rfl)) (aI (by exact rfl) (tI))))
 have hend2 : j = s.Segments[k].length := by omega
 refine aX ?_
 refine sH [1, 2, 3, 5, 6, 13, 14, 15, 20, 21, 22] [1, 2, 3] ?_
 refine Gp ?_
 refine rA ?_ (x := tM)
 refine FE ?_
 refine HI ?_
 refine sO [(1, _), (2, _), (3, _), (5, _), (13, _), (14, _), (15, _), (20, _), (21, _), (22, _)] [(1, _), (2, _), (3, (26, [sl _ _, val _]))] ?_
 refine aM ?_
 refine b5 ?_
 refine nx (k + 1) (by omega) (f := (by exact aI (by rw [hend2, List.take_length, rt hlt]; simp only [List.map_append]; exact rfl) (tI)))
 have hend : k = s.Segments.length := by omega
 refine aX ?_
 refine sT [1, 2, 3, 13, 14, 15] [1, 2, 3] ?_
 exact Dq
theorem zy {p1 p2 : Fl} {s : Store}  (hb : cc s ≤ 68719476736) : aw Tryz.prog 155 [(true, [sl .v (s.Segments.map (ax p1 p2)), val (vI s.Now)])] (av [(true, [sl (.own 139 1) (s.Segments.map (ax (.own 184 4) (.own 3 1))), val (vI s.Now)])]) := by
 refine sF Tryz.func155 fun h0 w0 Fz0 => ?_
 refine sn 0 0 fun hl0_0 => ?_
 have hbu := hb
 simp only [cc, fa, aV] at hbu
 refine iJ ?_
 refine rX ?_ (x := (bB (by decide) lz lA))
 refine sT [1, 2] [1, 2] ?_
 refine rA ?_ (x := lF fc)
 refine GE ?_
 refine lf ?_
 refine Ij ?_
 refine oX ?_
 refine sP [1, 2, 3, 4] [1, 2, 3] ?_
 refine sL [1, 2, 3] [1, 2] (fun k : Nat => k ≤ s.Segments.length) (fun k : Nat => [(4, RV.int (k : Int))]) (fun k : Nat => [(3, (26, [sl (.own 139 1) ((s.Segments.take k).map (ax (.own 184 4) (.own 3 1))), val (vI s.Now)]))]) (fun k : Nat => s.Segments.length - k) 0 (by omega) (by exact aI (by exact rfl) (tI)) (by exact aI (by exact rfl) (tI)) ?_
 rintro k hk
 refine o8 ?_
 refine sc (fun hba => ?_) (fun hba => ?_)
 have hlt : k < s.Segments.length := by omega
 have hwm := cR (f := b3) hlt
 have hws : b3 s.Segments[k] = s.Segments[k].length + (s.Segments[k].map bZ).sum := rfl
 have htl : (s.Segments.take k).length = k := by rw [List.length_take]; omega
 refine aT ?_
 refine sQ [1, 2, 3, 4] [1, 2, 3] ?_
 refine b9 bP ?_
 refine dA 0 ?_ (x := lF gQ)
 refine dA 1 ?_ (x := b8 (ms := [sl _ _]) (qs := [sl .v _]) (by decide) gS (fun _ => rfl) (by exact nl rfl) (by exact rfl) (by exact (ab.cons PV.to_none ab.nil)) (by exact (ae.cons (bor_sl _) ae.nil)))
 refine dA 0 ?_ (x := lF gQ)
 refine dA 4 ?_ (x := lD [sl .v _] gS)
 refine dA 0 ?_ (x := sM)
 refine dA 28 ?_ (x := aD (by decide) dK (by exact ⟨⟩) (by exact rfl) (by exact aE (by omega) rfl) (by exact rfl))
 refine dA 60 ?_ (x := lE [sl .v _] f7)
 refine dA 124 ?_ (x := cL [(false, [sl _ _])] [(false, [sl .v _])] Pu (hs := by exact (Q4 (by omega))))
 refine dA 252 ?_ (x := bd (qs := [(false, [sl _ _])]) (by decide) dK uG (by decide) rfl rfl rfl rfl rfl (by exact nl rfl) (by exact (aI (by exact ⟨⟩) tI)) rfl)
 refine dA 511 ?_ (x := c8 (by decide) dK uG rfl rfl (by decide) rfl (by simp only [List.length_map, List.length_append, List.length_cons, List.length_nil]; omega) (by simp only [List.length_map, List.length_append, List.length_cons, List.length_nil]; omega))
 refine dA 1023 ?_ (x := lF gQ)
 refine dA 2047 ?_ (x := aQ (ag := false) (vs := [sl _ _]) gS (by exact ⟨⟩) (by exact rfl) (by exact nl rfl))
 refine sO [(1, _), (2, _), (3, _), (4, _)] [(1, _), (2, _), (3, (26, [sl _ _, val _]))] ?_
 exact te
 have hend : k = s.Segments.length := by omega
 refine aX ?_
 refine sT [1, 2, 3, 4] [1, 2, 3] ?_
 exact Dq
theorem KA {p1 p2 p5 p6 p7 p8 p9 p11 p12 p13 p14 p16 p17 p18 : Fl} {e : am}  (hb : aO e ≤ 68719476736) : aw Tryz.prog 53 [(true, [sl .v (e.Store.Segments.map (ax p1 p2)), val (vI e.Store.Now), val (vI e.Cursor), sl .v (e.Order.map ai), sl .v (e.Active.map (aG p5 p6 p7 p8 p9)), sl .v (e.Done.map (aP p11 p12 p13 p14)), sl .v (e.Ledger.map (aR p16 p17 p18)), val (vI e.Steps)])] (av [(true, [sl (.own 139 1) (e.Store.Segments.map (ax (.own 184 4) (.own 3 1))), val (vI e.Store.Now), val (vI e.Cursor), sl (.own 3 1) (e.Order.map ai), sl (.own 108 10) (e.Active.map (aG (.own 178 3) (.own 3 1) (.own 3 1) (.own 54 2) (.own 3 1))), sl (.own 63 7) (e.Done.map (aP (.own 178 3) (.own 3 1) (.own 54 2) (.own 3 1))), sl (.own 70 5) (e.Ledger.map (aR (.own 3 1) (.own 3 1) (.own 3 1))), val (vI e.Steps)])]) := by
 refine sF Tryz.func53 fun h0 w0 Fz0 => ?_
 refine sn 0 0 fun hl0_0 => ?_
 refine sn 0 3 fun hl0_3 => ?_
 refine sn 0 4 fun hl0_4 => ?_
 refine sn 0 5 fun hl0_5 => ?_
 refine sn 0 6 fun hl0_6 => ?_
 have hbu := hb
 simp only [aO, fp, gK, f4, cu, aV] at hbu
 refine kk ?_
 refine me ?_
 refine xO ?_
 refine dA 3 ?_ (x := cL [(true, [sl _ _, val _])] [(true, [sl .v _, val _])] JD (hs := by exact (Kz (by omega))))
 refine dA 0 ?_ (x := lF gR)
 refine dA 8 ?_ (x := lD [val _] aq)
 refine dA 0 ?_ (x := lF mn)
 refine dA 32 ?_ (x := lD [sl .v _] aZ)
 refine dA 103 ?_ (x := cL [(false, [sl _ _])] [(false, [sl .v _])] ml (hs := by exact mA (by omega)))
 refine dA 0 ?_ (x := lF io)
 refine dA 256 ?_ (x := lD [val _] aq)
 refine dA 1023 ?_ (x := cv (qs := [(true, [sl _ _, val _]), (false, [val _]), (false, [sl _ _]), (false, [val _])]) (cs := [sl _ _, val _, val _, sl _ _, sl _ _, sl _ _, sl _ _, val _]) (by decide) jf jg Ky (by exact rfl) (by exact (aI (by exact ⟨⟩) (aI (by exact ⟨⟩) (aI (by exact ⟨⟩) (aI (by exact ⟨⟩) tI))))) rfl (by exact rfl))
 refine a4.step 0 (by exact ⟨⟩) (by exact ⟨⟩) (be.of rfl (bB (by decide) jf jg)) (kW (bO.of_ rfl)) (by kernel_rfl) ?_
 refine dA 4095 ?_ (x := aQ (ag := true) (vs := [sl _ _, val _, val _, sl _ _, sl _ _, sl _ _, sl _ _, val _]) a7 (by exact ⟨⟩) (by exact rfl) (by exact nl rfl))
 refine dH ?_
 refine HP ?_
 refine nt ?_
 refine sP [1, 2, 3, 22, 23, 24] [1, 2, 3] ?_
 refine sL [1, 2, 3, 22, 23] [1, 2] (fun k : Nat => k ≤ e.Active.length) (fun k : Nat => [(24, RV.int (k : Int))]) (fun k : Nat => [(3, (32, [sl (.own 139 1) (e.Store.Segments.map (ax (.own 184 4) (.own 3 1))), val (vI e.Store.Now), val (vI e.Cursor), sl (.own 3 1) (e.Order.map ai), sl (.own 108 10) ((e.Active.take k).map (aG (.own 178 3) (.own 3 1) (.own 3 1) (.own 54 2) (.own 3 1))), sl (.own 63 7) (([] : List dP).map (aP (.own 178 3) (.own 3 1) (.own 54 2) (.own 3 1))), sl (.own 70 5) (([] : List dZ).map (aR (.own 3 1) (.own 3 1) (.own 3 1))), val (vI e.Steps)]))]) (fun k : Nat => e.Active.length - k) 0 (by omega) (by exact aI (by exact rfl) (tI)) (by exact aI (by exact rfl) (tI)) ?_
 rintro k hk
 refine bG ?_
 refine sc (fun hba => ?_) (fun hba => ?_)
 have hlt : k < e.Active.length := by omega
 have hwm := cR (f := ca) hlt
 have hwu : ca e.Active[k] = d9 e.Active[k].Query + e.Active[k].Todo.length + eJ e.Active[k].Rows := by simp only [ca, cu, aV]; omega
 have htl : (e.Active.take k).length = k := by rw [List.length_take]; omega
 refine aT ?_
 refine sT [1, 2, 3, 22, 23, 24] [1, 2, 3] ?_
 refine oE ?_
 refine oD ?_
 refine sO [(1, _), (2, _), (3, _), (5, _), (22, _), (23, _), (24, _)] [(1, _), (2, _), (3, _), (5, (108, [val _, val _, sl _ _, sl _ _, val _, sl _ _, val _, val _, val _, sl _ _]))] ?_
 refine b9 bP ?_
 refine Gl ?_
 refine dA 0 ?_ (x := lD [val _, val _, sl .v _, sl .v _, val _, sl .v _, val _, val _, val _, sl .v _] eK)
 refine dA 4 ?_ (x := cL [(true, [val _, val _, sl _ _, sl _ _, val _, sl _ _, val _, val _, val _, sl _ _])] [(true, [val _, val _, sl .v _, sl .v _, val _, sl .v _, val _, val _, val _, sl .v _])] OY (hs := by exact (Q1 (by omega))))
 refine dA 12 ?_ (x := bd (qs := [(true, [val _, val _, sl _ _, sl _ _, val _, sl _ _, val _, val _, val _, sl _ _])]) (by decide) bJ fe (by decide) rfl rfl rfl rfl rfl (by exact nl rfl) (by exact (aI (by exact ⟨⟩) tI)) rfl)
 refine dA 31 ?_ (x := c8 (by decide) bJ fe rfl rfl (by decide) rfl (by simp only [List.length_map, List.length_append, List.length_cons, List.length_nil]; omega) (by simp only [List.length_map, List.length_append, List.length_cons, List.length_nil]; omega))
 refine dA 63 ?_ (x := lF dJ)
 refine dA 127 ?_ (x := aQ (ag := false) (vs := [sl _ _]) dm (by exact ⟨⟩) (by exact rfl) (by exact nl rfl))
 refine sO [(1, _), (2, _), (3, _), (5, _), (22, _), (23, _), (24, _)] [(1, _), (2, _), (3, (32, [sl _ _, val _, val _, sl _ _, sl _ _, sl _ _, sl _ _, val _])), (5, _)] ?_
 exact wY
 have hend0 : k = e.Active.length := by omega
 refine et ?_
 refine sT [1, 2, 3, 22, 23, 24] [1, 2, 3] ?_
 refine qZ ?_
 refine cj ?_
 refine sP [1, 2, 3, 22, 23, 24, 37, 38, 39] [1, 2, 3] ?_
 refine sL [1, 2, 3, 22, 23, 24, 37, 38] [1, 2] (fun k : Nat => k ≤ e.Done.length) (fun k : Nat => [(39, RV.int (k : Int))]) (fun k : Nat => [(3, (32, [sl (.own 139 1) (e.Store.Segments.map (ax (.own 184 4) (.own 3 1))), val (vI e.Store.Now), val (vI e.Cursor), sl (.own 3 1) (e.Order.map ai), sl (.own 108 10) (e.Active.map (aG (.own 178 3) (.own 3 1) (.own 3 1) (.own 54 2) (.own 3 1))), sl (.own 63 7) ((e.Done.take k).map (aP (.own 178 3) (.own 3 1) (.own 54 2) (.own 3 1))), sl (.own 70 5) (([] : List dZ).map (aR (.own 3 1) (.own 3 1) (.own 3 1))), val (vI e.Steps)]))]) (fun k : Nat => e.Done.length - k) 0 (by omega) (by exact aI (by exact rfl) (tI)) (by exact aI (by rw [hend0, List.take_length]; exact rfl) (tI)) ?_
 rintro k hk
 refine bG ?_
 refine sc (fun hbb => ?_) (fun hbb => ?_)
 have hlt : k < e.Done.length := by omega
 have hwm := cR (f := ja) hlt
 have hwu : ja e.Done[k] = d9 e.Done[k].Query + eJ e.Done[k].Rows := by simp only [ja, aV]; omega
 have htl : (e.Done.take k).length = k := by rw [List.length_take]; omega
 refine aT ?_
 refine sT [1, 2, 3, 22, 23, 24, 37, 38, 39] [1, 2, 3] ?_
 refine pb ?_
 refine sO [(1, _), (2, _), (3, _), (7, _), (22, _), (23, _), (24, _), (37, _), (38, _), (39, _)] [(1, _), (2, _), (3, _), (7, (63, [val _, val _, sl _ _, sl _ _, val _, val _, sl _ _]))] ?_
 refine b9 bP ?_
 refine dA 0 ?_ (x := lF jO)
 refine dA 1 ?_ (x := b8 (ms := [sl _ _]) (qs := [sl .v _]) (by decide) jR (fun _ => rfl) (by exact nl rfl) (by exact rfl) (by exact (ab.cons PV.to_none ab.nil)) (by exact (ae.cons (bor_sl _) ae.nil)))
 refine dA 0 ?_ (x := lD [val _, val _, sl .v _, sl .v _, val _, val _, sl .v _] nG)
 refine dA 4 ?_ (x := cL [(true, [val _, val _, sl _ _, sl _ _, val _, val _, sl _ _])] [(true, [val _, val _, sl .v _, sl .v _, val _, val _, sl .v _])] OZ (hs := by exact (Q2 (by omega))))
 refine dA 12 ?_ (x := bd (qs := [(true, [val _, val _, sl _ _, sl _ _, val _, val _, sl _ _])]) (by decide) iq kF (by decide) rfl rfl rfl rfl rfl (by exact nl rfl) (by exact (aI (by exact ⟨⟩) tI)) rfl)
 refine dA 31 ?_ (x := c8 (by decide) iq kF rfl rfl (by decide) rfl (by simp only [List.length_map, List.length_append, List.length_cons, List.length_nil]; omega) (by simp only [List.length_map, List.length_append, List.length_cons, List.length_nil]; omega))
 refine dA 63 ?_ (x := lF jO)
 refine dA 127 ?_ (x := aQ (ag := false) (vs := [sl _ _]) jR (by exact ⟨⟩) (by exact rfl) (by exact nl rfl))
 refine sO [(1, _), (2, _), (3, _), (7, _), (22, _), (23, _), (24, _), (37, _), (38, _), (39, _)] [(1, _), (2, _), (3, (32, [sl _ _, val _, val _, sl _ _, sl _ _, sl _ _, sl _ _, val _])), (7, _)] ?_
 exact wY
 have hend1 : k = e.Done.length := by omega
 refine et ?_
 refine sT [1, 2, 3, 22, 23, 24, 37, 38, 39] [1, 2, 3] ?_
 refine ra ?_
 refine cj ?_
 refine sP [1, 2, 3, 22, 23, 24, 37, 38, 39, 52, 53, 54] [1, 2, 3] ?_
 refine sL [1, 2, 3, 22, 23, 24, 37, 38, 39, 52, 53] [1, 2] (fun k : Nat => k ≤ e.Ledger.length) (fun k : Nat => [(54, RV.int (k : Int))]) (fun k : Nat => [(3, (32, [sl (.own 139 1) (e.Store.Segments.map (ax (.own 184 4) (.own 3 1))), val (vI e.Store.Now), val (vI e.Cursor), sl (.own 3 1) (e.Order.map ai), sl (.own 108 10) (e.Active.map (aG (.own 178 3) (.own 3 1) (.own 3 1) (.own 54 2) (.own 3 1))), sl (.own 63 7) (e.Done.map (aP (.own 178 3) (.own 3 1) (.own 54 2) (.own 3 1))), sl (.own 70 5) ((e.Ledger.take k).map (aR (.own 3 1) (.own 3 1) (.own 3 1))), val (vI e.Steps)]))]) (fun k : Nat => e.Ledger.length - k) 0 (by omega) (by exact aI (by exact rfl) (tI)) (by exact aI (by rw [hend1, List.take_length]; exact rfl) (tI)) ?_
 rintro k hk
 refine bG ?_
 refine sc (fun hbc => ?_) (fun hbc => ?_)
 have hlt : k < e.Ledger.length := by omega
 have hwm := cR (f := lr) hlt
 skip
 have htl : (e.Ledger.take k).length = k := by rw [List.length_take]; omega
 refine aT ?_
 refine sT [1, 2, 3, 22, 23, 24, 37, 38, 39, 52, 53, 54] [1, 2, 3] ?_
 refine xv ?_
 refine xu ?_
 refine sO [(1, _), (2, _), (3, _), (9, _), (22, _), (23, _), (24, _), (37, _), (38, _), (39, _), (52, _), (53, _), (54, _)] [(1, _), (2, _), (3, _), (9, (70, [val _, val _, sl _ _, sl _ _, sl _ _]))] ?_
 refine b9 bP ?_
 refine Gm ?_
 refine dA 0 ?_ (x := lD [val _, val _, sl .v _, sl .v _, sl .v _] it)
 refine dA 4 ?_ (x := cL [(true, [val _, val _, sl _ _, sl _ _, sl _ _])] [(true, [val _, val _, sl .v _, sl .v _, sl .v _])] O0 (hs := by exact (QZ (by omega))))
 refine dA 12 ?_ (x := bd (qs := [(true, [val _, val _, sl _ _, sl _ _, sl _ _])]) (by decide) fq gT (by decide) rfl rfl rfl rfl rfl (by exact nl rfl) (by exact (aI (by exact ⟨⟩) tI)) rfl)
 refine dA 31 ?_ (x := c8 (by decide) fq gT rfl rfl (by decide) rfl (by simp only [List.length_map, List.length_append, List.length_cons, List.length_nil]; omega) (by simp only [List.length_map, List.length_append, List.length_cons, List.length_nil]; omega))
 refine dA 63 ?_ (x := lF gt)
 refine dA 127 ?_ (x := aQ (ag := false) (vs := [sl _ _]) gw (by exact ⟨⟩) (by exact rfl) (by exact nl rfl))
 refine sO [(1, _), (2, _), (3, _), (9, _), (22, _), (23, _), (24, _), (37, _), (38, _), (39, _), (52, _), (53, _), (54, _)] [(1, _), (2, _), (3, (32, [sl _ _, val _, val _, sl _ _, sl _ _, sl _ _, sl _ _, val _])), (9, _)] ?_
 exact wY
 have hend2 : k = e.Ledger.length := by omega
 refine aX ?_
 refine sT [1, 2, 3, 22, 23, 24, 37, 38, 39, 52, 53, 54] [1, 2, 3] ?_
 exact Ds
theorem KB {p1 p2 p5 p6 p7 p8 p9 p11 p12 p13 p14 p16 p17 p18 : Fl} {e : am}  (hb : aO e ≤ 68719476736) : aw Tryz.prog 60 [(true, [sl .v (e.Store.Segments.map (ax p1 p2)), val (vI e.Store.Now), val (vI e.Cursor), sl .v (e.Order.map ai), sl .v (e.Active.map (aG p5 p6 p7 p8 p9)), sl .v (e.Done.map (aP p11 p12 p13 p14)), sl .v (e.Ledger.map (aR p16 p17 p18)), val (vI e.Steps)])] (av [(true, [sl (.own 139 1) (e.Store.Segments.map (ax (.own 184 4) (.own 3 1))), val (vI e.Store.Now), val (vI e.Cursor), sl (.own 3 1) (e.Order.map ai), sl (.own 108 10) (e.Active.map (aG (.own 178 3) (.own 3 1) (.own 3 1) (.own 54 2) (.own 3 1))), sl (.own 63 7) (e.Done.map (aP (.own 178 3) (.own 3 1) (.own 54 2) (.own 3 1))), sl (.own 70 5) (e.Ledger.map (aR (.own 3 1) (.own 3 1) (.own 3 1))), val (vI e.Steps)])]) := by
 refine sF Tryz.func60 fun h0 w0 Fz0 => ?_
 refine sn 0 0 fun hl0_0 => ?_
 refine sn 0 3 fun hl0_3 => ?_
 refine sn 0 4 fun hl0_4 => ?_
 refine sn 0 5 fun hl0_5 => ?_
 refine sn 0 6 fun hl0_6 => ?_
 have hbu := hb
 simp only [aO, fp, gK, f4, cu, aV] at hbu
 refine kk ?_
 refine me ?_
 refine xO ?_
 refine dA 3 ?_ (x := cL [(true, [sl _ _, val _])] [(true, [sl .v _, val _])] y8 (hs := by exact (zy (by omega))))
 refine dA 0 ?_ (x := lF gR)
 refine dA 8 ?_ (x := lD [val _] aq)
 refine dA 0 ?_ (x := bd (qs := []) (by decide) a3 ce (by decide) rfl rfl rfl rfl rfl (by exact nl rfl) (by exact ⟨⟩) rfl)
 refine dA 0 ?_ (x := lF mn)
 refine dA 64 ?_ (x := lD [sl .v _] aZ)
 refine dA 231 ?_ (x := gp (by decide) a3 ce rfl rfl (by decide) (by first | (intro cs hcs; obtain ⟨x, _, rfl⟩ := List.mem_map.1 hcs; exact rfl) | simp) (by first | (intro cs hcs; obtain ⟨x, _, rfl⟩ := List.mem_map.1 hcs; exact (ae.cons (bor_val _) ae.nil)) | simp) (by simp only [List.length_map, List.length_append, List.length_cons, List.length_nil]; omega) (by simp only [List.length_map, List.length_append, List.length_cons, List.length_nil]; omega))
 refine dA 0 ?_ (x := lF io)
 refine dA 512 ?_ (x := lD [val _] aq)
 refine dA 2047 ?_ (x := cv (qs := [(true, [sl _ _, val _]), (false, [val _]), (false, [sl _ _]), (false, [val _])]) (cs := [sl _ _, val _, val _, sl _ _, sl _ _, sl _ _, sl _ _, val _]) (by decide) jf jg Ky (by exact rfl) (by exact (aI (by exact ⟨⟩) (aI (by exact ⟨⟩) (aI (by exact ⟨⟩) (aI (by exact ⟨⟩) tI))))) rfl (by exact rfl))
 refine a4.step 0 (by exact ⟨⟩) (by exact ⟨⟩) (be.of rfl (bB (by decide) jf jg)) (kW (bO.of_ rfl)) (by kernel_rfl) ?_
 refine dA 8191 ?_ (x := aQ (ag := true) (vs := [sl _ _, val _, val _, sl _ _, sl _ _, sl _ _, sl _ _, val _]) a7 (by exact ⟨⟩) (by exact rfl) (by exact nl rfl))
 refine dH ?_
 refine HP ?_
 refine bw ?_
 refine sP [1, 2, 3, 4] [1, 2, 3] ?_
 refine sL [1, 2, 3] [1, 2] (fun k : Nat => k ≤ e.Active.length) (fun k : Nat => [(4, RV.int (k : Int))]) (fun k : Nat => [(3, (32, [sl (.own 139 1) (e.Store.Segments.map (ax (.own 184 4) (.own 3 1))), val (vI e.Store.Now), val (vI e.Cursor), sl (.own 3 1) (e.Order.map ai), sl (.own 108 10) ((e.Active.take k).map (aG (.own 178 3) (.own 3 1) (.own 3 1) (.own 54 2) (.own 3 1))), sl (.own 63 7) (([] : List dP).map (aP (.own 178 3) (.own 3 1) (.own 54 2) (.own 3 1))), sl (.own 70 5) (([] : List dZ).map (aR (.own 3 1) (.own 3 1) (.own 3 1))), val (vI e.Steps)]))]) (fun k : Nat => e.Active.length - k) 0 (by omega) (by exact aI (by exact rfl) (tI)) (by exact aI (by exact rfl) (tI)) ?_
 rintro k hk
 refine bu ?_
 refine nk ?_
 refine sc (fun hba => ?_) (fun hba => ?_)
 have hlt : k < e.Active.length := by omega
 have hwm := cR (f := ca) hlt
 have hwu : ca e.Active[k] = d9 e.Active[k].Query + e.Active[k].Todo.length + eJ e.Active[k].Rows := by simp only [ca, cu, aV]; omega
 have htl : (e.Active.take k).length = k := by rw [List.length_take]; omega
 refine aT ?_
 refine sT [1, 2, 3, 4] [1, 2, 3] ?_
 refine l6 ?_
 refine rM ?_
 refine oE ?_
 refine oD ?_
 refine aJ ?_
 refine tC ?_
 refine qJ ?_
 refine rA ?_ (x := cL [(true, [val _, val _, sl _ _, sl _ _])] [(true, [val _, val _, sl .v _, sl .v _])] uW (hs := by exact va (by omega)))
 refine rA ?_ (x := lF eU)
 refine xB ?_
 refine tC ?_
 refine rA ?_ (x := bd (qs := []) (by decide) a3 ce (by decide) rfl rfl rfl rfl rfl (by exact nl rfl) (by exact ⟨⟩) rfl)
 refine rA ?_ (x := lF gO)
 refine rA ?_ (x := lD [sl .v _] aZ)
 refine rA ?_ (x := gp (by decide) a3 ce rfl rfl (by decide) (by first | (intro cs hcs; obtain ⟨x, _, rfl⟩ := List.mem_map.1 hcs; exact rfl) | simp) (by first | (intro cs hcs; obtain ⟨x, _, rfl⟩ := List.mem_map.1 hcs; exact (ae.cons (bor_val _) ae.nil)) | simp) (by simp only [List.length_map, List.length_append, List.length_cons, List.length_nil]; omega) (by simp only [List.length_map, List.length_append, List.length_cons, List.length_nil]; omega))
 refine rA ?_ (x := lF gO)
 refine oJ ?_
 refine tC ?_
 refine rA ?_ (x := lF lv)
 refine HJ ?_
 refine HF ?_
 refine tC ?_
 refine xo ?_
 refine tq ?_
 refine m4 ?_
 refine sO [(1, _), (2, _), (3, _), (4, _), (5, _)] [(1, _), (2, _), (3, (32, [sl _ _, val _, val _, sl _ _, sl _ _, sl _ _, sl _ _, val _])), (5, (108, [val _, val _, sl _ _, sl _ _, val _, sl _ _, val _, val _, val _, sl _ _]))] ?_
 exact te
 have hend0 : k = e.Active.length := by omega
 refine et ?_
 refine sT [1, 2, 3, 4] [1, 2, 3] ?_
 refine bw ?_
 refine sP [1, 2, 3, 4, 6] [1, 2, 3] ?_
 refine sL [1, 2, 3, 4] [1, 2] (fun k : Nat => k ≤ e.Done.length) (fun k : Nat => [(6, RV.int (k : Int))]) (fun k : Nat => [(3, (32, [sl (.own 139 1) (e.Store.Segments.map (ax (.own 184 4) (.own 3 1))), val (vI e.Store.Now), val (vI e.Cursor), sl (.own 3 1) (e.Order.map ai), sl (.own 108 10) (e.Active.map (aG (.own 178 3) (.own 3 1) (.own 3 1) (.own 54 2) (.own 3 1))), sl (.own 63 7) ((e.Done.take k).map (aP (.own 178 3) (.own 3 1) (.own 54 2) (.own 3 1))), sl (.own 70 5) (([] : List dZ).map (aR (.own 3 1) (.own 3 1) (.own 3 1))), val (vI e.Steps)]))]) (fun k : Nat => e.Done.length - k) 0 (by omega) (by exact aI (by exact rfl) (tI)) (by exact aI (by rw [hend0, List.take_length]; exact rfl) (tI)) ?_
 rintro k hk
 refine bu ?_
 refine qZ ?_
 refine rA ?_ (x := cb)
 refine sc (fun hbb => ?_) (fun hbb => ?_)
 have hlt : k < e.Done.length := by omega
 have hwm := cR (f := ja) hlt
 have hwu : ja e.Done[k] = d9 e.Done[k].Query + eJ e.Done[k].Rows := by simp only [ja, aV]; omega
 have htl : (e.Done.take k).length = k := by rw [List.length_take]; omega
 refine aT ?_
 refine sT [1, 2, 3, 4, 6] [1, 2, 3] ?_
 refine qF ?_
 refine rM ?_
 refine pb ?_
 refine aJ ?_
 refine xz ?_
 refine qK ?_
 refine rA ?_ (x := cL [(true, [val _, val _, sl _ _, sl _ _])] [(true, [val _, val _, sl .v _, sl .v _])] uW (hs := by exact va (by omega)))
 refine rA ?_ (x := lF uE)
 refine xB ?_
 refine xz ?_
 refine rA ?_ (x := lF pk)
 refine HJ ?_
 refine rA ?_ (x := lF pk)
 refine rA ?_ (x := aQ (ag := false) (vs := [sl _ _]) ir (by exact ⟨⟩) (by exact rfl) (by exact nl rfl))
 refine xz ?_
 refine Gq ?_
 refine rA ?_ (x := b8 (ms := [val _, val _, sl _ _, sl _ _, val _, val _, sl _ _]) (qs := [val _, val _, sl .v _, sl .v _, val _, val _, sl .v _]) (by decide) nG (fun h => nomatch h) (by exact nl rfl) (by exact rfl) (by exact (ab.cons (PV.To.refl _) (ab.cons (PV.To.refl _) (ab.cons PV.to_none (ab.cons PV.to_none (ab.cons (PV.To.refl _) (ab.cons (PV.To.refl _) (ab.cons PV.to_none ab.nil)))))))) (by exact lq))
 refine Fu ?_
 refine HK ?_
 refine sO [(1, _), (2, _), (3, _), (4, _), (6, _), (7, _)] [(1, _), (2, _), (3, (32, [sl _ _, val _, val _, sl _ _, sl _ _, sl _ _, sl _ _, val _])), (7, (63, [val _, val _, sl _ _, sl _ _, val _, val _, sl _ _]))] ?_
 exact te
 have hend1 : k = e.Done.length := by omega
 refine et ?_
 refine sT [1, 2, 3, 4, 6] [1, 2, 3] ?_
 refine bw ?_
 refine sP [1, 2, 3, 4, 6, 8] [1, 2, 3] ?_
 refine sL [1, 2, 3, 4, 6] [1, 2] (fun k : Nat => k ≤ e.Ledger.length) (fun k : Nat => [(8, RV.int (k : Int))]) (fun k : Nat => [(3, (32, [sl (.own 139 1) (e.Store.Segments.map (ax (.own 184 4) (.own 3 1))), val (vI e.Store.Now), val (vI e.Cursor), sl (.own 3 1) (e.Order.map ai), sl (.own 108 10) (e.Active.map (aG (.own 178 3) (.own 3 1) (.own 3 1) (.own 54 2) (.own 3 1))), sl (.own 63 7) (e.Done.map (aP (.own 178 3) (.own 3 1) (.own 54 2) (.own 3 1))), sl (.own 70 5) ((e.Ledger.take k).map (aR (.own 3 1) (.own 3 1) (.own 3 1))), val (vI e.Steps)]))]) (fun k : Nat => e.Ledger.length - k) 0 (by omega) (by exact aI (by exact rfl) (tI)) (by exact aI (by rw [hend1, List.take_length]; exact rfl) (tI)) ?_
 rintro k hk
 refine bu ?_
 refine ra ?_
 refine rA ?_ (x := cb)
 refine sc (fun hbc => ?_) (fun hbc => ?_)
 have hlt : k < e.Ledger.length := by omega
 have hwm := cR (f := lr) hlt
 skip
 have htl : (e.Ledger.take k).length = k := by rw [List.length_take]; omega
 refine aT ?_
 refine sQ [1, 2, 3, 4, 6, 8] [1, 2, 3] ?_
 refine b9 bP ?_
 refine Gm ?_
 refine dA 0 ?_ (x := lF gt)
 refine dA 4 ?_ (x := lD [sl .v _] gw)
 refine dA 0 ?_ (x := sM)
 refine dA 28 ?_ (x := aD (by decide) fq (by exact ⟨⟩) (by exact rfl) (by exact aE (by omega) rfl) (by exact rfl))
 refine dA 60 ?_ (x := lE [val _, val _, sl .v _, sl .v _, sl .v _] it)
 refine dA 124 ?_ (x := cL [(true, [val _, val _, sl _ _, sl _ _, sl _ _])] [(true, [val _, val _, sl .v _, sl .v _, sl .v _])] O8 (hs := by exact (Q0 (by omega))))
 refine dA 252 ?_ (x := bd (qs := [(true, [val _, val _, sl _ _, sl _ _, sl _ _])]) (by decide) fq gT (by decide) rfl rfl rfl rfl rfl (by exact nl rfl) (by exact (aI (by exact ⟨⟩) tI)) rfl)
 refine dA 511 ?_ (x := c8 (by decide) fq gT rfl rfl (by decide) rfl (by simp only [List.length_map, List.length_append, List.length_cons, List.length_nil]; omega) (by simp only [List.length_map, List.length_append, List.length_cons, List.length_nil]; omega))
 refine dA 1023 ?_ (x := lF gt)
 refine dA 2047 ?_ (x := aQ (ag := false) (vs := [sl _ _]) gw (by exact ⟨⟩) (by exact rfl) (by exact nl rfl))
 refine sO [(1, _), (2, _), (3, _), (4, _), (6, _), (8, _)] [(1, _), (2, _), (3, (32, [sl _ _, val _, val _, sl _ _, sl _ _, sl _ _, sl _ _, val _]))] ?_
 exact te
 have hend2 : k = e.Ledger.length := by omega
 refine aX ?_
 refine sT [1, 2, 3, 4, 6, 8] [1, 2, 3] ?_
 exact Ds
end Go.Proofs.YtmekkgdboplbjaaGreat
