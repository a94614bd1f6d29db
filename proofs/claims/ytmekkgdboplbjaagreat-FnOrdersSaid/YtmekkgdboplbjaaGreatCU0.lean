/- What functions of the program compute. No condition. -/
import Derived.Test.YtmekkgdboplbjaaGreatCS0
import Derived.Test.YtmekkgdboplbjaaGreatCT0
set_option linter.unusedVariables false
set_option linter.unusedSimpArgs false
namespace Go.Proofs.YtmekkgdboplbjaaGreat
open Go Go.RowKit M PV
set_option maxRecDepth 10000
attribute [local irreducible] PV.Lcl PV.LclR RV.Lcl
theorem SB {l : List Int} {x : Int}  (hb : l.length ≤ 68719476736) : aw Tryz.prog 152 [(false, [sl .v (l.map ai)]), (false, [val (vI x)])] (av [(false, [sl (.own 3 1) ((iV l x).map ai)])]) := by
 refine sF Tryz.func152 fun h0 w0 Fz0 => ?_
 refine sj 0 fun hl0 => ?_
 refine jD ?_
 refine sS [0, 1, 4] [] ?_
 refine kq ?_
 refine sS [0, 1, 4, 5] [] ?_
 refine oZ ?_
 refine sP [0, 1, 4, 5, 9, 10, 11] [] ?_
 refine sL [0, 1, 4, 9, 10] [] (fun k : Nat => k ≤ l.length) (fun k : Nat => [(5, RV.slc (.own 3 1) ((iV (l.take k) x).map ai)), (11, RV.int (k : Int))]) (fun k : Nat => []) (fun k : Nat => l.length - k) 0 (by omega) (by exact aI (by exact rfl) (aI (by exact rfl) (tI))) (by exact ⟨⟩) ?_
 rintro k hk
 refine bG ?_
 refine sc (fun hba => ?_) (fun hba => ?_)
 have hlt : k < l.length := by omega
 have hwl := zH (l.take k) x
 rw [List.length_take] at hwl
 refine aT ?_
 refine sS [0, 1, 4, 5, 9, 10, 11] [] ?_
 refine kt ?_
 refine sS [0, 1, 4, 5, 7, 9, 10, 11] [] ?_
 refine ku ?_
 refine rA ?_ (x := co)
 refine sc (fun hbb => ?_) (fun hbb => ?_)
 have hne : ¬ l[k] = x := hbb
 refine sG [0, 1, 4, 5, 7, 9, 10, 11] [] ?_
 refine rA ?_ (x := tM)
 refine rM ?_
 refine i7 ?_
 exact Dx
 have hne : l[k] = x := by first | exact hbb | (simp_all; done) | omega
 refine aN ?_
 exact Dx
 have hend : k = l.length := by omega
 refine aX ?_
 refine sS [0, 1, 4, 5, 9, 10, 11] [] ?_
 exact ov
theorem SC {l : List Int} {x : Int}  (hb : l.length ≤ 68719476736) : aw Tryz.prog 274 [(false, [sl .v (l.map ai)]), (false, [val (vI x)])] (av [(false, [sl (.own 3 1) ((iV l x).map ai)])]) := by
 refine sF Tryz.func274 fun h0 w0 Fz0 => ?_
 refine sj 0 fun hl0 => ?_
 refine jD ?_
 refine sS [0, 1, 4] [] ?_
 refine kq ?_
 refine um ?_
 refine sP [0, 1, 4, 5, 6] [] ?_
 refine sL [0, 1, 4] [] (fun k : Nat => k ≤ l.length) (fun k : Nat => [(5, RV.slc (.own 3 1) ((iV (l.take k) x).map ai)), (6, RV.int (k : Int))]) (fun k : Nat => []) (fun k : Nat => l.length - k) 0 (by omega) (by exact aI (by exact rfl) (aI (by exact rfl) (tI))) (by exact ⟨⟩) ?_
 rintro k hk
 refine iK ?_
 refine sc (fun hba => ?_) (fun hba => ?_)
 have hlt : k < l.length := by omega
 have hwl := zH (l.take k) x
 rw [List.length_take] at hwl
 refine ub ?_
 refine oY ?_
 refine rM ?_
 refine rA ?_ (x := co)
 refine sc (fun hbb => ?_) (fun hbb => ?_)
 have hne : ¬ l[k] = x := hbb
 refine sG [0, 1, 4, 5, 6] [] ?_
 refine rA ?_ (x := tM)
 refine oY ?_
 refine i7 ?_
 exact Dy
 have hne : l[k] = x := by first | exact hbb | (simp_all; done) | omega
 refine aN ?_
 exact Dy
 have hend : k = l.length := by omega
 refine aX ?_
 refine sS [0, 1, 4, 5, 6] [] ?_
 exact ov
theorem SD {p1 p2 : Fl} {s : Store} {i : Int} {t : Int}  (hb : cc s ≤ 68719476736) (hi0 : 0 ≤ i) (hi2 : i.toNat < s.Segments.length) : aw Tryz.prog 150 [(true, [sl .v (s.Segments.map (ax p1 p2)), val (vI s.Now)]), (false, [val (vI i)]), (false, [val (vI t)])] (av [(false, [sl (.own 54 2) ((cG (s.Segments.getD i.toNat []) t).map (bn (.own 3 1)))])]) := by
 refine sF Tryz.func150 fun h0 w0 Fz0 => ?_
 refine sn 0 0 fun hl0_0 => ?_
 have hgd := cX (d := ([] : List aF)) hi2
 have hws := cR (f := b3) hi2
 rw [hgd] at hws
 have hws2 : b3 (s.Segments.getD i.toNat []) = (s.Segments.getD i.toNat []).length + ((s.Segments.getD i.toNat []).map bZ).sum := rfl
 have hbu := hb
 simp only [cc, fa, aV] at hbu
 refine iJ ?_
 refine rA ?_ (x := fj (.inr rfl) (by decide) (fR (t := 54) (e := 2)))
 refine sT [1, 2, 3, 6] [3] ?_
 refine oI ?_
 refine aJ ?_
 refine sS [1, 2, 3, 6, 7] [3] ?_
 refine mh ?_
 refine rA ?_ (x := aD (k := i.toNat) (by decide) dK (by exact ⟨⟩) (by omega) (by exact aE hi2 (by rw [cX (d := ([] : List aF)) hi2])) (by exact rfl))
 refine rA ?_ (x := lE [sl .v _] f7)
 refine rA ?_ (x := lN bT)
 refine cj ?_
 refine sP [1, 2, 3, 6, 7, 15, 16, 17] [3] ?_
 refine sL [1, 2, 3, 6, 15, 16] [3] (fun k : Nat => k ≤ (s.Segments.getD i.toNat []).length) (fun k : Nat => [(7, RV.slc (.own 54 2) ((cG ((s.Segments.getD i.toNat []).take k) t).map (bn (.own 3 1)))), (17, RV.int (k : Int))]) (fun k : Nat => []) (fun k : Nat => (s.Segments.getD i.toNat []).length - k) 0 (by omega) (by exact aI (by exact rfl) (aI (by exact rfl) (tI))) (by exact ⟨⟩) ?_
 rintro k hk
 refine bG ?_
 refine sc (fun hba => ?_) (fun hba => ?_)
 have hlt : k < (s.Segments.getD i.toNat []).length := by omega
 have hwm2 := cR (f := bZ) hlt
 have hvl := rR ((s.Segments.getD i.toNat []).take k) t
 rw [List.length_take] at hvl
 refine aT ?_
 refine sT [1, 2, 3, 6, 7, 15, 16, 17] [3] ?_
 refine tx ?_
 refine oG ?_
 refine aJ ?_
 refine sO [(1, _), (2, _), (3, _), (6, _), (7, _), (9, _), (15, _), (16, _), (17, _)] [(3, _), (9, (184, [val _, sl _ _, val _, val _]))] ?_
 refine aM ?_
 refine rA ?_ (x := lD [val _, sl .v _, val _, val _] d2)
 refine G4 ?_
 refine sc (fun hbb => ?_) (fun hbb => ?_)
 have hv : de (s.Segments.getD i.toNat [])[k] t = true := by simpa using hbb
 refine sG [1, 2, 3, 6, 7, 9, 15, 16, 17] [3, 9] ?_
 refine rA ?_ (x := tM)
 refine xq ?_
 refine oB ?_
 refine rA ?_ (x := tA)
 exact Dz
 have hv : de (s.Segments.getD i.toNat [])[k] t = false := by simpa using hbb
 refine aN ?_
 exact Dz
 have hend : k = (s.Segments.getD i.toNat []).length := by omega
 refine aX ?_
 refine sT [1, 2, 3, 6, 7, 15, 16, 17] [3] ?_
 exact ov
theorem SE {e : am}  (hb : aO e ≤ 68719476736) : wm Tryz.prog 153 [(true, [sl (.own 139 1) (e.Store.Segments.map (ax (.own 184 4) (.own 3 1))), val (vI e.Store.Now), val (vI e.Cursor), sl (.own 3 1) (e.Order.map ai), sl (.own 108 10) (e.Active.map (aG (.own 178 3) (.own 3 1) (.own 3 1) (.own 54 2) (.own 3 1))), sl (.own 63 7) (e.Done.map (aP (.own 178 3) (.own 3 1) (.own 54 2) (.own 3 1))), sl (.own 70 5) (e.Ledger.map (aR (.own 3 1) (.own 3 1) (.own 3 1))), val (vI e.Steps)])] (av [(true, [sl (.own 139 1) ((cf e).Store.Segments.map (ax (.own 184 4) (.own 3 1))), val (vI (cf e).Store.Now), val (vI (cf e).Cursor), sl (.own 3 1) ((cf e).Order.map ai), sl (.own 108 10) ((cf e).Active.map (aG (.own 178 3) (.own 3 1) (.own 3 1) (.own 54 2) (.own 3 1))), sl (.own 63 7) ((cf e).Done.map (aP (.own 178 3) (.own 3 1) (.own 54 2) (.own 3 1))), sl (.own 70 5) ((cf e).Ledger.map (aR (.own 3 1) (.own 3 1) (.own 3 1))), val (vI (cf e).Steps)])]) := by
 refine MY (rs := [(true, [sl (.own 139 1) ((cf e).Store.Segments.map (ax (.own 184 4) (.own 3 1))), val (vI (cf e).Store.Now), val (vI (cf e).Cursor), sl (.own 3 1) ((cf e).Order.map ai), sl (.own 108 10) ((cf e).Active.map (aG (.own 178 3) (.own 3 1) (.own 3 1) (.own 54 2) (.own 3 1))), sl (.own 63 7) ((cf e).Done.map (aP (.own 178 3) (.own 3 1) (.own 54 2) (.own 3 1))), sl (.own 70 5) ((cf e).Ledger.map (aR (.own 3 1) (.own 3 1) (.own 3 1))), val (vI (cf e).Steps)])]) Tryz.func153 rfl (nl rfl) ?_
 intro h0 w0 Fz0
 refine sn 0 0 fun hl0_0 => ?_
 refine sn 0 3 fun hl0_3 => ?_
 refine sn 0 4 fun hl0_4 => ?_
 refine sn 0 5 fun hl0_5 => ?_
 refine sn 0 6 fun hl0_6 => ?_
 have hbu := hb
 simp only [aO, fp] at hbu
 refine kk ?_
 refine sT [1, 2] [1, 2] ?_
 refine kq ?_
 refine sS [1, 2, 3] [1, 2] ?_
 refine nt ?_
 refine sP [1, 2, 3, 8, 9, 10] [1, 2] ?_
 refine sL [1, 2, 8, 9] [1, 2] (fun k : Nat => k ≤ e.Active.length) (fun k : Nat => [(3, RV.slc (.own 3 1) ((d3 (e.Active.take k)).map ai)), (10, RV.int (k : Int))]) (fun k : Nat => []) (fun k : Nat => e.Active.length - k) 0 (by omega) (by exact aI (by exact rfl) (aI (by exact rfl) (tI))) (by exact ⟨⟩) ?_
 rintro k hk
 refine bG ?_
 refine sc (fun hba => ?_) (fun hba => ?_)
 have hlt : k < e.Active.length := by omega
 have htl : (d3 (e.Active.take k)).length = k := by unfold d3; rw [List.length_map, List.length_take]; omega
 have hts : d3 (e.Active.take (k + 1)) = d3 (e.Active.take k) ++ [e.Active[k].Time] := by unfold d3; rw [pg hlt]
 refine aT ?_
 refine sT [1, 2, 3, 8, 9, 10] [1, 2] ?_
 refine oE ?_
 refine oD ?_
 refine sO [(1, _), (2, _), (3, _), (5, _), (8, _), (9, _), (10, _)] [(1, _), (2, _), (5, (108, [val _, val _, sl _ _, sl _ _, val _, sl _ _, val _, val _, val _, sl _ _]))] ?_
 refine aM ?_
 refine rA ?_ (x := tM)
 refine yj ?_
 refine i7 ?_
 refine sG [1, 2, 3, 5, 8, 9, 10] [1, 2, 5] ?_
 refine b5 ?_
 exact DA
 have hend : k = e.Active.length := by omega
 have hte : d3 (e.Active.take k) = d3 e.Active := by rw [hend, List.take_length]
 have htl : (d3 e.Active).length = e.Active.length := by unfold d3; rw [List.length_map]
 rw [hte]
 refine aX ?_
 refine sT [1, 2, 3, 8, 9, 10] [1, 2] ?_
 refine oL ?_
 refine rA ?_ (x := vM false [sl .v _])
 refine rA ?_ (x := cL [(true, [sl _ _, val _]), (false, [sl _ _])] [(true, [sl .v _, val _]), (false, [sl .v _])] Pt (hs := by exact (Q6 (s := e.Store) (keep := d3 e.Active) (by omega) (by omega))))
 refine rA ?_ (x := tM)
 refine tm ?_
 refine xD ?_
 refine aJ ?_
 refine sO [(1, _), (2, _), (3, _), (8, _), (9, _), (10, _)] [(1, (32, [sl _ _, val _, val _, sl _ _, sl _ _, sl _ _, sl _ _, val _])), (2, _)] ?_
 exact DC
theorem An {e : am}  (hb : aO e ≤ 68719476736) : fE Tryz.prog 195 32 [sl (.own 139 1) (e.Store.Segments.map (ax (.own 184 4) (.own 3 1))), val (vI e.Store.Now), val (vI e.Cursor), sl (.own 3 1) (e.Order.map ai), sl (.own 108 10) (e.Active.map (aG (.own 178 3) (.own 3 1) (.own 3 1) (.own 54 2) (.own 3 1))), sl (.own 63 7) (e.Done.map (aP (.own 178 3) (.own 3 1) (.own 54 2) (.own 3 1))), sl (.own 70 5) (e.Ledger.map (aR (.own 3 1) (.own 3 1) (.own 3 1))), val (vI e.Steps)] [sl (.own 139 1) ((cf e).Store.Segments.map (ax (.own 184 4) (.own 3 1))), val (vI (cf e).Store.Now), val (vI e.Cursor), sl (.own 3 1) (e.Order.map ai), sl (.own 108 10) (e.Active.map (aG (.own 178 3) (.own 3 1) (.own 3 1) (.own 54 2) (.own 3 1))), sl (.own 63 7) (e.Done.map (aP (.own 178 3) (.own 3 1) (.own 54 2) (.own 3 1))), sl (.own 70 5) (e.Ledger.map (aR (.own 3 1) (.own 3 1) (.own 3 1))), val (vI e.Steps)] [] (av []) := by
 refine gG (rs := []) Tryz.func195 rfl (nl rfl) (nl rfl) ?_
 intro g_ h0 w0 Fz0
 have hbu := hb
 simp only [aO, fp] at hbu
 refine sR ?_
 refine kq ?_
 refine sT [0, 2, 5000] [0] ?_
 refine bw ?_
 refine sP [0, 2, 3, 5000] [0] ?_
 refine sL [0, 5000] [0] (fun k : Nat => k ≤ e.Active.length) (fun k : Nat => [(2, RV.slc (.own 3 1) ((d3 (e.Active.take k)).map ai)), (3, RV.int (k : Int))]) (fun k : Nat => []) (fun k : Nat => e.Active.length - k) 0 (by omega) (by exact aI (by exact rfl) (aI (by exact rfl) (tI))) (by exact ⟨⟩) ?_
 rintro k hk
 refine bu ?_
 refine i2 ?_
 refine nk ?_
 refine sc (fun hba => ?_) (fun hba => ?_)
 have hlt : k < e.Active.length := by omega
 have htl : (d3 (e.Active.take k)).length = k := by unfold d3; rw [List.length_map, List.length_take]; omega
 have hts : d3 (e.Active.take (k + 1)) = d3 (e.Active.take k) ++ [e.Active[k].Time] := by unfold d3; rw [pg hlt]
 refine aT ?_
 refine sH [0, 2, 3, 5000] [0] ?_
 refine rA ?_ (x := tM)
 refine i2 ?_
 refine l6 ?_
 refine xH ?_
 refine rA ?_ (x := bl (by decide) ph (by exact nl rfl))
 refine rA ?_ (x := lE [val _] aq)
 refine i7 ?_
 refine sG [0, 2, 3, 5000] [0] ?_
 refine bF ?_
 exact DA
 have hend : k = e.Active.length := by omega
 have hte : d3 (e.Active.take k) = d3 e.Active := by rw [hend, List.take_length]
 have htl : (d3 e.Active).length = e.Active.length := by unfold d3; rw [List.length_map]
 rw [hte]
 refine aX ?_
 refine sT [0, 2, 3, 5000] [0] ?_
 refine i2 ?_
 refine oL ?_
 refine rA ?_ (x := vM false [sl .v _])
 refine rA ?_ (x := cL [(true, [sl _ _, val _]), (false, [sl _ _])] [(true, [sl .v _, val _]), (false, [sl .v _])] PL (hs := by exact (Q7 (s := e.Store) (keep := d3 e.Active) (by omega) (by omega))))
 refine rA ?_ (x := tM)
 refine tm ?_
 refine lf ?_
 refine rS ?_
 refine sO [(0, _), (2, _), (3, _), (4, _), (5, _), (5000, _)] [(0, _), (4, (26, [sl _ _, val _]))] ?_
 refine jE ?_
 refine rA ?_ (x := b8 (ms := [sl _ _, val _]) (qs := [sl .v _, val _]) (by decide) cq (fun h => nomatch h) (by exact nl rfl) (by exact rfl) (by exact (ab.cons PV.to_none (ab.cons (PV.To.refl _) ab.nil))) (by exact (ae.cons (bor_sl _) (ae.cons (bor_val _) ae.nil))))
 refine rA ?_ (x := fU (by decide))
 refine xD ?_
 exact ⟨(by exact rfl), rfl, tI⟩
end Go.Proofs.YtmekkgdboplbjaaGreat
