/- What functions of the program compute. No condition. -/
import Derived.Test.YtmekkgdboplbjaaGreatCZ0
import Derived.Test.YtmekkgdboplbjaaGreatCR0
import Derived.Test.YtmekkgdboplbjaaGreatCT0
set_option linter.unusedVariables false
set_option linter.unusedSimpArgs false
namespace Go.Proofs.YtmekkgdboplbjaaGreat
open Go Go.RowKit M PV
set_option maxRecDepth 10000
attribute [local irreducible] PV.Lcl PV.LclR RV.Lcl
theorem SY {p1 p2 p5 p6 p7 p8 p9 p11 p12 p13 p14 p16 p17 p18 : Fl} {e : am} {o : List Int}  (hb : aO e ≤ 68719476736) (hob : o.length ≤ 1048576) : aw Tryz.prog 72 [(true, [sl .v (e.Store.Segments.map (ax p1 p2)), val (vI e.Store.Now), val (vI e.Cursor), sl .v (e.Order.map ai), sl .v (e.Active.map (aG p5 p6 p7 p8 p9)), sl .v (e.Done.map (aP p11 p12 p13 p14)), sl .v (e.Ledger.map (aR p16 p17 p18)), val (vI e.Steps)]), (false, [sl .v (o.map ai)])] (av [(true, [sl (.own 139 1) ((eh e o).1.Store.Segments.map (ax (.own 184 4) (.own 3 1))), val (vI (eh e o).1.Store.Now), val (vI (eh e o).1.Cursor), sl (.own 3 1) ((eh e o).1.Order.map ai), sl (.own 108 10) ((eh e o).1.Active.map (aG (.own 178 3) (.own 3 1) (.own 3 1) (.own 54 2) (.own 3 1))), sl (.own 63 7) ((eh e o).1.Done.map (aP (.own 178 3) (.own 3 1) (.own 54 2) (.own 3 1))), sl (.own 70 5) ((eh e o).1.Ledger.map (aR (.own 3 1) (.own 3 1) (.own 3 1))), val (vI (eh e o).1.Steps)]), (false, [val (.bool (eh e o).2)])]) := by
 refine sF Tryz.func72 fun h0 w0 Fz0 => ?_
 refine sn 0 0 fun hl0_0 => ?_
 refine sn 0 3 fun hl0_3 => ?_
 refine sn 0 4 fun hl0_4 => ?_
 refine sn 0 5 fun hl0_5 => ?_
 refine sn 0 6 fun hl0_6 => ?_
 refine sj 1 fun hl1 => ?_
 refine kk ?_
 refine rK ?_
 refine sT [1, 2, 4, 5] [2, 4] ?_
 refine xj ?_
 refine jH ?_
 refine xA ?_
 refine tn ?_
 refine dI ?_
 refine cx 12 (fun ga sga => ?_) (fun ga sga => ?_)
 exact Eh
 refine HS ?_
 refine oO ?_
 refine sc (fun hba => ?_) (fun hba => ?_)
 exact w6
 have hr := vm (e := e) (o := o) (by cases h1_ : aH e <;> cases h2_ : bK o <;> simp_all)
 refine aN ?_
 refine sS [1, 2, 4, 5, 6] [2, 4, 6] ?_
 refine rA ?_ (x := vM false [sl .v _])
 refine rA ?_ (x := cL [(false, [sl _ _])] [(false, [sl .v _])] ml (hs := by exact mA (by omega)))
 exact Ei
theorem Lv {p1 p2 p5 p6 p7 p8 p9 p11 p12 p13 p14 p16 p17 p18 : Fl} {e : am} {o : List Int}  (hb : aO e ≤ 68719476736) (hob : o.length ≤ 1048576) : aw Tryz.prog 13 [(true, [sl .v (e.Store.Segments.map (ax p1 p2)), val (vI e.Store.Now), val (vI e.Cursor), sl .v (e.Order.map ai), sl .v (e.Active.map (aG p5 p6 p7 p8 p9)), sl .v (e.Done.map (aP p11 p12 p13 p14)), sl .v (e.Ledger.map (aR p16 p17 p18)), val (vI e.Steps)]), (false, [sl .v (o.map ai)])] (av [(true, [sl (.own 139 1) ((eh e o).1.Store.Segments.map (ax (.own 184 4) (.own 3 1))), val (vI (eh e o).1.Store.Now), val (vI (eh e o).1.Cursor), sl (.own 3 1) ((eh e o).1.Order.map ai), sl (.own 108 10) ((eh e o).1.Active.map (aG (.own 178 3) (.own 3 1) (.own 3 1) (.own 54 2) (.own 3 1))), sl (.own 63 7) ((eh e o).1.Done.map (aP (.own 178 3) (.own 3 1) (.own 54 2) (.own 3 1))), sl (.own 70 5) ((eh e o).1.Ledger.map (aR (.own 3 1) (.own 3 1) (.own 3 1))), val (vI (eh e o).1.Steps)]), (false, [val (.bool (eh e o).2)])]) := by
 refine sF Tryz.func13 fun h0 w0 Fz0 => ?_
 refine sn 0 0 fun hl0_0 => ?_
 refine sn 0 3 fun hl0_3 => ?_
 refine sn 0 4 fun hl0_4 => ?_
 refine sn 0 5 fun hl0_5 => ?_
 refine sn 0 6 fun hl0_6 => ?_
 refine sj 1 fun hl1 => ?_
 refine kk ?_
 refine rK ?_
 refine sT [1, 2, 4, 5] [2, 4] ?_
 refine to ?_
 refine jH ?_
 refine xA ?_
 refine qv ?_
 refine dI ?_
 refine cx 12 (fun ga sga => ?_) (fun ga sga => ?_)
 exact Eh
 refine rB ga ?_ (x := vM false [sl .v _])
 refine rB ga ?_ (x := cL [(false, [sl _ _])] [(false, [sl .v _])] zh (hs := by exact zw))
 refine oO ?_
 refine sc (fun hba => ?_) (fun hba => ?_)
 exact w6
 have hr := vm (e := e) (o := o) (by cases h1_ : aH e <;> cases h2_ : bK o <;> simp_all)
 refine aN ?_
 refine sS [1, 2, 4, 5, 6] [2, 4, 6] ?_
 refine xF ?_
 exact Ei
theorem Lx {p1 p2 p5 p6 p7 p8 p9 p11 p12 p13 p14 p16 p17 p18 : Fl} {e : am}  (hb : aO e ≤ 68719476736) : aw Tryz.prog 16 [(true, [sl .v (e.Store.Segments.map (ax p1 p2)), val (vI e.Store.Now), val (vI e.Cursor), sl .v (e.Order.map ai), sl .v (e.Active.map (aG p5 p6 p7 p8 p9)), sl .v (e.Done.map (aP p11 p12 p13 p14)), sl .v (e.Ledger.map (aR p16 p17 p18)), val (vI e.Steps)])] (av [(true, [sl (.own 139 1) ((dh e).Store.Segments.map (ax (.own 184 4) (.own 3 1))), val (vI (dh e).Store.Now), val (vI (dh e).Cursor), sl (.own 3 1) ((dh e).Order.map ai), sl (.own 108 10) ((dh e).Active.map (aG (.own 178 3) (.own 3 1) (.own 3 1) (.own 54 2) (.own 3 1))), sl (.own 63 7) ((dh e).Done.map (aP (.own 178 3) (.own 3 1) (.own 54 2) (.own 3 1))), sl (.own 70 5) ((dh e).Ledger.map (aR (.own 3 1) (.own 3 1) (.own 3 1))), val (vI (dh e).Steps)])]) := by
 refine sF Tryz.func16 fun h0 w0 Fz0 => ?_
 refine sn 0 0 fun hl0_0 => ?_
 refine sn 0 3 fun hl0_3 => ?_
 refine sn 0 4 fun hl0_4 => ?_
 refine sn 0 5 fun hl0_5 => ?_
 refine sn 0 6 fun hl0_6 => ?_
 have hcl := y3 e
 refine kk ?_
 refine aJ ?_
 refine sQ [1, 2] [1, 2] ?_
 refine FK ?_
 refine dX 2 ?_ (x := (mJ (qs := [(true, [sl _ _, val _, val _, sl _ _, sl _ _, sl _ _, sl _ _, val _])]) (as_ := [(true, [sl .v _, val _, val _, sl .v _, sl .v _, sl .v _, sl .v _, val _])]) (by decide) zb (by exact (aI (by exact ⟨⟩) tI)) (by exact (aI (aI rfl (ab.cons PV.to_none (ab.cons (PV.To.refl _) (ab.cons (PV.To.refl _) (ab.cons PV.to_none (ab.cons PV.to_none (ab.cons PV.to_none (ab.cons PV.to_none (ab.cons (PV.To.refl _) ab.nil))))))))) tI)) (by exact (Ap (by omega)))))
 refine jy (G := 2000) (qs := [(true, [sl _ _, val _, val _, sl _ _, sl _ _, sl _ _, sl _ _, val _]), (false, [sl _ _])]) (as_ := [(true, [sl .v _, val _, val _, sl .v _, sl .v _, sl .v _, sl .v _, val _]), (false, [sl .v _])]) (by decide) P4 (by exact ⟨rfl, rfl, ⟨⟩⟩) (by exact (aI (by exact ⟨⟩) (aI (by exact ⟨⟩) tI))) (by exact (aI (aI rfl (ab.cons PV.to_none (ab.cons (PV.To.refl _) (ab.cons (PV.To.refl _) (ab.cons PV.to_none (ab.cons PV.to_none (ab.cons PV.to_none (ab.cons PV.to_none (ab.cons (PV.To.refl _) ab.nil))))))))) (aI (aI rfl (ab.cons PV.to_none ab.nil)) tI))) (by exact (SY (e := e) (o := eY e) (by omega) (by omega))) (by kernel_rfl) (by kernel_rfl) fun uss hU0 => ?_
 exact Ej
theorem SZ {p1 p2 p5 p6 p7 p8 p9 p11 p12 p13 p14 p16 p17 p18 : Fl} {e : am}  (hb : aO e ≤ 68719476736) : aw Tryz.prog 62 [(true, [sl .v (e.Store.Segments.map (ax p1 p2)), val (vI e.Store.Now), val (vI e.Cursor), sl .v (e.Order.map ai), sl .v (e.Active.map (aG p5 p6 p7 p8 p9)), sl .v (e.Done.map (aP p11 p12 p13 p14)), sl .v (e.Ledger.map (aR p16 p17 p18)), val (vI e.Steps)])] (av [(true, [sl (.own 139 1) ((dh e).Store.Segments.map (ax (.own 184 4) (.own 3 1))), val (vI (dh e).Store.Now), val (vI (dh e).Cursor), sl (.own 3 1) ((dh e).Order.map ai), sl (.own 108 10) ((dh e).Active.map (aG (.own 178 3) (.own 3 1) (.own 3 1) (.own 54 2) (.own 3 1))), sl (.own 63 7) ((dh e).Done.map (aP (.own 178 3) (.own 3 1) (.own 54 2) (.own 3 1))), sl (.own 70 5) ((dh e).Ledger.map (aR (.own 3 1) (.own 3 1) (.own 3 1))), val (vI (dh e).Steps)])]) := by
 refine sF Tryz.func62 fun h0 w0 Fz0 => ?_
 refine sn 0 0 fun hl0_0 => ?_
 refine sn 0 3 fun hl0_3 => ?_
 refine sn 0 4 fun hl0_4 => ?_
 refine sn 0 5 fun hl0_5 => ?_
 refine sn 0 6 fun hl0_6 => ?_
 have hcl := y3 e
 refine kk ?_
 refine aJ ?_
 refine sQ [1, 2] [1, 2] ?_
 refine FK ?_
 refine dX 2 ?_ (x := (mJ (qs := [(true, [sl _ _, val _, val _, sl _ _, sl _ _, sl _ _, sl _ _, val _])]) (as_ := [(true, [sl .v _, val _, val _, sl .v _, sl .v _, sl .v _, sl .v _, val _])]) (by decide) zc (by exact (aI (by exact ⟨⟩) tI)) (by exact (aI (aI rfl (ab.cons PV.to_none (ab.cons (PV.To.refl _) (ab.cons (PV.To.refl _) (ab.cons PV.to_none (ab.cons PV.to_none (ab.cons PV.to_none (ab.cons PV.to_none (ab.cons (PV.To.refl _) ab.nil))))))))) tI)) (by exact (Aq (by omega)))))
 refine jy (G := 2000) (qs := [(true, [sl _ _, val _, val _, sl _ _, sl _ _, sl _ _, sl _ _, val _]), (false, [sl _ _])]) (as_ := [(true, [sl .v _, val _, val _, sl .v _, sl .v _, sl .v _, sl .v _, val _]), (false, [sl .v _])]) (by decide) JC (by exact ⟨rfl, rfl, ⟨⟩⟩) (by exact (aI (by exact ⟨⟩) (aI (by exact ⟨⟩) tI))) (by exact (aI (aI rfl (ab.cons PV.to_none (ab.cons (PV.To.refl _) (ab.cons (PV.To.refl _) (ab.cons PV.to_none (ab.cons PV.to_none (ab.cons PV.to_none (ab.cons PV.to_none (ab.cons (PV.To.refl _) ab.nil))))))))) (aI (aI rfl (ab.cons PV.to_none ab.nil)) tI))) (by exact (Lv (e := e) (o := eY e) (by omega) (by omega))) (by kernel_rfl) (by kernel_rfl) fun uss hU0 => ?_
 exact Ej
end Go.Proofs.YtmekkgdboplbjaaGreat
