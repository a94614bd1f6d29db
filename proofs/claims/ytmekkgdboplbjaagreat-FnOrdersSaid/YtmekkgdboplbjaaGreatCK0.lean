/- What functions of the program compute. No condition. -/
import Derived.Test.YtmekkgdboplbjaaGreatCJ0
set_option linter.unusedVariables false
set_option linter.unusedSimpArgs false
namespace Go.Proofs.YtmekkgdboplbjaaGreat
open Go Go.RowKit M PV
set_option maxRecDepth 10000
attribute [local irreducible] PV.Lcl PV.LclR RV.Lcl
theorem Qt {q : Int → Bool}  : aw Tryz.prog 276 [(false, [PV.clo Tryz.prog Is (It q)])] (av [(false, [sl (.own 3 1) ((il q 24).map ai)])]) := by
 refine vZ (rs := [(false, [sl (.own 3 1) ((il q 24).map ai)])]) Tryz.func276 rfl (nl rfl) (cI (ae.cons (bor_clo _ _) ae.nil) cr) ?_
 intro h0 w0 Fz0
 refine jD ?_
 refine sS [0, 2] [] ?_
 refine oC ?_
 refine o7 ?_
 refine sL [0, 2] [] (fun k : Nat => k ≤ 24) (fun k : Nat => [(3, RV.slc (.own 3 1) ((il q k).map ai)), (4, RV.int (k : Int))]) (fun k : Nat => []) (fun k : Nat => 24 - k) 0 (by omega) (by exact aI (by exact rfl) (aI (by exact rfl) (tI))) (by exact ⟨⟩) ?_
 rintro k hk
 refine nh ?_
 refine sc (fun hba => ?_) (fun hba => ?_)
 have hlt : k < 24 := by omega
 have hpl := yF q k
 refine aT ?_
 refine sS [0, 2, 3, 4] [] ?_
 refine rA ?_ (x := eG (r' := RV.sv false [PV.clo _ _ _]) (.inl rfl) (by decide) (by exact Cp.sv (ab.cons (PV.To.refl _) ab.nil) (ae.cons (bor_clo _ _) ae.nil)))
 refine rM ?_
 refine rA ?_ (x := MT (k : Int) (qs := [(false, [val _])]) (r := RV.sv false [val _]) (by decide) (by exact (aI (by exact ⟨⟩) tI)) (by exact (aI (aI rfl (ab.cons (PV.To.refl _) ab.nil)) tI)) (by exact rfl))
 refine sc (fun hbb => ?_) (fun hbb => ?_)
 have hc := hbb
 refine sG [0, 2, 3, 4] [] ?_
 refine rA ?_ (x := tM)
 refine rM ?_
 refine i7 ?_
 exact Cw
 have hc := hbb
 refine aN ?_
 exact Cw
 have hend : k = 24 := by omega
 refine aX ?_
 refine sS [0, 2, 3, 4] [] ?_
 refine jG ?_
 exact (aI (by refine bg ?_; rw [hend]) tI)
theorem Qu {a b : List Int} {x : Int}  : aw Tryz.prog 277 [(false, [val (vI x)]), (false, [PV.ep [sl .v (a.map ai)]]), (false, [PV.ep [sl .v (b.map ai)]])] (av [(false, [val (.bool (bh a x && bh b x))])]) := by
 refine vZ (rs := [(false, [val (.bool (bh a x && bh b x))])]) Tryz.func277 rfl (nl rfl) (cI (ae.cons (bor_val _) ae.nil) (cI (ae.cons (bor_ep _) ae.nil) (cI (ae.cons (bor_ep _) ae.nil) cr))) ?_
 intro h0 w0 Fz0
 refine sR ?_
 refine rK ?_
 refine sS [0, 1, 2, 4] [] ?_
 refine rA ?_ (x := Bf (qs := [sl .v _]) (by decide) aZ (fun _ => rfl) (by exact nl rfl) (by exact (ab.cons PV.to_none ab.nil)) (by exact (ae.cons (bor_sl _) ae.nil)))
 refine rM ?_
 refine rA ?_ (x := cL [(false, [sl _ _]), (false, [val _])] [(false, [sl .v _]), (false, [val _])] IE (hs := by exact Ke))
 refine rM ?_
 refine cx 8 (fun ga sga => ?_) (fun ga sga => ?_)
 refine rB ga ?_ (x := Bf (qs := [sl .v _]) (by decide) aZ (fun _ => rfl) (by exact nl rfl) (by exact (ab.cons PV.to_none ab.nil)) (by exact (ae.cons (bor_sl _) ae.nil)))
 refine rB ga ?_ (x := sM)
 refine rB ga ?_ (x := cL [(false, [sl _ _]), (false, [val _])] [(false, [sl .v _]), (false, [val _])] IE (hs := by exact Ke))
 refine rA ?_ (x := aA ga)
 refine cK ?_
 exact rb (by simp [*])
 refine lg ?_
 refine cK ?_
 exact rb (by simp [*])
theorem Qv {a : List Int} {b : List Int}  : aw Tryz.prog 242 [(false, [sl .v (a.map ai)]), (false, [sl .v (b.map ai)])] (av [(false, [sl (.own 3 1) ((jM a b).map ai)])]) := by
 refine sF Tryz.func242 fun h0 w0 Fz0 => ?_
 refine sj 0 fun hl0 => ?_
 refine sj 1 fun hl1 => ?_
 refine sR ?_
 refine rX ?_ (x := (db (ag := false) (cs := [sl _ _]) (by decide) (by exact ⟨⟩)))
 refine rX ?_ (x := (db (ag := false) (cs := [sl _ _]) (by decide) (by exact ⟨⟩)))
 refine tP ?_
 refine sT [2, 3, 4] [2, 3] ?_
 refine HY ?_
 refine dI ?_
 refine cx 8 (fun ga sga => ?_) (fun ga sga => ?_)
 refine jI ?_
 exact Cy
 refine rB ga ?_ (x := lD [sl .v _] aZ)
 refine rB ga ?_ (x := cL [(false, [sl _ _])] [(false, [sl .v _])] IC (hs := by exact Km))
 refine oO ?_
 refine sc (fun hba => ?_) (fun hba => ?_)
 exact Cy
 refine dE ?_
 refine sP [2, 3, 4] [2, 3] ?_
 refine Bg (s := 2) (b := 2) (by exact rfl) (by exact rfl) ?_
 refine sP [2, 3, 4] [3] ?_
 refine Bg (s := 3) (b := 3) (by exact rfl) (by exact rfl) ?_
 refine sG [2, 3, 4] [] ?_
 refine rA ?_ (x := MU (asf := Is) (rf := (It (fun x : Int => bh a x && bh b x))) (qs := [(false, [PV.ep [sl _ _]]), (false, [PV.ep [sl _ _]])]) (caps := [(false, [PV.ep [sl _ _]]), (false, [PV.ep [sl _ _]])]) (by decide) N4 (by exact (aI (by exact ⟨⟩) (aI (by exact ⟨⟩) tI))) (by exact (aI (aI rfl (ab.cons (PV.To.refl _) ab.nil)) (aI (aI rfl (ab.cons (PV.To.refl _) ab.nil)) tI))) (fun x => by exact Qu))
 refine rA ?_ (x := cL [(false, [PV.clo _ _ _])] [(false, [PV.clo _ _ _])] N3 (hs := by exact Qt))
 refine rA ?_ (x := tA)
 exact Cx
theorem Qw {a : List Int} {b : List Int}  : aw Tryz.prog 250 [(false, [sl .v (a.map ai)]), (false, [sl .v (b.map ai)])] (av [(false, [sl (.own 3 1) ((jM a b).map ai)])]) := by
 refine sF Tryz.func250 fun h0 w0 Fz0 => ?_
 refine sj 0 fun hl0 => ?_
 refine sj 1 fun hl1 => ?_
 refine jD ?_
 refine sS [0, 1, 4] [] ?_
 refine kq ?_
 refine um ?_
 refine sP [0, 1, 4, 5, 6] [] ?_
 refine sL [0, 1, 4] [] (fun k : Nat => k ≤ a.length ∧ (0 < k → (cF a && cF b) = true)) (fun k : Nat => [(5, RV.slc (.own 3 1) (((a.take k).filter (fun x => bh b x)).map ai)), (6, RV.int (k : Int))]) (fun k : Nat => []) (fun k : Nat => a.length - k) 0 (by exact ⟨by omega, fun h => absurd h (Nat.lt_irrefl 0)⟩) (by exact aI (by first | exact rfl | simp) (aI (by exact rfl) (tI))) (by exact ⟨⟩) ?_
 rintro k ⟨hk, ha⟩
 refine iK ?_
 refine rM ?_
 refine cx 12 (fun ga sga => ?_) (fun ga sga => ?_)
 refine rB ga ?_ (x := vM false [sl .v _])
 refine rB ga ?_ (x := cL [(false, [sl _ _])] [(false, [sl .v _])] yK (hs := by exact zv))
 refine rj ?_
 refine cx 16 (fun gb sgb => ?_) (fun gb sgb => ?_)
 refine rB gb ?_ (x := vM false [sl .v _])
 refine rB gb ?_ (x := cL [(false, [sl _ _])] [(false, [sl .v _])] yK (hs := by exact zv))
 refine rA ?_ (x := aA gb)
 refine sc (fun hba => ?_) (fun hba => ?_)
 have hlt : k < a.length := by simp at *; omega
 have hok2 : (cF a && cF b) = true := by simp_all
 have h24 := NI ((Bool.and_eq_true_iff).1 hok2).1
 have hln : ((a.take k).filter (fun x => bh b x)).length ≤ k := Nat.le_trans (List.length_filter_le _ _) (by rw [List.length_take]; omega)
 refine ub ?_
 refine rA ?_ (x := vM false [sl .v _])
 refine oY ?_
 refine rA ?_ (x := cL [(false, [sl _ _]), (false, [val _])] [(false, [sl .v _]), (false, [val _])] uA (hs := by exact u5))
 refine sc (fun hbb => ?_) (fun hbb => ?_)
 have hc := hbb
 refine sG [0, 1, 4, 5, 6] [] ?_
 refine rA ?_ (x := tM)
 refine oY ?_
 refine i7 ?_
 exact Cz
 have hc := hbb
 refine aN ?_
 exact Cz
 exact wP
 refine nd ?_
 refine dk ?_
 exact wP
 refine ii ?_
 refine an.cases (s := 16) rfl (fun g6 => nomatch g6) (fun g6 => ?_)
 refine zf g6 ?_
 refine rA ?_ (x := ay g6)
 refine dk ?_
 exact wP
end Go.Proofs.YtmekkgdboplbjaaGreat
