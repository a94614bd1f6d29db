/- What functions of the program compute. No condition. -/
import Derived.Test.YtmekkgdboplbjaaGreatCG0
set_option linter.unusedVariables false
set_option linter.unusedSimpArgs false
namespace Go.Proofs.YtmekkgdboplbjaaGreat
open Go Go.RowKit M PV
set_option maxRecDepth 10000
attribute [local irreducible] PV.Lcl PV.LclR RV.Lcl
theorem nV {x : List Int} {y : List Int}  : aw Tryz.prog 56 [(false, [sl .v (x.map ai)]), (false, [sl .v (y.map ai)])] (av [(false, [val (.bool (dl x y))])]) := by
 refine sF Tryz.func56 fun h0 w0 Fz0 => ?_
 refine sj 0 fun hl0 => ?_
 refine sj 1 fun hl1 => ?_
 refine kp ?_
 refine fZ ?_
 refine uv ?_
 refine sc (fun hba => ?_) (fun hba => ?_)
 exact ox
 have hl : x.length = y.length := by omega
 refine ni ?_
 refine bw ?_
 refine qw ?_
 rintro k ⟨hk, ha⟩
 refine iK ?_
 refine sc (fun hbb => ?_) (fun hbb => ?_)
 have hlt : k < x.length := by omega
 have hlt2 : k < y.length := by omega
 refine nj ?_
 refine o9 ?_
 refine dG ?_
 refine tF ?_
 refine dA 255 ?_ (x := co)
 refine sc (fun hbc => ?_) (fun hbc => ?_)
 exact qk
 refine ns ?_
 exact CA
 exact ql
theorem Kn {x : List Int} {y : List Int}  : aw Tryz.prog 256 [(false, [sl .v (x.map ai)]), (false, [sl .v (y.map ai)])] (av [(false, [val (.bool (dl x y))])]) := by
 refine sF Tryz.func256 fun h0 w0 Fz0 => ?_
 refine sj 0 fun hl0 => ?_
 refine sj 1 fun hl1 => ?_
 refine kp ?_
 refine fZ ?_
 refine uv ?_
 refine sc (fun hba => ?_) (fun hba => ?_)
 exact ox
 have hl : x.length = y.length := by omega
 refine ni ?_
 refine oZ ?_
 refine sP [0, 1, 4, 12, 13] [] ?_
 refine sL [0, 1, 12] [] (fun k : Nat => k ≤ x.length ∧ x.take k = y.take k) (fun k : Nat => [(13, RV.int (k : Int))]) (fun k : Nat => []) (fun k : Nat => x.length - k) 0 (by exact ⟨by omega, by simp⟩) (by exact aI (by exact rfl) (tI)) (by exact ⟨⟩) ?_
 rintro k ⟨hk, ha⟩
 refine bG ?_
 refine sc (fun hbb => ?_) (fun hbb => ?_)
 have hlt : k < x.length := by omega
 have hlt2 : k < y.length := by omega
 refine aT ?_
 refine sS [0, 1, 12, 13] [] ?_
 refine rM ?_
 refine ig ?_
 refine sP [0, 1, 5, 12, 13] [] ?_
 refine o9 ?_
 refine dG ?_
 refine tF ?_
 refine dA 255 ?_ (x := co)
 refine sc (fun hbc => ?_) (fun hbc => ?_)
 refine sS [0, 1, 5, 12, 13] [] ?_
 exact ta
 refine aN ?_
 refine sG [0, 1, 5, 12, 13] [] ?_
 refine b5 ?_
 exact CA
 refine aX ?_
 refine sS [0, 1, 12, 13] [] ?_
 exact wQ
theorem Qx {x : Row} {y : Row}  : aw Tryz.prog 95 [(true, [val (vI x.Id), sl .v (x.Values.map ai)]), (true, [val (vI y.Id), sl .v (y.Values.map ai)])] (av [(false, [val (.bool (dl x y))])]) := by
 refine sF Tryz.func95 fun h0 w0 Fz0 => ?_
 refine sn 0 1 fun hl0_1 => ?_
 refine sn 1 1 fun hl1_1 => ?_
 refine qH ?_
 refine rX ?_ (x := (db (ag := true) (cs := [val _, sl _ _]) (by decide) (by exact ⟨⟩)))
 refine un ?_
 refine rA ?_ (x := lF je)
 refine rA ?_ (x := lD [val _] aq)
 refine rA ?_ (x := lF je)
 refine nu ?_
 refine cx 10 (fun ga sga => ?_) (fun ga sga => ?_)
 refine qM ?_
 refine qM ?_
 refine rB ga ?_ (x := cL [(false, [sl _ _]), (false, [sl _ _])] [(false, [sl .v _]), (false, [sl .v _])] nD (hs := by exact nV))
 refine rA ?_ (x := aA ga)
 exact CB
 refine lg ?_
 exact CB
theorem Ko {p1 p3 : Fl} {x : List Row} {y : List Row}  : aw Tryz.prog 27 [(false, [sl .v (x.map (bn p1))]), (false, [sl .v (y.map (bn p3))])] (av [(false, [val (.bool (dl x y))])]) := by
 refine sF Tryz.func27 fun h0 w0 Fz0 => ?_
 refine sj 0 fun hl0 => ?_
 refine sj 1 fun hl1 => ?_
 refine kp ?_
 refine ki ?_
 refine ki ?_
 refine rA ?_ (x := co)
 refine sc (fun hba => ?_) (fun hba => ?_)
 exact ox
 have hl : x.length = y.length := by omega
 refine ni ?_
 refine bw ?_
 refine qw ?_
 rintro k ⟨hk, ha⟩
 refine bu ?_
 refine rh ?_
 refine sc (fun hbb => ?_) (fun hbb => ?_)
 have hlt : k < x.length := by omega
 have hlt2 : k < y.length := by omega
 refine nj ?_
 refine md ?_
 refine Hi ?_
 refine dG ?_
 refine dA 48 ?_ (x := aD (by decide) fu (by exact ⟨⟩) (by exact rfl) (by exact aE (by omega) rfl) (by exact rfl))
 refine dA 112 ?_ (x := lE [val _, sl .v _] ew)
 refine dA 255 ?_ (x := cL [(true, [val _, sl _ _]), (true, [val _, sl _ _])] [(true, [val _, sl .v _]), (true, [val _, sl .v _])] N5 (hs := by exact Qx))
 refine dA 511 ?_ (x := nT)
 refine sc (fun hbc => ?_) (fun hbc => ?_)
 exact qk
 refine ns ?_
 refine nx (k + 1) (by exact ⟨by omega, lp ha hlt hlt2 (by first | (simp_all [eI]; done) | (apply eI.1; simp_all))⟩)
 exact ql
end Go.Proofs.YtmekkgdboplbjaaGreat
