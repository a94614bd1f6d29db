/- What functions of the program compute. No condition. -/
import Derived.Test.YtmekkgdboplbjaaGreatCH0
import Derived.Test.YtmekkgdboplbjaaGreatCL0
set_option linter.all false
namespace Go.Proofs.YtmekkgdboplbjaaGreat
open Go Go.RowKit M PV Tryz
set_option maxRecDepth 10000
attribute [local irreducible] PV.Lcl PV.LclR RV.Lcl
def adN {x : List gT} {y : List gT}  : aN prog 255 [(false, [sl .v (x.map bH)]), (false, [sl .v (y.map bH)])] (aJ [(false, [val (.bool (fA x y))])]) := by
 refine sF func255 fun h0 w0 Fz0 => ?_
 refine sj 0 fun hl0 => ?_
 refine sj 1 fun hl1 => ?_
 refine ow ?_
 refine DP ?_
 refine DP ?_
 refine rA ?_ (x := dr)
 refine sc ?_ ?_ <;> intro hba
 exact uS
 have hl : x.length = y.length := by omega
 refine wd ?_
 refine DP ?_
 refine eo ?_
 refine Ni ?_
 rintro k ⟨hk, ha⟩
 refine cn ?_
 refine sc ?_ ?_ <;> intro hbb
 have hlt : k < x.length := by omega
 have hlt2 : k < y.length := by omega
 refine bi ?_
 refine sS [0, 1, 12, 13] [] ?_
 refine rM ?_
 refine hZ ?_
 refine sP [0, 1, 5, 12, 13] [] ?_
 refine pu ?_
 refine dA 3 ?_ (x := aU (by decide) gH (by exact tI) (by exact rfl) (by exact aW (by omega) rfl) (by exact rfl))
 refine dA 7 ?_ (x := lE [val _, val _, val _] pN)
 refine eY ?_
 refine dA 48 ?_ (x := aU (by decide) gH (by exact tI) (by exact rfl) (by exact aW (by omega) rfl) (by exact rfl))
 refine dA 112 ?_ (x := lE [val _, val _, val _] pN)
 refine dA 255 ?_ (x := HH [vI _, vI _, vI _] [vI _, vI _, vI _] (by decide) (Qr _ _ _ _ _ _ _ _))
 refine sc ?_ ?_ <;> intro hbc
 refine sS [0, 1, 5, 12, 13] [] ?_
 exact BQ
 refine bb ?_
 refine sG [0, 1, 5, 12, 13] [] ?_
 refine cF ?_
 exact Lz
 exact IR
def adO {x : aeA} {y : aeA}  : aN prog 187 [(true, [val (vI x.Id), val (vI x.aeE), sl .v (x.aeB.map bH), sl .v (x.Out.map am)]), (true, [val (vI y.Id), val (vI y.aeE), sl .v (y.aeB.map bH), sl .v (y.Out.map am)])] (aJ [(false, [val (.bool (fA x y))])]) := by
 refine sF func187 fun h0 w0 Fz0 => ?_
 refine sn 0 2 fun hl0_2 => ?_
 refine sn 0 3 fun hl0_3 => ?_
 refine sn 1 2 fun hl1_2 => ?_
 refine sn 1 3 fun hl1_3 => ?_
 refine PE ?_
 refine qJ ?_
 refine vF ?_
 refine rA ?_ (x := lF ib)
 refine oA ?_
 refine cx 10 (fun ga sga => ?_) (fun ga sga => ?_)
 refine yL ?_
 refine rB ga ?_ (x := lF rm)
 refine oy ?_
 refine cx 17 (fun gb sgb => ?_) (fun gb sgb => ?_)
 refine CP ?_
 refine CP ?_
 refine rB gb ?_ (x := cL [(false, [sl _ _]), (false, [sl _ _])] [(false, [sl .v _]), (false, [sl .v _])] WF (hs := by exact adN))
 refine gt ?_
 refine cx 24 (fun gc sgc => ?_) (fun gc sgc => ?_)
 refine sV ?_
 refine sV ?_
 refine rB gc ?_ (x := cL [(false, [sl _ _]), (false, [sl _ _])] [(false, [sl .v _]), (false, [sl .v _])] Qn (hs := by exact RT))
 refine rA ?_ (x := aO gc)
 exact yb
 refine oj ?_
 exact yb
 refine fU ?_
 refine aq.cases (s := 24) rfl (fun g4 => nomatch g4) (fun g4 => ?_)
 refine td ?_
 exact yb
 refine gu ?_
 refine aq.cases (s := 17) rfl (fun g5 => nomatch g5) (fun g5 => ?_)
 refine qK ?_
 refine rM ?_
 refine aq.cases (s := 24) rfl (fun g6 => nomatch g6) (fun g6 => ?_)
 refine py ?_
 exact yb
def adP {x : aeC} {y : aeC}  : aN prog 188 [(true, [val (vI x.Kind), val (vI x.Row.Id), sl .v (x.Row.Values.map am), val (vI x.Field), val (vI x.Value)]), (true, [val (vI y.Kind), val (vI y.Row.Id), sl .v (y.Row.Values.map am), val (vI y.Field), val (vI y.Value)])] (aJ [(false, [val (.bool (fA x y))])]) := by
 refine sF func188 fun h0 w0 Fz0 => ?_
 refine sn 0 2 fun hl0_2 => ?_
 refine sn 1 2 fun hl1_2 => ?_
 refine yC ?_
 refine rX ?_ (x := (eD (ag := true) (cs := [val _, val _, sl _ _, val _, val _]) (by decide) (by exact tI)))
 refine qJ ?_
 refine DQ ?_
 refine px ?_
 refine rM ?_
 refine cx 10 (fun ga sga => ?_) (fun ga sga => ?_)
 refine rB ga ?_ (x := lF ic)
 refine rB ga ?_ (x := lD [val _, sl .v _] fj)
 refine rB ga ?_ (x := lF ic)
 refine rB ga ?_ (x := lD [val _, sl .v _] fj)
 refine rB ga ?_ (x := cL [(true, [val _, sl _ _]), (true, [val _, sl _ _])] [(true, [val _, sl .v _]), (true, [val _, sl .v _])] WG (hs := by exact ZP))
 refine jP ?_
 refine cx 17 (fun gb sgb => ?_) (fun gb sgb => ?_)
 refine DE ?_
 refine yT ?_
 refine gt ?_
 refine cx 24 (fun gc sgc => ?_) (fun gc sgc => ?_)
 refine rB gc ?_ (x := lF pK)
 refine rB gc ?_ (x := lD [val _] az)
 refine rB gc ?_ (x := lF pK)
 refine vp ?_
 refine rA ?_ (x := aO gc)
 exact yc
 refine oj ?_
 exact yc
 refine fU ?_
 refine aq.cases (s := 24) rfl (fun g4 => nomatch g4) (fun g4 => ?_)
 refine td ?_
 exact yc
 refine gu ?_
 refine aq.cases (s := 17) rfl (fun g5 => nomatch g5) (fun g5 => ?_)
 refine qK ?_
 refine rM ?_
 refine aq.cases (s := 24) rfl (fun g6 => nomatch g6) (fun g6 => ?_)
 refine py ?_
 exact yc
def Uc {x : aeA} {y : aeA}  : aN prog 58 [(true, [val (vI x.Id), val (vI x.aeE), sl .v (x.aeB.map bH), sl .v (x.Out.map am)]), (true, [val (vI y.Id), val (vI y.aeE), sl .v (y.aeB.map bH), sl .v (y.Out.map am)])] (aJ [(false, [val (.bool (fA x y))])]) := by
 refine sF func58 fun h0 w0 Fz0 => ?_
 refine sn 0 2 fun hl0_2 => ?_
 refine sn 0 3 fun hl0_3 => ?_
 refine sn 1 2 fun hl1_2 => ?_
 refine sn 1 3 fun hl1_3 => ?_
 refine PE ?_
 refine qG ?_
 refine vF ?_
 refine vF ?_
 refine rA ?_ (x := dr)
 refine rM ?_
 refine cx 11 (fun ga sga => ?_) (fun ga sga => ?_)
 refine jq ?_
 refine aq.cases (s := 18) rfl (fun g2 => ?_) (fun g2 => nomatch g2)
 refine nq ?_
 refine aq.cases (s := 27) rfl (fun g3 => ?_) (fun g3 => nomatch g3)
 refine nn ?_
 refine cv ?_
 exact yd
 refine yL ?_
 refine yL ?_
 refine rB ga ?_ (x := dr)
 refine mB ?_
 refine cx 18 (fun gb sgb => ?_) (fun gb sgb => ?_)
 refine mC ?_
 refine aq.cases (s := 27) rfl (fun g6 => ?_) (fun g6 => nomatch g6)
 refine qN ?_
 refine cv ?_
 exact yd
 refine vL ?_
 refine vL ?_
 refine rB gb ?_ (x := dr)
 refine pn ?_
 refine cx 27 (fun gc sgc => ?_) (fun gc sgc => ?_)
 refine qL ?_
 refine cv ?_
 exact yd
 refine sV ?_
 refine sV ?_
 refine rB gc ?_ (x := cL [(false, [sl _ _]), (false, [sl _ _])] [(false, [sl .v _]), (false, [sl .v _])] rh (hs := by exact rG))
 refine rB gc ?_ (x := nT)
 refine rA ?_ (x := aF gc)
 refine sc ?_ ?_ <;> intro hba
 exact yd
 have hl : x.aeB.length = y.aeB.length := by first | omega | (simp_all; done) | (simp_all; omega)
 refine zh ?_
 refine yV ?_
 refine sL [2, 3] [2, 3] (fun k : Nat => k ≤ x.aeB.length ∧ x.aeB.take k = y.aeB.take k) (fun k : Nat => [(5, RV.int (k : Int))]) (fun k : Nat => []) (fun k : Nat => x.aeB.length - k) 0 (by exact ⟨by omega, by simp⟩) (by exact aI (by exact rfl) tI) (by exact tI) ?_
 rintro k ⟨hk, ha⟩
 refine de ?_
 refine zq ?_
 refine sc ?_ ?_ <;> intro hbb
 have hlt : k < x.aeB.length := by omega
 have hlt2 : k < y.aeB.length := by omega
 refine dh ?_
 refine sQ [2, 3, 5] [2, 3] ?_
 refine da cG ?_
 refine DC ?_
 refine De ?_
 refine dA 15 ?_ (x := lE [val _, val _, val _] pN)
 refine dA 0 ?_ (x := lF lW)
 refine dA 32 ?_ (x := lD [sl .v _] lZ)
 refine dA 0 ?_ (x := sM)
 refine dA 224 ?_ (x := aU (by decide) gH (by exact tI) (by exact rfl) (by exact aW (by omega) rfl) (by exact rfl))
 refine dA 480 ?_ (x := lE [val _, val _, val _] pN)
 refine dA 1023 ?_ (x := HH [vI _, vI _, vI _] [vI _, vI _, vI _] (by decide) (Qr _ _ _ _ _ _ _ _))
 refine sc ?_ ?_ <;> intro hbc
 have hbad : ¬ x = y := by intro e; subst e; simp_all
 refine sS [2, 3, 5] [2, 3] ?_
 refine cm ?_
 exact rb ((tN hbad).symm)
 refine bb ?_
 refine sG [2, 3, 5] [2, 3] ?_
 refine cb ?_
 exact Lz
 have hend : x.aeB = y.aeB := tL hl (by rw [show x.aeB.length = k by omega]; exact ha)
 refine yW ?_
 refine cm ?_
 exact rb (by refine (rc ?_).symm; rw [Qj]; simp_all [fh, Ep])
end Go.Proofs.YtmekkgdboplbjaaGreat
