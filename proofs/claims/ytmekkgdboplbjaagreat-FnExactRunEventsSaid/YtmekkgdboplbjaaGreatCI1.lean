/- What functions of the program compute. No condition. -/
import Derived.Test.YtmekkgdboplbjaaGreatCQ0
import Derived.Test.YtmekkgdboplbjaaGreatCM0
set_option linter.all false
namespace Go.Proofs.YtmekkgdboplbjaaGreat
open Go Go.RowKit M PV Tryz
set_option maxRecDepth 10000
attribute [local irreducible] PV.Lcl PV.LclR RV.Lcl
def abT {x : List dg} {y : List dg}  : aB prog 255 [(false, [sl .v (x.map bj)]), (false, [sl .v (y.map bj)])] (aA [(false, [val (.bool (du x y))])]) := by
 refine sF func255 fun h0 w0 Fz0 => ?_
 refine sj 0 fun hl0 => ?_
 refine sj 1 fun hl1 => ?_
 refine oC ?_
 refine rA ?_ (x := lN eC)
 refine rA ?_ (x := vM false [sl .v _])
 refine rA ?_ (x := lN eC)
 refine rA ?_ (x := eX)
 refine sc (fun hba => ?_) (fun hba => ?_)
 exact Aa
 have hl : x.length = y.length := by omega
 refine dt ?_
 refine sS [0, 1, 4] [] ?_
 refine rA ?_ (x := vM false [sl .v _])
 refine rA ?_ (x := lN eC)
 refine dZ ?_
 refine JL ?_
 rintro k ⟨hk, ha⟩
 refine cF ?_
 refine sc (fun hbb => ?_) (fun hbb => ?_)
 have hlt : k < x.length := by omega
 have hlt2 : k < y.length := by omega
 refine bB ?_
 refine sS [0, 1, 12, 13] [] ?_
 refine rM ?_
 refine eZ ?_
 refine sP [0, 1, 5, 12, 13] [] ?_
 refine pA ?_
 refine KO ?_
 refine eY ?_
 refine KM ?_
 refine dA 255 ?_ (x := RG [vI _, vI _, vI _] [vI _, vI _, vI _] (by decide) (Vu _ _ _ _ _ _ _ _))
 refine sc (fun hbc => ?_) (fun hbc => ?_)
 refine sS [0, 1, 5, 12, 13] [] ?_
 exact Ab
 refine bm ?_
 refine sG [0, 1, 5, 12, 13] [] ?_
 refine df ?_
 refine nx (k + 1) (by exact ⟨by omega, Cm ha hlt hlt2 (by simp_all [Tj])⟩)
 exact GT
def abU {x : acv} {y : acv}  : aB prog 187 [(true, [val (vI x.Id), val (vI x.acz), sl .v (x.acw.map bj), sl .v (x.Out.map ak)]), (true, [val (vI y.Id), val (vI y.acz), sl .v (y.acw.map bj), sl .v (y.Out.map ak)])] (aA [(false, [val (.bool (du x y))])]) := by
 refine sF func187 fun h0 w0 Fz0 => ?_
 refine sn 0 2 fun hl0_2 => ?_
 refine sn 0 3 fun hl0_3 => ?_
 refine sn 1 2 fun hl1_2 => ?_
 refine sn 1 3 fun hl1_3 => ?_
 refine Mh ?_
 refine sx ?_
 refine uv ?_
 refine rA ?_ (x := lF fx)
 refine qX ?_
 refine cx 10 (fun ga sga => ?_) (fun ga sga => ?_)
 refine rB ga ?_ (x := lF iY)
 refine rB ga ?_ (x := lD [val _] au)
 refine rB ga ?_ (x := lF iY)
 refine pv ?_
 refine gR ?_
 refine cx 17 (fun gb sgb => ?_) (fun gb sgb => ?_)
 refine uq ?_
 refine uq ?_
 refine rB gb ?_ (x := cL [(false, [sl _ _]), (false, [sl _ _])] [(false, [sl .v _]), (false, [sl .v _])] Uw (hs := by exact abT))
 refine gQ ?_
 refine cx 24 (fun gc sgc => ?_) (fun gc sgc => ?_)
 refine xi ?_
 refine xi ?_
 refine rB gc ?_ (x := cL [(false, [sl _ _]), (false, [sl _ _])] [(false, [sl .v _]), (false, [sl .v _])] Nf (hs := by exact Pj))
 refine rA ?_ (x := aT gc)
 exact wi
 refine pw ?_
 exact wi
 refine gF ?_
 refine ar.cases (s := 24) rfl (fun g4 => nomatch g4) (fun g4 => ?_)
 refine st ?_
 exact wi
 refine hM ?_
 refine ar.cases (s := 17) rfl (fun g5 => nomatch g5) (fun g5 => ?_)
 refine sw ?_
 refine rM ?_
 refine ar.cases (s := 24) rfl (fun g6 => nomatch g6) (fun g6 => ?_)
 refine qM ?_
 exact wi
def abV {x : acx} {y : acx}  : aB prog 188 [(true, [val (vI x.Kind), val (vI x.Row.Id), sl .v (x.Row.Values.map ak), val (vI x.Field), val (vI x.Value)]), (true, [val (vI y.Kind), val (vI y.Row.Id), sl .v (y.Row.Values.map ak), val (vI y.Field), val (vI y.Value)])] (aA [(false, [val (.bool (du x y))])]) := by
 refine sF func188 fun h0 w0 Fz0 => ?_
 refine sn 0 2 fun hl0_2 => ?_
 refine sn 1 2 fun hl1_2 => ?_
 refine Md ?_
 refine sx ?_
 refine rA ?_ (x := lF lj)
 refine rA ?_ (x := lD [val _] au)
 refine pC ?_
 refine rM ?_
 refine cx 10 (fun ga sga => ?_) (fun ga sga => ?_)
 refine rB ga ?_ (x := lF hZ)
 refine rB ga ?_ (x := lD [val _, sl .v _] fI)
 refine rB ga ?_ (x := lF hZ)
 refine rB ga ?_ (x := lD [val _, sl .v _] fI)
 refine rB ga ?_ (x := cL [(true, [val _, sl _ _]), (true, [val _, sl _ _])] [(true, [val _, sl .v _]), (true, [val _, sl .v _])] Ux (hs := by exact ZC))
 refine gR ?_
 refine cx 17 (fun gb sgb => ?_) (fun gb sgb => ?_)
 refine BH ?_
 refine xv ?_
 refine gQ ?_
 refine cx 24 (fun gc sgc => ?_) (fun gc sgc => ?_)
 refine rB gc ?_ (x := lF nc)
 refine rB gc ?_ (x := lD [val _] au)
 refine rB gc ?_ (x := lF nc)
 refine wV ?_
 refine rA ?_ (x := aT gc)
 exact wj
 refine pw ?_
 exact wj
 refine gF ?_
 refine ar.cases (s := 24) rfl (fun g4 => nomatch g4) (fun g4 => ?_)
 refine st ?_
 exact wj
 refine hM ?_
 refine ar.cases (s := 17) rfl (fun g5 => nomatch g5) (fun g5 => ?_)
 refine sw ?_
 refine rM ?_
 refine ar.cases (s := 24) rfl (fun g6 => nomatch g6) (fun g6 => ?_)
 refine qM ?_
 exact wj
end Go.Proofs.YtmekkgdboplbjaaGreat
