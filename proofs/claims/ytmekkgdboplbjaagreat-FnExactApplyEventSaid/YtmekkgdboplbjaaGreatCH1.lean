/- What functions of the program compute. No condition. -/
import Derived.Test.YtmekkgdboplbjaaGreatCQ0
import Derived.Test.YtmekkgdboplbjaaGreatCM0
set_option linter.all false
namespace Go.Proofs.YtmekkgdboplbjaaGreat
open Go Go.RowKit M PV Tryz
set_option maxRecDepth 10000
attribute [local irreducible] PV.Lcl PV.LclR RV.Lcl
def VW {x : List cS} {y : List cS}  : aC prog 255 [(false, [sl .v (x.map bf)]), (false, [sl .v (y.map bf)])] (az [(false, [val (.bool (dh x y))])]) := by
 refine sF func255 fun h0 w0 Fz0 => ?_
 refine sj 0 fun hl0 => ?_
 refine sj 1 fun hl1 => ?_
 refine pv ?_
 refine rA ?_ (x := lN dZ)
 refine rA ?_ (x := vM false [sl .v _])
 refine rA ?_ (x := lN dZ)
 refine rA ?_ (x := eM)
 refine sc (fun hba => ?_) (fun hba => ?_)
 exact x9
 have hl : x.length = y.length := by omega
 refine cO ?_
 refine sS [0, 1, 4] [] ?_
 refine rA ?_ (x := vM false [sl .v _])
 refine rA ?_ (x := lN dZ)
 refine dI ?_
 refine GN ?_
 rintro k ⟨hk, ha⟩
 refine ct ?_
 refine sc (fun hbb => ?_) (fun hbb => ?_)
 have hlt : k < x.length := by omega
 have hlt2 : k < y.length := by omega
 refine bB ?_
 refine sS [0, 1, 12, 13] [] ?_
 refine rM ?_
 refine fA ?_
 refine sP [0, 1, 5, 12, 13] [] ?_
 refine nN ?_
 refine HJ ?_
 refine eE ?_
 refine HH ?_
 refine dA 255 ?_ (x := Nd [vI _, vI _, vI _] [vI _, vI _, vI _] (by decide) (Qw _ _ _ _ _ _ _ _))
 refine sc (fun hbc => ?_) (fun hbc => ?_)
 refine sS [0, 1, 5, 12, 13] [] ?_
 exact ya
 refine bl ?_
 refine sG [0, 1, 5, 12, 13] [] ?_
 refine c0 ?_
 refine nx (k + 1) (by exact ⟨by omega, Al ha hlt hlt2 (by simp_all [OA])⟩)
 exact D9
def VX {x : Wt} {y : Wt}  : aC prog 187 [(true, [val (vI x.Id), val (vI x.Wx), sl .v (x.Wu.map bf), sl .v (x.Out.map ak)]), (true, [val (vI y.Id), val (vI y.Wx), sl .v (y.Wu.map bf), sl .v (y.Out.map ak)])] (az [(false, [val (.bool (dh x y))])]) := by
 refine sF func187 fun h0 w0 Fz0 => ?_
 refine sn 0 2 fun hl0_2 => ?_
 refine sn 0 3 fun hl0_3 => ?_
 refine sn 1 2 fun hl1_2 => ?_
 refine sn 1 3 fun hl1_3 => ?_
 refine IL ?_
 refine qT ?_
 refine sX ?_
 refine rA ?_ (x := lF e8)
 refine pB ?_
 refine cx 10 (fun ga sga => ?_) (fun ga sga => ?_)
 refine rB ga ?_ (x := lF i5)
 refine rB ga ?_ (x := lD [val _] au)
 refine rB ga ?_ (x := lF i5)
 refine nK ?_
 refine gk ?_
 refine cx 17 (fun gb sgb => ?_) (fun gb sgb => ?_)
 refine sN ?_
 refine sN ?_
 refine rB gb ?_ (x := cL [(false, [sl _ _]), (false, [sl _ _])] [(false, [sl .v _]), (false, [sl .v _])] PG (hs := by exact VW))
 refine gj ?_
 refine cx 24 (fun gc sgc => ?_) (fun gc sgc => ?_)
 refine vi ?_
 refine vi ?_
 refine rB gc ?_ (x := cL [(false, [sl _ _]), (false, [sl _ _])] [(false, [sl .v _]), (false, [sl .v _])] JA (hs := by exact Lh))
 refine rA ?_ (x := aR gc)
 exact uu
 refine nL ?_
 exact uu
 refine fQ ?_
 refine aq.cases (s := 24) rfl (fun g4 => nomatch g4) (fun g4 => ?_)
 refine qR ?_
 exact uu
 refine gA ?_
 refine aq.cases (s := 17) rfl (fun g5 => nomatch g5) (fun g5 => ?_)
 refine qS ?_
 refine rM ?_
 refine aq.cases (s := 24) rfl (fun g6 => nomatch g6) (fun g6 => ?_)
 refine pk ?_
 exact uu
def VY {x : Wv} {y : Wv}  : aC prog 188 [(true, [val (vI x.Kind), val (vI x.Row.Id), sl .v (x.Row.Values.map ak), val (vI x.Field), val (vI x.Value)]), (true, [val (vI y.Kind), val (vI y.Row.Id), sl .v (y.Row.Values.map ak), val (vI y.Field), val (vI y.Value)])] (az [(false, [val (.bool (dh x y))])]) := by
 refine sF func188 fun h0 w0 Fz0 => ?_
 refine sn 0 2 fun hl0_2 => ?_
 refine sn 1 2 fun hl1_2 => ?_
 refine II ?_
 refine qT ?_
 refine rA ?_ (x := lF kT)
 refine rA ?_ (x := lD [val _] au)
 refine nQ ?_
 refine rM ?_
 refine cx 10 (fun ga sga => ?_) (fun ga sga => ?_)
 refine rB ga ?_ (x := lF gF)
 refine rB ga ?_ (x := lD [val _, sl .v _] eS)
 refine rB ga ?_ (x := lF gF)
 refine rB ga ?_ (x := lD [val _, sl .v _] eS)
 refine rB ga ?_ (x := cL [(true, [val _, sl _ _]), (true, [val _, sl _ _])] [(true, [val _, sl .v _]), (true, [val _, sl .v _])] PH (hs := by exact TY))
 refine gk ?_
 refine cx 17 (fun gb sgb => ?_) (fun gb sgb => ?_)
 refine zJ ?_
 refine vz ?_
 refine gj ?_
 refine cx 24 (fun gc sgc => ?_) (fun gc sgc => ?_)
 refine rB gc ?_ (x := lF mP)
 refine rB gc ?_ (x := lD [val _] au)
 refine rB gc ?_ (x := lF mP)
 refine u6 ?_
 refine rA ?_ (x := aR gc)
 exact uv
 refine nL ?_
 exact uv
 refine fQ ?_
 refine aq.cases (s := 24) rfl (fun g4 => nomatch g4) (fun g4 => ?_)
 refine qR ?_
 exact uv
 refine gA ?_
 refine aq.cases (s := 17) rfl (fun g5 => nomatch g5) (fun g5 => ?_)
 refine qS ?_
 refine rM ?_
 refine aq.cases (s := 24) rfl (fun g6 => nomatch g6) (fun g6 => ?_)
 refine pk ?_
 exact uv
end Go.Proofs.YtmekkgdboplbjaaGreat
