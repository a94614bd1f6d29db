/- What functions of the program compute. No condition. -/
import Derived.Test.YtmekkgdboplbjaaGreatDoorCC0
import Derived.Test.YtmekkgdboplbjaaGreatDoorCF0
set_option linter.all false
namespace Go.Proofs.YtmekkgdboplbjaaGreatDoor
open Go Go.RowKit M PV Tryz
set_option maxRecDepth 10000
attribute [local irreducible] PV.Lcl PV.LclR RV.Lcl
def DM {x : List Int} {y : List Int}  : aD prog 143 [(false, [sl .v (x.map ap)]), (false, [sl .v (y.map ap)])] (ar [(false, [val (.bool (dh x y))])]) := by
 refine sF func143 fun h0 w0 Fz0 => ?_
 refine sj 0 fun hl0 => ?_
 refine sj 1 fun hl1 => ?_
 refine jt ?_
 refine ij ?_
 refine ij ?_
 refine rA ?_ (x := eQ)
 refine sc ?_ ?_ <;> intro hba
 exact tr
 have hl : x.length = y.length := by omega
 refine nK ?_
 refine cH ?_
 refine vu ?_
 rintro k ⟨hk, ha⟩
 refine ee ?_
 refine nL ?_
 refine sc ?_ ?_ <;> intro hbb
 have hlt : k < x.length := by omega
 have hlt2 : k < y.length := by omega
 refine ir ?_
 refine sP [0, 1, 5] [] ?_
 refine ce ck ?_
 refine fT ?_
 refine wa ?_
 refine fT ?_
 refine vY ?_
 refine dA 255 ?_ (x := eQ)
 refine sc ?_ ?_ <;> intro hbc
 have hne : x[k] ≠ y[k] := by simpa using hbc
 exact tt
 have heq : x[k] = y[k] := by simpa using hbc
 exact tu
 refine cU ?_
 refine sS [0, 1, 5] [] ?_
 exact pd
def DN {x : bh} {y : bh}  : aD prog 221 [(true, [val (vI x.Field), val (vI x.Low), val (vI x.High)]), (true, [val (vI y.Field), val (vI y.Low), val (vI y.High)])] (ar [(false, [val (.bool (dh x y))])]) := by
 refine sF func221 fun h0 w0 Fz0 => ?_
 refine qn ?_
 refine rX ?_ (x := (eh (ag := true) (cs := [val _, val _, val _]) (by decide) (by exact tI)))
 refine lr ?_
 refine rA ?_ (x := lF eZ)
 refine rA ?_ (x := lD [val _] aA)
 refine rA ?_ (x := lF eZ)
 refine eE ?_
 refine sc ?_ ?_ <;> intro hba
 exact df
 refine en ?_
 refine rA ?_ (x := lF gU)
 refine rA ?_ (x := lD [val _] aA)
 refine rA ?_ (x := lF gU)
 refine eE ?_
 refine sc ?_ ?_ <;> intro hbb
 exact df
 refine en ?_
 refine rA ?_ (x := lF go)
 refine rA ?_ (x := lD [val _] aA)
 refine rA ?_ (x := lF go)
 refine eE ?_
 refine sc ?_ ?_ <;> intro hbc
 exact df
 refine aK ?_
 refine kj ?_
 exact rb (by exact (iv (by apply AH <;> simp_all [dP])).symm)
def DO {x : List bh} {y : List bh}  : aD prog 142 [(false, [sl .v (x.map aV)]), (false, [sl .v (y.map aV)])] (ar [(false, [val (.bool (dh x y))])]) := by
 refine sF func142 fun h0 w0 Fz0 => ?_
 refine sj 0 fun hl0 => ?_
 refine sj 1 fun hl1 => ?_
 refine jt ?_
 refine jl ?_
 refine jl ?_
 refine rA ?_ (x := eQ)
 refine sc ?_ ?_ <;> intro hba
 exact tr
 have hl : x.length = y.length := by omega
 refine nK ?_
 refine cH ?_
 refine vu ?_
 rintro k ⟨hk, ha⟩
 refine ee ?_
 refine jl ?_
 refine rA ?_ (x := cF)
 refine sc ?_ ?_ <;> intro hbb
 have hlt : k < x.length := by omega
 have hlt2 : k < y.length := by omega
 refine ir ?_
 refine sP [0, 1, 5] [] ?_
 refine ce ck ?_
 refine fT ?_
 refine vO ?_
 refine fT ?_
 refine vN ?_
 refine dA 255 ?_ (x := cL [(true, [val _, val _, val _]), (true, [val _, val _, val _])] [(true, [val _, val _, val _]), (true, [val _, val _, val _])] Bu (hs := by exact DN))
 refine dA 511 ?_ (x := nT)
 refine sc ?_ ?_ <;> intro hbc
 have hne : x[k] ≠ y[k] := by intro hxy; rw [hxy, fx] at hbc; simp at hbc
 exact tt
 have heq : x[k] = y[k] := by exact dP.1 (by simpa using hbc)
 exact tu
 refine cU ?_
 refine sS [0, 1, 5] [] ?_
 exact pd
def DP {x : Row} {y : Row}  : aD prog 144 [(true, [val (vI x.Id), sl .v (x.Values.map ap)]), (true, [val (vI y.Id), sl .v (y.Values.map ap)])] (ar [(false, [val (.bool (dh x y))])]) := by
 refine sF func144 fun h0 w0 Fz0 => ?_
 refine sn 0 1 fun hl0_1 => ?_
 refine sn 1 1 fun hl1_1 => ?_
 refine ww ?_
 refine lr ?_
 refine qE ?_
 refine rA ?_ (x := lF gk)
 refine eE ?_
 refine sc ?_ ?_ <;> intro hba
 exact df
 refine en ?_
 refine ke ?_
 refine ke ?_
 refine wh ?_
 refine sc ?_ ?_ <;> intro hbb
 exact df
 refine aK ?_
 refine kj ?_
 exact rb (by exact (iv (by apply AJ <;> simp_all [dP])).symm)
def DQ {x : FY} {y : FY}  : aD prog 58 [(true, [val (vI x.Id), val (vI x.Gc), sl .v (x.FZ.map aV), sl .v (x.Out.map ap)]), (true, [val (vI y.Id), val (vI y.Gc), sl .v (y.FZ.map aV), sl .v (y.Out.map ap)])] (ar [(false, [val (.bool (dh x y))])]) := by
 refine sF func58 fun h0 w0 Fz0 => ?_
 refine sn 0 2 fun hl0_2 => ?_
 refine sn 0 3 fun hl0_3 => ?_
 refine sn 1 2 fun hl1_2 => ?_
 refine sn 1 3 fun hl1_3 => ?_
 refine wq ?_
 refine lr ?_
 refine nj ?_
 refine rA ?_ (x := lF ky)
 refine eE ?_
 refine sc ?_ ?_ <;> intro hba
 exact df
 refine en ?_
 refine rA ?_ (x := lF gQ)
 refine rA ?_ (x := lD [val _] aA)
 refine rA ?_ (x := lF gQ)
 refine eE ?_
 refine sc ?_ ?_ <;> intro hbb
 exact df
 refine en ?_
 refine nd ?_
 refine nd ?_
 refine rA ?_ (x := cL [(false, [sl _ _]), (false, [sl _ _])] [(false, [sl .v _]), (false, [sl .v _])] Bh (hs := by exact DO))
 refine rA ?_ (x := nT)
 refine sc ?_ ?_ <;> intro hbc
 exact df
 refine en ?_
 refine jj ?_
 refine jj ?_
 refine wh ?_
 refine sc ?_ ?_ <;> intro hbd
 exact df
 refine aK ?_
 refine kj ?_
 exact rb (by exact (iv (by apply AL <;> simp_all [dP])).symm)
def DR {x : Ga} {y : Ga}  : aD prog 59 [(true, [val (vI x.Kind), val (vI x.Row.Id), sl .v (x.Row.Values.map ap), val (vI x.Field), val (vI x.Value)]), (true, [val (vI y.Kind), val (vI y.Row.Id), sl .v (y.Row.Values.map ap), val (vI y.Field), val (vI y.Value)])] (ar [(false, [val (.bool (dh x y))])]) := by
 refine sF func59 fun h0 w0 Fz0 => ?_
 refine sn 0 2 fun hl0_2 => ?_
 refine sn 1 2 fun hl1_2 => ?_
 refine wo ?_
 refine lr ?_
 refine lg ?_
 refine rA ?_ (x := lF qR)
 refine eE ?_
 refine sc ?_ ?_ <;> intro hba
 exact df
 refine en ?_
 refine jh ?_
 refine jh ?_
 refine rA ?_ (x := cL [(true, [val _, sl _ _]), (true, [val _, sl _ _])] [(true, [val _, sl .v _]), (true, [val _, sl .v _])] Bj (hs := by exact DP))
 refine rA ?_ (x := nT)
 refine sc ?_ ?_ <;> intro hbb
 exact df
 refine en ?_
 refine rA ?_ (x := lF fz)
 refine rA ?_ (x := lD [val _] aA)
 refine rA ?_ (x := lF fz)
 refine eE ?_
 refine sc ?_ ?_ <;> intro hbc
 exact df
 refine en ?_
 refine rA ?_ (x := lF gn)
 refine rA ?_ (x := lD [val _] aA)
 refine rA ?_ (x := lF gn)
 refine eE ?_
 refine sc ?_ ?_ <;> intro hbd
 exact df
 refine aK ?_
 refine kj ?_
 exact rb (by exact (iv (by apply AK <;> simp_all [dP])).symm)
def DS {x : bM} {y : bM}  : aD prog 11 [(true, [val (vI x.Kind), val (vI x.FY.Id), val (vI x.FY.Gc), sl .v (x.FY.FZ.map aV), sl .v (x.FY.Out.map ap), val (vI x.Limit), val (vI x.Id), val (vI x.Ga.Kind), val (vI x.Ga.Row.Id), sl .v (x.Ga.Row.Values.map ap), val (vI x.Ga.Field), val (vI x.Ga.Value), val (vI x.Steps)]), (true, [val (vI y.Kind), val (vI y.FY.Id), val (vI y.FY.Gc), sl .v (y.FY.FZ.map aV), sl .v (y.FY.Out.map ap), val (vI y.Limit), val (vI y.Id), val (vI y.Ga.Kind), val (vI y.Ga.Row.Id), sl .v (y.Ga.Row.Values.map ap), val (vI y.Ga.Field), val (vI y.Ga.Value), val (vI y.Steps)])] (ar [(false, [val (.bool (dh x y))])]) := by
 refine sF func11 fun h0 w0 Fz0 => ?_
 refine sn 0 3 fun hl0_3 => ?_
 refine sn 0 4 fun hl0_4 => ?_
 refine sn 0 9 fun hl0_9 => ?_
 refine sn 1 3 fun hl1_3 => ?_
 refine sn 1 4 fun hl1_4 => ?_
 refine sn 1 9 fun hl1_9 => ?_
 refine ka ?_
 refine rX ?_ (x := (eh (ag := true) (cs := [val _, val _, val _, sl _ _, sl _ _, val _, val _, val _, val _, sl _ _, val _, val _, val _]) (by decide) (by exact tI)))
 refine lr ?_
 refine rA ?_ (x := lF nW)
 refine rA ?_ (x := lD [val _] aA)
 refine rA ?_ (x := lF nW)
 refine eE ?_
 refine sc ?_ ?_ <;> intro hba
 exact df
 refine en ?_
 refine je ?_
 refine je ?_
 refine rA ?_ (x := cL [(true, [val _, val _, sl _ _, sl _ _]), (true, [val _, val _, sl _ _, sl _ _])] [(true, [val _, val _, sl .v _, sl .v _]), (true, [val _, val _, sl .v _, sl .v _])] Bv (hs := by exact DQ))
 refine rA ?_ (x := nT)
 refine sc ?_ ?_ <;> intro hbb
 exact df
 refine en ?_
 refine rA ?_ (x := lF gR)
 refine rA ?_ (x := lD [val _] aA)
 refine rA ?_ (x := lF gR)
 refine eE ?_
 refine sc ?_ ?_ <;> intro hbc
 exact df
 refine en ?_
 refine rA ?_ (x := lF eY)
 refine rA ?_ (x := lD [val _] aA)
 refine rA ?_ (x := lF eY)
 refine eE ?_
 refine sc ?_ ?_ <;> intro hbd
 exact df
 refine en ?_
 refine ii ?_
 refine ii ?_
 refine rA ?_ (x := cL [(true, [val _, val _, sl _ _, val _, val _]), (true, [val _, val _, sl _ _, val _, val _])] [(true, [val _, val _, sl .v _, val _, val _]), (true, [val _, val _, sl .v _, val _, val _])] Bw (hs := by exact DR))
 refine rA ?_ (x := nT)
 refine sc ?_ ?_ <;> intro hbe
 exact df
 refine en ?_
 refine rA ?_ (x := lF gS)
 refine rA ?_ (x := lD [val _] aA)
 refine rA ?_ (x := lF gS)
 refine eE ?_
 refine sc ?_ ?_ <;> intro hbf
 exact df
 refine aK ?_
 refine kj ?_
 exact rb (by exact (iv (by apply AM <;> simp_all [dP])).symm)
end Go.Proofs.YtmekkgdboplbjaaGreatDoor
