/- What functions of the program compute. No condition. -/
import Derived.Test.YtmekkgdboplbjaaGreatCG0
set_option linter.all false
namespace Go.Proofs.YtmekkgdboplbjaaGreat
open Go Go.RowKit M PV Tryz
set_option maxRecDepth 10000
attribute [local irreducible] PV.Lcl PV.LclR RV.Lcl
def rG {x : List Int} {y : List Int}  : aN prog 56 [(false, [sl .v (x.map am)]), (false, [sl .v (y.map am)])] (aJ [(false, [val (.bool (fA x y))])]) := by
 refine sF func56 fun h0 w0 Fz0 => ?_
 refine sj 0 fun hl0 => ?_
 refine sj 1 fun hl1 => ?_
 refine ow ?_
 refine gS ?_
 refine gS ?_
 refine rA ?_ (x := dr)
 refine sc ?_ ?_ <;> intro hba
 exact uS
 have hl : x.length = y.length := by omega
 refine wd ?_
 refine ca ?_
 refine CD ?_
 rintro k ⟨hk, ha⟩
 refine jR ?_
 refine sc ?_ ?_ <;> intro hbb
 have hlt : k < x.length := by omega
 have hlt2 : k < y.length := by omega
 refine th ?_
 refine ox ?_
 refine eY ?_
 refine yv ?_
 refine dA 255 ?_ (x := dr)
 refine sc ?_ ?_ <;> intro hbc
 exact sr
 refine tD ?_
 exact IP
 exact BR
def RT {x : List Int} {y : List Int}  : aN prog 256 [(false, [sl .v (x.map am)]), (false, [sl .v (y.map am)])] (aJ [(false, [val (.bool (fA x y))])]) := by
 refine sF func256 fun h0 w0 Fz0 => ?_
 refine sj 0 fun hl0 => ?_
 refine sj 1 fun hl1 => ?_
 refine ow ?_
 refine gS ?_
 refine gS ?_
 refine rA ?_ (x := dr)
 refine sc ?_ ?_ <;> intro hba
 exact uS
 have hl : x.length = y.length := by omega
 refine wd ?_
 refine gS ?_
 refine eo ?_
 refine Ni ?_
 rintro k ⟨hk, ha⟩
 refine cn ?_
 refine sc ?_ ?_ <;> intro hbb
 have hlt : k < x.length := by omega
 have hlt2 : k < y.length := by omega
 refine bi ?_
 refine sS [0, 1, 12, 13] [] ?_
 refine rM ?_
 refine hZ ?_
 refine sP [0, 1, 5, 12, 13] [] ?_
 refine ox ?_
 refine eY ?_
 refine yv ?_
 refine dA 255 ?_ (x := dr)
 refine sc ?_ ?_ <;> intro hbc
 refine sS [0, 1, 5, 12, 13] [] ?_
 exact BQ
 refine bb ?_
 refine sG [0, 1, 5, 12, 13] [] ?_
 refine cF ?_
 exact IP
 exact IR
def ZP {x : Row} {y : Row}  : aN prog 257 [(true, [val (vI x.Id), sl .v (x.Values.map am)]), (true, [val (vI y.Id), sl .v (y.Values.map am)])] (aJ [(false, [val (.bool (fA x y))])]) := by
 refine sF func257 fun h0 w0 Fz0 => ?_
 refine sn 0 1 fun hl0_1 => ?_
 refine sn 1 1 fun hl1_1 => ?_
 refine Dl ?_
 refine qJ ?_
 refine pt ?_
 refine rA ?_ (x := lF jZ)
 refine oA ?_
 refine cx 10 (fun ga sga => ?_) (fun ga sga => ?_)
 refine pq ?_
 refine pq ?_
 refine rB ga ?_ (x := cL [(false, [sl _ _]), (false, [sl _ _])] [(false, [sl .v _]), (false, [sl .v _])] Qn (hs := by exact RT))
 refine rA ?_ (x := aO ga)
 exact xO
 refine mz ?_
 exact xO
def ZQ {x : Row} {y : Row}  : aN prog 95 [(true, [val (vI x.Id), sl .v (x.Values.map am)]), (true, [val (vI y.Id), sl .v (y.Values.map am)])] (aJ [(false, [val (.bool (fA x y))])]) := by
 refine sF func95 fun h0 w0 Fz0 => ?_
 refine sn 0 1 fun hl0_1 => ?_
 refine sn 1 1 fun hl1_1 => ?_
 refine Dl ?_
 refine qJ ?_
 refine pt ?_
 refine rA ?_ (x := lF jZ)
 refine oA ?_
 refine cx 10 (fun ga sga => ?_) (fun ga sga => ?_)
 refine pq ?_
 refine pq ?_
 refine rB ga ?_ (x := cL [(false, [sl _ _]), (false, [sl _ _])] [(false, [sl .v _]), (false, [sl .v _])] rh (hs := by exact rG))
 refine rA ?_ (x := aO ga)
 exact xO
 refine mz ?_
 exact xO
def Fo {p1 p3 : Fl} {x : List Row} {y : List Row}  : aN prog 27 [(false, [sl .v (x.map (bI p1))]), (false, [sl .v (y.map (bI p3))])] (aJ [(false, [val (.bool (fA x y))])]) := by
 refine sF func27 fun h0 w0 Fz0 => ?_
 refine sj 0 fun hl0 => ?_
 refine sj 1 fun hl1 => ?_
 refine ow ?_
 refine oi ?_
 refine oi ?_
 refine rA ?_ (x := dr)
 refine sc ?_ ?_ <;> intro hba
 exact uS
 have hl : x.length = y.length := by omega
 refine wd ?_
 refine ca ?_
 refine CD ?_
 rintro k ⟨hk, ha⟩
 refine qV ?_
 refine sc ?_ ?_ <;> intro hbb
 have hlt : k < x.length := by omega
 have hlt2 : k < y.length := by omega
 refine th ?_
 refine pu ?_
 refine OE ?_
 refine eY ?_
 refine dA 48 ?_ (x := aU (by decide) fD (by exact tI) (by exact rfl) (by exact aW (by omega) rfl) (by exact rfl))
 refine dA 112 ?_ (x := lE [val _, sl .v _] fj)
 refine dA 255 ?_ (x := cL [(true, [val _, sl _ _]), (true, [val _, sl _ _])] [(true, [val _, sl .v _]), (true, [val _, sl .v _])] WI (hs := by exact ZQ))
 refine dA 511 ?_ (x := nT)
 refine sc ?_ ?_ <;> intro hbc
 exact sr
 refine tD ?_
 refine nx (k + 1) (by exact ⟨by omega, ra ha hlt hlt2 (by first | (simp_all [fh]; done) | (apply fh.1; simp_all))⟩)
 exact BR
end Go.Proofs.YtmekkgdboplbjaaGreat
