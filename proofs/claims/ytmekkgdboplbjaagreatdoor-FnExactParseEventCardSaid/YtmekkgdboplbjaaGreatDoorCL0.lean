/- What functions of the program compute. No condition. -/
import Derived.Test.YtmekkgdboplbjaaGreatDoorCC0
import Derived.Test.YtmekkgdboplbjaaGreatDoorCF0
set_option linter.all false
namespace Go.Proofs.YtmekkgdboplbjaaGreatDoor
open Go Go.RowKit M PV Tryz
set_option maxRecDepth 10000
attribute [local irreducible] PV.Lcl PV.LclR RV.Lcl
def kN {n : Int} {l : Int} {h : Int}  : aD prog 74 [(false, [val (vI n)]), (false, [val (vI l)]), (false, [val (vI h)])] (ar [(false, [val (.bool (ba n l h))])]) := by
 refine sF func74 fun h0 w0 Fz0 => ?_
 exact tE
def jJ {n : Int} {l : Int} {h : Int}  : aD prog 75 [(false, [val (vI n)]), (false, [val (vI l)]), (false, [val (vI h)])] (ar [(false, [val (.bool (ba n l h))])]) := by
 refine sF func75 fun h0 w0 Fz0 => ?_
 exact tE
def rC {n : Int}  : aD prog 176 [(false, [val (vI n)])] (ar [(false, [val (.bool (ba n 0 2))])]) := by
 refine sF func176 fun h0 w0 Fz0 => ?_
 refine fX ?_
 refine sS [0, 2] [] ?_
 refine vS ?_
 exact pg
def rD {x : Row}  : aD prog 170 [(true, [val (vI x.Id), sl .v (x.Values.map ap)])] (ar [(false, [val (.bool (ca x))])]) := by
 refine sF func170 fun h0 w0 Fz0 => ?_
 refine sn 0 1 fun hl0_1 => ?_
 refine kc ?_
 refine fV ?_
 refine ke ?_
 refine rA ?_ (x := lN da)
 refine im ?_
 refine sP [1, 2, 6, 7, 8] [1] ?_
 refine sL [1, 6, 7] [1] (fun k : Nat => k ≤ x.Values.length ∧ (x.Values.take k).all dR = true) (fun k : Nat => [(8, RV.int (k : Int))]) (fun k : Nat => []) (fun k : Nat => x.Values.length - k) 0 (by exact ⟨by omega, by simp⟩) (by exact aI (by exact rfl) tI) (by exact tI) ?_
 rintro k ⟨hk, ha⟩
 refine it ?_
 refine sc ?_ ?_ <;> intro hba
 have hlt : k < x.Values.length := by omega
 refine dg ?_
 refine sT [1, 6, 7, 8] [1] ?_
 refine kb ?_
 refine rS ?_
 refine sS [1, 4, 6, 7, 8] [1] ?_
 refine vS ?_
 refine rA ?_ (x := nT)
 refine sc ?_ ?_ <;> intro hbb
 have hno : dR x.Values[k] = false := by simpa [dR] using hbb
 refine sS [1, 4, 6, 7, 8] [1] ?_
 exact tF
 have hyes : dR x.Values[k] = true := by simpa [dR] using hbb
 refine aK ?_
 refine sG [1, 4, 6, 7, 8] [1] ?_
 refine ip ?_
 exact tG
 have hall : x.Values.all dR = true := lL (by rw [show x.Values.length = k by omega]; exact ha)
 refine cU ?_
 refine sT [1, 6, 7, 8] [1] ?_
 refine rA ?_ (x := lF gk)
 refine jb ?_
 refine rM ?_
 refine cx 19 (fun ga sga => ?_) (fun ga sga => ?_)
 exact tH
 refine fp ?_
 exact ph
def yg {x : Row}  : aD prog 98 [(true, [val (vI x.Id), sl .v (x.Values.map ap)])] (ar [(false, [val (.bool (ca x))])]) := by
 refine sF func98 fun h0 w0 Fz0 => ?_
 refine sn 0 1 fun hl0_1 => ?_
 refine kc ?_
 refine fV ?_
 refine cH ?_
 refine sP [1, 2, 3] [1] ?_
 refine sL [1] [1] (fun k : Nat => k ≤ x.Values.length ∧ (x.Values.take k).all dR = true) (fun k : Nat => [(3, RV.int (k : Int))]) (fun k : Nat => []) (fun k : Nat => x.Values.length - k) 0 (by exact ⟨by omega, by simp⟩) (by exact aI (by exact rfl) tI) (by exact tI) ?_
 rintro k ⟨hk, ha⟩
 refine ee ?_
 refine ke ?_
 refine rA ?_ (x := lN da)
 refine rA ?_ (x := cF)
 refine sc ?_ ?_ <;> intro hba
 have hlt : k < x.Values.length := by omega
 refine dg ?_
 refine sT [1, 3] [1] ?_
 refine ke ?_
 refine rM ?_
 refine kb ?_
 refine vJ ?_
 refine sc ?_ ?_ <;> intro hbb
 have hno : dR x.Values[k] = false := by simpa [dR] using hbb
 refine sS [1, 3] [1] ?_
 exact tF
 have hyes : dR x.Values[k] = true := by simpa [dR] using hbb
 refine aK ?_
 refine sG [1, 3] [1] ?_
 exact tJ
 have hall : x.Values.all dR = true := lL (by rw [show x.Values.length = k by omega]; exact ha)
 refine cU ?_
 refine sT [1, 3] [1] ?_
 refine rA ?_ (x := lF gk)
 refine lf ?_
 refine rM ?_
 refine cx 21 (fun ga sga => ?_) (fun ga sga => ?_)
 exact tH
 refine fp ?_
 exact ph
end Go.Proofs.YtmekkgdboplbjaaGreatDoor
