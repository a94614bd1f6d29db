/- What functions of the program compute. No condition. -/
import Derived.Test.YtmekkgdboplbjaaGreatDoorCC0
import Derived.Test.YtmekkgdboplbjaaGreatDoorCF0
set_option linter.all false
namespace Go.Proofs.YtmekkgdboplbjaaGreatDoor
open Go Go.RowKit M PV Tryz
set_option maxRecDepth 10000
attribute [local irreducible] PV.Lcl PV.LclR RV.Lcl
def DY {x : List Int} {k : Int}  (h0k : 0 ≤ k) (hbk : (am aU x k).2 ≤ 4611686018427387904): aD prog 149 [(false, [sl .v ((am aU x k).1.map ap)]), (false, [val (vI k)])] (ar [(false, [val (vI (am aU x k).2)])]) := by
 refine sF func149 fun h0 w0 Fz0 => ?_
 refine sj 0 fun hl0 => ?_
 have hlm : (am aU x k).1.length = x.length := ie _ _
 have hmono := mA dQ x
 have hmono0 := fun i => cv dQ (x.take i) k
 refine jt ?_
 refine cH ?_
 refine sP [0, 1, 4, 5] [] ?_
 refine sL [0] [] (fun i : Nat => i ≤ x.length) (fun i : Nat => [(1, RV.int (am aU (x.take i) k).2), (5, RV.int (i : Int))]) (fun i : Nat => []) (fun i : Nat => x.length - i) 0 (by omega) (by exact aI (by exact rfl) (aI (by exact rfl) tI)) (by exact tI) ?_
 rintro i hi
 refine ee ?_
 refine nL ?_
 refine sc ?_ ?_ <;> intro hba
 have hlt : i < x.length := by omega
 have hk0 := hmono0 i
 have hk1 := hmono (i + 1) k
 rw [gG hlt] at hk1
 dsimp only at hk1
 simp only [aU] at hk1
 refine ir ?_
 refine sS [0, 1, 5] [] ?_
 refine ji ?_
 refine rA ?_ (x := bn (by decide) da (by exact tI) (by exact rfl) (by exact sW hlt rfl) (by exact rfl))
 refine nM ?_
 refine sc ?_ ?_ <;> intro hbb
 first | exact absurd rfl hbb | omega
 exact tx
 exact tz
def DZ {x : List bh} {k : Int}  (h0k : 0 ≤ k) (hbk : (am bb x k).2 ≤ 4611686018427387904): aD prog 148 [(false, [sl .v ((am bb x k).1.map aV)]), (false, [val (vI k)])] (ar [(false, [val (vI (am bb x k).2)])]) := by
 refine sF func148 fun h0 w0 Fz0 => ?_
 refine sj 0 fun hl0 => ?_
 have hlm : (am bb x k).1.length = x.length := ie _ _
 have hmono := mA gP x
 have hmono0 := fun i => cv gP (x.take i) k
 refine jt ?_
 refine cH ?_
 refine sP [0, 1, 4, 5] [] ?_
 refine sL [0] [] (fun i : Nat => i ≤ x.length) (fun i : Nat => [(1, RV.int (am bb (x.take i) k).2), (5, RV.int (i : Int))]) (fun i : Nat => []) (fun i : Nat => x.length - i) 0 (by omega) (by exact aI (by exact rfl) (aI (by exact rfl) tI)) (by exact tI) ?_
 rintro i hi
 refine ee ?_
 refine jl ?_
 refine rA ?_ (x := cF)
 refine sc ?_ ?_ <;> intro hba
 have hlt : i < x.length := by omega
 have hk0 := hmono0 i
 have hk1 := hmono (i + 1) k
 rw [gG hlt] at hk1
 dsimp only at hk1
 simp only [bb] at hk1
 refine ir ?_
 refine sS [0, 1, 5] [] ?_
 refine qj ?_
 refine rA ?_ (x := gF (by decide) eZ (by exact nl rfl))
 refine nM ?_
 refine sc ?_ ?_ <;> intro hbb
 first | exact absurd rfl hbb | omega
 refine aK ?_
 refine sS [0, 1, 5] [] ?_
 refine eS ?_
 refine bZ ?_
 refine sS [0, 1, 5] [] ?_
 refine qj ?_
 refine rA ?_ (x := gF (by decide) gU (by exact nl rfl))
 refine nM ?_
 refine sc ?_ ?_ <;> intro hbc
 first | exact absurd rfl hbc | omega
 refine aK ?_
 refine sS [0, 1, 5] [] ?_
 refine eS ?_
 refine bZ ?_
 refine sS [0, 1, 5] [] ?_
 refine qj ?_
 refine rA ?_ (x := gF (by decide) go (by exact nl rfl))
 refine nM ?_
 refine sc ?_ ?_ <;> intro hbd
 first | exact absurd rfl hbd | omega
 exact tx
 exact tz
def Ea {x : Row} {k : Int}  (h0k : 0 ≤ k) (hbk : (er x k).2 ≤ 4611686018427387904): aD prog 150 [(true, [val (vI (er x k).1.Id), sl .v ((er x k).1.Values.map ap)]), (false, [val (vI k)])] (ar [(false, [val (vI (er x k).2)])]) := by
 refine sF func150 fun h0 w0 Fz0 => ?_
 refine sn 0 1 fun hl0_1 => ?_
 simp only [er] at hbk
 have hm0 := cv dQ x.Values k
 refine kc ?_
 refine rK ?_
 refine sT [1, 2, 4] [2] ?_
 refine ke ?_
 refine wc ?_
 exact tC
def Eb {x : FY} {k : Int}  (h0k : 0 ≤ k) (hbk : (dt x k).2 ≤ 4611686018427387904): aD prog 62 [(true, [val (vI (dt x k).1.Id), val (vI (dt x k).1.Gc), sl .v ((dt x k).1.FZ.map aV), sl .v ((dt x k).1.Out.map ap)]), (false, [val (vI k)])] (ar [(false, [val (vI (dt x k).2)])]) := by
 refine sF func62 fun h0 w0 Fz0 => ?_
 refine sn 0 2 fun hl0_2 => ?_
 refine sn 0 3 fun hl0_3 => ?_
 simp only [dt] at hbk
 have hm0 := cv gP x.FZ k
 have hm1 := cv dQ x.Out (am bb x.FZ k).2
 refine jd ?_
 refine rK ?_
 refine sT [1, 2, 4] [2] ?_
 refine nd ?_
 refine rM ?_
 refine rA ?_ (x := cL [(false, [sl _ _]), (false, [val _])] [(false, [sl .v _]), (false, [val _])] Bm (hs := by exact DZ (by omega) (by omega)))
 refine bZ ?_
 refine nN ?_
 refine sc ?_ ?_ <;> intro hba
 omega
 refine aK ?_
 refine sS [1, 2, 4] [2] ?_
 refine jj ?_
 refine wc ?_
 exact tD
def Ec {x : Ga} {k : Int}  (h0k : 0 ≤ k) (hbk : (di x k).2 ≤ 4611686018427387904): aD prog 63 [(true, [val (vI (di x k).1.Kind), val (vI (di x k).1.Row.Id), sl .v ((di x k).1.Row.Values.map ap), val (vI (di x k).1.Field), val (vI (di x k).1.Value)]), (false, [val (vI k)])] (ar [(false, [val (vI (di x k).2)])]) := by
 refine sF func63 fun h0 w0 Fz0 => ?_
 refine sn 0 2 fun hl0_2 => ?_
 simp only [di] at hbk
 have hm0 := cv dQ x.Row.Values k
 have hv0 : (er x.Row k).2 = (am aU x.Row.Values k).2 := rfl
 refine jc ?_
 refine rK ?_
 refine sT [1, 2, 4] [2] ?_
 refine jh ?_
 refine rM ?_
 refine rA ?_ (x := cL [(true, [val _, sl _ _]), (false, [val _])] [(true, [val _, sl .v _]), (false, [val _])] Bo (hs := by exact Ea (by omega) (by first | omega | (simp only [er]; omega))))
 exact tC
def Ed {x : bM} {k : Int}  (h0k : 0 ≤ k) (hbk : (cy x k).2 ≤ 4611686018427387904): aD prog 13 [(true, [val (vI (cy x k).1.Kind), val (vI (cy x k).1.FY.Id), val (vI (cy x k).1.FY.Gc), sl .v ((cy x k).1.FY.FZ.map aV), sl .v ((cy x k).1.FY.Out.map ap), val (vI (cy x k).1.Limit), val (vI (cy x k).1.Id), val (vI (cy x k).1.Ga.Kind), val (vI (cy x k).1.Ga.Row.Id), sl .v ((cy x k).1.Ga.Row.Values.map ap), val (vI (cy x k).1.Ga.Field), val (vI (cy x k).1.Ga.Value), val (vI (cy x k).1.Steps)]), (false, [val (vI k)])] (ar [(false, [val (vI (cy x k).2)])]) := by
 refine sF func13 fun h0 w0 Fz0 => ?_
 refine sn 0 3 fun hl0_3 => ?_
 refine sn 0 4 fun hl0_4 => ?_
 refine sn 0 9 fun hl0_9 => ?_
 simp only [cy] at hbk
 have hm0 := cv gP x.FY.FZ k
 have hm1 := cv dQ x.FY.Out (am bb x.FY.FZ k).2
 have hm2 := cv dQ x.Ga.Row.Values (am aU x.FY.Out (am bb x.FY.FZ k).2).2
 have hv0 : (dt x.FY k).2 = (am aU x.FY.Out (am bb x.FY.FZ k).2).2 := rfl
 have hv1 : (di x.Ga (am aU x.FY.Out (am bb x.FY.FZ k).2).2).2 = (am aU x.Ga.Row.Values (am aU x.FY.Out (am bb x.FY.FZ k).2).2).2 := rfl
 refine ka ?_
 refine rK ?_
 refine sT [1, 2, 4] [2] ?_
 refine je ?_
 refine rM ?_
 refine rA ?_ (x := cL [(true, [val _, val _, sl _ _, sl _ _]), (false, [val _])] [(true, [val _, val _, sl .v _, sl .v _]), (false, [val _])] Bz (hs := by exact Eb (by omega) (by first | omega | (simp only [dt]; omega))))
 refine bZ ?_
 refine nN ?_
 refine sc ?_ ?_ <;> intro hba
 omega
 refine aK ?_
 refine sS [1, 2, 4] [2] ?_
 refine ii ?_
 refine rM ?_
 refine rA ?_ (x := cL [(true, [val _, val _, sl _ _, val _, val _]), (false, [val _])] [(true, [val _, val _, sl .v _, val _, val _]), (false, [val _])] BA (hs := by exact Ec (by omega) (by first | omega | (simp only [di]; omega))))
 exact tD
end Go.Proofs.YtmekkgdboplbjaaGreatDoor
