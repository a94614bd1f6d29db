/- What functions of the program compute. No condition. -/
import Derived.Test.YtmekkgdboplbjaaGreatDoorCU0
import Derived.Test.YtmekkgdboplbjaaGreatDoorCC1
set_option linter.all false
namespace Go.Proofs.YtmekkgdboplbjaaGreatDoor
open Go Go.RowKit M PV
set_option maxRecDepth 10000
attribute [local irreducible] PV.Lcl PV.LclR RV.Lcl
def XG {p1 p2 p5 p6 p7 p8 p9 p11 p12 p13 p14 p16 p17 p18 : Fl} {e : ay}  (hb : bB e ≤ 68719476736) : aN Tryz.prog 298 [(true, [sl .v (e.Store.ZE.map (aO p1 p2)), val (vI e.Store.Now), val (vI e.ZJ), sl .v (e.Order.map an), sl .v (e.ZF.map (bq p5 p6 p7 p8 p9)), sl .v (e.Done.map (bN p11 p12 p13 p14)), sl .v (e.ZR.map (bF p16 p17 p18)), val (vI e.Steps)])] (aF [(false, [sl ae ((parts e).map an)])]) := by
 refine sF Tryz.func298 fun h0 w0 Fz0 => ?_
 refine sn 0 0 fun hl0_0 => ?_
 refine sn 0 3 fun hl0_3 => ?_
 refine sn 0 4 fun hl0_4 => ?_
 refine sn 0 5 fun hl0_5 => ?_
 refine sn 0 6 fun hl0_6 => ?_
 refine zip ?_
 refine zR ?_
 refine nE ?_
 refine re ?_
 refine sL [1, 2] [1] (fun k : Nat => k ≤ e.ZF.length ∧ (0 < k → aT e = true)) (fun k : Nat => [(3, RV.slc ae ((gp e (e.ZF.take k)).map an)), (4, RV.int (k : Int))]) (fun k : Nat => []) (fun k : Nat => e.ZF.length - k) 0 (by exact ⟨by omega, fun h => absurd h (Nat.lt_irrefl 0)⟩) (by exact aI (by exact rfl) (aI (by exact rfl) tI)) (by exact tI) ?_
 rintro k ⟨hk, ha⟩
 refine cI ?_
 refine oL ?_
 refine rM ?_
 refine cx 11 (fun ga sga => ?_) (fun ga sga => ?_)
 refine HN ?_
 refine rA ?_ (x := aK ga)
 refine sc (fun hba => ?_) (fun hba => ?_)
 have hok : aT e = true := by simp_all
 have hlt : k < e.ZF.length := (by first | omega | (simp_all; done) | (simp_all; omega))
 have haw := Kz hok hlt
 have hef := gU hok
 have hpl := KA (e := e) (l := e.ZF.take k)
 rw [bg] at hpl
 refine er ?_
 refine sQ [1, 2, 3, 4] [1] ?_
 refine Jy ?_
 refine dA 0 ?_ (x := sM)
 refine dA 3 ?_ (x := cL [(true, [sl _ _, val _, val _, sl _ _, sl _ _, sl _ _, sl _ _, val _]), (false, [val _])] [(true, [sl .v _, val _, val _, sl .v _, sl .v _, sl .v _, sl .v _, val _]), (false, [val _])] Bo (hs := by exact (Cy (by omega))))
 refine dA 7 ?_ (x := sM)
 refine dx 20 (fun gb sgb => ?_) (fun gb sgb => ?_)
 refine dB 15 gb ?_ (x := lF eQ)
 refine dB 31 gb ?_ (x := lD [sl .v _] eG)
 refine dB 15 gb ?_ (x := sM)
 refine dB 127 gb ?_ (x := aU (by decide) ct (by exact tI) (by exact rfl) (by exact aV (by omega) rfl) (by exact rfl))
 refine dB 255 gb ?_ (x := cB (by decide) ls (by exact nl rfl))
 refine dB 511 gb ?_ (x := lE [sl .v _] bz)
 refine dB 15 gb ?_ (x := lF kN)
 refine dB 1039 gb ?_ (x := lD [val _] aw)
 refine dB 4095 gb ?_ (x := cL [(false, [sl _ _]), (false, [val _])] [(false, [sl .v _]), (false, [val _])] wL (hs := by exact xq))
 refine dA 8191 ?_ (x := aK gb)
 refine sc (fun hbb => ?_) (fun hbb => ?_)
 have hc : iF e e.ZF[k] = true := by simp_all [iF]
 refine sG [1, 2, 3, 4] [1] ?_
 refine rA ?_ (x := tM)
 refine qc ?_
 refine rA ?_ (x := cB (by decide) iN (by exact nl rfl))
 refine vX ?_
 refine nB ?_
 exact GF
 exact GG
 refine dF 15 gb ?_
 refine dF 31 gb ?_
 refine dF 15 gb ?_
 refine dF 127 gb ?_
 refine dF 255 gb ?_
 refine dF 511 gb ?_
 refine dF 15 gb ?_
 refine dF 1039 gb ?_
 refine dF 4095 gb ?_
 refine dA 8191 ?_ (x := aH gb)
 refine eJ ?_
 exact GG
 exact GH
 refine qd ?_
 exact GH
def xN {p1 p2 p5 p6 p7 p8 p9 p11 p12 p13 p14 p16 p17 p18 : Fl} {e : ay} {id : Int}  : aN Tryz.prog 271 [(true, [sl .v (e.Store.ZE.map (aO p1 p2)), val (vI e.Store.Now), val (vI e.ZJ), sl .v (e.Order.map an), sl .v (e.ZF.map (bq p5 p6 p7 p8 p9)), sl .v (e.Done.map (bN p11 p12 p13 p14)), sl .v (e.ZR.map (bF p16 p17 p18)), val (vI e.Steps)]), (false, [val (vI id)])] (aF [(false, [val (vI (dv e.ZF id))])]) := by
 refine sF Tryz.func271 fun h0 w0 Fz0 => ?_
 refine sn 0 0 fun hl0_0 => ?_
 refine sn 0 3 fun hl0_3 => ?_
 refine sn 0 4 fun hl0_4 => ?_
 refine sn 0 5 fun hl0_5 => ?_
 refine sn 0 6 fun hl0_6 => ?_
 refine zip ?_
 refine eD ?_
 refine sT [1, 2, 4] [2] ?_
 refine de ?_
 refine sP [1, 2, 4, 5] [2] ?_
 refine sL [1, 2] [2] (fun k : Nat => k ≤ e.ZF.length ∧ (e.ZF.take k).any (eT id) = false) (fun k : Nat => [(5, RV.int (k : Int))]) (fun k : Nat => []) (fun k : Nat => e.ZF.length - k) 0 (by exact ⟨by omega, by simp⟩) (by exact aI (by exact rfl) tI) (by exact tI) ?_
 rintro k ⟨hk, ha⟩
 refine cI ?_
 refine oL ?_
 refine sc (fun hba => ?_) (fun hba => ?_)
 have hlt : k < e.ZF.length := by omega
 refine bw ?_
 refine sT [1, 2, 5] [2] ?_
 refine qc ?_
 refine rA ?_ (x := cB (by decide) iN (by exact nl rfl))
 refine vX ?_
 refine pZ ?_
 refine sc (fun hbb => ?_) (fun hbb => ?_)
 have hy : eT id e.ZF[k] = true := by first | (simp_all [eT]; done) | simpa [eT] using hbb
 refine sS [1, 2, 5] [2] ?_
 refine rM ?_
 refine df ?_
 exact (aI (by refine bA ?_; rw [Bd hlt ha hy]) tI)
 have hno : eT id e.ZF[k] = false := by first | (simp_all [eT]; done) | simpa [eT] using hbb
 refine bc ?_
 refine sG [1, 2, 5] [2] ?_
 exact Fj
 have hend : k = e.ZF.length := by omega
 rw [hend, bY] at ha
 refine bE ?_
 refine sT [1, 2, 5] [2] ?_
 refine cC ?_
 exact (aI (by refine bA ?_; rw [Rq ha]) tI)
end Go.Proofs.YtmekkgdboplbjaaGreatDoor
