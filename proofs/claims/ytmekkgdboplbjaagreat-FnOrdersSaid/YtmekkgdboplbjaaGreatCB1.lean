/- What functions of the program compute. No condition. -/
import Derived.Test.YtmekkgdboplbjaaGreatCW0
import Derived.Test.YtmekkgdboplbjaaGreatCY0
import Derived.Test.YtmekkgdboplbjaaGreatCA1
set_option linter.unusedVariables false
set_option linter.unusedSimpArgs false
namespace Go.Proofs.YtmekkgdboplbjaaGreat
open Go Go.RowKit M PV
set_option maxRecDepth 10000
attribute [local irreducible] PV.Lcl PV.LclR RV.Lcl
theorem S0 {p1 p2 p5 p6 p7 p8 p9 p11 p12 p13 p14 p16 p17 p18 : Fl} {e : am} {n : Int}  (hb : aO e ≤ 68718000000) : aw Tryz.prog 9 [(true, [sl .v (e.Store.Segments.map (ax p1 p2)), val (vI e.Store.Now), val (vI e.Cursor), sl .v (e.Order.map ai), sl .v (e.Active.map (aG p5 p6 p7 p8 p9)), sl .v (e.Done.map (aP p11 p12 p13 p14)), sl .v (e.Ledger.map (aR p16 p17 p18)), val (vI e.Steps)]), (false, [val (vI n)])] (av [(true, [sl (.own 139 1) ((eO e n).Store.Segments.map (ax (.own 184 4) (.own 3 1))), val (vI (eO e n).Store.Now), val (vI (eO e n).Cursor), sl (.own 3 1) ((eO e n).Order.map ai), sl (.own 108 10) ((eO e n).Active.map (aG (.own 178 3) (.own 3 1) (.own 3 1) (.own 54 2) (.own 3 1))), sl (.own 63 7) ((eO e n).Done.map (aP (.own 178 3) (.own 3 1) (.own 54 2) (.own 3 1))), sl (.own 70 5) ((eO e n).Ledger.map (aR (.own 3 1) (.own 3 1) (.own 3 1))), val (vI (eO e n).Steps)])]) := by
 refine sF Tryz.func9 fun h0 w0 Fz0 => ?_
 refine sn 0 0 fun hl0_0 => ?_
 refine sn 0 3 fun hl0_3 => ?_
 refine sn 0 4 fun hl0_4 => ?_
 refine sn 0 5 fun hl0_5 => ?_
 refine sn 0 6 fun hl0_6 => ?_
 have hbu := hb
 simp only [aO, fp, gK, f4] at hbu
 refine kk ?_
 refine sT [1, 2, 4] [2, 4] ?_
 refine xj ?_
 refine jH ?_
 refine xE ?_
 refine bw ?_
 refine E7 ?_
 rintro k hk
 have hrw := vo e k
 have hrl := rU n
 refine bu ?_
 refine rM ?_
 refine ll ?_
 refine cx 12 (fun ga sga => ?_) (fun ga sga => ?_)
 refine ut ?_
 refine sc (fun hba => ?_) (fun hba => ?_)
 have hlt : k < du n := by unfold du; first | omega | (simp_all; omega)
 refine aT ?_
 refine HZ ?_
 refine rA ?_ (x := cL [(true, [sl _ _, val _, val _, sl _ _, sl _ _, sl _ _, sl _ _, val _])] [(true, [sl .v _, val _, val _, sl .v _, sl .v _, sl .v _, sl .v _, val _])] JG (hs := by exact (Lx (e := eD e k) (by omega))))
 refine rA ?_ (x := cL [(true, [sl _ _, val _, val _, sl _ _, sl _ _, sl _ _, sl _ _, val _])] [(true, [sl .v _, val _, val _, sl .v _, sl .v _, sl .v _, sl .v _, val _])] JW (hs := by exact (Ls (e := dh (eD e k)) (by have haw := vn (eD e k); omega))))
 exact Em
 exact w7
 exact En
theorem S1 {p1 p2 p5 p6 p7 p8 p9 p11 p12 p13 p14 p16 p17 p18 : Fl} {e : am} {n : Int}  (hb : aO e ≤ 68718000000) : aw Tryz.prog 11 [(true, [sl .v (e.Store.Segments.map (ax p1 p2)), val (vI e.Store.Now), val (vI e.Cursor), sl .v (e.Order.map ai), sl .v (e.Active.map (aG p5 p6 p7 p8 p9)), sl .v (e.Done.map (aP p11 p12 p13 p14)), sl .v (e.Ledger.map (aR p16 p17 p18)), val (vI e.Steps)]), (false, [val (vI n)])] (av [(true, [sl (.own 139 1) ((eO e n).Store.Segments.map (ax (.own 184 4) (.own 3 1))), val (vI (eO e n).Store.Now), val (vI (eO e n).Cursor), sl (.own 3 1) ((eO e n).Order.map ai), sl (.own 108 10) ((eO e n).Active.map (aG (.own 178 3) (.own 3 1) (.own 3 1) (.own 54 2) (.own 3 1))), sl (.own 63 7) ((eO e n).Done.map (aP (.own 178 3) (.own 3 1) (.own 54 2) (.own 3 1))), sl (.own 70 5) ((eO e n).Ledger.map (aR (.own 3 1) (.own 3 1) (.own 3 1))), val (vI (eO e n).Steps)])]) := by
 refine sF Tryz.func11 fun h0 w0 Fz0 => ?_
 refine sn 0 0 fun hl0_0 => ?_
 refine sn 0 3 fun hl0_3 => ?_
 refine sn 0 4 fun hl0_4 => ?_
 refine sn 0 5 fun hl0_5 => ?_
 refine sn 0 6 fun hl0_6 => ?_
 have hbu := hb
 simp only [aO, fp, gK, f4] at hbu
 refine kk ?_
 refine sT [1, 2, 4] [2, 4] ?_
 refine to ?_
 refine jH ?_
 refine xE ?_
 refine bw ?_
 refine E7 ?_
 rintro k hk
 have hrw := vo e k
 have hrl := rU n
 refine bu ?_
 refine rM ?_
 refine ll ?_
 refine cx 14 (fun ga sga => ?_) (fun ga sga => ?_)
 refine ut ?_
 refine sc (fun hba => ?_) (fun hba => ?_)
 have hlt : k < du n := by unfold du; first | omega | (simp_all; omega)
 refine aT ?_
 refine sT [1, 2, 4, 5, 6] [2, 4, 5] ?_
 refine rA ?_ (x := lD [sl .v _, val _, val _, sl .v _, sl .v _, sl .v _, sl .v _, val _] a7)
 refine rA ?_ (x := cL [(true, [sl _ _, val _, val _, sl _ _, sl _ _, sl _ _, sl _ _, val _])] [(true, [sl .v _, val _, val _, sl .v _, sl .v _, sl .v _, sl .v _, val _])] PX (hs := by exact (SZ (e := eD e k) (by omega))))
 refine rA ?_ (x := cL [(true, [sl _ _, val _, val _, sl _ _, sl _ _, sl _ _, sl _ _, val _])] [(true, [sl .v _, val _, val _, sl .v _, sl .v _, sl .v _, sl .v _, val _])] JZ (hs := by exact (Lt (e := dh (eD e k)) (by have haw := vn (eD e k); omega))))
 refine ro ?_
 refine iI ?_
 refine rS ?_
 refine sO [(1, _), (2, _), (4, _), (5, _), (6, _), (7, _), (8, _)] [(2, _), (4, _), (5, _), (7, (32, [sl _ _, val _, val _, sl _ _, sl _ _, sl _ _, sl _ _, val _]))] ?_
 refine aM ?_
 refine lb ?_
 refine sO [(1, _), (2, _), (4, _), (5, _), (6, _), (7, _), (8, _)] [(2, _), (4, _), (5, (32, [sl _ _, val _, val _, sl _ _, sl _ _, sl _ _, sl _ _, val _])), (7, (32, [sl _ _, val _, val _, sl _ _, sl _ _, sl _ _, sl _ _, val _]))] ?_
 exact El
 exact w7
 exact En
end Go.Proofs.YtmekkgdboplbjaaGreat
