/- What functions of the program compute. No condition. -/
import Derived.Test.YtmekkgdboplbjaaGreatDoorCS0
import Derived.Test.YtmekkgdboplbjaaGreatDoorCO1
set_option linter.all false
namespace Go.Proofs.YtmekkgdboplbjaaGreatDoor
open Go Go.RowKit M PV
set_option maxRecDepth 10000
attribute [local irreducible] PV.Lcl PV.LclR RV.Lcl
def YB {p1 p2 p3 : Fl} {l : List bM}  (hb : l.length ≤ 1048576) : iu Tryz.prog gl 29 [(false, [sl .v (l.map (bF p1 p2 p3))])] (aF [(false, [val (.string (B (CN l)))])]) := by
 refine nt (rs := [(false, [val (.string (B (CN l)))])]) Tryz.func29 rfl (nl rfl) (bV (ab.cons (bor_sl _) ab.nil) bH) ?_
 intro h0 w0 Fz0
 refine sj 0 fun hl0 => ?_
 have htw := ub l
 refine jK ?_
 refine Ai ?_
 refine rA ?_ (x := cL [(false, [sl _ _])] [(false, [sl .v _])] TH (hs := by exact UK (by omega)))
 refine rA ?_ (x := gL [(false, [val _])] [(false, [val _])] iM (hs := by exact (iQ (by unfold aQ; omega))))
 refine rA ?_ (x := bm (qs := [(false, [val _]), (false, [val _])]) (by decide) ji oh (by decide) rfl rfl rfl rfl rfl (by exact nl rfl) (by exact (aI (aJ rfl) (aI (by exact tI) tI))) rfl)
 refine jJ ?_
 refine sS [0, 2, 3, 7000] [] ?_
 refine de ?_
 refine sP [0, 2, 3, 4, 7000] [] ?_
 refine sL [0, 2, 7000] [] (fun k : Nat => k ≤ 4) (fun k : Nat => [(3, RV.slc nk ((kU l k).map kD)), (4, RV.int (k : Int))]) (fun k : Nat => []) (fun k : Nat => 4 - k) 0 (by omega) (by exact aI (by exact rfl) (aI (by exact rfl) tI)) (by exact tI) ?_
 rintro k hk
 refine rh ?_
 refine sc (fun hba => ?_) (fun hba => ?_)
 have hlt : k < 4 := by omega
 have hwl := xR (l := l) (k := k)
 have htc := uc l (k : Int)
 have hil : (itoa (k : Int)).length ≤ 21 := cy (by unfold aQ; omega)
 have htl : (itoa (lX l (k : Int))).length ≤ 21 := cy (by unfold aQ; omega)
 refine bw ?_
 refine sG [0, 2, 3, 4, 7000] [] ?_
 refine nD ?_
 refine Jk ?_
 refine jI ?_
 refine rA ?_ (x := cL [(false, [sl _ _]), (false, [val _])] [(false, [sl .v _]), (false, [val _])] TI (hs := by exact UO (by omega)))
 refine rA ?_ (x := gL [(false, [val _])] [(false, [val _])] iM (hs := by exact (iQ (by unfold aQ; omega))))
 refine rA ?_ (x := bm (qs := [(false, [val _]), (false, [val _])]) (by decide) ji oh (by decide) rfl rfl rfl rfl rfl (by exact nl rfl) (by exact (aI (by exact tI) (aI (by exact tI) tI))) rfl)
 refine rA ?_ (x := dy (by decide) ji oh rfl rfl (by decide) rfl (by simp only [am, aD, List.length_cons, List.length_nil]; omega) (by simp only [am, aD, List.length_cons, List.length_nil]; omega))
 refine rA ?_ (x := tA)
 refine sG [0, 2, 3, 4, 7000] [] ?_
 refine ca ?_
 refine nx (k + 1) (by omega) (e := (by exact aI (by exact bI (by rw [CM, bb]; rfl)) (aI (by exact rfl) tI)))
 have hend : k = 4 := by omega
 subst hend
 have hwl := xR (l := l) (k := 4)
 have hjl := Nu hb (k := 4) (by omega)
 refine bE ?_
 refine sS [0, 2, 3, 4, 7000] [] ?_
 refine rA ?_ (x := vM false [sl .v _])
 refine rA ?_ (x := cL [(false, [sl _ _]), (false, [val _])] [(false, [sl .v _]), (false, [val _])] xg (hs := by exact (xt (by omega) (by omega))))
 exact Hn
def YC {p1 p2 p3 : Fl} {l : List bM}  (hb : l.length ≤ 1048576) : aN Tryz.prog 30 [(false, [sl .v (l.map (bF p1 p2 p3))])] (aF [(false, [val (.string (B (CN l)))])]) := by
 refine sF Tryz.func30 fun h0 w0 Fz0 => ?_
 refine sj 0 fun hl0 => ?_
 have htw := ub l
 have htl0 : (itoa (nQ l)).length ≤ 21 := cy (by unfold aQ; omega)
 refine jK ?_
 refine pS ?_
 refine rA ?_ (x := cL [(false, [sl _ _])] [(false, [sl .v _])] TJ (hs := by exact UL (by omega)))
 refine te ?_
 refine gA ?_
 refine oI ?_
 refine sL [0, 2] [] (fun k : Nat => k ≤ 4) (fun k : Nat => [(3, RV.sc (.string (B (dD (kU l k) [32])))), (4, RV.int (k : Int))]) (fun k : Nat => []) (fun k : Nat => 4 - k) 0 (by omega) (by exact aI (by exact congrArg (fun z => some (RV.sc (.string (B z)))) (by simp [kU, dD, Lib.join_cons, Lib.joinTail])) (aI (by exact rfl) tI)) (by exact tI) ?_
 rintro k hk
 refine rh ?_
 refine sc (fun hba => ?_) (fun hba => ?_)
 have hlt : k < 4 := by omega
 have hwl := xR (l := l) (k := k)
 have htc := uc l (k : Int)
 have hil : (itoa (k : Int)).length ≤ 21 := cy (by unfold aQ; omega)
 have htl : (itoa (lX l (k : Int))).length ≤ 21 := cy (by unfold aQ; omega)
 have hjl := Nu hb (k := k) (by omega)
 refine tz ?_
 refine nz ?_
 refine rM ?_
 refine te ?_
 refine rA ?_ (x := dN)
 refine jI ?_
 refine rA ?_ (x := cL [(false, [sl _ _]), (false, [val _])] [(false, [sl .v _]), (false, [val _])] TK (hs := by exact UP (by omega)))
 refine te ?_
 refine rS ?_
 refine tB ?_
 refine nx (k + 1) (by omega) (e := (by exact aI (by exact congrArg (fun z => some (RV.sc (.string (B z)))) (by rw [CM, Rd Yl]; simp [bl])) (aI (by exact rfl) tI)))
 have hend : k = 4 := by omega
 subst hend
 refine bE ?_
 refine rg ?_
 exact Hn
end Go.Proofs.YtmekkgdboplbjaaGreatDoor
