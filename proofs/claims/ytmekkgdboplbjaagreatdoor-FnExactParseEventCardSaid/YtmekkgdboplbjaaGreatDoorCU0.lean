/- What functions of the program compute. No condition. -/
import Derived.Test.YtmekkgdboplbjaaGreatDoorCT0
set_option linter.all false
namespace Go.Proofs.YtmekkgdboplbjaaGreatDoor
open Go Go.RowKit M PV Tryz
set_option maxRecDepth 10000
attribute [local irreducible] PV.Lcl PV.LclR RV.Lcl
def EB {x : FY}  : aD prog 109 [(true, [val (vI x.Id), val (vI x.Gc), sl .v (x.FZ.map aV), sl .v (x.Out.map ap)])] (ar [(false, [val (.bool (eH x))])]) := by
 refine sF func109 fun h0 w0 Fz0 => ?_
 refine sn 0 2 fun hl0_2 => ?_
 refine sn 0 3 fun hl0_3 => ?_
 refine jd ?_
 refine kq ?_
 refine nj ?_
 refine ft ?_
 refine cx 6 (fun ga sga => ?_) (fun ga sga => ?_)
 refine rB ga ?_ (x := lF gQ)
 refine lj ?_
 refine rM ?_
 refine cx 11 (fun gb sgb => ?_) (fun gb sgb => ?_)
 refine ll ?_
 refine rB gb ?_ (x := lN cz)
 refine rB gb ?_ (x := dC)
 refine cX ?_
 refine cx 17 (fun gc sgc => ?_) (fun gc sgc => ?_)
 refine ni ?_
 refine rB gc ?_ (x := lN da)
 refine rB gc ?_ (x := dC)
 refine rA ?_ (x := aG gc)
 exact mQ
 refine fq ?_
 exact mQ
 refine dr ?_
 refine ai.cases (s := 17) rfl (fun g4 => nomatch g4) (fun g4 => ?_)
 refine lu ?_
 exact mQ
 refine eo ?_
 refine ai.cases (s := 11) rfl (fun g5 => nomatch g5) (fun g5 => ?_)
 refine kl ?_
 refine rM ?_
 refine ai.cases (s := 17) rfl (fun g6 => nomatch g6) (fun g6 => ?_)
 refine kn ?_
 exact mQ
def EC {x : Ga}  : aD prog 108 [(true, [val (vI x.Kind), val (vI x.Row.Id), sl .v (x.Row.Values.map ap), val (vI x.Field), val (vI x.Value)])] (ar [(false, [val (.bool (eI x))])]) := by
 refine sF func108 fun h0 w0 Fz0 => ?_
 refine sn 0 2 fun hl0_2 => ?_
 refine jc ?_
 refine kq ?_
 refine lg ?_
 refine ft ?_
 refine cx 6 (fun ga sga => ?_) (fun ga sga => ?_)
 refine rB ga ?_ (x := lF eJ)
 refine rB ga ?_ (x := lF gk)
 refine lj ?_
 refine rM ?_
 refine cx 12 (fun gb sgb => ?_) (fun gb sgb => ?_)
 refine rB gb ?_ (x := lF eJ)
 refine rB gb ?_ (x := lF ix)
 refine rB gb ?_ (x := lD [sl .v _] fa)
 refine rB gb ?_ (x := lN da)
 refine rB gb ?_ (x := dC)
 refine cX ?_
 refine cx 19 (fun gc sgc => ?_) (fun gc sgc => ?_)
 refine rB gc ?_ (x := lF fz)
 refine ne ?_
 refine eT ?_
 refine cx 24 (fun gd sgd => ?_) (fun gd sgd => ?_)
 refine rB gd ?_ (x := lF gn)
 refine rB gd ?_ (x := lD [val _] aA)
 refine qI ?_
 exact kV
 refine nH ?_
 exact kV
 refine gO ?_
 refine ai.cases (s := 24) rfl (fun g5 => nomatch g5) (fun g5 => ?_)
 refine kl ?_
 exact kV
 refine dr ?_
 refine ai.cases (s := 19) rfl (fun g6 => nomatch g6) (fun g6 => ?_)
 refine kn ?_
 refine rM ?_
 refine ai.cases (s := 24) rfl (fun g7 => nomatch g7) (fun g7 => ?_)
 refine zf g7 ?_
 refine rA ?_ (x := an g7)
 exact kV
 refine eo ?_
 refine ai.cases (s := 12) rfl (fun g8 => nomatch g8) (fun g8 => ?_)
 refine zf g8 ?_
 refine rA ?_ (x := an g8)
 refine rM ?_
 refine ai.cases (s := 19) rfl (fun g9 => nomatch g9) (fun g9 => ?_)
 refine lx ?_
 refine rM ?_
 refine ai.cases (s := 24) rfl (fun g10 => nomatch g10) (fun g10 => ?_)
 refine ls ?_
 exact kV
def ED {x : bM}  : aD prog 40 [(true, [val (vI x.Kind), val (vI x.FY.Id), val (vI x.FY.Gc), sl .v (x.FY.FZ.map aV), sl .v (x.FY.Out.map ap), val (vI x.Limit), val (vI x.Id), val (vI x.Ga.Kind), val (vI x.Ga.Row.Id), sl .v (x.Ga.Row.Values.map ap), val (vI x.Ga.Field), val (vI x.Ga.Value), val (vI x.Steps)])] (ar [(false, [val (.bool (bV x))])]) := by
 refine sF func40 fun h0 w0 Fz0 => ?_
 refine sn 0 3 fun hl0_3 => ?_
 refine sn 0 4 fun hl0_4 => ?_
 refine sn 0 9 fun hl0_9 => ?_
 refine ka ?_
 refine fV ?_
 refine lJ ?_
 refine jp ?_
 refine sc ?_ ?_ <;> intro hba
 refine sS [1, 2, 4] [1] ?_
 refine je ?_
 refine rA ?_ (x := cL [(true, [val _, val _, sl _ _, sl _ _])] [(true, [val _, val _, sl .v _, sl .v _])] wU (hs := by exact yp))
 refine rM ?_
 refine cx 10 (fun ga sga => ?_) (fun ga sga => ?_)
 refine rB ga ?_ (x := lF gR)
 refine pT ?_
 refine lC ?_
 refine cx 15 (fun gb sgb => ?_) (fun gb sgb => ?_)
 refine rB gb ?_ (x := lF eY)
 refine li ?_
 refine cX ?_
 refine cx 20 (fun gc sgc => ?_) (fun gc sgc => ?_)
 refine rB gc ?_ (x := lF jx)
 refine pS ?_
 refine eT ?_
 refine cx 25 (fun gd sgd => ?_) (fun gd sgd => ?_)
 exact pu
 exact mR
 refine gO ?_
 refine ai.cases (s := 25) rfl (fun g6 => nomatch g6) (fun g6 => ?_)
 refine kn ?_
 exact ed
 refine dr ?_
 refine ai.cases (s := 20) rfl (fun g7 => nomatch g7) (fun g7 => ?_)
 refine zf g7 ?_
 refine rA ?_ (x := an g7)
 refine rM ?_
 refine ai.cases (s := 25) rfl (fun g8 => nomatch g8) (fun g8 => ?_)
 refine zf g8 ?_
 refine rA ?_ (x := an g8)
 exact ed
 refine eo ?_
 refine ai.cases (s := 15) rfl (fun g9 => nomatch g9) (fun g9 => ?_)
 refine lx ?_
 refine rM ?_
 refine ai.cases (s := 20) rfl (fun g10 => nomatch g10) (fun g10 => ?_)
 refine ls ?_
 refine rM ?_
 refine ai.cases (s := 25) rfl (fun g11 => nomatch g11) (fun g11 => ?_)
 refine zf g11 ?_
 refine rA ?_ (x := an g11)
 exact ed
 refine jp ?_
 refine sc ?_ ?_ <;> intro hbb
 refine sS [1, 2, 4] [1] ?_
 refine qg ?_
 refine rM ?_
 refine cx 35 (fun ga sga => ?_) (fun ga sga => ?_)
 refine nw ?_
 refine rM ?_
 refine cx 40 (fun gb sgb => ?_) (fun gb sgb => ?_)
 refine rB gb ?_ (x := lF eY)
 refine vE ?_
 refine cX ?_
 refine cx 45 (fun gc sgc => ?_) (fun gc sgc => ?_)
 refine rB gc ?_ (x := lF jx)
 refine pS ?_
 refine eT ?_
 refine cx 50 (fun gd sgd => ?_) (fun gd sgd => ?_)
 exact pu
 exact mR
 refine gO ?_
 refine ai.cases (s := 50) rfl (fun g17 => nomatch g17) (fun g17 => ?_)
 refine nE ?_
 exact ed
 refine dr ?_
 refine ai.cases (s := 45) rfl (fun g18 => nomatch g18) (fun g18 => ?_)
 refine zf g18 ?_
 refine rA ?_ (x := an g18)
 refine rM ?_
 refine ai.cases (s := 50) rfl (fun g19 => nomatch g19) (fun g19 => ?_)
 refine zf g19 ?_
 refine rA ?_ (x := an g19)
 exact ed
 refine eo ?_
 refine ai.cases (s := 40) rfl (fun g20 => nomatch g20) (fun g20 => ?_)
 refine zf g20 ?_
 refine rA ?_ (x := an g20)
 refine rM ?_
 refine ai.cases (s := 45) rfl (fun g21 => nomatch g21) (fun g21 => ?_)
 refine zf g21 ?_
 refine rA ?_ (x := an g21)
 refine rM ?_
 refine ai.cases (s := 50) rfl (fun g22 => nomatch g22) (fun g22 => ?_)
 refine zf g22 ?_
 refine rA ?_ (x := an g22)
 exact ed
 refine jp ?_
 refine sc ?_ ?_ <;> intro hbc
 refine sS [1, 2, 4] [1] ?_
 refine qg ?_
 refine rM ?_
 refine cx 60 (fun ga sga => ?_) (fun ga sga => ?_)
 refine nw ?_
 refine rM ?_
 refine cx 65 (fun gb sgb => ?_) (fun gb sgb => ?_)
 refine rB gb ?_ (x := lF eY)
 refine li ?_
 refine cX ?_
 refine cx 70 (fun gc sgc => ?_) (fun gc sgc => ?_)
 refine rB gc ?_ (x := lF jx)
 refine rB gc ?_ (x := lD [val _, val _, sl .v _, val _, val _] db)
 refine rB gc ?_ (x := cL [(true, [val _, val _, sl _ _, val _, val _])] [(true, [val _, val _, sl .v _, val _, val _])] wR (hs := by exact yq))
 refine eT ?_
 refine cx 75 (fun gd sgd => ?_) (fun gd sgd => ?_)
 exact pu
 exact mR
 refine gO ?_
 refine ai.cases (s := 75) rfl (fun g28 => nomatch g28) (fun g28 => ?_)
 refine zf g28 ?_
 refine rA ?_ (x := an g28)
 exact ed
 refine dr ?_
 refine ai.cases (s := 70) rfl (fun g29 => nomatch g29) (fun g29 => ?_)
 refine zf g29 ?_
 refine rA ?_ (x := an g29)
 refine rM ?_
 refine ai.cases (s := 75) rfl (fun g30 => nomatch g30) (fun g30 => ?_)
 refine zf g30 ?_
 refine rA ?_ (x := an g30)
 exact ed
 refine eo ?_
 refine ai.cases (s := 65) rfl (fun g31 => nomatch g31) (fun g31 => ?_)
 refine zf g31 ?_
 refine rA ?_ (x := an g31)
 refine rM ?_
 refine ai.cases (s := 70) rfl (fun g32 => nomatch g32) (fun g32 => ?_)
 refine zf g32 ?_
 refine rA ?_ (x := an g32)
 refine rM ?_
 refine ai.cases (s := 75) rfl (fun g33 => nomatch g33) (fun g33 => ?_)
 refine zf g33 ?_
 refine rA ?_ (x := an g33)
 exact ed
 refine jp ?_
 refine sc ?_ ?_ <;> intro hbd
 refine sS [1, 2, 4] [1] ?_
 refine qg ?_
 refine rM ?_
 refine cx 85 (fun ga sga => ?_) (fun ga sga => ?_)
 refine nw ?_
 refine rM ?_
 refine cx 90 (fun gb sgb => ?_) (fun gb sgb => ?_)
 refine rB gb ?_ (x := lF eY)
 refine li ?_
 refine cX ?_
 refine cx 95 (fun gc sgc => ?_) (fun gc sgc => ?_)
 refine rB gc ?_ (x := lF jx)
 refine pS ?_
 refine eT ?_
 refine cx 100 (fun gd sgd => ?_) (fun gd sgd => ?_)
 refine qA ?_
 refine rB gd ?_ (x := cL [(false, [val _]), (false, [val _]), (false, [val _])] [(false, [val _]), (false, [val _]), (false, [val _])] jw (hs := by exact jJ))
 refine rA ?_ (x := aG gd)
 exact ed
 exact mR
 refine gO ?_
 refine ai.cases (s := 100) rfl (fun g39 => nomatch g39) (fun g39 => ?_)
 refine zf g39 ?_
 refine rA ?_ (x := an g39)
 exact ed
 refine dr ?_
 refine ai.cases (s := 95) rfl (fun g40 => nomatch g40) (fun g40 => ?_)
 refine zf g40 ?_
 refine rA ?_ (x := an g40)
 refine rM ?_
 refine ai.cases (s := 100) rfl (fun g41 => nomatch g41) (fun g41 => ?_)
 refine zf g41 ?_
 refine rA ?_ (x := an g41)
 exact ed
 refine eo ?_
 refine ai.cases (s := 90) rfl (fun g42 => nomatch g42) (fun g42 => ?_)
 refine zf g42 ?_
 refine rA ?_ (x := an g42)
 refine rM ?_
 refine ai.cases (s := 95) rfl (fun g43 => nomatch g43) (fun g43 => ?_)
 refine zf g43 ?_
 refine rA ?_ (x := an g43)
 refine rM ?_
 refine ai.cases (s := 100) rfl (fun g44 => nomatch g44) (fun g44 => ?_)
 refine zf g44 ?_
 refine rA ?_ (x := an g44)
 exact ed
 refine aK ?_
 refine sS [1, 2, 4] [1] ?_
 refine rK ?_
 exact uj
def yr {x : bM}  : aD prog 41 [(true, [val (vI x.Kind), val (vI x.FY.Id), val (vI x.FY.Gc), sl .v (x.FY.FZ.map aV), sl .v (x.FY.Out.map ap), val (vI x.Limit), val (vI x.Id), val (vI x.Ga.Kind), val (vI x.Ga.Row.Id), sl .v (x.Ga.Row.Values.map ap), val (vI x.Ga.Field), val (vI x.Ga.Value), val (vI x.Steps)])] (ar [(false, [val (.bool (bV x))])]) := by
 refine sF func41 fun h0 w0 Fz0 => ?_
 refine sn 0 3 fun hl0_3 => ?_
 refine sn 0 4 fun hl0_4 => ?_
 refine sn 0 9 fun hl0_9 => ?_
 refine ka ?_
 refine kq ?_
 refine je ?_
 refine rA ?_ (x := cK (qs := []) (cs := [val _, val _, sl _ _, sl _ _]) (by decide) iy iB BB (by exact rfl) (by exact tI) rfl (by exact rfl))
 refine rA ?_ (x := cL [(true, [val _, val _, sl _ _, sl _ _]), (true, [val _, val _, sl _ _, sl _ _])] [(true, [val _, val _, sl .v _, sl .v _]), (true, [val _, val _, sl .v _, sl .v _])] Bf (hs := by exact (Ez (x := x.FY) (y := ⟨0, 0, [], []⟩))))
 refine rM ?_
 refine cx 9 (fun ga sga => ?_) (fun ga sga => ?_)
 refine nw ?_
 refine rS ?_
 refine sS [1, 2, 3] [1] ?_
 refine ii ?_
 refine vj ?_
 refine bZ ?_
 refine sS [1, 2, 3, 4] [1] ?_
 refine lJ ?_
 refine il ?_
 refine sc ?_ ?_ <;> intro hba
 refine sS [1, 2, 3, 4, 19] [1] ?_
 refine wi ?_
 refine rM ?_
 refine cx 25 (fun gb sgb => ?_) (fun gb sgb => ?_)
 refine rB gb ?_ (x := lF gR)
 refine vD ?_
 refine cX ?_
 refine cx 30 (fun gc sgc => ?_) (fun gc sgc => ?_)
 refine ny ?_
 refine eT ?_
 refine cx 35 (fun gd sgd => ?_) (fun gd sgd => ?_)
 exact ul
 refine ln ?_
 refine rM ?_
 refine ai.cases (s := 38) rfl (fun g7 => nomatch g7) (fun g7 => ?_)
 refine zf g7 ?_
 refine rA ?_ (x := an g7)
 exact cf
 refine gO ?_
 refine ai.cases (s := 35) rfl (fun g8 => nomatch g8) (fun g8 => ?_)
 refine ai.s0f g8 ?_
 refine rA ?_ (x := an g8)
 refine rM ?_
 refine ai.cases (s := 38) rfl (fun g9 => nomatch g9) (fun g9 => ?_)
 refine lx ?_
 exact cf
 refine dr ?_
 refine ai.cases (s := 30) rfl (fun g10 => nomatch g10) (fun g10 => ?_)
 refine ls ?_
 refine rM ?_
 refine ai.cases (s := 35) rfl (fun g11 => nomatch g11) (fun g11 => ?_)
 refine ai.s0f g11 ?_
 refine rA ?_ (x := an g11)
 refine rM ?_
 refine ai.cases (s := 38) rfl (fun g12 => nomatch g12) (fun g12 => ?_)
 refine zf g12 ?_
 refine rA ?_ (x := an g12)
 exact cf
 refine il ?_
 refine sc ?_ ?_ <;> intro hbb
 refine sS [1, 2, 3, 4, 19] [1] ?_
 refine rA ?_ (x := lF eY)
 refine jb ?_
 refine rM ?_
 refine cx 48 (fun gb sgb => ?_) (fun gb sgb => ?_)
 refine ko ?_
 refine cx 51 (fun gc sgc => ?_) (fun gc sgc => ?_)
 refine rB gc ?_ (x := sM)
 refine eT ?_
 refine cx 54 (fun gd sgd => ?_) (fun gd sgd => ?_)
 exact um
 refine nH ?_
 exact cf
 refine ai.s0f gc ?_
 refine rA ?_ (x := an gc)
 refine rM ?_
 refine ai.cases (s := 54) rfl (fun g17 => nomatch g17) (fun g17 => ?_)
 refine nE ?_
 exact cf
 refine kr ?_
 refine ai.cases (s := 51) rfl (fun g18 => nomatch g18) (fun g18 => ?_)
 refine ai.s0f g18 ?_
 refine rA ?_ (x := an g18)
 refine rM ?_
 refine ai.cases (s := 54) rfl (fun g19 => nomatch g19) (fun g19 => ?_)
 refine zf g19 ?_
 refine rA ?_ (x := an g19)
 exact cf
 refine il ?_
 refine sc ?_ ?_ <;> intro hbc
 refine sS [1, 2, 3, 4, 19] [1] ?_
 refine vZ ?_
 refine rM ?_
 refine cx 64 (fun gb sgb => ?_) (fun gb sgb => ?_)
 refine ko ?_
 refine cx 67 (fun gc sgc => ?_) (fun gc sgc => ?_)
 refine ny ?_
 refine eT ?_
 refine cx 72 (fun gd sgd => ?_) (fun gd sgd => ?_)
 exact um
 refine nH ?_
 exact cf
 refine gO ?_
 refine ai.cases (s := 72) rfl (fun g24 => nomatch g24) (fun g24 => ?_)
 refine zf g24 ?_
 refine rA ?_ (x := an g24)
 exact cf
 refine kr ?_
 refine ai.cases (s := 67) rfl (fun g25 => nomatch g25) (fun g25 => ?_)
 refine zf g25 ?_
 refine rA ?_ (x := an g25)
 refine rM ?_
 refine ai.cases (s := 72) rfl (fun g26 => nomatch g26) (fun g26 => ?_)
 refine zf g26 ?_
 refine rA ?_ (x := an g26)
 exact cf
 refine il ?_
 refine sc ?_ ?_ <;> intro hbd
 refine sS [1, 2, 3, 4, 19] [1] ?_
 refine rA ?_ (x := lF gS)
 refine jb ?_
 refine rM ?_
 refine cx 82 (fun gb sgb => ?_) (fun gb sgb => ?_)
 refine ko ?_
 refine cx 85 (fun gc sgc => ?_) (fun gc sgc => ?_)
 refine ny ?_
 refine eT ?_
 refine cx 90 (fun gd sgd => ?_) (fun gd sgd => ?_)
 refine nr ?_
 exact cf
 refine ln ?_
 exact cf
 refine gO ?_
 refine ai.cases (s := 90) rfl (fun g31 => nomatch g31) (fun g31 => ?_)
 refine ai.s0f g31 ?_
 refine rA ?_ (x := an g31)
 exact cf
 refine kr ?_
 refine ai.cases (s := 85) rfl (fun g32 => nomatch g32) (fun g32 => ?_)
 refine zf g32 ?_
 refine rA ?_ (x := an g32)
 refine rM ?_
 refine ai.cases (s := 90) rfl (fun g33 => nomatch g33) (fun g33 => ?_)
 refine ai.s0f g33 ?_
 refine rA ?_ (x := an g33)
 exact cf
 exact un
 refine fp ?_
 refine rS ?_
 refine sS [1, 2, 3] [1] ?_
 refine ii ?_
 refine vj ?_
 refine bZ ?_
 refine sS [1, 2, 3, 4] [1] ?_
 refine lJ ?_
 refine il ?_
 refine sc ?_ ?_ <;> intro hba
 refine sS [1, 2, 3, 4, 19] [1] ?_
 refine wi ?_
 refine rM ?_
 refine cx 25 (fun gb sgb => ?_) (fun gb sgb => ?_)
 refine rB gb ?_ (x := lF gR)
 refine vD ?_
 refine cX ?_
 refine cx 30 (fun gc sgc => ?_) (fun gc sgc => ?_)
 refine ny ?_
 refine eT ?_
 refine cx 35 (fun gd sgd => ?_) (fun gd sgd => ?_)
 exact ul
 refine ln ?_
 refine rM ?_
 refine ai.cases (s := 38) rfl (fun g39 => nomatch g39) (fun g39 => ?_)
 refine zf g39 ?_
 refine rA ?_ (x := an g39)
 exact cf
 refine gO ?_
 refine ai.cases (s := 35) rfl (fun g40 => nomatch g40) (fun g40 => ?_)
 refine ai.s0f g40 ?_
 refine rA ?_ (x := an g40)
 refine rM ?_
 refine ai.cases (s := 38) rfl (fun g41 => nomatch g41) (fun g41 => ?_)
 refine zf g41 ?_
 refine rA ?_ (x := an g41)
 exact cf
 refine dr ?_
 refine ai.cases (s := 30) rfl (fun g42 => nomatch g42) (fun g42 => ?_)
 refine zf g42 ?_
 refine rA ?_ (x := an g42)
 refine rM ?_
 refine ai.cases (s := 35) rfl (fun g43 => nomatch g43) (fun g43 => ?_)
 refine ai.s0f g43 ?_
 refine rA ?_ (x := an g43)
 refine rM ?_
 refine ai.cases (s := 38) rfl (fun g44 => nomatch g44) (fun g44 => ?_)
 refine zf g44 ?_
 refine rA ?_ (x := an g44)
 exact cf
 refine il ?_
 refine sc ?_ ?_ <;> intro hbb
 refine sS [1, 2, 3, 4, 19] [1] ?_
 refine rA ?_ (x := lF eY)
 refine jb ?_
 refine rM ?_
 refine cx 48 (fun gb sgb => ?_) (fun gb sgb => ?_)
 refine ko ?_
 refine ai.cases (s := 51) rfl (fun g47 => nomatch g47) (fun g47 => ?_)
 refine ai.s0f g47 ?_
 refine rA ?_ (x := an g47)
 refine rM ?_
 refine ai.cases (s := 54) rfl (fun g48 => nomatch g48) (fun g48 => ?_)
 refine zf g48 ?_
 refine rA ?_ (x := an g48)
 exact cf
 refine kr ?_
 refine ai.cases (s := 51) rfl (fun g49 => nomatch g49) (fun g49 => ?_)
 refine ai.s0f g49 ?_
 refine rA ?_ (x := an g49)
 refine rM ?_
 refine ai.cases (s := 54) rfl (fun g50 => nomatch g50) (fun g50 => ?_)
 refine zf g50 ?_
 refine rA ?_ (x := an g50)
 exact cf
 refine il ?_
 refine sc ?_ ?_ <;> intro hbc
 refine sS [1, 2, 3, 4, 19] [1] ?_
 refine vZ ?_
 refine rM ?_
 refine cx 64 (fun gb sgb => ?_) (fun gb sgb => ?_)
 refine ko ?_
 refine ai.cases (s := 67) rfl (fun g53 => nomatch g53) (fun g53 => ?_)
 refine zf g53 ?_
 refine rA ?_ (x := an g53)
 refine rM ?_
 refine ai.cases (s := 72) rfl (fun g54 => nomatch g54) (fun g54 => ?_)
 refine zf g54 ?_
 refine rA ?_ (x := an g54)
 exact cf
 refine kr ?_
 refine ai.cases (s := 67) rfl (fun g55 => nomatch g55) (fun g55 => ?_)
 refine zf g55 ?_
 refine rA ?_ (x := an g55)
 refine rM ?_
 refine ai.cases (s := 72) rfl (fun g56 => nomatch g56) (fun g56 => ?_)
 refine zf g56 ?_
 refine rA ?_ (x := an g56)
 exact cf
 refine il ?_
 refine sc ?_ ?_ <;> intro hbd
 refine sS [1, 2, 3, 4, 19] [1] ?_
 refine rA ?_ (x := lF gS)
 refine jb ?_
 refine rM ?_
 refine cx 82 (fun gb sgb => ?_) (fun gb sgb => ?_)
 refine ko ?_
 refine ai.cases (s := 85) rfl (fun g59 => nomatch g59) (fun g59 => ?_)
 refine zf g59 ?_
 refine rA ?_ (x := an g59)
 refine rM ?_
 refine ai.cases (s := 90) rfl (fun g60 => nomatch g60) (fun g60 => ?_)
 refine ai.s0f g60 ?_
 refine rA ?_ (x := an g60)
 exact cf
 refine kr ?_
 refine ai.cases (s := 85) rfl (fun g61 => nomatch g61) (fun g61 => ?_)
 refine zf g61 ?_
 refine rA ?_ (x := an g61)
 refine rM ?_
 refine ai.cases (s := 90) rfl (fun g62 => nomatch g62) (fun g62 => ?_)
 refine ai.s0f g62 ?_
 refine rA ?_ (x := an g62)
 exact cf
 exact un
end Go.Proofs.YtmekkgdboplbjaaGreatDoor
