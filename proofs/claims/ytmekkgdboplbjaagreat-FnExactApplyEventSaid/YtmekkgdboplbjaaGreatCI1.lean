/- What functions of the program compute. No condition. -/
import Derived.Test.YtmekkgdboplbjaaGreatCH1
set_option linter.all false
namespace Go.Proofs.YtmekkgdboplbjaaGreat
open Go Go.RowKit M PV Tryz
set_option maxRecDepth 10000
attribute [local irreducible] PV.Lcl PV.LclR RV.Lcl
def VZ {x : Wt}  : aC prog 193 [(true, [val (vI x.Id), val (vI x.Wx), sl .v (x.Wu.map bf), sl .v (x.Out.map ak)])] (az [(false, [val (.bool (kb x))])]) := by
 refine sF func193 fun h0 w0 Fz0 => ?_
 refine sn 0 2 fun hl0_2 => ?_
 refine sn 0 3 fun hl0_3 => ?_
 refine mw ?_
 refine lH ?_
 refine rA ?_ (x := lF e8)
 refine pB ?_
 refine cx 6 (fun ga sga => ?_) (fun ga sga => ?_)
 refine rB ga ?_ (x := lF i5)
 refine nK ?_
 refine gk ?_
 refine cx 11 (fun gb sgb => ?_) (fun gb sgb => ?_)
 refine sN ?_
 refine rB gb ?_ (x := lN dZ)
 refine rB gb ?_ (x := d4)
 refine gj ?_
 refine cx 17 (fun gc sgc => ?_) (fun gc sgc => ?_)
 refine vi ?_
 refine rB gc ?_ (x := lN bC)
 refine rB gc ?_ (x := d4)
 refine rA ?_ (x := aR gc)
 exact uw
 refine nL ?_
 exact uw
 refine fQ ?_
 refine aq.cases (s := 17) rfl (fun g4 => nomatch g4) (fun g4 => ?_)
 refine qR ?_
 exact uw
 refine gA ?_
 refine aq.cases (s := 11) rfl (fun g5 => nomatch g5) (fun g5 => ?_)
 refine qS ?_
 refine rM ?_
 refine aq.cases (s := 17) rfl (fun g6 => nomatch g6) (fun g6 => ?_)
 refine pk ?_
 exact uw
def V0 {x : Wv}  : aC prog 192 [(true, [val (vI x.Kind), val (vI x.Row.Id), sl .v (x.Row.Values.map ak), val (vI x.Field), val (vI x.Value)])] (az [(false, [val (.bool (kc x))])]) := by
 refine sF func192 fun h0 w0 Fz0 => ?_
 refine sn 0 2 fun hl0_2 => ?_
 refine qG ?_
 refine lH ?_
 refine nQ ?_
 refine rM ?_
 refine cx 6 (fun ga sga => ?_) (fun ga sga => ?_)
 refine rB ga ?_ (x := lF gF)
 refine rB ga ?_ (x := lF jw)
 refine nK ?_
 refine gk ?_
 refine cx 12 (fun gb sgb => ?_) (fun gb sgb => ?_)
 refine rB gb ?_ (x := lF gF)
 refine rB gb ?_ (x := lF gY)
 refine rB gb ?_ (x := lD [sl .v _] bq)
 refine rB gb ?_ (x := lN bC)
 refine rB gb ?_ (x := d4)
 refine gj ?_
 refine cx 19 (fun gc sgc => ?_) (fun gc sgc => ?_)
 refine rB gc ?_ (x := lF lS)
 refine u6 ?_
 refine iw ?_
 refine cx 24 (fun gd sgd => ?_) (fun gd sgd => ?_)
 refine rB gd ?_ (x := lF mP)
 refine zW ?_
 refine rA ?_ (x := aR gd)
 exact sf
 refine pn ?_
 exact sf
 refine kH ?_
 refine aq.cases (s := 24) rfl (fun g5 => nomatch g5) (fun g5 => ?_)
 refine qS ?_
 exact sf
 refine fQ ?_
 refine aq.cases (s := 19) rfl (fun g6 => nomatch g6) (fun g6 => ?_)
 refine pk ?_
 refine rM ?_
 refine aq.cases (s := 24) rfl (fun g7 => nomatch g7) (fun g7 => ?_)
 refine s5 ?_
 exact sf
 refine gA ?_
 refine aq.cases (s := 12) rfl (fun g8 => nomatch g8) (fun g8 => ?_)
 refine zf g8 ?_
 refine rA ?_ (x := aK g8)
 refine rM ?_
 refine aq.cases (s := 19) rfl (fun g9 => nomatch g9) (fun g9 => ?_)
 refine pm ?_
 refine rM ?_
 refine aq.cases (s := 24) rfl (fun g10 => nomatch g10) (fun g10 => ?_)
 refine pj ?_
 exact sf
def V1 {x : eH}  : aC prog 86 [(true, [val (vI x.Kind), val (vI x.Wt.Id), val (vI x.Wt.Wx), sl .v (x.Wt.Wu.map bf), sl .v (x.Wt.Out.map ak), val (vI x.Limit), val (vI x.Id), val (vI x.Wv.Kind), val (vI x.Wv.Row.Id), sl .v (x.Wv.Row.Values.map ak), val (vI x.Wv.Field), val (vI x.Wv.Value), val (vI x.Steps)])] (az [(false, [val (.bool (eQ x))])]) := by
 refine sF func86 fun h0 w0 Fz0 => ?_
 refine sn 0 3 fun hl0_3 => ?_
 refine sn 0 4 fun hl0_4 => ?_
 refine sn 0 9 fun hl0_9 => ?_
 refine so ?_
 refine kD ?_
 refine s2 ?_
 refine po ?_
 refine sc (fun hba => ?_) (fun hba => ?_)
 refine sS [1, 2, 4] [1] ?_
 refine nI ?_
 refine Ih ?_
 refine cx 10 (fun ga sga => ?_) (fun ga sga => ?_)
 refine rB ga ?_ (x := lF pM)
 refine si ?_
 refine gk ?_
 refine cx 15 (fun gb sgb => ?_) (fun gb sgb => ?_)
 refine rB gb ?_ (x := lF lT)
 refine pe ?_
 refine gj ?_
 refine cx 20 (fun gc sgc => ?_) (fun gc sgc => ?_)
 refine rB gc ?_ (x := lF pN)
 refine yJ ?_
 refine iw ?_
 refine cx 25 (fun gd sgd => ?_) (fun gd sgd => ?_)
 exact yj
 exact ux
 refine kH ?_
 refine aq.cases (s := 25) rfl (fun g6 => nomatch g6) (fun g6 => ?_)
 refine pk ?_
 exact iS
 refine fQ ?_
 refine aq.cases (s := 20) rfl (fun g7 => nomatch g7) (fun g7 => ?_)
 refine s5 ?_
 refine rM ?_
 refine aq.cases (s := 25) rfl (fun g8 => nomatch g8) (fun g8 => ?_)
 refine zf g8 ?_
 refine rA ?_ (x := aK g8)
 exact iS
 refine gA ?_
 refine aq.cases (s := 15) rfl (fun g9 => nomatch g9) (fun g9 => ?_)
 refine pm ?_
 refine rM ?_
 refine aq.cases (s := 20) rfl (fun g10 => nomatch g10) (fun g10 => ?_)
 refine pj ?_
 refine rM ?_
 refine aq.cases (s := 25) rfl (fun g11 => nomatch g11) (fun g11 => ?_)
 refine vK ?_
 exact iS
 refine po ?_
 refine sc (fun hbb => ?_) (fun hbb => ?_)
 refine sS [1, 2, 4] [1] ?_
 refine y8 ?_
 refine rM ?_
 refine cx 35 (fun ga sga => ?_) (fun ga sga => ?_)
 refine vC ?_
 refine gk ?_
 refine cx 40 (fun gb sgb => ?_) (fun gb sgb => ?_)
 refine rB gb ?_ (x := lF lT)
 refine rB gb ?_ (x := lD [val _] au)
 refine yU ?_
 refine cx 45 (fun gc sgc => ?_) (fun gc sgc => ?_)
 refine rB gc ?_ (x := lF pN)
 refine yJ ?_
 refine iw ?_
 refine cx 50 (fun gd sgd => ?_) (fun gd sgd => ?_)
 exact yj
 exact ux
 refine kH ?_
 refine aq.cases (s := 50) rfl (fun g17 => nomatch g17) (fun g17 => ?_)
 refine qQ ?_
 exact iS
 refine fQ ?_
 refine aq.cases (s := 45) rfl (fun g18 => nomatch g18) (fun g18 => ?_)
 refine vO ?_
 refine rM ?_
 refine aq.cases (s := 50) rfl (fun g19 => nomatch g19) (fun g19 => ?_)
 refine s3 ?_
 exact iS
 refine gA ?_
 refine aq.cases (s := 40) rfl (fun g20 => nomatch g20) (fun g20 => ?_)
 refine vL ?_
 refine rM ?_
 refine aq.cases (s := 45) rfl (fun g21 => nomatch g21) (fun g21 => ?_)
 refine zf g21 ?_
 refine rA ?_ (x := aK g21)
 refine rM ?_
 refine aq.cases (s := 50) rfl (fun g22 => nomatch g22) (fun g22 => ?_)
 refine zf g22 ?_
 refine rA ?_ (x := aK g22)
 exact iS
 refine po ?_
 refine sc (fun hbc => ?_) (fun hbc => ?_)
 refine sS [1, 2, 4] [1] ?_
 refine y8 ?_
 refine rM ?_
 refine cx 60 (fun ga sga => ?_) (fun ga sga => ?_)
 refine vC ?_
 refine gk ?_
 refine cx 65 (fun gb sgb => ?_) (fun gb sgb => ?_)
 refine rB gb ?_ (x := lF lT)
 refine pe ?_
 refine gj ?_
 refine cx 70 (fun gc sgc => ?_) (fun gc sgc => ?_)
 refine rB gc ?_ (x := lF pN)
 refine rB gc ?_ (x := lD [val _, val _, sl .v _, val _, val _] kg)
 refine rB gc ?_ (x := cL [(true, [val _, val _, sl _ _, val _, val _])] [(true, [val _, val _, sl .v _, val _, val _])] Jw (hs := by exact Lc))
 refine iw ?_
 refine cx 75 (fun gd sgd => ?_) (fun gd sgd => ?_)
 exact yj
 exact ux
 refine kH ?_
 refine aq.cases (s := 75) rfl (fun g28 => nomatch g28) (fun g28 => ?_)
 refine zf g28 ?_
 refine rA ?_ (x := aK g28)
 exact iS
 refine fQ ?_
 refine aq.cases (s := 70) rfl (fun g29 => nomatch g29) (fun g29 => ?_)
 refine zf g29 ?_
 refine rA ?_ (x := aK g29)
 refine rM ?_
 refine aq.cases (s := 75) rfl (fun g30 => nomatch g30) (fun g30 => ?_)
 refine zf g30 ?_
 refine rA ?_ (x := aK g30)
 exact iS
 refine gA ?_
 refine aq.cases (s := 65) rfl (fun g31 => nomatch g31) (fun g31 => ?_)
 refine zf g31 ?_
 refine rA ?_ (x := aK g31)
 refine rM ?_
 refine aq.cases (s := 70) rfl (fun g32 => nomatch g32) (fun g32 => ?_)
 refine zf g32 ?_
 refine rA ?_ (x := aK g32)
 refine rM ?_
 refine aq.cases (s := 75) rfl (fun g33 => nomatch g33) (fun g33 => ?_)
 refine zf g33 ?_
 refine rA ?_ (x := aK g33)
 exact iS
 refine po ?_
 refine sc (fun hbd => ?_) (fun hbd => ?_)
 refine sS [1, 2, 4] [1] ?_
 refine y8 ?_
 refine rM ?_
 refine cx 85 (fun ga sga => ?_) (fun ga sga => ?_)
 refine vC ?_
 refine gk ?_
 refine cx 90 (fun gb sgb => ?_) (fun gb sgb => ?_)
 refine rB gb ?_ (x := lF lT)
 refine pe ?_
 refine gj ?_
 refine cx 95 (fun gc sgc => ?_) (fun gc sgc => ?_)
 refine rB gc ?_ (x := lF pN)
 refine yJ ?_
 refine iw ?_
 refine cx 100 (fun gd sgd => ?_) (fun gd sgd => ?_)
 refine rB gd ?_ (x := lF mQ)
 refine yO ?_
 refine rA ?_ (x := aR gd)
 exact iS
 exact ux
 refine kH ?_
 refine aq.cases (s := 100) rfl (fun g39 => nomatch g39) (fun g39 => ?_)
 refine zf g39 ?_
 refine rA ?_ (x := aK g39)
 exact iS
 refine fQ ?_
 refine aq.cases (s := 95) rfl (fun g40 => nomatch g40) (fun g40 => ?_)
 refine zf g40 ?_
 refine rA ?_ (x := aK g40)
 refine rM ?_
 refine aq.cases (s := 100) rfl (fun g41 => nomatch g41) (fun g41 => ?_)
 refine zf g41 ?_
 refine rA ?_ (x := aK g41)
 exact iS
 refine gA ?_
 refine aq.cases (s := 90) rfl (fun g42 => nomatch g42) (fun g42 => ?_)
 refine zf g42 ?_
 refine rA ?_ (x := aK g42)
 refine rM ?_
 refine aq.cases (s := 95) rfl (fun g43 => nomatch g43) (fun g43 => ?_)
 refine zf g43 ?_
 refine rA ?_ (x := aK g43)
 refine rM ?_
 refine aq.cases (s := 100) rfl (fun g44 => nomatch g44) (fun g44 => ?_)
 refine zf g44 ?_
 refine rA ?_ (x := aK g44)
 exact iS
 refine bl ?_
 refine sS [1, 2, 4] [1] ?_
 refine rK ?_
 exact FY
def V2 {x : eH}  : aC prog 82 [(true, [val (vI x.Kind), val (vI x.Wt.Id), val (vI x.Wt.Wx), sl .v (x.Wt.Wu.map bf), sl .v (x.Wt.Out.map ak), val (vI x.Limit), val (vI x.Id), val (vI x.Wv.Kind), val (vI x.Wv.Row.Id), sl .v (x.Wv.Row.Values.map ak), val (vI x.Wv.Field), val (vI x.Wv.Value), val (vI x.Steps)])] (az [(false, [val (.bool (eQ x))])]) := by
 refine sF func82 fun h0 w0 Fz0 => ?_
 refine sn 0 3 fun hl0_3 => ?_
 refine sn 0 4 fun hl0_4 => ?_
 refine sn 0 9 fun hl0_9 => ?_
 refine so ?_
 refine lH ?_
 refine nI ?_
 refine rA ?_ (x := eV (qs := []) (cs := [val _, val _, sl _ _, sl _ _]) (by decide) lZ tv Qu (by exact rfl) (by exact tI) rfl (by exact rfl))
 refine rA ?_ (x := cL [(true, [val _, val _, sl _ _, sl _ _]), (true, [val _, val _, sl _ _, sl _ _])] [(true, [val _, val _, sl .v _, sl .v _]), (true, [val _, val _, sl .v _, sl .v _])] Pd (hs := by exact (VX (x := x.Wt) (y := ⟨0, 0, [], []⟩))))
 refine rM ?_
 refine cx 9 (fun ga sga => ?_) (fun ga sga => ?_)
 refine vC ?_
 refine rA ?_ (x := aR ga)
 refine rS ?_
 refine sS [1, 2, 3] [1] ?_
 refine pd ?_
 refine Gz ?_
 refine fA ?_
 refine sS [1, 2, 3, 4] [1] ?_
 refine s2 ?_
 refine nO ?_
 refine sc (fun hba => ?_) (fun hba => ?_)
 refine sS [1, 2, 3, 4, 19] [1] ?_
 refine Ib ?_
 refine rM ?_
 refine cx 25 (fun gb sgb => ?_) (fun gb sgb => ?_)
 refine rB gb ?_ (x := lF pM)
 refine uK ?_
 refine gj ?_
 refine cx 30 (fun gc sgc => ?_) (fun gc sgc => ?_)
 refine vD ?_
 refine iw ?_
 refine cx 35 (fun gd sgd => ?_) (fun gd sgd => ?_)
 exact F0
 refine aq.s0f gd ?_
 refine tc ?_
 refine aq.cases (s := 38) rfl (fun g7 => nomatch g7) (fun g7 => ?_)
 refine s5 ?_
 exact eN
 refine kH ?_
 refine aq.cases (s := 35) rfl (fun g8 => nomatch g8) (fun g8 => ?_)
 refine aq.s0f g8 ?_
 refine rA ?_ (x := aK g8)
 refine rM ?_
 refine aq.cases (s := 38) rfl (fun g9 => nomatch g9) (fun g9 => ?_)
 refine pm ?_
 exact eN
 refine fQ ?_
 refine aq.cases (s := 30) rfl (fun g10 => nomatch g10) (fun g10 => ?_)
 refine pj ?_
 refine rM ?_
 refine aq.cases (s := 35) rfl (fun g11 => nomatch g11) (fun g11 => ?_)
 refine aq.s0f g11 ?_
 refine rA ?_ (x := aK g11)
 refine rM ?_
 refine aq.cases (s := 38) rfl (fun g12 => nomatch g12) (fun g12 => ?_)
 refine zf g12 ?_
 refine rA ?_ (x := aK g12)
 exact eN
 refine nO ?_
 refine sc (fun hbb => ?_) (fun hbb => ?_)
 refine sS [1, 2, 3, 4, 19] [1] ?_
 refine rA ?_ (x := lF lT)
 refine pA ?_
 refine cx 48 (fun gb sgb => ?_) (fun gb sgb => ?_)
 refine ra ?_
 refine cx 51 (fun gc sgc => ?_) (fun gc sgc => ?_)
 refine rB gc ?_ (x := sM)
 refine iw ?_
 refine cx 54 (fun gd sgd => ?_) (fun gd sgd => ?_)
 exact F5
 refine pn ?_
 exact eN
 refine aq.s0f gc ?_
 refine tb ?_
 refine aq.cases (s := 54) rfl (fun g17 => nomatch g17) (fun g17 => ?_)
 refine qQ ?_
 exact eN
 refine re ?_
 refine aq.cases (s := 51) rfl (fun g18 => nomatch g18) (fun g18 => ?_)
 refine aq.s0f g18 ?_
 refine rA ?_ (x := aK g18)
 refine rM ?_
 refine aq.cases (s := 54) rfl (fun g19 => nomatch g19) (fun g19 => ?_)
 refine s3 ?_
 exact eN
 refine nO ?_
 refine sc (fun hbc => ?_) (fun hbc => ?_)
 refine sS [1, 2, 3, 4, 19] [1] ?_
 refine HZ ?_
 refine rM ?_
 refine cx 64 (fun gb sgb => ?_) (fun gb sgb => ?_)
 refine ra ?_
 refine cx 67 (fun gc sgc => ?_) (fun gc sgc => ?_)
 refine vD ?_
 refine iw ?_
 refine cx 72 (fun gd sgd => ?_) (fun gd sgd => ?_)
 exact F5
 refine pn ?_
 exact eN
 refine kH ?_
 refine aq.cases (s := 72) rfl (fun g24 => nomatch g24) (fun g24 => ?_)
 refine zf g24 ?_
 refine rA ?_ (x := aK g24)
 exact eN
 refine re ?_
 refine aq.cases (s := 67) rfl (fun g25 => nomatch g25) (fun g25 => ?_)
 refine zf g25 ?_
 refine rA ?_ (x := aK g25)
 refine rM ?_
 refine aq.cases (s := 72) rfl (fun g26 => nomatch g26) (fun g26 => ?_)
 refine zf g26 ?_
 refine rA ?_ (x := aK g26)
 exact eN
 refine nO ?_
 refine sc (fun hbd => ?_) (fun hbd => ?_)
 refine sS [1, 2, 3, 4, 19] [1] ?_
 refine rA ?_ (x := lF mQ)
 refine pA ?_
 refine cx 82 (fun gb sgb => ?_) (fun gb sgb => ?_)
 refine ra ?_
 refine cx 85 (fun gc sgc => ?_) (fun gc sgc => ?_)
 refine vD ?_
 refine iw ?_
 refine cx 90 (fun gd sgd => ?_) (fun gd sgd => ?_)
 refine rB gd ?_ (x := sM)
 refine rA ?_ (x := aR gd)
 exact eN
 refine aq.s0f gd ?_
 refine rA ?_ (x := aK gd)
 exact eN
 refine kH ?_
 refine aq.cases (s := 90) rfl (fun g31 => nomatch g31) (fun g31 => ?_)
 refine aq.s0f g31 ?_
 refine rA ?_ (x := aK g31)
 exact eN
 refine re ?_
 refine aq.cases (s := 85) rfl (fun g32 => nomatch g32) (fun g32 => ?_)
 refine zf g32 ?_
 refine rA ?_ (x := aK g32)
 refine rM ?_
 refine aq.cases (s := 90) rfl (fun g33 => nomatch g33) (fun g33 => ?_)
 refine aq.s0f g33 ?_
 refine rA ?_ (x := aK g33)
 exact eN
 exact F6
 refine lu ?_
 refine rS ?_
 refine sS [1, 2, 3] [1] ?_
 refine pd ?_
 refine Gz ?_
 refine fA ?_
 refine sS [1, 2, 3, 4] [1] ?_
 refine s2 ?_
 refine nO ?_
 refine sc (fun hba => ?_) (fun hba => ?_)
 refine sS [1, 2, 3, 4, 19] [1] ?_
 refine Ib ?_
 refine rM ?_
 refine cx 25 (fun gb sgb => ?_) (fun gb sgb => ?_)
 refine rB gb ?_ (x := lF pM)
 refine uK ?_
 refine gj ?_
 refine cx 30 (fun gc sgc => ?_) (fun gc sgc => ?_)
 refine vD ?_
 refine iw ?_
 refine cx 35 (fun gd sgd => ?_) (fun gd sgd => ?_)
 exact F0
 refine aq.s0f gd ?_
 refine tc ?_
 refine aq.cases (s := 38) rfl (fun g39 => nomatch g39) (fun g39 => ?_)
 refine zf g39 ?_
 refine rA ?_ (x := aK g39)
 exact eN
 refine kH ?_
 refine aq.cases (s := 35) rfl (fun g40 => nomatch g40) (fun g40 => ?_)
 refine aq.s0f g40 ?_
 refine rA ?_ (x := aK g40)
 refine rM ?_
 refine aq.cases (s := 38) rfl (fun g41 => nomatch g41) (fun g41 => ?_)
 refine zf g41 ?_
 refine rA ?_ (x := aK g41)
 exact eN
 refine fQ ?_
 refine aq.cases (s := 30) rfl (fun g42 => nomatch g42) (fun g42 => ?_)
 refine zf g42 ?_
 refine rA ?_ (x := aK g42)
 refine rM ?_
 refine aq.cases (s := 35) rfl (fun g43 => nomatch g43) (fun g43 => ?_)
 refine aq.s0f g43 ?_
 refine rA ?_ (x := aK g43)
 refine rM ?_
 refine aq.cases (s := 38) rfl (fun g44 => nomatch g44) (fun g44 => ?_)
 refine zf g44 ?_
 refine rA ?_ (x := aK g44)
 exact eN
 refine nO ?_
 refine sc (fun hbb => ?_) (fun hbb => ?_)
 refine sS [1, 2, 3, 4, 19] [1] ?_
 refine rA ?_ (x := lF lT)
 refine pA ?_
 refine cx 48 (fun gb sgb => ?_) (fun gb sgb => ?_)
 refine ra ?_
 refine aq.cases (s := 51) rfl (fun g47 => nomatch g47) (fun g47 => ?_)
 refine aq.s0f g47 ?_
 refine rA ?_ (x := aK g47)
 refine rM ?_
 refine aq.cases (s := 54) rfl (fun g48 => nomatch g48) (fun g48 => ?_)
 refine zf g48 ?_
 refine rA ?_ (x := aK g48)
 exact eN
 refine re ?_
 refine aq.cases (s := 51) rfl (fun g49 => nomatch g49) (fun g49 => ?_)
 refine aq.s0f g49 ?_
 refine rA ?_ (x := aK g49)
 refine rM ?_
 refine aq.cases (s := 54) rfl (fun g50 => nomatch g50) (fun g50 => ?_)
 refine zf g50 ?_
 refine rA ?_ (x := aK g50)
 exact eN
 refine nO ?_
 refine sc (fun hbc => ?_) (fun hbc => ?_)
 refine sS [1, 2, 3, 4, 19] [1] ?_
 refine HZ ?_
 refine rM ?_
 refine cx 64 (fun gb sgb => ?_) (fun gb sgb => ?_)
 refine ra ?_
 refine aq.cases (s := 67) rfl (fun g53 => nomatch g53) (fun g53 => ?_)
 refine zf g53 ?_
 refine rA ?_ (x := aK g53)
 refine rM ?_
 refine aq.cases (s := 72) rfl (fun g54 => nomatch g54) (fun g54 => ?_)
 refine zf g54 ?_
 refine rA ?_ (x := aK g54)
 exact eN
 refine re ?_
 refine aq.cases (s := 67) rfl (fun g55 => nomatch g55) (fun g55 => ?_)
 refine zf g55 ?_
 refine rA ?_ (x := aK g55)
 refine rM ?_
 refine aq.cases (s := 72) rfl (fun g56 => nomatch g56) (fun g56 => ?_)
 refine zf g56 ?_
 refine rA ?_ (x := aK g56)
 exact eN
 refine nO ?_
 refine sc (fun hbd => ?_) (fun hbd => ?_)
 refine sS [1, 2, 3, 4, 19] [1] ?_
 refine rA ?_ (x := lF mQ)
 refine pA ?_
 refine cx 82 (fun gb sgb => ?_) (fun gb sgb => ?_)
 refine ra ?_
 refine aq.cases (s := 85) rfl (fun g59 => nomatch g59) (fun g59 => ?_)
 refine zf g59 ?_
 refine rA ?_ (x := aK g59)
 refine rM ?_
 refine aq.cases (s := 90) rfl (fun g60 => nomatch g60) (fun g60 => ?_)
 refine aq.s0f g60 ?_
 refine rA ?_ (x := aK g60)
 exact eN
 refine re ?_
 refine aq.cases (s := 85) rfl (fun g61 => nomatch g61) (fun g61 => ?_)
 refine zf g61 ?_
 refine rA ?_ (x := aK g61)
 refine rM ?_
 refine aq.cases (s := 90) rfl (fun g62 => nomatch g62) (fun g62 => ?_)
 refine aq.s0f g62 ?_
 refine rA ?_ (x := aK g62)
 exact eN
 exact F6
end Go.Proofs.YtmekkgdboplbjaaGreat
