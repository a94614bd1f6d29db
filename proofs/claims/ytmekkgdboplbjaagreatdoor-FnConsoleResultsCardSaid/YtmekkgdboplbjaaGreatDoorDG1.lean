/- What functions of the program compute. No condition. -/
import Derived.Test.YtmekkgdboplbjaaGreatDoorDF1
set_option linter.all false
namespace Go.Proofs.YtmekkgdboplbjaaGreatDoor
open Go Go.RowKit M PV
set_option maxRecDepth 10000
attribute [local irreducible] PV.Lcl PV.LclR RV.Lcl
def Em{x:bR}:aS Tryz.prog 41 [(true,[val (vI x.Kind),val (vI x.ac9.Id),val (vI x.ac9.ade),sl .v (x.ac9.ada.map bU),sl .v (x.ac9.Out.map ax),val (vI x.Limit),val (vI x.Id),val (vI x.adb.Kind),val (vI x.adb.Row.Id),sl .v (x.adb.Row.Values.map ax),val (vI x.adb.Field),val (vI x.adb.Value),val (vI x.Steps)])] (aJ [(false,[val (.bool (ca x))])]):=by
 refine sF Tryz.func41 fun h0 w0 Fz0=>?_
 refine sn 0 3 fun hl0_3=>?_
 refine sn 0 4 fun hl0_4=>?_
 refine sn 0 9 fun hl0_9=>?_
 refine KZ ?_
 refine si ?_
 refine LO ?_
 refine rA ?_ (x:=dZ (qs:=[]) (cs:=cD) ae qD qE TV aj au rfl aj)
 refine rA ?_ (x:=cL [(true,cD),(true,cD)] [(true,cI),(true,cI)] TK (hs:=by exact (XS (x:=x.ac9) (y:=⟨0,0,[],[]⟩))))
 refine rM ?_
 refine cx 9 (fun ga sga=>?_) (fun ga sga=>?_)
 refine rB ga ?_ (x:=lF tg)
 refine jz ?_
 refine qk ?_
 refine rS ?_
 refine jX ?_
 refine uE ?_
 refine Kn ?_
 refine gu ?_
 refine sS [1,2,3,4] [1] ?_
 refine xR ?_
 refine fG ?_
 refine oF ?_
 refine sc ?_ ?_<;>intro hba
 refine mA ?_
 refine rA ?_ (x:=lF vh)
 refine qe ?_
 refine rM ?_
 refine cx 25 (fun gb sgb=>?_) (fun gb sgb=>?_)
 refine rB gb ?_ (x:=lF tg)
 refine xD ?_
 refine kD ?_
 refine cx 30 (fun gc sgc=>?_) (fun gc sgc=>?_)
 refine xV ?_
 refine rM ?_
 refine cx 35 (fun gd sgd=>?_) (fun gd sgd=>?_)
 exact Jg
 refine uK ?_
 refine rM ?_
 refine av.cases (s:=38) rfl (fun g7=>nomatch g7) (fun g7=>?_)
 refine zf g7 ?_
 refine rA ?_ (x:=aK g7)
 exact eN
 refine kE ?_
 refine rM ?_
 refine av.cases (s:=35) rfl (fun g8=>nomatch g8) (fun g8=>?_)
 refine av.s0f g8 ?_
 refine rA ?_ (x:=aK g8)
 refine rM ?_
 refine av.cases (s:=38) rfl (fun g9=>nomatch g9) (fun g9=>?_)
 refine zf g9 ?_
 refine rA ?_ (x:=aK g9)
 exact eN
 refine lx ?_
 refine av.cases (s:=30) rfl (fun g10=>nomatch g10) (fun g10=>?_)
 refine zf g10 ?_
 refine rA ?_ (x:=aK g10)
 refine rM ?_
 refine av.cases (s:=35) rfl (fun g11=>nomatch g11) (fun g11=>?_)
 refine av.s0f g11 ?_
 refine rA ?_ (x:=aK g11)
 refine rM ?_
 refine av.cases (s:=38) rfl (fun g12=>nomatch g12) (fun g12=>?_)
 refine zf g12 ?_
 refine rA ?_ (x:=aK g12)
 exact eN
 refine oF ?_
 refine sc ?_ ?_<;>intro hbb
 refine mA ?_
 refine rA ?_ (x:=lF th)
 refine qt ?_
 refine cx 48 (fun gb sgb=>?_) (fun gb sgb=>?_)
 refine sk ?_
 refine cx 51 (fun gc sgc=>?_) (fun gc sgc=>?_)
 refine rB gc ?_ (x:=sM)
 refine my ?_
 refine rM ?_
 refine cx 54 (fun gd sgd=>?_) (fun gd sgd=>?_)
 exact Jh
 refine yb ?_
 exact eN
 refine av.s0f gc ?_
 refine lA ?_
 refine rM ?_
 refine av.cases (s:=54) rfl (fun g17=>nomatch g17) (fun g17=>?_)
 refine zf g17 ?_
 refine rA ?_ (x:=aK g17)
 exact eN
 refine sy ?_
 refine av.cases (s:=51) rfl (fun g18=>nomatch g18) (fun g18=>?_)
 refine av.s0f g18 ?_
 refine rA ?_ (x:=aK g18)
 refine rM ?_
 refine av.cases (s:=54) rfl (fun g19=>nomatch g19) (fun g19=>?_)
 refine zf g19 ?_
 refine rA ?_ (x:=aK g19)
 exact eN
 refine oF ?_
 refine sc ?_ ?_<;>intro hbc
 refine mA ?_
 refine Lg ?_
 refine rM ?_
 refine cx 64 (fun gb sgb=>?_) (fun gb sgb=>?_)
 refine sk ?_
 refine cx 67 (fun gc sgc=>?_) (fun gc sgc=>?_)
 refine xV ?_
 refine rM ?_
 refine cx 72 (fun gd sgd=>?_) (fun gd sgd=>?_)
 exact Jh
 refine yb ?_
 exact eN
 refine kE ?_
 refine rM ?_
 refine av.cases (s:=72) rfl (fun g24=>nomatch g24) (fun g24=>?_)
 refine zf g24 ?_
 refine rA ?_ (x:=aK g24)
 exact eN
 refine sy ?_
 refine av.cases (s:=67) rfl (fun g25=>nomatch g25) (fun g25=>?_)
 refine zf g25 ?_
 refine rA ?_ (x:=aK g25)
 refine rM ?_
 refine av.cases (s:=72) rfl (fun g26=>nomatch g26) (fun g26=>?_)
 refine zf g26 ?_
 refine rA ?_ (x:=aK g26)
 exact eN
 refine oF ?_
 refine sc ?_ ?_<;>intro hbd
 refine mA ?_
 refine rA ?_ (x:=lF qC)
 refine qt ?_
 refine cx 82 (fun gb sgb=>?_) (fun gb sgb=>?_)
 refine sk ?_
 refine cx 85 (fun gc sgc=>?_) (fun gc sgc=>?_)
 refine xV ?_
 refine rM ?_
 refine cx 90 (fun gd sgd=>?_) (fun gd sgd=>?_)
 refine xU ?_
 exact eN
 refine uK ?_
 exact eN
 refine kE ?_
 refine rM ?_
 refine av.cases (s:=90) rfl (fun g31=>nomatch g31) (fun g31=>?_)
 refine av.s0f g31 ?_
 refine rA ?_ (x:=aK g31)
 exact eN
 refine sy ?_
 refine av.cases (s:=85) rfl (fun g32=>nomatch g32) (fun g32=>?_)
 refine zf g32 ?_
 refine rA ?_ (x:=aK g32)
 refine rM ?_
 refine av.cases (s:=90) rfl (fun g33=>nomatch g33) (fun g33=>?_)
 refine av.s0f g33 ?_
 refine rA ?_ (x:=aK g33)
 exact eN
 exact Ji
 refine iA ?_
 refine rS ?_
 refine jX ?_
 refine uE ?_
 refine Kn ?_
 refine gu ?_
 refine sS [1,2,3,4] [1] ?_
 refine xR ?_
 refine fG ?_
 refine oF ?_
 refine sc ?_ ?_<;>intro hba
 refine mA ?_
 refine rA ?_ (x:=lF vh)
 refine qe ?_
 refine rM ?_
 refine cx 25 (fun gb sgb=>?_) (fun gb sgb=>?_)
 refine rB gb ?_ (x:=lF tg)
 refine xD ?_
 refine kD ?_
 refine cx 30 (fun gc sgc=>?_) (fun gc sgc=>?_)
 refine xV ?_
 refine rM ?_
 refine cx 35 (fun gd sgd=>?_) (fun gd sgd=>?_)
 exact Jg
 refine uK ?_
 refine rM ?_
 refine av.cases (s:=38) rfl (fun g39=>nomatch g39) (fun g39=>?_)
 refine zf g39 ?_
 refine rA ?_ (x:=aK g39)
 exact eN
 refine kE ?_
 refine rM ?_
 refine av.cases (s:=35) rfl (fun g40=>nomatch g40) (fun g40=>?_)
 refine av.s0f g40 ?_
 refine rA ?_ (x:=aK g40)
 refine rM ?_
 refine av.cases (s:=38) rfl (fun g41=>nomatch g41) (fun g41=>?_)
 refine zf g41 ?_
 refine rA ?_ (x:=aK g41)
 exact eN
 refine lx ?_
 refine av.cases (s:=30) rfl (fun g42=>nomatch g42) (fun g42=>?_)
 refine zf g42 ?_
 refine rA ?_ (x:=aK g42)
 refine rM ?_
 refine av.cases (s:=35) rfl (fun g43=>nomatch g43) (fun g43=>?_)
 refine av.s0f g43 ?_
 refine rA ?_ (x:=aK g43)
 refine rM ?_
 refine av.cases (s:=38) rfl (fun g44=>nomatch g44) (fun g44=>?_)
 refine zf g44 ?_
 refine rA ?_ (x:=aK g44)
 exact eN
 refine oF ?_
 refine sc ?_ ?_<;>intro hbb
 refine mA ?_
 refine rA ?_ (x:=lF th)
 refine qt ?_
 refine cx 48 (fun gb sgb=>?_) (fun gb sgb=>?_)
 refine sk ?_
 refine av.cases (s:=51) rfl (fun g47=>nomatch g47) (fun g47=>?_)
 refine av.s0f g47 ?_
 refine rA ?_ (x:=aK g47)
 refine rM ?_
 refine av.cases (s:=54) rfl (fun g48=>nomatch g48) (fun g48=>?_)
 refine zf g48 ?_
 refine rA ?_ (x:=aK g48)
 exact eN
 refine sy ?_
 refine av.cases (s:=51) rfl (fun g49=>nomatch g49) (fun g49=>?_)
 refine av.s0f g49 ?_
 refine rA ?_ (x:=aK g49)
 refine rM ?_
 refine av.cases (s:=54) rfl (fun g50=>nomatch g50) (fun g50=>?_)
 refine zf g50 ?_
 refine rA ?_ (x:=aK g50)
 exact eN
 refine oF ?_
 refine sc ?_ ?_<;>intro hbc
 refine mA ?_
 refine Lg ?_
 refine rM ?_
 refine cx 64 (fun gb sgb=>?_) (fun gb sgb=>?_)
 refine sk ?_
 refine av.cases (s:=67) rfl (fun g53=>nomatch g53) (fun g53=>?_)
 refine zf g53 ?_
 refine rA ?_ (x:=aK g53)
 refine rM ?_
 refine av.cases (s:=72) rfl (fun g54=>nomatch g54) (fun g54=>?_)
 refine zf g54 ?_
 refine rA ?_ (x:=aK g54)
 exact eN
 refine sy ?_
 refine av.cases (s:=67) rfl (fun g55=>nomatch g55) (fun g55=>?_)
 refine zf g55 ?_
 refine rA ?_ (x:=aK g55)
 refine rM ?_
 refine av.cases (s:=72) rfl (fun g56=>nomatch g56) (fun g56=>?_)
 refine zf g56 ?_
 refine rA ?_ (x:=aK g56)
 exact eN
 refine oF ?_
 refine sc ?_ ?_<;>intro hbd
 refine mA ?_
 refine rA ?_ (x:=lF qC)
 refine qt ?_
 refine cx 82 (fun gb sgb=>?_) (fun gb sgb=>?_)
 refine sk ?_
 refine av.cases (s:=85) rfl (fun g59=>nomatch g59) (fun g59=>?_)
 refine zf g59 ?_
 refine rA ?_ (x:=aK g59)
 refine rM ?_
 refine av.cases (s:=90) rfl (fun g60=>nomatch g60) (fun g60=>?_)
 refine av.s0f g60 ?_
 refine rA ?_ (x:=aK g60)
 exact eN
 refine sy ?_
 refine av.cases (s:=85) rfl (fun g61=>nomatch g61) (fun g61=>?_)
 refine zf g61 ?_
 refine rA ?_ (x:=aK g61)
 refine rM ?_
 refine av.cases (s:=90) rfl (fun g62=>nomatch g62) (fun g62=>?_)
 refine av.s0f g62 ?_
 refine rA ?_ (x:=aK g62)
 exact eN
 exact Ji
end Go.Proofs.YtmekkgdboplbjaaGreatDoor
