/- What functions of the program compute. No condition. -/
import Derived.Test.YtmekkgdboplbjaaGreatDoorEL1
set_option linter.all false
namespace Go.Proofs.YtmekkgdboplbjaaGreatDoor
open Go Go.RowKit M PV Tryz
set_option maxRecDepth 10000
attribute [local irreducible] PV.Lcl PV.LclR RV.Lcl
def auF{x:ax4}:aQ prog 109 [(true,[val (vI x.Id),val (vI x.ax8),sl .v (x.ax5.map bF),sl .v (x.Out.map ar)])] (aB [(false,[val (.bool (nQ x))])]):=by
 refine sF func109 fun h0 w0 Fz0=>?_
 refine sn 0 2 fun hl0_2=>?_
 refine sn 0 3 fun hl0_3=>?_
 refine py ?_
 refine uI ?_
 refine uA ?_
 refine iw ?_
 refine cx 6 ?_ ?_<;>intro ga sga
 refine rB ga ?_ (x:=lF tz)
 refine tl ?_
 refine cx 11 ?_ ?_<;>intro gb sgb
 refine Cz ?_
 refine rB gb ?_ (x:=iZ)
 refine iM ?_
 refine cx 17 ?_ ?_<;>intro gc sgc
 refine ze ?_
 refine rB gc ?_ (x:=lN cn)
 refine rB gc ?_ (x:=iZ)
 refine rh ?_
 exact GG
 refine oB ?_
 exact GG
 refine ix ?_
 refine au.cases (s:=17) rfl (fun g4=>nomatch g4) (fun g4=>?_)
 refine zq ?_
 exact GG
 refine jb ?_
 refine au.cases (s:=11) rfl (fun g5=>nomatch g5) (fun g5=>?_)
 refine wL ?_
 refine rM ?_
 refine au.cases (s:=17) rfl (fun g6=>nomatch g6) (fun g6=>?_)
 refine uF ?_
 exact GG
def auG{x:ax6}:aQ prog 108 [(true,[val (vI x.Kind),val (vI x.Row.Id),sl .v (x.Row.Values.map ar),val (vI x.Field),val (vI x.Value)])] (aB [(false,[val (.bool (nR x))])]):=by
 refine sF func108 fun h0 w0 Fz0=>?_
 refine sn 0 2 fun hl0_2=>?_
 refine yY ?_
 refine uI ?_
 refine ux ?_
 refine iw ?_
 refine cx 6 ?_ ?_<;>intro ga sga
 refine zU ?_
 refine rB ga ?_ (x:=lF mU)
 refine tl ?_
 refine cx 12 ?_ ?_<;>intro gb sgb
 refine rB gb ?_ (x:=lF Aj)
 refine rB gb ?_ (x:=lF va)
 refine zW ?_
 refine rB gb ?_ (x:=lN cn)
 refine rB gb ?_ (x:=iZ)
 refine iM ?_
 refine cx 19 ?_ ?_<;>intro gc sgc
 refine rB gc ?_ (x:=lF vb)
 refine Cq ?_
 refine lx ?_
 refine cx 24 ?_ ?_<;>intro gd sgd
 refine rB gd ?_ (x:=lF pT)
 refine HL ?_
 refine rj ?_
 exact BJ
 refine zu ?_
 exact BJ
 refine nI ?_
 refine au.cases (s:=24) rfl (fun g5=>nomatch g5) (fun g5=>?_)
 refine wL ?_
 exact BJ
 refine ix ?_
 refine au.cases (s:=19) rfl (fun g6=>nomatch g6) (fun g6=>?_)
 refine uF ?_
 refine rM ?_
 refine au.cases (s:=24) rfl (fun g7=>nomatch g7) (fun g7=>?_)
 refine wN ?_
 exact BJ
 refine jb ?_
 refine au.cases (s:=12) rfl (fun g8=>nomatch g8) (fun g8=>?_)
 refine CL ?_
 refine rM ?_
 refine au.cases (s:=19) rfl (fun g9=>nomatch g9) (fun g9=>?_)
 refine tg ?_
 refine rM ?_
 refine au.cases (s:=24) rfl (fun g10=>nomatch g10) (fun g10=>?_)
 refine tf ?_
 exact BJ
def auH{x:cZ}:aQ prog 40 [(true,[val (vI x.Kind),val (vI x.ax4.Id),val (vI x.ax4.ax8),sl .v (x.ax4.ax5.map bF),sl .v (x.ax4.Out.map ar),val (vI x.Limit),val (vI x.Id),val (vI x.ax6.Kind),val (vI x.ax6.Row.Id),sl .v (x.ax6.Row.Values.map ar),val (vI x.ax6.Field),val (vI x.ax6.Value),val (vI x.Steps)])] (aB [(false,[val (.bool (dE x))])]):=by
 refine sF func40 fun h0 w0 Fz0=>?_
 refine sn 0 3 fun hl0_3=>?_
 refine sn 0 4 fun hl0_4=>?_
 refine sn 0 9 fun hl0_9=>?_
 refine Hn ?_
 refine ma ?_
 refine zF ?_
 refine wP ?_
 refine sc ?_ ?_<;>intro hba
 refine HS ?_
 refine Hh ?_
 refine rM ?_
 refine cx 10 ?_ ?_<;>intro ga sga
 refine rB ga ?_ (x:=lF oP)
 refine Ca ?_
 refine qZ ?_
 refine cx 15 ?_ ?_<;>intro gb sgb
 refine rB gb ?_ (x:=lF pU)
 refine wF ?_
 refine iM ?_
 refine cx 20 ?_ ?_<;>intro gc sgc
 refine rB gc ?_ (x:=lF Al)
 refine Ob ?_
 refine lx ?_
 refine cx 25 ?_ ?_<;>intro gd sgd
 exact MY
 exact GH
 refine nI ?_
 refine au.cases (s:=25) rfl (fun g6=>nomatch g6) (fun g6=>?_)
 refine uF ?_
 exact lZ
 refine ix ?_
 refine au.cases (s:=20) rfl (fun g7=>nomatch g7) (fun g7=>?_)
 refine wN ?_
 refine rM ?_
 refine au.cases (s:=25) rfl (fun g8=>nomatch g8) (fun g8=>?_)
 refine CL ?_
 exact lZ
 refine jb ?_
 refine au.cases (s:=15) rfl (fun g9=>nomatch g9) (fun g9=>?_)
 refine tg ?_
 refine rM ?_
 refine au.cases (s:=20) rfl (fun g10=>nomatch g10) (fun g10=>?_)
 refine tf ?_
 refine rM ?_
 refine au.cases (s:=25) rfl (fun g11=>nomatch g11) (fun g11=>?_)
 refine CD ?_
 exact lZ
 refine wP ?_
 refine sc ?_ ?_<;>intro hbb
 refine HS ?_
 refine Oi ?_
 refine rM ?_
 refine cx 35 ?_ ?_<;>intro ga sga
 refine rB ga ?_ (x:=lF oP)
 refine tl ?_
 refine cx 40 ?_ ?_<;>intro gb sgb
 refine rB gb ?_ (x:=lF pU)
 refine nK ?_
 refine Oq ?_
 refine cx 45 ?_ ?_<;>intro gc sgc
 refine rB gc ?_ (x:=lF Al)
 refine Ob ?_
 refine lx ?_
 refine cx 50 ?_ ?_<;>intro gd sgd
 exact MY
 exact GH
 refine nI ?_
 refine au.cases (s:=50) rfl (fun g17=>nomatch g17) (fun g17=>?_)
 refine wK ?_
 exact lZ
 refine ix ?_
 refine au.cases (s:=45) rfl (fun g18=>nomatch g18) (fun g18=>?_)
 refine CG ?_
 refine rM ?_
 refine au.cases (s:=50) rfl (fun g19=>nomatch g19) (fun g19=>?_)
 refine zm ?_
 exact lZ
 refine jb ?_
 refine au.cases (s:=40) rfl (fun g20=>nomatch g20) (fun g20=>?_)
 refine CF ?_
 refine rM ?_
 refine au.cases (s:=45) rfl (fun g21=>nomatch g21) (fun g21=>?_)
 refine Ip ?_
 refine rM ?_
 refine au.cases (s:=50) rfl (fun g22=>nomatch g22) (fun g22=>?_)
 refine zf g22 ?_
 refine rA ?_ (x:=aR g22)
 exact lZ
 refine wP ?_
 refine sc ?_ ?_<;>intro hbc
 refine HS ?_
 refine Oi ?_
 refine rM ?_
 refine cx 60 ?_ ?_<;>intro ga sga
 refine rB ga ?_ (x:=lF oP)
 refine tl ?_
 refine cx 65 ?_ ?_<;>intro gb sgb
 refine rB gb ?_ (x:=lF pU)
 refine wF ?_
 refine iM ?_
 refine cx 70 ?_ ?_<;>intro gc sgc
 refine rB gc ?_ (x:=lF Al)
 refine rB gc ?_ (x:=lD gK kq)
 refine rB gc ?_ (x:=cL [(true,eP)] [(true,gK)] QX (hs:=Li))
 refine lx ?_
 refine cx 75 ?_ ?_<;>intro gd sgd
 exact MY
 exact GH
 refine nI ?_
 refine au.cases (s:=75) rfl (fun g28=>nomatch g28) (fun g28=>?_)
 refine zf g28 ?_
 refine rA ?_ (x:=aR g28)
 exact lZ
 refine ix ?_
 refine au.cases (s:=70) rfl (fun g29=>nomatch g29) (fun g29=>?_)
 refine zf g29 ?_
 refine rA ?_ (x:=aR g29)
 refine rM ?_
 refine au.cases (s:=75) rfl (fun g30=>nomatch g30) (fun g30=>?_)
 refine zf g30 ?_
 refine rA ?_ (x:=aR g30)
 exact lZ
 refine jb ?_
 refine au.cases (s:=65) rfl (fun g31=>nomatch g31) (fun g31=>?_)
 refine zf g31 ?_
 refine rA ?_ (x:=aR g31)
 refine rM ?_
 refine au.cases (s:=70) rfl (fun g32=>nomatch g32) (fun g32=>?_)
 refine zf g32 ?_
 refine rA ?_ (x:=aR g32)
 refine rM ?_
 refine au.cases (s:=75) rfl (fun g33=>nomatch g33) (fun g33=>?_)
 refine zf g33 ?_
 refine rA ?_ (x:=aR g33)
 exact lZ
 refine wP ?_
 refine sc ?_ ?_<;>intro hbd
 refine HS ?_
 refine Oi ?_
 refine rM ?_
 refine cx 85 ?_ ?_<;>intro ga sga
 refine rB ga ?_ (x:=lF oP)
 refine tl ?_
 refine cx 90 ?_ ?_<;>intro gb sgb
 refine rB gb ?_ (x:=lF pU)
 refine wF ?_
 refine iM ?_
 refine cx 95 ?_ ?_<;>intro gc sgc
 refine rB gc ?_ (x:=lF Al)
 refine Ob ?_
 refine lx ?_
 refine cx 100 ?_ ?_<;>intro gd sgd
 refine rB gd ?_ (x:=lF DB)
 refine Of ?_
 refine rj ?_
 exact lZ
 exact GH
 refine nI ?_
 refine au.cases (s:=100) rfl (fun g39=>nomatch g39) (fun g39=>?_)
 refine zf g39 ?_
 refine rA ?_ (x:=aR g39)
 exact lZ
 refine ix ?_
 refine au.cases (s:=95) rfl (fun g40=>nomatch g40) (fun g40=>?_)
 refine zf g40 ?_
 refine rA ?_ (x:=aR g40)
 refine rM ?_
 refine au.cases (s:=100) rfl (fun g41=>nomatch g41) (fun g41=>?_)
 refine zf g41 ?_
 refine rA ?_ (x:=aR g41)
 exact lZ
 refine jb ?_
 refine au.cases (s:=90) rfl (fun g42=>nomatch g42) (fun g42=>?_)
 refine zf g42 ?_
 refine rA ?_ (x:=aR g42)
 refine rM ?_
 refine au.cases (s:=95) rfl (fun g43=>nomatch g43) (fun g43=>?_)
 refine zf g43 ?_
 refine rA ?_ (x:=aR g43)
 refine rM ?_
 refine au.cases (s:=100) rfl (fun g44=>nomatch g44) (fun g44=>?_)
 refine zf g44 ?_
 refine rA ?_ (x:=aR g44)
 exact lZ
 refine ba ?_
 refine sS [1,2,4] [1] ?_
 refine rK ?_
 exact zxl
def aks{x:cZ}:aQ prog 41 [(true,[val (vI x.Kind),val (vI x.ax4.Id),val (vI x.ax4.ax8),sl .v (x.ax4.ax5.map bF),sl .v (x.ax4.Out.map ar),val (vI x.Limit),val (vI x.Id),val (vI x.ax6.Kind),val (vI x.ax6.Row.Id),sl .v (x.ax6.Row.Values.map ar),val (vI x.ax6.Field),val (vI x.ax6.Value),val (vI x.Steps)])] (aB [(false,[val (.bool (dE x))])]):=by
 refine sF func41 fun h0 w0 Fz0=>?_
 refine sn 0 3 fun hl0_3=>?_
 refine sn 0 4 fun hl0_4=>?_
 refine sn 0 9 fun hl0_9=>?_
 refine Hn ?_
 refine uI ?_
 refine zxm ?_
 refine rA ?_ (x:=cy (qs:=[]) (cs:=bX) aj nS ve aoc ak an rfl ak)
 refine rA ?_ (x:=cL [(true,bX),(true,bX)] [(true,di),(true,di)] an0 (hs:=by exact (auC (x:=x.ax4) (y:=⟨0,0,[],[]⟩))))
 refine rM ?_
 refine cx 9 ?_ ?_<;>intro ga sga
 refine rB ga ?_ (x:=lF oP)
 refine Oc ?_
 refine rS ?_
 refine pJ ?_
 refine yZ ?_
 refine zxo ?_
 refine eU ?_
 refine sS [1,2,3,4] [1] ?_
 refine zF ?_
 refine uE ?_
 refine sc ?_ ?_<;>intro hba
 refine rn ?_
 refine rA ?_ (x:=lF Ak)
 refine Cb ?_
 refine rM ?_
 refine cx 25 ?_ ?_<;>intro gb sgb
 refine rB gb ?_ (x:=lF oP)
 refine Hg ?_
 refine iM ?_
 refine cx 30 ?_ ?_<;>intro gc sgc
 refine HZ ?_
 refine lx ?_
 refine cx 35 ?_ ?_<;>intro gd sgd
 exact zxs
 refine au.s0f gd ?_
 refine pB ?_
 refine au.cases (s:=38) rfl (fun g7=>nomatch g7) (fun g7=>?_)
 refine wN ?_
 exact gZ
 refine nI ?_
 refine au.cases (s:=35) rfl (fun g8=>nomatch g8) (fun g8=>?_)
 refine au.s0f g8 ?_
 refine rA ?_ (x:=aR g8)
 refine rM ?_
 refine au.cases (s:=38) rfl (fun g9=>nomatch g9) (fun g9=>?_)
 refine tg ?_
 exact gZ
 refine ix ?_
 refine au.cases (s:=30) rfl (fun g10=>nomatch g10) (fun g10=>?_)
 refine tf ?_
 refine rM ?_
 refine au.cases (s:=35) rfl (fun g11=>nomatch g11) (fun g11=>?_)
 refine au.s0f g11 ?_
 refine rA ?_ (x:=aR g11)
 refine rM ?_
 refine au.cases (s:=38) rfl (fun g12=>nomatch g12) (fun g12=>?_)
 refine Ih ?_
 exact gZ
 refine uE ?_
 refine sc ?_ ?_<;>intro hbb
 refine rn ?_
 refine rA ?_ (x:=lF pU)
 refine xg ?_
 refine cx 48 ?_ ?_<;>intro gb sgb
 refine zy ?_
 refine cx 51 ?_ ?_<;>intro gc sgc
 refine nL ?_
 refine lx ?_
 refine cx 54 ?_ ?_<;>intro gd sgd
 exact zxv
 refine zu ?_
 exact gZ
 refine au.s0f gc ?_
 refine zz ?_
 refine au.cases (s:=54) rfl (fun g17=>nomatch g17) (fun g17=>?_)
 refine wK ?_
 exact gZ
 refine zD ?_
 refine au.cases (s:=51) rfl (fun g18=>nomatch g18) (fun g18=>?_)
 refine au.s0f g18 ?_
 refine rA ?_ (x:=aR g18)
 refine rM ?_
 refine au.cases (s:=54) rfl (fun g19=>nomatch g19) (fun g19=>?_)
 refine zm ?_
 exact gZ
 refine uE ?_
 refine sc ?_ ?_<;>intro hbc
 refine rn ?_
 refine zxx ?_
 refine rM ?_
 refine cx 64 ?_ ?_<;>intro gb sgb
 refine zy ?_
 refine cx 67 ?_ ?_<;>intro gc sgc
 refine HZ ?_
 refine lx ?_
 refine cx 72 ?_ ?_<;>intro gd sgd
 exact zxv
 refine zu ?_
 exact gZ
 refine nI ?_
 refine au.cases (s:=72) rfl (fun g24=>nomatch g24) (fun g24=>?_)
 refine zf g24 ?_
 refine rA ?_ (x:=aR g24)
 exact gZ
 refine zD ?_
 refine au.cases (s:=67) rfl (fun g25=>nomatch g25) (fun g25=>?_)
 refine zf g25 ?_
 refine rA ?_ (x:=aR g25)
 refine rM ?_
 refine au.cases (s:=72) rfl (fun g26=>nomatch g26) (fun g26=>?_)
 refine zf g26 ?_
 refine rA ?_ (x:=aR g26)
 exact gZ
 refine uE ?_
 refine sc ?_ ?_<;>intro hbd
 refine rn ?_
 refine xu ?_
 refine xg ?_
 refine cx 82 ?_ ?_<;>intro gb sgb
 refine zy ?_
 refine cx 85 ?_ ?_<;>intro gc sgc
 refine HZ ?_
 refine lx ?_
 refine cx 90 ?_ ?_<;>intro gd sgd
 refine rB gd ?_ (x:=sM)
 refine rj ?_
 exact gZ
 refine au.s0f gd ?_
 refine rA ?_ (x:=aR gd)
 exact gZ
 refine nI ?_
 refine au.cases (s:=90) rfl (fun g31=>nomatch g31) (fun g31=>?_)
 refine au.s0f g31 ?_
 refine rA ?_ (x:=aR g31)
 exact gZ
 refine zD ?_
 refine au.cases (s:=85) rfl (fun g32=>nomatch g32) (fun g32=>?_)
 refine zf g32 ?_
 refine rA ?_ (x:=aR g32)
 refine rM ?_
 refine au.cases (s:=90) rfl (fun g33=>nomatch g33) (fun g33=>?_)
 refine au.s0f g33 ?_
 refine rA ?_ (x:=aR g33)
 exact gZ
 exact zxz
 refine mO ?_
 refine rS ?_
 refine pJ ?_
 refine yZ ?_
 refine zxo ?_
 refine eU ?_
 refine sS [1,2,3,4] [1] ?_
 refine zF ?_
 refine uE ?_
 refine sc ?_ ?_<;>intro hba
 refine rn ?_
 refine rA ?_ (x:=lF Ak)
 refine Cb ?_
 refine rM ?_
 refine cx 25 ?_ ?_<;>intro gb sgb
 refine rB gb ?_ (x:=lF oP)
 refine Hg ?_
 refine iM ?_
 refine cx 30 ?_ ?_<;>intro gc sgc
 refine HZ ?_
 refine lx ?_
 refine cx 35 ?_ ?_<;>intro gd sgd
 exact zxs
 refine au.s0f gd ?_
 refine pB ?_
 refine au.cases (s:=38) rfl (fun g39=>nomatch g39) (fun g39=>?_)
 refine zf g39 ?_
 refine rA ?_ (x:=aR g39)
 exact gZ
 refine nI ?_
 refine au.cases (s:=35) rfl (fun g40=>nomatch g40) (fun g40=>?_)
 refine au.s0f g40 ?_
 refine rA ?_ (x:=aR g40)
 refine rM ?_
 refine au.cases (s:=38) rfl (fun g41=>nomatch g41) (fun g41=>?_)
 refine zf g41 ?_
 refine rA ?_ (x:=aR g41)
 exact gZ
 refine ix ?_
 refine au.cases (s:=30) rfl (fun g42=>nomatch g42) (fun g42=>?_)
 refine zf g42 ?_
 refine rA ?_ (x:=aR g42)
 refine rM ?_
 refine au.cases (s:=35) rfl (fun g43=>nomatch g43) (fun g43=>?_)
 refine au.s0f g43 ?_
 refine rA ?_ (x:=aR g43)
 refine rM ?_
 refine au.cases (s:=38) rfl (fun g44=>nomatch g44) (fun g44=>?_)
 refine zf g44 ?_
 refine rA ?_ (x:=aR g44)
 exact gZ
 refine uE ?_
 refine sc ?_ ?_<;>intro hbb
 refine rn ?_
 refine rA ?_ (x:=lF pU)
 refine xg ?_
 refine cx 48 ?_ ?_<;>intro gb sgb
 refine zy ?_
 refine au.cases (s:=51) rfl (fun g47=>nomatch g47) (fun g47=>?_)
 refine au.s0f g47 ?_
 refine rA ?_ (x:=aR g47)
 refine rM ?_
 refine au.cases (s:=54) rfl (fun g48=>nomatch g48) (fun g48=>?_)
 refine zf g48 ?_
 refine rA ?_ (x:=aR g48)
 exact gZ
 refine zD ?_
 refine au.cases (s:=51) rfl (fun g49=>nomatch g49) (fun g49=>?_)
 refine au.s0f g49 ?_
 refine rA ?_ (x:=aR g49)
 refine rM ?_
 refine au.cases (s:=54) rfl (fun g50=>nomatch g50) (fun g50=>?_)
 refine zf g50 ?_
 refine rA ?_ (x:=aR g50)
 exact gZ
 refine uE ?_
 refine sc ?_ ?_<;>intro hbc
 refine rn ?_
 refine zxx ?_
 refine rM ?_
 refine cx 64 ?_ ?_<;>intro gb sgb
 refine zy ?_
 refine au.cases (s:=67) rfl (fun g53=>nomatch g53) (fun g53=>?_)
 refine zf g53 ?_
 refine rA ?_ (x:=aR g53)
 refine rM ?_
 refine au.cases (s:=72) rfl (fun g54=>nomatch g54) (fun g54=>?_)
 refine zf g54 ?_
 refine rA ?_ (x:=aR g54)
 exact gZ
 refine zD ?_
 refine au.cases (s:=67) rfl (fun g55=>nomatch g55) (fun g55=>?_)
 refine zf g55 ?_
 refine rA ?_ (x:=aR g55)
 refine rM ?_
 refine au.cases (s:=72) rfl (fun g56=>nomatch g56) (fun g56=>?_)
 refine zf g56 ?_
 refine rA ?_ (x:=aR g56)
 exact gZ
 refine uE ?_
 refine sc ?_ ?_<;>intro hbd
 refine rn ?_
 refine xu ?_
 refine xg ?_
 refine cx 82 ?_ ?_<;>intro gb sgb
 refine zy ?_
 refine au.cases (s:=85) rfl (fun g59=>nomatch g59) (fun g59=>?_)
 refine zf g59 ?_
 refine rA ?_ (x:=aR g59)
 refine rM ?_
 refine au.cases (s:=90) rfl (fun g60=>nomatch g60) (fun g60=>?_)
 refine au.s0f g60 ?_
 refine rA ?_ (x:=aR g60)
 exact gZ
 refine zD ?_
 refine au.cases (s:=85) rfl (fun g61=>nomatch g61) (fun g61=>?_)
 refine zf g61 ?_
 refine rA ?_ (x:=aR g61)
 refine rM ?_
 refine au.cases (s:=90) rfl (fun g62=>nomatch g62) (fun g62=>?_)
 refine au.s0f g62 ?_
 refine rA ?_ (x:=aR g62)
 exact gZ
 exact zxz
end Go.Proofs.YtmekkgdboplbjaaGreatDoor
