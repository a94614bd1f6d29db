/- What functions of the program compute. No condition. -/
import Derived.Test.YtmekkgdboplbjaaGreatDoorEU0
import Derived.Test.YtmekkgdboplbjaaGreatDoorEA1
set_option linter.all false
namespace Go.Proofs.YtmekkgdboplbjaaGreatDoor
open Go Go.RowKit M PV
set_option maxRecDepth 10000
attribute [local irreducible] PV.Lcl PV.LclR RV.Lcl
def aue{p4:Fl}{a:ax3}:aQ Tryz.prog 68 [(true,[val (vI a.ax4.Id),val (vI a.ax4.ax8),sl .v (a.ax4.ax5.map bF),sl .v (a.ax4.Out.map ar),val (vI a.Time),sl .v (a.ayc.map ar),val (vI a.Age),val (vI a.Sent),val (vI a.Cap),sl .v (a.Rows.map (cD p4))])] (aB [(false,[val (.bool (ry a))])]):=by
 refine sF Tryz.func68 fun h0 w0 Fz0=>?_
 refine sn 0 2 fun hl0_2=>?_
 refine sn 0 3 fun hl0_3=>?_
 refine sn 0 5 fun hl0_5=>?_
 refine sn 0 9 fun hl0_9=>?_
 refine sR ?_
 refine Oz ?_
 refine sT [1,2] [1] ?_
 refine rA ?_ (x:=lF Az)
 refine ff ?_
 refine iw ?_
 refine cx 6 ?_ ?_<;>intro ga sga
 refine GZ ?_
 exact ZP
 refine rB ga ?_ (x:=lF Az)
 refine kg ?_
 refine rB ga ?_ (x:=lF qb)
 refine kg ?_
 refine rB ga ?_ (x:=jE)
 refine lz ?_
 exact ZP
def auf{p1 p2 p5 p6 p7 p8 p9 p11 p12 p13 p14 p16 p17 p18:Fl}{e:aC}{i:Int}(hb:bA e≤68719476736):aQ Tryz.prog 21 [(true,[sl .v (e.Store.ax2.map (aO p1 p2)),val (vI e.Store.Now),val (vI e.ax7),sl .v (e.Order.map ar),sl .v (e.ax3.map (bd p5 p6 p7 p8 p9)),sl .v (e.Done.map (bw p11 p12 p13 p14)),sl .v (e.ayf.map (bz p16 p17 p18)),val (vI e.Steps)]),(false,[val (vI i)])] (aB [(false,[val (.bool (xH e i))])]):=by
 refine sF Tryz.func21 fun h0 w0 Fz0=>?_
 refine sn 0 0 fun hl0_0=>?_
 refine sn 0 3 fun hl0_3=>?_
 refine sn 0 4 fun hl0_4=>?_
 refine sn 0 5 fun hl0_5=>?_
 refine sn 0 6 fun hl0_6=>?_
 refine nE ?_
 refine Iz ?_
 refine zt1 ?_
 refine fp ?_
 refine cx 9 ?_ ?_<;>intro ga sga
 refine mb ?_
 exact ZQ
 refine gN ?_
 refine rB ga ?_ (x:=lF hP)
 refine rB ga ?_ (x:=lD [sl .v _] fi)
 refine rB ga ?_ (x:=lN cQ)
 refine rB ga ?_ (x:=jo)
 refine Hj ?_
 refine lz ?_
 refine sc ?_ ?_<;>intro hba
 exact ZQ
 have hok:bn e=true∧aK i 0 (e.ax3.length - 1)=true:=Lq
 have hin:=hok.2
 simp only [aK,aX,decide_eq_true_eq] at hin
 have hil:i.toNat < e.ax3.length:=ab
 have hgd:=kl (d:=jN) hil
 refine ba ?_
 refine sS [1,2,4] [2] ?_
 refine px ?_
 refine rM ?_
 refine rA ?_ (x:=aZ (k:=i.toNat) aj cQ an (by first|rfl|omega) (by exact fX hil rfl) ak)
 refine zt3 ?_
 refine yS ?_
 refine aU ?_
 refine sO [(1,_),(2,_),(4,_),(5,_)] [(2,_),(5,(102,du))] ?_
 refine aY ?_
 refine rA ?_ (x:=lF Az)
 refine ff ?_
 refine iw ?_
 refine cx 26 ?_ ?_<;>intro gb sgb
 refine zt gb ?_
 refine kO ?_
 exact ZR
 refine rB gb ?_ (x:=lF qb)
 refine nK ?_
 refine rB gb ?_ (x:=lF Az)
 refine nK ?_
 refine rB gb ?_ (x:=yG)
 refine pI ?_
 exact ZR
end Go.Proofs.YtmekkgdboplbjaaGreatDoor
