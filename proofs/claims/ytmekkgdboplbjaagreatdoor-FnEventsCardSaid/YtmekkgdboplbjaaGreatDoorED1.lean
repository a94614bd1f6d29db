/- What functions of the program compute. No condition. -/
import Derived.Test.YtmekkgdboplbjaaGreatDoorEV0
import Derived.Test.YtmekkgdboplbjaaGreatDoorEC1
set_option linter.all false
namespace Go.Proofs.YtmekkgdboplbjaaGreatDoor
open Go Go.RowKit M PV Tryz
set_option maxRecDepth 10000
attribute [local irreducible] PV.Lcl PV.LclR RV.Lcl
def aug{p1 p2 p5 p6 p7 p8 p9 p11 p12 p13 p14 p16 p17 p18:Fl}{e:aC}(hb:bA e≤68719476736):aQ prog 298 [(true,[sl .v (e.Store.ax2.map (aO p1 p2)),val (vI e.Store.Now),val (vI e.ax7),sl .v (e.Order.map ar),sl .v (e.ax3.map (bd p5 p6 p7 p8 p9)),sl .v (e.Done.map (bw p11 p12 p13 p14)),sl .v (e.ayf.map (bz p16 p17 p18)),val (vI e.Steps)])] (aB [(false,[sl ai ((parts e).map ar)])]):=by
 refine sF func298 fun h0 w0 Fz0=>?_
 refine sn 0 0 fun hl0_0=>?_
 refine sn 0 3 fun hl0_3=>?_
 refine sn 0 4 fun hl0_4=>?_
 refine sn 0 5 fun hl0_5=>?_
 refine sn 0 6 fun hl0_6=>?_
 refine nE ?_
 refine zt5 ?_
 refine re ?_
 refine Ix ?_
 refine sL [1,2] [1] (fun k:Nat=>k≤e.ax3.length∧(0 < k→bn e=true)) (fun k:Nat=>[(3,RV.slc ai ((je e (e.ax3.take k)).map ar)),(4,RV.int (k:Int))]) (fun k:Nat=>[]) (fun k:Nat=>e.ax3.length - k) 0 Lm gp an ?_
 rintro k ⟨hk,ha⟩
 refine cP ?_
 refine uH ?_
 refine rM ?_
 refine cx 11 ?_ ?_<;>intro ga sga
 refine rB ga ?_ (x:=lD cO dj)
 refine rB ga ?_ (x:=cL [(true,aW)] [(true,cO)] RK (hs:=Lv))
 refine jq ?_
 refine sc ?_ ?_<;>intro hba
 have hok:bn e=true:=dO
 have hlt:k < e.ax3.length:=uk
 have haw:=aoU hok hlt
 have hef:=jv hok
 have hpl:=Rp (e:=e) (l:=e.ax3.take k)
 rw [cI] at hpl
 refine eB ?_
 refine sQ [1,2,3,4] [1] ?_
 refine zns ?_
 refine dS ?_
 refine dA 3 ?_ (x:=cL [(true,aW),(false,[val _])] [(true,cO),(false,[val _])] aqd (hs:=by exact (auf ab)))
 refine dA 7 ?_ (x:=sM)
 refine dx 20 ?_ ?_<;>intro gb sgb
 refine dB 15 gb ?_ (x:=lF hP)
 refine dB 31 gb ?_ (x:=lD [sl .v _] fi)
 refine dB 15 gb ?_ (x:=sM)
 refine dB 127 gb ?_ (x:=aZ aj cQ an ak bE ak)
 refine dB 255 gb ?_ (x:=cR aj tT az)
 refine dB 511 gb ?_ (x:=lE [sl .v _] cW)
 refine dB 15 gb ?_ (x:=lF oV)
 refine dB 1039 gb ?_ (x:=lD [val _] bb)
 refine dB 4095 gb ?_ (x:=cL [(false,[sl _ _]),(false,[val _])] [(false,[sl .v _]),(false,[val _])] Jb (hs:=EQ))
 refine dA 8191 ?_ (x:=bj gb)
 refine sc ?_ ?_<;>intro hbb
 have hc:kV e e.ax3[k]=true:=EZ
 refine sG [1,2,3,4] [1] ?_
 refine cb ?_
 refine px ?_
 refine OO ?_
 refine rA ?_ (x:=cR aj nb az)
 refine HA ?_
 refine rc ?_
 exact ZS
 exact ZT
 refine dF 15 gb ?_
 refine dF 31 gb ?_
 refine dF 15 gb ?_
 refine dF 127 gb ?_
 refine dF 255 gb ?_
 refine dF 511 gb ?_
 refine dF 15 gb ?_
 refine dF 1039 gb ?_
 refine dF 4095 gb ?_
 refine dA 8191 ?_ (x:=aR gb)
 refine gv ?_
 exact ZT
 exact ZU
 refine rf ?_
 exact ZU
def auh{p1 p2 p5 p6 p7 p8 p9 p11 p12 p13 p14 p16 p17 p18:Fl}{e:aC}(hb:bA e≤68719476736):aQ prog 249 [(true,[sl .v (e.Store.ax2.map (aO p1 p2)),val (vI e.Store.Now),val (vI e.ax7),sl .v (e.Order.map ar),sl .v (e.ax3.map (bd p5 p6 p7 p8 p9)),sl .v (e.Done.map (bw p11 p12 p13 p14)),sl .v (e.ayf.map (bz p16 p17 p18)),val (vI e.Steps)])] (aB [(false,[sl ai ((parts e).map ar)])]):=by
 refine sF func249 fun h0 w0 Fz0=>?_
 refine sn 0 0 fun hl0_0=>?_
 refine sn 0 3 fun hl0_3=>?_
 refine sn 0 4 fun hl0_4=>?_
 refine sn 0 5 fun hl0_5=>?_
 refine sn 0 6 fun hl0_6=>?_
 refine nE ?_
 refine zt5 ?_
 refine re ?_
 refine pJ ?_
 refine NN ?_
 refine gx ?_
 refine sc ?_ ?_<;>intro hba
 have hok:bn e=false:=gn
 refine pJ ?_
 refine pD ?_
 exact (aI (by refine cz ?_;rw [ah0 hok];rfl) tI)
 have hok:bn e=true:=gn
 have hef:=jv hok
 refine dp ?_
 refine pJ ?_
 refine uM ?_
 refine sP [1,2,3,12,13,14] [1] ?_
 refine sL [1,2,12,13] [1] (fun k:Nat=>k≤e.ax3.length) (fun k:Nat=>[(3,RV.slc ai ((je e (e.ax3.take k)).map ar)),(14,RV.int (k:Int))]) (fun k:Nat=>[]) (fun k:Nat=>e.ax3.length - k) 0 ab gp an ?_
 rintro k hk
 refine cY ?_
 refine sc ?_ ?_<;>intro hbb
 have hlt:k < e.ax3.length:=ab
 have hpl:=Rp (e:=e) (l:=e.ax3.take k)
 rw [cI] at hpl
 refine bv ?_
 refine sT [1,2,3,12,13,14] [1] ?_
 refine yU ?_
 refine yS ?_
 refine aU ?_
 refine sO [(1,_),(2,_),(3,_),(5,_),(12,_),(13,_),(14,_)] [(1,_),(5,(102,du))] ?_
 refine aY ?_
 refine rA ?_ (x:=lD mI lI)
 refine rA ?_ (x:=cL [(true,du)] [(true,mI)] aqX (hs:=by exact aue))
 refine rM ?_
 refine cx 20 ?_ ?_<;>intro ga sga
 refine rB ga ?_ (x:=lF tT)
 refine rB ga ?_ (x:=lD [sl .v _] cW)
 refine Ct ?_
 refine rB ga ?_ (x:=cL [(false,[sl _ _]),(false,[val _])] [(false,[sl .v _]),(false,[val _])] ahv (hs:=by exact ai7))
 refine jq ?_
 refine sc ?_ ?_<;>intro hbc
 have hc:kV e e.ax3[k]=true:=EZ
 refine sG [1,2,3,5,12,13,14] [1,5] ?_
 refine cb ?_
 refine rm ?_
 refine uA ?_
 refine rc ?_
 exact ZV
 exact ZW
 refine rf ?_
 exact ZW
 have hend:k=e.ax3.length:=ab
 refine bI ?_
 refine sT [1,2,3,12,13,14] [1] ?_
 refine pD ?_
 exact (aI (by refine cz ?_;rw [vl hok,hend,cJ]) tI)
def akq{p1 p2 p5 p6 p7 p8 p9 p11 p12 p13 p14 p16 p17 p18:Fl}{e:aC}{id:Int}:aQ prog 198 [(true,[sl .v (e.Store.ax2.map (aO p1 p2)),val (vI e.Store.Now),val (vI e.ax7),sl .v (e.Order.map ar),sl .v (e.ax3.map (bd p5 p6 p7 p8 p9)),sl .v (e.Done.map (bw p11 p12 p13 p14)),sl .v (e.ayf.map (bz p16 p17 p18)),val (vI e.Steps)]),(false,[val (vI id)])] (aB [(false,[val (vI (eD e.ax3 id))])]):=by
 refine sF func198 fun h0 w0 Fz0=>?_
 refine sn 0 0 fun hl0_0=>?_
 refine sn 0 3 fun hl0_3=>?_
 refine sn 0 4 fun hl0_4=>?_
 refine sn 0 5 fun hl0_5=>?_
 refine sn 0 6 fun hl0_6=>?_
 refine nE ?_
 refine Iz ?_
 refine uM ?_
 refine sP [1,2,4,8,9,10] [2] ?_
 refine sL [1,2,8,9] [2] (fun k:Nat=>k≤e.ax3.length∧(e.ax3.take k).any (gR id)=false) (fun k:Nat=>[(10,RV.int (k:Int))]) (fun k:Nat=>[]) (fun k:Nat=>e.ax3.length - k) 0 iG bp an ?_
 rintro k ⟨hk,ha⟩
 refine cY ?_
 refine sc ?_ ?_<;>intro hba
 have hlt:k < e.ax3.length:=ab
 refine bv ?_
 refine sT [1,2,8,9,10] [2] ?_
 refine rM ?_
 refine yU ?_
 refine De ?_
 refine rS ?_
 refine znb ?_
 refine sO [(1,_),(2,_),(5,_),(6,_),(8,_),(9,_),(10,_)] [(2,_),(6,(102,du))] ?_
 refine aY ?_
 refine rm ?_
 refine uA ?_
 refine zB ?_
 refine sc ?_ ?_<;>intro hbb
 have hy:gR id e.ax3[k]=true:=EC
 refine sS [1,2,5,6,8,9,10] [2,6] ?_
 exact ZX
 have hno:gR id e.ax3[k]=false:=EC
 refine ba ?_
 refine sG [1,2,5,6,8,9,10] [2,6] ?_
 refine dI ?_
 exact YF
 have hend:k=e.ax3.length:=ab
 rw [hend,cJ] at ha
 refine bI ?_
 refine sT [1,2,8,9,10] [2] ?_
 exact ZY
def akr{p1 p2 p5 p6 p7 p8 p9 p11 p12 p13 p14 p16 p17 p18:Fl}{e:aC}{id:Int}:aQ prog 271 [(true,[sl .v (e.Store.ax2.map (aO p1 p2)),val (vI e.Store.Now),val (vI e.ax7),sl .v (e.Order.map ar),sl .v (e.ax3.map (bd p5 p6 p7 p8 p9)),sl .v (e.Done.map (bw p11 p12 p13 p14)),sl .v (e.ayf.map (bz p16 p17 p18)),val (vI e.Steps)]),(false,[val (vI id)])] (aB [(false,[val (vI (eD e.ax3 id))])]):=by
 refine sF func271 fun h0 w0 Fz0=>?_
 refine sn 0 0 fun hl0_0=>?_
 refine sn 0 3 fun hl0_3=>?_
 refine sn 0 4 fun hl0_4=>?_
 refine sn 0 5 fun hl0_5=>?_
 refine sn 0 6 fun hl0_6=>?_
 refine nE ?_
 refine Iz ?_
 refine cl ?_
 refine sP [1,2,4,5] [2] ?_
 refine sL [1,2] [2] (fun k:Nat=>k≤e.ax3.length∧(e.ax3.take k).any (gR id)=false) (fun k:Nat=>[(5,RV.int (k:Int))]) (fun k:Nat=>[]) (fun k:Nat=>e.ax3.length - k) 0 iG bp an ?_
 rintro k ⟨hk,ha⟩
 refine cP ?_
 refine uH ?_
 refine sc ?_ ?_<;>intro hba
 have hlt:k < e.ax3.length:=ab
 refine bv ?_
 refine sT [1,2,5] [2] ?_
 refine px ?_
 refine OO ?_
 refine rA ?_ (x:=cR aj nb az)
 refine HA ?_
 refine zB ?_
 refine sc ?_ ?_<;>intro hbb
 have hy:gR id e.ax3[k]=true:=EC
 refine sS [1,2,5] [2] ?_
 exact ZX
 have hno:gR id e.ax3[k]=false:=EC
 refine ba ?_
 refine sG [1,2,5] [2] ?_
 exact YG
 have hend:k=e.ax3.length:=ab
 rw [hend,cJ] at ha
 refine bI ?_
 refine sT [1,2,5] [2] ?_
 exact ZY
end Go.Proofs.YtmekkgdboplbjaaGreatDoor
