/- What functions of the program compute. No condition. -/
import Derived.Test.YtmekkgdboplbjaaGreatDoorDS0
import Derived.Test.YtmekkgdboplbjaaGreatDoorDU0
set_option linter.all false
namespace Go.Proofs.YtmekkgdboplbjaaGreatDoor
open Go Go.RowKit M PV
set_option maxRecDepth 10000
attribute [local irreducible] PV.Lcl PV.LclR RV.Lcl
def XC{p1 p2 p5 p6 p7 p8 p9 p11 p12 p13 p14 p16 p17 p18:Fl}{e:ar}(hb:bw e≤68719476736):aS Tryz.prog 249 [(true,[sl .v (e.Store.ac7.map (be p1 p2)),val (vI e.Store.Now),val (vI e.adc),sl .v (e.Order.map ax),sl .v (e.ac8.map (bz p5 p6 p7 p8 p9)),sl .v (e.Done.map (cn p11 p12 p13 p14)),sl .v (e.adl.map (cm p16 p17 p18)),val (vI e.Steps)])] (aJ [(false,[sl ak ((parts e).map ax)])]):=by
 refine sF Tryz.func249 fun h0 w0 Fz0=>?_
 refine sn 0 0 fun hl0_0=>?_
 refine sn 0 3 fun hl0_3=>?_
 refine sn 0 4 fun hl0_4=>?_
 refine sn 0 5 fun hl0_5=>?_
 refine sn 0 6 fun hl0_6=>?_
 refine oB ?_
 refine yf ?_
 refine sT [1,2] [1] ?_
 refine uD ?_
 refine aU ?_
 refine jX ?_
 refine xz ?_
 refine fw ?_
 refine sc ?_ ?_<;>intro hba
 have hok:aP e=false:=gp
 refine jX ?_
 refine se ?_
 refine cv ?_
 exact (aI (by refine cU ?_;rw [Uu hok];rfl) tI)
 have hok:aP e=true:=gp
 have hef:=kN hok
 refine dH ?_
 refine jX ?_
 refine oJ ?_
 refine sP [1,2,3,12,13,14] [1] ?_
 refine sL [1,2,12,13] [1] (fun k:Nat=>k≤e.ac8.length) (fun k:Nat=>[(3,RV.slc ak ((jc e (e.ac8.take k)).map ax)),(14,RV.int (k:Int))]) (fun k:Nat=>[]) (fun k:Nat=>e.ac8.length - k) 0 ab jm au ?_
 rintro k hk
 refine bO ?_
 refine sc ?_ ?_<;>intro hbb
 have hlt:k < e.ac8.length:=ab
 have hpl:=Na (e:=e) (l:=e.ac8.take k)
 rw [cu] at hpl
 refine bA ?_
 refine sT [1,2,3,12,13,14] [1] ?_
 refine ux ?_
 refine xB ?_
 refine aU ?_
 refine sO [(1,_),(2,_),(3,_),(5,_),(12,_),(13,_),(14,_)] [(1,_),(5,(102,dG))] ?_
 refine bh ?_
 refine rA ?_ (x:=lD ox kT)
 refine rA ?_ (x:=cL [(true,dG)] [(true,ox)] WM (hs:=by exact XB))
 refine rM ?_
 refine cx 20 (fun ga sga=>?_) (fun ga sga=>?_)
 refine rB ga ?_ (x:=lF vv)
 refine rB ga ?_ (x:=lD [sl .v _] ek)
 refine rB ga ?_ (x:=lF vC)
 refine jz ?_
 refine rB ga ?_ (x:=cL [(false,[sl _ _]),(false,[val _])] [(false,[sl .v _]),(false,[val _])] MM (hs:=by exact Oj))
 refine jx ?_
 refine sc ?_ ?_<;>intro hbc
 have hc:eC e e.ac8[k]=true:=by simp_all [eC]
 refine sG [1,2,3,5,12,13,14] [1,5] ?_
 refine bW ?_
 refine rA ?_ (x:=lF lS)
 refine sb ?_
 refine uT ?_
 exact IN
 exact IP
 refine iA ?_
 refine fW ?_
 exact IP
 have hend:k=e.ac8.length:=ab
 refine bv ?_
 refine sT [1,2,3,12,13,14] [1] ?_
 refine se ?_
 refine cv ?_
 exact (aI (by refine cU ?_;rw [vo hok,hend,cC]) tI)
def OA{p1 p2 p5 p6 p7 p8 p9 p11 p12 p13 p14 p16 p17 p18:Fl}{e:ar}{id:Int}:aS Tryz.prog 198 [(true,[sl .v (e.Store.ac7.map (be p1 p2)),val (vI e.Store.Now),val (vI e.adc),sl .v (e.Order.map ax),sl .v (e.ac8.map (bz p5 p6 p7 p8 p9)),sl .v (e.Done.map (cn p11 p12 p13 p14)),sl .v (e.adl.map (cm p16 p17 p18)),val (vI e.Steps)]),(false,[val (vI id)])] (aJ [(false,[val (vI (fL e.ac8 id))])]):=by
 refine sF Tryz.func198 fun h0 w0 Fz0=>?_
 refine sn 0 0 fun hl0_0=>?_
 refine sn 0 3 fun hl0_3=>?_
 refine sn 0 4 fun hl0_4=>?_
 refine sn 0 5 fun hl0_5=>?_
 refine sn 0 6 fun hl0_6=>?_
 refine oB ?_
 refine gJ ?_
 refine sT [1,2,4] [2] ?_
 refine oJ ?_
 refine sP [1,2,4,8,9,10] [2] ?_
 refine sL [1,2,8,9] [2] (fun k:Nat=>k≤e.ac8.length∧(e.ac8.take k).any (jd id)=false) (fun k:Nat=>[(10,RV.int (k:Int))]) (fun k:Nat=>[]) (fun k:Nat=>e.ac8.length - k) 0 kt cb au ?_
 rintro k ⟨hk,ha⟩
 refine bO ?_
 refine sc ?_ ?_<;>intro hba
 have hlt:k < e.ac8.length:=ab
 refine bA ?_
 refine sT [1,2,8,9,10] [2] ?_
 refine rM ?_
 refine ux ?_
 refine uX ?_
 refine rS ?_
 refine KU ?_
 refine sO [(1,_),(2,_),(5,_),(6,_),(8,_),(9,_),(10,_)] [(2,_),(6,(102,dG))] ?_
 refine bh ?_
 refine rA ?_ (x:=lF lS)
 refine sb ?_
 refine rM ?_
 refine jw ?_
 refine sc ?_ ?_<;>intro hbb
 have hy:jd id e.ac8[k]=true:=Gq
 refine sS [1,2,5,6,8,9,10] [2,6] ?_
 refine rM ?_
 refine cW ?_
 exact (aI (by refine fU ?_;rw [Nb hlt ha hy]) tI)
 have hno:jd id e.ac8[k]=false:=Gq
 refine bd ?_
 refine sG [1,2,5,6,8,9,10] [2,6] ?_
 refine cf ?_
 refine nx (k+1) (by exact ⟨ab,sW ha hlt hno⟩)
 have hend:k=e.ac8.length:=ab
 rw [hend,cC] at ha
 refine bv ?_
 refine sT [1,2,8,9,10] [2] ?_
 refine bG ?_
 exact (aI (by refine fU ?_;rw [Uv ha]) tI)
end Go.Proofs.YtmekkgdboplbjaaGreatDoor
