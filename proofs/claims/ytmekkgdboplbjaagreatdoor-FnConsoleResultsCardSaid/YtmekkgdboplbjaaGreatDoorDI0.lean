/- What functions of the program compute. No condition. -/
import Derived.Test.YtmekkgdboplbjaaGreatDoorDG0
set_option linter.all false
namespace Go.Proofs.YtmekkgdboplbjaaGreatDoor
open Go Go.RowKit M PV Tryz
set_option maxRecDepth 10000
attribute [local irreducible] PV.Lcl PV.LclR RV.Lcl
def Xi:eL prog 27=some [(0,1),(1,1)]:=aq
def On{v:aM}{t:Int}:aS prog 236 [(true,[val (vI v.Id),sl .v (v.Values.map ax),val (vI v.ado),val (vI v.adj)]),(false,[val (vI t)])] (aJ [(false,[val (.bool (eB v t))])]):=by
 refine sF func236 fun h0 w0 Fz0=>?_
 refine sn 0 1 fun hl0_1=>?_
 refine xJ ?_
 refine rK ?_
 refine sT [1,2,4] [2] ?_
 refine rA ?_ (x:=lF tt)
 refine eA ?_
 refine rM ?_
 refine rA ?_ (x:=nq)
 refine rM ?_
 refine cx 9 (fun ga sga=>?_) (fun ga sga=>?_)
 refine rB ga ?_ (x:=lF pp)
 refine jz ?_
 refine rB ga ?_ (x:=iV)
 refine gv ?_
 refine cx 13 (fun gb sgb=>?_) (fun gb sgb=>?_)
 refine zt gb ?_
 refine rB ga ?_ (x:=bF gb)
 refine jx ?_
 exact AN
 refine rB gb ?_ (x:=lF pp)
 refine nG ?_
 refine lz ?_
 refine rB gb ?_ (x:=fH)
 refine rB ga ?_ (x:=aK gb)
 refine jx ?_
 exact AN
 refine iA ?_
 exact AN
def Xj{v:aM}(hb:eP v≤68719476736):aS prog 83 [(true,[val (vI v.Id),sl .v (v.Values.map ax),val (vI v.ado),val (vI v.adj)])] (aJ [(true,[val (vI (kL v).Id),sl ak ((kL v).Values.map ax)])]):=by
 refine sF func83 fun h0 w0 Fz0=>?_
 refine sn 0 1 fun hl0_1=>?_
 have hbu:=hb
 simp only [eP,fy,aX] at hbu
 refine xJ ?_
 refine Ci ?_
 refine ql ?_
 refine dA 0 ?_ (x:=lF DU)
 refine uU ?_
 refine dA 0 ?_ (x:=lF DV)
 refine Lo ?_
 refine dA 31 ?_ (x:=dZ (qs:=[(false,[val _]),(false,[sl _ _])]) (cs:=cO) ae lK qF Xi aj mc rfl aj)
 exact Ig
def Xk{v:aM}{w:aM}:aS prog 171 [(true,[val (vI v.Id),sl .v (v.Values.map ax),val (vI v.ado),val (vI v.adj)]),(true,[val (vI w.Id),sl .v (w.Values.map ax),val (vI w.ado),val (vI w.adj)])] (aJ [(false,[val (.bool (qG v w))])]):=by
 refine sF func171 fun h0 w0 Fz0=>?_
 refine sn 0 1 fun hl0_1=>?_
 refine sn 1 1 fun hl1_1=>?_
 refine xJ ?_
 refine LR ?_
 refine ya ?_
 refine uV ?_
 refine rA ?_ (x:=lF tt)
 refine eA ?_
 refine LS ?_
 refine rM ?_
 refine cx 9 (fun ga sga=>?_) (fun ga sga=>?_)
 refine xA ?_
 exact It
 refine rB ga ?_ (x:=lD mn pu)
 refine rB ga ?_ (x:=lF tt)
 refine jz ?_
 refine rB ga ?_ (x:=cL [(true,gG),(false,[val _])] [(true,mn),(false,[val _])] NZ (hs:=by exact On))
 refine jY ?_
 exact It
def Oo{p1 p2:Fl}{s:Store}(hb:eQ s≤68719476736):aS prog 81 [(true,[sl .v (s.ac7.map (be p1 p2)),val (vI s.Now)])] (aJ [(false,[val (.bool (bV s))])]):=by
 refine sF func81 fun h0 w0 Fz0=>?_
 refine sn 0 0 fun hl0_0=>?_
 have hbu:=hb
 simp only [eQ,kb,aX] at hbu
 refine rZ ?_
 refine oG ?_
 refine nF ?_
 refine Lc ?_
 refine cx 15 (fun ga sga=>?_) (fun ga sga=>?_)
 refine jT ?_
 exact Iu
 refine rB ga ?_ (x:=lF kS)
 refine jz ?_
 refine rU ?_
 refine jY ?_
 refine sc ?_ ?_<;>intro hba
 exact Iu
 have hpr:oX s=true:=by simp_all [oX]
 have hnow:0≤s.Now∧s.Now≤100000:=by have h_:=hpr;simp [oX,aE] at h_;omega
 have hal:=yx s
 refine bd ?_
 refine sS [1,2] [1] ?_
 refine BK ?_
 refine aU ?_
 refine jX ?_
 refine nF ?_
 refine dM ?_
 refine sP [1,2,3,23,24,25] [1] ?_
 refine sL [1,23,24] [1] (fun k:Nat=>k≤s.ac7.length∧((s.ac7.take k).all mN=true∧lM s.Now (aY s) (cX s k).length=true)) (fun k:Nat=>[(3,RV.slc bJ ((cX s k).map (nH .v))),(25,RV.int (k:Int))]) (fun k:Nat=>[]) (fun k:Nat=>s.ac7.length - k) 0 (by exact ⟨ab,⟨aF,rfl⟩⟩) jm au ?_
 rintro k ⟨hk,ha⟩
 refine bO ?_
 refine sc ?_ ?_<;>intro hbb
 have hlt:k < s.ac7.length:=ab
 have hwm:=gw (f:=dS) hlt
 have hws:dS s.ac7[k]=s.ac7[k].length+(s.ac7[k].map eP).sum:=rfl
 refine bA ?_
 refine sT [1,3,23,24,25] [1] ?_
 refine Cx ?_
 refine aU ?_
 refine sS [1,3,5,23,24,25] [1] ?_
 refine Bw ?_
 refine rA ?_ (x:=fH)
 refine sc ?_ ?_<;>intro hbc
 have hbad:bV s=false:=Uc hlt ab
 refine sS [1,3,5,23,24,25] [1] ?_
 exact qb
 have hyes:mN s.ac7[k]=true:=by simp [mN];omega
 refine bd ?_
 refine sS [1,3,5,23,24,25] [1] ?_
 refine sD ?_
 refine sP [1,3,5,23,24,25,32,33,34] [1] ?_
 refine sL [1,5,23,24,25,32,33] [1] (fun j:Nat=>j≤s.ac7[k].length∧lM s.Now (aY s) ((cX s k).length+j)=true) (fun j:Nat=>[(3,RV.slc bJ ((cX s k++s.ac7[k].take j).map (nH .v))),(34,RV.int (j:Int))]) (fun j:Nat=>[]) (fun j:Nat=>s.ac7[k].length - j) 0 (by exact ⟨ab,ha.2⟩) (by exact aI (by exact cU aF) (aI aj tI)) au ?_
 rintro j ⟨hj,hg⟩
 refine bO ?_
 refine sc ?_ ?_<;>intro hbd
 have hlt2:j < s.ac7[k].length:=ab
 have hwm2:=gw (f:=eP) hlt2
 have hag:=MV hlt hlt2
 have hat:=Ud hlt (Nat.le_of_lt hlt2)
 have hln:(cX s k++s.ac7[k].take j).length=(cX s k).length+j:=by rw [aZ,cu];omega
 have hlm:(s.ac7[k].take j).length=j:=fR
 refine bA ?_
 refine sT [1,3,5,23,24,25,32,33,34] [1] ?_
 refine xE ?_
 refine uz ?_
 refine eO ?_
 refine sO [(1,_),(3,_),(5,_),(7,_),(23,_),(24,_),(25,_),(32,_),(33,_),(34,_)] [(1,_),(7,(116,gG))] ?_
 refine bh ?_
 refine KS ?_
 refine LU ?_
 refine fj ?_
 refine cx 42 (fun gb sgb=>?_) (fun gb sgb=>?_)
 refine qr ?_
 refine av.cases (s:=50) rfl (fun g8=>?_) (fun g8=>nomatch g8)
 refine zt g8 ?_
 refine rA ?_ (x:=bF g8)
 refine cd ?_
 exact AO
 refine rB gb ?_ (x:=lF tt)
 refine nG ?_
 refine rB gb ?_ (x:=lF kS)
 refine xD ?_
 refine yc ?_
 refine cx 50 (fun gc sgc=>?_) (fun gc sgc=>?_)
 refine qm ?_
 refine cd ?_
 exact AO
 refine rB gc ?_ (x:=lF pp)
 refine sJ ?_
 refine rB gc ?_ (x:=lm)
 refine rB gc ?_ (x:=sM)
 refine cx 54 (fun gd sgd=>?_) (fun gd sgd=>?_)
 refine rB gd ?_ (x:=lF pp)
 refine rB gd ?_ (x:=lD [val _] bB)
 refine rB gd ?_ (x:=lF tt)
 refine rB gd ?_ (x:=lD [val _] bB)
 refine rB gd ?_ (x:=GT ae au (bI rfl) (by simp only [aE,aT,decide_eq_true_eq] at *;unfold cq;omega))
 refine rB gd ?_ (x:=lF kS)
 refine Bv ?_
 refine rB gd ?_ (x:=nT)
 refine rB gc ?_ (x:=bF gd)
 refine lA ?_
 refine sc ?_ ?_<;>intro hbe
 exact AO
 have hvo:en s.Now s.ac7[k][j]=true:=zS
 refine dH ?_
 refine sS [1,3,5,7,23,24,25,32,33,34] [1,7] ?_
 refine sD ?_
 refine Kr ?_
 rintro m ⟨hm,hfr⟩
 refine bO ?_
 refine sc ?_ ?_<;>intro hbf
 have hlt3:m < (cX s k).length+j:=ab
 have hlt4:m < (cX s k++s.ac7[k].take j).length:=ab
 have hsg:(cX s k++s.ac7[k].take j)[m]=(aY s).getD m v0:=by rw [oR (d:=v0) hlt4,hat,List.getD_eq_getElem?_getD,List.getElem?_take_of_lt hlt3,←List.getD_eq_getElem?_getD]
 have hvm:=Dg hg hlt3
 have hma:=MS hvo hvm
 rw [←hag.2] at hma
 refine bA ?_
 refine KP ?_
 refine CA ?_
 refine uz ?_
 refine KO ?_
 refine bh ?_
 refine uH ?_
 refine uH ?_
 refine oH ?_
 refine cx 77 (fun ge sge=>?_) (fun ge sge=>?_)
 refine CB ?_
 refine KB ?_
 refine rA ?_ (x:=bF ge)
 refine sc ?_ ?_<;>intro hbg
 exact Iv
 exact AP
 exact Iw
 exact Ix
 refine zf gd ?_
 refine rB gc ?_ (x:=aK gd)
 refine lA ?_
 refine fW ?_
 have hvo:en s.Now s.ac7[k][j]=true:=zS
 refine dH ?_
 refine sS [1,3,5,7,23,24,25,32,33,34] [1,7] ?_
 refine sD ?_
 refine Kr ?_
 rintro m ⟨hm,hfr⟩
 refine bO ?_
 refine sc ?_ ?_<;>intro hbe
 have hlt3:m < (cX s k).length+j:=ab
 have hlt4:m < (cX s k++s.ac7[k].take j).length:=ab
 have hsg:(cX s k++s.ac7[k].take j)[m]=(aY s).getD m v0:=by rw [oR (d:=v0) hlt4,hat,List.getD_eq_getElem?_getD,List.getElem?_take_of_lt hlt3,←List.getD_eq_getElem?_getD]
 have hvm:=Dg hg hlt3
 have hma:=MS hvo hvm
 rw [←hag.2] at hma
 refine bA ?_
 refine KP ?_
 refine CA ?_
 refine uz ?_
 refine KO ?_
 refine bh ?_
 refine uH ?_
 refine uH ?_
 refine oH ?_
 refine cx 77 (fun ge sge=>?_) (fun ge sge=>?_)
 refine CB ?_
 refine KB ?_
 refine rA ?_ (x:=bF ge)
 refine sc ?_ ?_<;>intro hbf
 exact Iv
 exact AP
 exact Iw
 exact Ix
 have hend2:j=s.ac7[k].length:=ab
 refine bv ?_
 refine sH [1,3,5,23,24,25,32,33,34] [1] ?_
 refine cf ?_
 refine nx (k+1) (by exact ⟨ab,⟨ym ha.1 hlt hyes,by rw [Dh hlt,aZ,←hend2];exact hg⟩⟩) (e:=(by exact aI (by exact cU (by rw [hend2,cC,Dh hlt])) (aI aj tI)))
 have hend:k=s.ac7.length:=ab
 have hsm:s.ac7.all mN=true:=kH (by rw [←hend];exact ha.1)
 have hgd:=ha.2
 rw [hend,MU] at hgd
 refine bv ?_
 refine sT [1,3,23,24,25] [1] ?_
 refine bG ?_
 exact rb (by unfold bV;rw [hpr,hsm,hgd];rfl)
end Go.Proofs.YtmekkgdboplbjaaGreatDoor
