/- What functions of the program compute. No condition. -/
import Derived.Test.YtmekkgdboplbjaaGreatDoorDR0
import Derived.Test.YtmekkgdboplbjaaGreatDoorDS0
set_option linter.all false
namespace Go.Proofs.YtmekkgdboplbjaaGreatDoor
open Go Go.RowKit M PV Tryz
set_option maxRecDepth 10000
attribute [local irreducible] PV.Lcl PV.LclR RV.Lcl
def Xw:eL prog 116=some [(0,1),(1,1),(2,1),(3,1)]:=aq
def Xx:eL prog 41=some [(0,1),(1,1)]:=aq
def Xy:eL prog 46=some [(0,2),(2,1),(3,1),(4,1),(5,1),(6,1),(7,1)]:=aq
def Xz{x:hE}(hb:sY x≤68719476736):aS prog 197 [(true,[val (vI x.Segment),val (vI x.Base),sl .v (x.Ids.map ax),sl .v (x.adf.map ax),sl .v (x.Rows.map ax)])] (aJ [(true,[val (vI x.Segment),val (vI x.Base),sl ak (x.Ids.map ax),sl ak (x.adf.map ax),sl ak (x.Rows.map ax)])]):=by
 refine sF func197 fun h0 w0 Fz0=>?_
 refine sn 0 2 fun hl0_2=>?_
 refine sn 0 3 fun hl0_3=>?_
 refine sn 0 4 fun hl0_4=>?_
 have hbu:=hb
 simp only [sY,fy,aX] at hbu
 refine LB ?_
 refine rX ?_ (x:=(ew ae qU Ea))
 refine aU ?_
 refine ql ?_
 refine dA 0 ?_ (x:=lF pq)
 refine dA 1 ?_ (x:=lD [sl .v _] ek)
 refine dA 3 ?_ (x:=cL [(false,[sl _ _])] [(false,[sl .v _])] oT (hs:=oi))
 refine dA 0 ?_ (x:=lF tu)
 refine Lp ?_
 refine dA 0 ?_ (x:=lF tv)
 refine dA 64 ?_ (x:=lD [sl .v _] ek)
 refine dA 255 ?_ (x:=cL [(false,[sl _ _])] [(false,[sl .v _])] oT (hs:=oi))
 refine dA 223 ?_ (x:=lF pq)
 refine dA 1023 ?_ (x:=bZ (ag:=false) (vs:=[sl _ _]) ek au aj aH)
 refine dA 2047 ?_ (x:=lF tu)
 refine Ma ?_
 refine dA 8191 ?_ (x:=lF tv)
 refine dA 16383 ?_ (x:=bZ (ag:=false) (vs:=[sl _ _]) ek au aj aH)
 refine aU ?_
 refine sO [(1,_),(2,_)] [(1,(149,gX)),(2,_)] ?_
 refine bh ?_
 refine rA ?_ (x:=fa (ms:=gX) (qs:=rQ) ae qS (fun h=>nomatch h) aH aj (by exact (aD (aD (bK (bK (bK aA.nil)))))) bn)
 refine Mb ?_
 refine cv ?_
 exact (ba 2 (ba _ (aI aj (aI aj (aI qS (aI (fun h=>nomatch h) tI))))))
def XA{p4:Fl}{x:ac8}(hb:dc x≤68719476736):aS prog 195 [(true,[val (vI x.ac9.Id),val (vI x.ac9.ade),sl .v (x.ac9.ada.map bU),sl .v (x.ac9.Out.map ax),val (vI x.Time),sl .v (x.adi.map ax),val (vI x.Age),val (vI x.Sent),val (vI x.Cap),sl .v (x.Rows.map (cg p4))])] (aJ [(true,[val (vI x.ac9.Id),val (vI x.ac9.ade),sl bb (x.ac9.ada.map bU),sl ak (x.ac9.Out.map ax),val (vI x.Time),sl ak (x.adi.map ax),val (vI x.Age),val (vI x.Sent),val (vI x.Cap),sl bc (x.Rows.map (cg ak))])]):=by
 refine sF func195 fun h0 w0 Fz0=>?_
 refine sn 0 2 fun hl0_2=>?_
 refine sn 0 3 fun hl0_3=>?_
 refine sn 0 5 fun hl0_5=>?_
 refine sn 0 9 fun hl0_9=>?_
 have hbu:=hb
 simp only [dc,fy,aX] at hbu
 refine Lh ?_
 refine uX ?_
 refine aU ?_
 refine ql ?_
 refine dA 0 ?_ (x:=lF lS)
 refine KJ ?_
 refine dA 0 ?_ (x:=lF vv)
 refine Lp ?_
 refine dA 0 ?_ (x:=lF vz)
 refine dA 64 ?_ (x:=lD [sl .v _] mZ)
 refine dA 255 ?_ (x:=cL [(false,[sl _ _])] [(false,[sl .v _])] Oa (hs:=by exact Om ab))
 refine dA 223 ?_ (x:=lF lS)
 refine dA 1023 ?_ (x:=bZ (ag:=true) (vs:=cD) gi au aj aH)
 refine dA 2047 ?_ (x:=lF vv)
 refine Ma ?_
 refine dA 8191 ?_ (x:=lF vz)
 refine dA 16383 ?_ (x:=bZ (ag:=false) (vs:=[sl _ _]) mZ au aj aH)
 refine aU ?_
 refine sO [(1,_),(2,_)] [(1,(102,dG)),(2,_)] ?_
 refine bh ?_
 refine CD ?_
 refine CE ?_
 refine cv ?_
 exact (ba 2 (ba _ (aI aj (aI aj (aI kT (aI (fun h=>nomatch h) tI))))))
def Ox{p3:Fl}{x:fJ}(hb:mF x≤68719476736):aS prog 196 [(true,[val (vI x.ac9.Id),val (vI x.ac9.ade),sl .v (x.ac9.ada.map bU),sl .v (x.ac9.Out.map ax),val (vI x.Time),val (vI x.Steps),sl .v (x.Rows.map (cg p3))])] (aJ [(true,[val (vI x.ac9.Id),val (vI x.ac9.ade),sl bb (x.ac9.ada.map bU),sl ak (x.ac9.Out.map ax),val (vI x.Time),val (vI x.Steps),sl bc (x.Rows.map (cg ak))])]):=by
 refine sF func196 fun h0 w0 Fz0=>?_
 refine sn 0 2 fun hl0_2=>?_
 refine sn 0 3 fun hl0_3=>?_
 refine sn 0 6 fun hl0_6=>?_
 have hbu:=hb
 simp only [mF,aX] at hbu
 refine Lt ?_
 refine rX ?_ (x:=(ew ae nV vJ))
 refine aU ?_
 refine ql ?_
 refine dA 0 ?_ (x:=lF tx)
 refine KJ ?_
 refine dA 0 ?_ (x:=lF vE)
 refine dA 8 ?_ (x:=lD [sl .v _] mZ)
 refine dA 31 ?_ (x:=cL [(false,[sl _ _])] [(false,[sl .v _])] Oa (hs:=by exact Om ab))
 refine dA 31 ?_ (x:=lF tx)
 refine dA 127 ?_ (x:=bZ (ag:=true) (vs:=cD) gi au aj aH)
 refine dA 255 ?_ (x:=lF vE)
 refine dA 511 ?_ (x:=bZ (ag:=false) (vs:=[sl _ _]) mZ au aj aH)
 refine aU ?_
 refine sO [(1,_),(2,_)] [(1,(56,iW)),(2,_)] ?_
 refine bh ?_
 refine rA ?_ (x:=fa (ms:=iW) (qs:=ny) ae px (fun h=>nomatch h) aH aj FF bn)
 refine CF ?_
 refine cv ?_
 exact (ba 2 (ba _ (aI aj (aI aj (aI px (aI (fun h=>nomatch h) tI))))))
def Oy{p1 p2:Fl}{s:Store}(hb:eQ s≤68719476736):aS prog 194 [(true,[sl .v (s.ac7.map (be p1 p2)),val (vI s.Now)])] (aJ [(true,[sl dg (s.ac7.map (be bJ ak)),val (vI s.Now)])]):=by
 refine sF func194 fun h0 w0 Fz0=>?_
 refine sn 0 0 fun hl0_0=>?_
 have hbu:=hb
 simp only [eQ,kb,aX] at hbu
 refine rZ ?_
 refine rX ?_ (x:=(ew ae tB tC))
 refine sT [1,2] [1,2] ?_
 refine rA ?_ (x:=lF kS)
 refine eA ?_
 refine rA ?_ (x:=dZ (qs:=[(false,[val _])]) (cs:=dE) ae tB tC Xx aj eW rfl aj)
 refine rV ?_
 refine eO ?_
 refine sO [(1,_),(2,_),(3,_)] [(1,_),(2,_),(3,(41,dE))] ?_
 refine bh ?_
 refine nF ?_
 refine dM ?_
 refine sP [1,2,3,13,14,15] [1,2,3] ?_
 refine sL [1,2,3,13,14] [1,2] (fun k:Nat=>k≤s.ac7.length) (fun k:Nat=>[(15,RV.int (k:Int))]) (fun k:Nat=>[(3,(41,[sl dg ((s.ac7.take k).map (be bJ ak)),val (vI s.Now)]))]) (fun k:Nat=>s.ac7.length - k) 0 ab cb cb ?_
 rintro k hk
 refine bO ?_
 refine sc ?_ ?_<;>intro hba
 have hlt:k < s.ac7.length:=ab
 have hwm:=gw (f:=dS) hlt
 have hws:dS s.ac7[k]=s.ac7[k].length+(s.ac7[k].map eP).sum:=rfl
 have htl:(s.ac7.take k).length=k:=fR
 refine bA ?_
 refine sT [1,2,3,13,14,15] [1,2,3] ?_
 refine Cx ?_
 refine sS [1,2,3,5,13,14,15] [1,2,3] ?_
 refine BK ?_
 refine aU ?_
 refine sS [1,2,3,5,6,13,14,15] [1,2,3] ?_
 refine sD ?_
 refine sP [1,2,3,5,6,13,14,15,20,21,22] [1,2,3] ?_
 refine sL [1,2,3,5,13,14,15,20,21] [1,2,3] (fun j:Nat=>j≤s.ac7[k].length) (fun j:Nat=>[(6,RV.slc bJ ((s.ac7[k].take j).map (nH ak))),(22,RV.int (j:Int))]) (fun j:Nat=>[]) (fun j:Nat=>s.ac7[k].length - j) 0 ab jm au ?_
 rintro j hj
 refine bO ?_
 refine sc ?_ ?_<;>intro hbb
 have hlt2:j < s.ac7[k].length:=ab
 have hwm2:=gw (f:=eP) hlt2
 have hwv:eP s.ac7[k][j]=s.ac7[k][j].Values.length:=zW
 have htl2:(s.ac7[k].take j).length=j:=fR
 refine bA ?_
 refine sT [1,2,3,5,6,13,14,15,20,21,22] [1,2,3] ?_
 refine xE ?_
 refine uz ?_
 refine sO [(1,_),(2,_),(3,_),(5,_),(6,_),(8,_),(13,_),(14,_),(15,_),(20,_),(21,_),(22,_)] [(1,_),(2,_),(3,_),(8,(116,gG))] ?_
 refine dr ?_
 refine dA 0 ?_ (x:=tM)
 refine dA 0 ?_ (x:=lF DU)
 refine dA 2 ?_ (x:=lD [val _] bB)
 refine dA 0 ?_ (x:=lF DV)
 refine dA 8 ?_ (x:=lD [sl .v _] ek)
 refine dA 24 ?_ (x:=cL [(false,[sl _ _])] [(false,[sl .v _])] oT (hs:=oi))
 refine dA 0 ?_ (x:=lF tt)
 refine dA 64 ?_ (x:=lD [val _] bB)
 refine dA 0 ?_ (x:=lF pp)
 refine dA 256 ?_ (x:=lD [val _] bB)
 refine dA 1022 ?_ (x:=dZ (qs:=[(false,[val _]),(false,[sl _ _]),(false,[val _]),(false,[val _])]) (cs:=gG) ae kj vG Xw aj zT rfl aj)
 refine dA 2046 ?_ (x:=dq (qs:=[(true,gG)]) ae iM kj ae rfl rfl rfl rfl rfl aH eW rfl)
 refine dA 4095 ?_ (x:=ir ae iM kj rfl rfl ae rfl ck ck)
 refine dA 8191 ?_ (x:=tA)
 refine sG [1,2,3,5,6,8,13,14,15,20,21,22] [1,2,3,8] ?_
 refine cf ?_
 refine nx (j+1) ab (e:=(by exact aI (by exact cU (by rw [sZ hlt2,bL];exact rfl)) (aI aj tI)))
 have hend2:j=s.ac7[k].length:=ab
 refine bv ?_
 refine sH [1,2,3,5,6,13,14,15,20,21,22] [1,2,3] ?_
 refine rA ?_ (x:=lF nQ)
 refine rA ?_ (x:=fa (ms:=[sl _ _]) (qs:=[sl .v _]) ae nU (fun _=>rfl) aH aj la kq)
 refine bW ?_
 refine rA ?_ (x:=dq (qs:=[(false,[sl _ _])]) ae iN DX ae rfl rfl rfl rfl rfl aH eW rfl)
 refine rA ?_ (x:=ir ae iN DX rfl rfl ae rfl ck ck)
 refine rA ?_ (x:=lF nQ)
 refine rA ?_ (x:=bZ (ag:=false) (vs:=[sl _ _]) nU au aj aH)
 refine sO [(1,_),(2,_),(3,_),(5,_),(13,_),(14,_),(15,_),(20,_),(21,_),(22,_)] [(1,_),(2,_),(3,(41,dE))] ?_
 refine bh ?_
 refine cf ?_
 refine nx (k+1) ab (f:=(by exact aI (by rw [hend2,cC,sZ hlt];simp only [bL];exact rfl) tI))
 have hend:k=s.ac7.length:=ab
 refine bv ?_
 refine sT [1,2,3,13,14,15] [1,2,3] ?_
 refine uw ?_
 refine cv ?_
 exact (ba 2 (ba _ (aI aj (aI (by refine cV ?_;rw [hend,cC];exact rfl) (aI gy (aI (fun h=>nomatch h) tI))))))
def Oz{p1 p2 p5 p6 p7 p8 p9 p11 p12 p13 p14 p16 p17 p18:Fl}{e:ar}(hb:bw e≤68719476736):aS prog 115 [(true,[sl .v (e.Store.ac7.map (be p1 p2)),val (vI e.Store.Now),val (vI e.adc),sl .v (e.Order.map ax),sl .v (e.ac8.map (bz p5 p6 p7 p8 p9)),sl .v (e.Done.map (cn p11 p12 p13 p14)),sl .v (e.adl.map (cm p16 p17 p18)),val (vI e.Steps)])] (aJ [(true,[sl dg (e.Store.ac7.map (be bJ ak)),val (vI e.Store.Now),val (vI e.adc),sl ak (e.Order.map ax),sl fq (e.ac8.map (bz bb ak ak bc ak)),sl ft (e.Done.map (cn bb ak bc ak)),sl fu (e.adl.map (cm ak ak ak)),val (vI e.Steps)])]):=by
 refine sF func115 fun h0 w0 Fz0=>?_
 refine sn 0 0 fun hl0_0=>?_
 refine sn 0 3 fun hl0_3=>?_
 refine sn 0 4 fun hl0_4=>?_
 refine sn 0 5 fun hl0_5=>?_
 refine sn 0 6 fun hl0_6=>?_
 have hbu:=hb
 simp only [bw,jZ,mG,kJ,fy,aX] at hbu
 refine xP ?_
 refine aU ?_
 refine ql ?_
 refine dA 0 ?_ (x:=lF tw)
 refine dA 1 ?_ (x:=lD gW gy)
 refine dA 3 ?_ (x:=cL [(true,dE)] [(true,gW)] NV (hs:=by exact (Oy ab)))
 refine dA 0 ?_ (x:=lF vC)
 refine dA 8 ?_ (x:=lD [val _] bB)
 refine dA 0 ?_ (x:=lF Oi)
 refine dA 32 ?_ (x:=lD [sl .v _] ek)
 refine dA 103 ?_ (x:=cL [(false,[sl _ _])] [(false,[sl .v _])] oT (hs:=oi))
 refine dA 0 ?_ (x:=lF vD)
 refine dA 256 ?_ (x:=lD [val _] bB)
 refine dA 1023 ?_ (x:=dZ (qs:=[(true,dE),(false,[val _]),(false,[sl _ _]),(false,[val _])]) (cs:=bj) ae vF vH Xy aj zT rfl aj)
 refine df.step 0 au au (dD.of rfl (ew ae vF vH)) (Ap (fp.of_ rfl)) aq ?_
 refine dA 4095 ?_ (x:=bZ (ag:=true) (vs:=bj) dl au aj aH)
 refine eO ?_
 refine sO [(1,_),(2,_),(3,_)] [(1,_),(2,_),(3,(46,bj))] ?_
 refine bh ?_
 refine oJ ?_
 refine sP [1,2,3,22,23,24] [1,2,3] ?_
 refine sL [1,2,3,22,23] [1,2] (fun k:Nat=>k≤e.ac8.length) (fun k:Nat=>[(24,RV.int (k:Int))]) (fun k:Nat=>[(3,(46,[sl dg (e.Store.ac7.map (be bJ ak)),val (vI e.Store.Now),val (vI e.adc),sl ak (e.Order.map ax),sl fq ((e.ac8.take k).map (bz bb ak ak bc ak)),sl ft (([]:List fJ).map (cn bb ak bc ak)),sl fu (([]:List hE).map (cm ak ak ak)),val (vI e.Steps)]))]) (fun k:Nat=>e.ac8.length - k) 0 ab cb cb ?_
 rintro k hk
 refine bO ?_
 refine sc ?_ ?_<;>intro hba
 have hlt:k < e.ac8.length:=ab
 have hwm:=gw (f:=dc) hlt
 have hwu:dc e.ac8[k]=fI e.ac8[k].ac9+e.ac8[k].adi.length+eg e.ac8[k].Rows:=Gy
 have htl:(e.ac8.take k).length=k:=fR
 refine bA ?_
 refine sT [1,2,3,22,23,24] [1,2,3] ?_
 refine ux ?_
 refine xB ?_
 refine sO [(1,_),(2,_),(3,_),(5,_),(22,_),(23,_),(24,_)] [(1,_),(2,_),(3,_),(5,(102,dG))] ?_
 refine dr ?_
 refine dA 0 ?_ (x:=lF kh)
 refine dA 1 ?_ (x:=fa (ms:=[sl _ _]) (qs:=[sl .v _]) ae ki (fun _=>rfl) aH aj la kq)
 refine LY ?_
 refine dA 4 ?_ (x:=cL [(true,dG)] [(true,ox)] Wl (hs:=by exact (XA ab)))
 refine dA 12 ?_ (x:=dq (qs:=[(true,dG)]) ae gR na ae rfl rfl rfl rfl rfl aH eW rfl)
 refine dA 31 ?_ (x:=ir ae gR na rfl rfl ae rfl ck ck)
 refine dA 63 ?_ (x:=lF kh)
 refine dA 127 ?_ (x:=bZ (ag:=false) (vs:=[sl _ _]) ki au aj aH)
 refine sO [(1,_),(2,_),(3,_),(5,_),(22,_),(23,_),(24,_)] [(1,_),(2,_),(3,(46,bj)),(5,_)] ?_
 exact AT
 have hend0:k=e.ac8.length:=ab
 refine qo ?_
 refine sT [1,2,3,22,23,24] [1,2,3] ?_
 refine uG ?_
 refine rA ?_ (x:=lN lT)
 refine dM ?_
 refine sP [1,2,3,22,23,24,37,38,39] [1,2,3] ?_
 refine sL [1,2,3,22,23,24,37,38] [1,2] (fun k:Nat=>k≤e.Done.length) (fun k:Nat=>[(39,RV.int (k:Int))]) (fun k:Nat=>[(3,(46,[sl dg (e.Store.ac7.map (be bJ ak)),val (vI e.Store.Now),val (vI e.adc),sl ak (e.Order.map ax),sl fq (e.ac8.map (bz bb ak ak bc ak)),sl ft ((e.Done.take k).map (cn bb ak bc ak)),sl fu (([]:List hE).map (cm ak ak ak)),val (vI e.Steps)]))]) (fun k:Nat=>e.Done.length - k) 0 ab cb (by exact aI (by rw [hend0,cC];exact rfl) tI) ?_
 rintro k hk
 refine bO ?_
 refine sc ?_ ?_<;>intro hbb
 have hlt:k < e.Done.length:=ab
 have hwm:=gw (f:=mF) hlt
 have hwu:mF e.Done[k]=fI e.Done[k].ac9+eg e.Done[k].Rows:=by simp only [mF,aX];omega
 have htl:(e.Done.take k).length=k:=fR
 refine bA ?_
 refine sT [1,2,3,22,23,24,37,38,39] [1,2,3] ?_
 refine KN ?_
 refine Bs ?_
 refine sO [(1,_),(2,_),(3,_),(7,_),(22,_),(23,_),(24,_),(37,_),(38,_),(39,_)] [(1,_),(2,_),(3,_),(7,(56,iW))] ?_
 refine dr ?_
 refine dA 0 ?_ (x:=lF qR)
 refine dA 1 ?_ (x:=fa (ms:=[sl _ _]) (qs:=[sl .v _]) ae qT (fun _=>rfl) aH aj la kq)
 refine dA 0 ?_ (x:=lD ny px)
 refine dA 4 ?_ (x:=cL [(true,iW)] [(true,ny)] NW (hs:=by exact (Ox ab)))
 refine dA 12 ?_ (x:=dq (qs:=[(true,iW)]) ae lT nV ae rfl rfl rfl rfl rfl aH eW rfl)
 refine dA 31 ?_ (x:=ir ae lT nV rfl rfl ae rfl ck ck)
 refine dA 63 ?_ (x:=lF qR)
 refine dA 127 ?_ (x:=bZ (ag:=false) (vs:=[sl _ _]) qT au aj aH)
 refine sO [(1,_),(2,_),(3,_),(7,_),(22,_),(23,_),(24,_),(37,_),(38,_),(39,_)] [(1,_),(2,_),(3,(46,bj)),(7,_)] ?_
 exact AT
 have hend1:k=e.Done.length:=ab
 refine qo ?_
 refine sT [1,2,3,22,23,24,37,38,39] [1,2,3] ?_
 refine rA ?_ (x:=lF pt)
 refine rA ?_ (x:=lD [sl .v _] pv)
 refine rA ?_ (x:=lN nR)
 refine dM ?_
 refine sP [1,2,3,22,23,24,37,38,39,52,53,54] [1,2,3] ?_
 refine sL [1,2,3,22,23,24,37,38,39,52,53] [1,2] (fun k:Nat=>k≤e.adl.length) (fun k:Nat=>[(54,RV.int (k:Int))]) (fun k:Nat=>[(3,(46,[sl dg (e.Store.ac7.map (be bJ ak)),val (vI e.Store.Now),val (vI e.adc),sl ak (e.Order.map ax),sl fq (e.ac8.map (bz bb ak ak bc ak)),sl ft (e.Done.map (cn bb ak bc ak)),sl fu ((e.adl.take k).map (cm ak ak ak)),val (vI e.Steps)]))]) (fun k:Nat=>e.adl.length - k) 0 ab cb (by exact aI (by rw [hend1,cC];exact rfl) tI) ?_
 rintro k hk
 refine bO ?_
 refine sc ?_ ?_<;>intro hbc
 have hlt:k < e.adl.length:=ab
 have hwm:=gw (f:=sY) hlt
 skip
 have htl:(e.adl.take k).length=k:=fR
 refine bA ?_
 refine sT [1,2,3,22,23,24,37,38,39,52,53,54] [1,2,3] ?_
 refine KV ?_
 refine Bx ?_
 refine sO [(1,_),(2,_),(3,_),(9,_),(22,_),(23,_),(24,_),(37,_),(38,_),(39,_),(52,_),(53,_),(54,_)] [(1,_),(2,_),(3,_),(9,(149,gX))] ?_
 refine dr ?_
 refine dA 0 ?_ (x:=lF pt)
 refine dA 1 ?_ (x:=fa (ms:=[sl _ _]) (qs:=[sl .v _]) ae pv (fun _=>rfl) aH aj la kq)
 refine dA 0 ?_ (x:=lD rQ qS)
 refine dA 4 ?_ (x:=cL [(true,gX)] [(true,rQ)] Wm (hs:=by exact (Xz ab)))
 refine dA 12 ?_ (x:=dq (qs:=[(true,gX)]) ae nR qU ae rfl rfl rfl rfl rfl aH eW rfl)
 refine dA 31 ?_ (x:=ir ae nR qU rfl rfl ae rfl ck ck)
 refine dA 63 ?_ (x:=lF pt)
 refine dA 127 ?_ (x:=bZ (ag:=false) (vs:=[sl _ _]) pv au aj aH)
 refine sO [(1,_),(2,_),(3,_),(9,_),(22,_),(23,_),(24,_),(37,_),(38,_),(39,_),(52,_),(53,_),(54,_)] [(1,_),(2,_),(3,(46,bj)),(9,_)] ?_
 exact AT
 have hend2:k=e.adl.length:=ab
 refine bv ?_
 refine sT [1,2,3,22,23,24,37,38,39,52,53,54] [1,2,3] ?_
 refine mr ?_
 refine cv ?_
 exact (ba 2 (ba _ (aI aj (aI (by refine cV ?_;rw [hend2,cC];exact rfl) (aI dl (aI (fun h=>nomatch h) tI))))))
end Go.Proofs.YtmekkgdboplbjaaGreatDoor
