/- What functions of the program compute. No condition. -/
import Derived.Test.YtmekkgdboplbjaaGreatDoorDH1
import Derived.Test.YtmekkgdboplbjaaGreatDoorDP1
import Derived.Test.YtmekkgdboplbjaaGreatDoorDQ1
import Derived.Test.YtmekkgdboplbjaaGreatDoorDS1
set_option linter.all false
namespace Go.Proofs.YtmekkgdboplbjaaGreatDoor
open Go Go.RowKit M PV Tryz
set_option maxRecDepth 10000
attribute [local irreducible] PV.Lcl PV.LclR RV.Lcl
set_option maxHeartbeats 8000000
def QC:eL prog 41=some [(0,1),(1,1)]:=aq
def QD:eL prog 46=some [(0,2),(2,1),(3,1),(4,1),(5,1),(6,1),(7,1)]:=aq
def abL:eL prog 56=some [(0,4),(4,1),(5,1),(6,1)]:=aq
def abM:prog.underlying 9=some .string:=aq
def abN{p1 p2 p5 p6 p7 p8 p9 p11 p12 p13 p14 p16 p17 p18:Fl}{e:ar}{id:Int}(hb:bw e≤68718000000):aS prog 244 [(true,[sl .v (e.Store.ac7.map (be p1 p2)),val (vI e.Store.Now),val (vI e.adc),sl .v (e.Order.map ax),sl .v (e.ac8.map (bz p5 p6 p7 p8 p9)),sl .v (e.Done.map (cn p11 p12 p13 p14)),sl .v (e.adl.map (cm p16 p17 p18)),val (vI e.Steps)]),(false,[val (vI id)])] (aJ [(true,[val (vI (fD e id).1.ac9.Id),val (vI (fD e id).1.ac9.ade),sl bb ((fD e id).1.ac9.ada.map bU),sl ak ((fD e id).1.ac9.Out.map ax),val (vI (fD e id).1.Time),val (vI (fD e id).1.Steps),sl bc ((fD e id).1.Rows.map (cg ak))]),(false,[val (.bool (fD e id).2)])]):=by
 refine sF func244 fun h0 w0 Fz0=>?_
 refine sn 0 0 fun hl0_0=>?_
 refine sn 0 3 fun hl0_3=>?_
 refine sn 0 4 fun hl0_4=>?_
 refine sn 0 5 fun hl0_5=>?_
 refine sn 0 6 fun hl0_6=>?_
 have hbu:=hb
 simp only [bw,jZ,mG,kJ] at hbu
 refine oB ?_
 refine rX ?_ (x:=(ew ae nV vJ))
 refine gJ ?_
 refine sT [1,2,4,5] [2,4] ?_
 refine xz ?_
 refine fw ?_
 refine sc ?_ ?_<;>intro hba
 have hr:=aaX (id:=id) (by simpa using hba:aP e=false)
 refine sS [1,2,4,5] [2,4] ?_
 exact JL
 have hok:aP e=true:=gp
 refine dH ?_
 refine sS [1,2,4,5] [2,4] ?_
 refine uG ?_
 refine rA ?_ (x:=lN lT)
 refine mz ?_
 refine rS ?_
 refine fG ?_
 refine sP [1,2,4,5,6] [2,4] ?_
 refine sL [1,2,4] [2,4] (fun k:Nat=>k≤e.Done.length∧(∀f∈e.Done.drop (e.Done.length - k),f.ac9.Id≠id)) (fun k:Nat=>[(6,RV.int ((e.Done.length:Int) - 1 - (k:Int)))]) (fun k:Nat=>[]) (fun k:Nat=>e.Done.length - k) 0 kt oj au ?_
 rintro k ⟨hk,ha⟩
 refine jU ?_
 refine rA ?_ (x:=ll)
 refine sc ?_ ?_<;>intro hbb
 have hlt:k < e.Done.length:=ab
 have hwm:=gw (f:=mF) (show e.Done.length - 1 - k < e.Done.length by omega)
 refine bA ?_
 refine sT [1,2,4,6] [2,4] ?_
 refine uG ?_
 refine Li ?_
 refine rA ?_ (x:=lg ae tx aH)
 refine rA ?_ (x:=lg ae nJ aH)
 refine rA ?_ (x:=lE [val _] bB)
 refine rM ?_
 refine jw ?_
 refine sc ?_ ?_<;>intro hbc
 have hr:=aaV hlt hok ha wx
 refine sS [1,2,4,6] [2,4] ?_
 refine uG ?_
 refine Li ?_
 refine rA ?_ (x:=lE ny px)
 refine rA ?_ (x:=cL [(true,iW)] [(true,ny)] NW (hs:=by exact (Ox (x:=e.Done[e.Done.length - 1 - k]) ab)))
 exact JK
 have hno:¬e.Done[e.Done.length - 1 - k].ac9.Id=id:=wx
 refine bd ?_
 refine sG [1,2,4,6] [2,4] ?_
 refine rM ?_
 refine mz ?_
 refine rS ?_
 refine nx (k+1) (by exact ⟨ab,aaY hlt ha hno⟩) (e:=oj)
 have hend:k=e.Done.length:=ab
 have hr:=aaW (id:=id) hok (by rw [hend,Nat.sub_self,List.drop_zero] at ha;exact ha)
 refine bv ?_
 refine sT [1,2,4,6] [2,4] ?_
 exact JL
def abO{s:am}{ws:List am}(c:UInt8)(hs:s.length≤1048576)(hw:aw c s=ws):db prog gl 99 [(false,[val (.string (B s))]),(false,[val (.string (B [c]))])] (aJ [(false,[sl (.own 9 1) (ws.map nI)])]):=by
 subst hw;exact EU c hs
def abP{p1:Fl}{l:List Row}(h0l:l=[]):aS prog 240 [(false,[sl .v (l.map (cg p1))])] (aJ [(false,[val (.bool true)])]):=by
 refine sF func240 fun h0 w0 Fz0=>?_
 refine sj 0 fun hl0=>?_
 subst h0l
 refine oI ?_
 refine nC ?_
 refine dM ?_
 refine sP [0,2,5,6,7] [] ?_
 refine sL [0,5,6] [] (fun k:Nat=>k≤([]:List Row).length) (fun k:Nat=>[(7,RV.int (k:Int))]) (fun k:Nat=>[]) (fun k:Nat=>([]:List Row).length - k) 0 ab cb au ?_
 rintro k hk
 refine bO ?_
 refine sc ?_ ?_<;>intro hba
 exact absurd hba aF
 refine bv ?_
 refine sS [0,5,6,7] [] ?_
 refine nC ?_
 refine rA ?_ (x:=nq)
 refine rM ?_
 refine cx 29 (fun ga sga=>?_) (fun ga sga=>?_)
 refine Lu ?_
 refine jx ?_
 exact ut
 exact absurd ga ae
def abQ{p1:Fl}{rows:List Row}{n:Int}(h0l:rows=[]):aS prog 185 [(false,[sl .v (rows.map (cg p1))]),(false,[val (vI n)])] (aJ [(true,[sl dg ((ii [] n).1.ac7.map (be bJ ak)),val (vI (ii [] n).1.Now)]),(false,[val (.bool (ii [] n).2)])]):=by
 refine sF func185 fun h0 w0 Fz0=>?_
 refine sj 0 fun hl0=>?_
 subst h0l
 refine sR ?_
 refine Ck ?_
 refine sT [0,1,4,5] [4] ?_
 refine fc ?_
 refine rA ?_ (x:=cL [(false,[sl _ _])] [(false,[sl .v _])] Wr (hs:=by exact (abP (l:=[]) rfl)))
 refine fj ?_
 refine cx 13 (fun ga sga=>?_) (fun ga sga=>?_)
 refine ly ?_
 refine av.cases (s:=18) rfl (fun g2=>?_) (fun g2=>nomatch g2)
 refine mw ?_
 refine cd ?_
 exact Ba
 refine gv ?_
 refine rU ?_
 refine qp ?_
 refine cx 18 (fun gb sgb=>?_) (fun gb sgb=>?_)
 refine uO ?_
 refine cd ?_
 exact Ba
 refine rB gb ?_ (x:=vM false [sl .v _])
 refine rB gb ?_ (x:=lN jb)
 refine lz ?_
 refine rB gb ?_ (x:=Aj ae (bI rfl) au (by have h2_:aE n 1 8=true:=eX;simp only [aE,aT,decide_eq_true_eq] at h2_;unfold cq;omega))
 refine Cu ?_
 refine sc ?_ ?_<;>intro hba
 exact Ba
 have hin:1≤n∧n≤8:=by first|omega|(simp_all [aE];done)|(simp_all [aE];omega)
 have hok:ob [] n=true:=abd hin
 refine bd ?_
 refine sS [0,1,4,5] [4] ?_
 refine rM ?_
 refine rX ?_ (x:=(Se (m:=n.toNat) ae iN DX rfl WW au au (by first|exact rfl|omega) (by first|exact rfl|omega) ab ab))
 refine rA ?_ (x:=dZ (qs:=[(false,[sl _ _])]) (cs:=dE) ae tB tC QC aj eW rfl aj)
 refine rV ?_
 refine eO ?_
 refine sO [(0,_),(1,_),(4,_),(5,_),(6,_)] [(4,_),(6,(41,dE))] ?_
 refine bh ?_
 refine nC ?_
 refine dM ?_
 refine sP [0,1,4,5,6,29,30,31] [4,6] ?_
 refine sL [0,1,4,5,6,29,30] [4,6] (fun k:Nat=>k≤([]:List Row).length) (fun k:Nat=>[(31,RV.int (k:Int))]) (fun k:Nat=>[]) (fun k:Nat=>([]:List Row).length - k) 0 ab cb au ?_
 rintro k hk
 refine bO ?_
 refine sc ?_ ?_<;>intro hbb
 exact absurd hbb aF
 refine bv ?_
 refine sT [0,1,4,5,6,29,30,31] [4,6] ?_
 refine uw ?_
 refine bG ?_
 exact (ba 4 (ba _ (aI aj (aI (by refine cV ?_;rw [Py hok,abe];simp only [List.map_replicate];exact rfl) (aI gy (aI (fun h=>nomatch h) (aI (by refine dh ?_;rw [Py hok]) tI)))))))
def abR{p1 p2 p5 p6 p7 p8 p9 p11 p12 p13 p14 p16 p17 p18:Fl}{e:ar}{w:am}{s:am}(hb:bw e≤68718000000)(hw:w=[114,101,115,117,108,116])(hl:s.length≤1048576):db prog gl 187 [(true,[sl .v (e.Store.ac7.map (be p1 p2)),val (vI e.Store.Now),val (vI e.adc),sl .v (e.Order.map ax),sl .v (e.ac8.map (bz p5 p6 p7 p8 p9)),sl .v (e.Done.map (cn p11 p12 p13 p14)),sl .v (e.adl.map (cm p16 p17 p18)),val (vI e.Steps)]),(false,[val (.string (B w))]),(false,[val (.string (B s))])] (aJ [(false,[val (.string (B (kY e s)))])]):=by
 refine gq (rs:=[(false,[val (.string (B (kY e s)))])]) func187 rfl (nl rfl) bn ?_
 intro h0 w0 Fz0
 refine sn 0 0 fun hl0_0=>?_
 refine sn 0 3 fun hl0_3=>?_
 refine sn 0 4 fun hl0_4=>?_
 refine sn 0 5 fun hl0_5=>?_
 refine sn 0 6 fun hl0_6=>?_
 have hnl:=Yj s
 refine oB ?_
 refine rK ?_
 refine sT [1,2,3,6,7000] [3] ?_
 refine jW ?_
 refine rS ?_
 refine gu ?_
 refine sS [1,2,3,6,7,8,7000] [3] ?_
 refine rM ?_
 refine fj ?_
 refine cx 18 (fun ga sga=>?_) (fun ga sga=>?_)
 refine jT ?_
 exact JM
 refine Cv ?_
 refine jY ?_
 refine sc ?_ ?_<;>intro hba
 exact JM
 have hnn:fz s=true∧0≤bQ s:=by first|(constructor<;>first|omega|(simp_all;done))|(simp_all;done)|(simp_all;omega)
 refine dH ?_
 refine sS [1,2,3,6,7,8,7000] [3] ?_
 refine rM ?_
 refine fG ?_
 refine sS [1,2,3,6,7,8,22,7000] [3] ?_
 refine rA ?_ (x:=up)
 refine rS ?_
 refine sc ?_ ?_<;>intro hbb
 refine sS [1,2,3,6,7,8,22,7000] [3] ?_
 refine LL ?_
 refine rA ?_ (x:=cL [(true,bj),(false,[val _])] [(true,fb),(false,[val _])] Ws (hs:=by exact (abN (e:=e) ab)))
 refine bW ?_
 refine rA ?_ (x:=np (cs:=iW) (qs:=ny) ae aj FF bn)
 refine kG ?_
 refine Bs ?_
 refine oM ?_
 refine sO [(1,_),(2,_),(3,_),(6,_),(7,_),(8,_),(9,_),(10,_),(22,_),(7000,_)] [(3,_),(9,(56,iW))] ?_
 refine oK ?_
 refine fw ?_
 refine sc ?_ ?_<;>intro hbc
 have hr:kY e s=_:=(if_pos hnn).trans (if_neg md)
 refine sS [1,2,3,6,7,8,9,10,22,7000] [3,9] ?_
 refine rK ?_
 exact Bb
 have hr:kY e s=_:=(if_pos hnn).trans (if_pos md)
 refine bd ?_
 refine sS [1,2,3,6,7,8,9,10,22,7000] [3,9] ?_
 refine rA ?_ (x:=lD ny px)
 refine rA ?_ (x:=gL [(true,iW)] [(true,ny)] WA (hs:=by exact (aaa (x:=(fD e (bQ s)).1))))
 refine rS ?_
 exact Bb
 exact absurd hbb (by rw [hw];simp)
def abS{e:ar}{l:am}(hb:bw e≤68700000000)(hok:zB e l)(hl:l.length≤1048576):db prog gl 100 [(true,[sl .v (e.Store.ac7.map (be .v .v)),val (vI e.Store.Now),val (vI e.adc),sl .v (e.Order.map ax),sl .v (e.ac8.map (bz .v .v .v .v .v)),sl .v (e.Done.map (cn .v .v .v .v)),sl .v (e.adl.map (cm .v .v .v)),val (vI e.Steps)]),(false,[val (.string (B l))])] (aJ [(true,[sl .v ((dP e l).Store.ac7.map (be .v .v)),val (vI (dP e l).Store.Now),val (vI (dP e l).adc),sl .v ((dP e l).Order.map ax),sl .v ((dP e l).ac8.map (bz .v .v .v .v .v)),sl .v ((dP e l).Done.map (cn .v .v .v .v)),sl .v ((dP e l).adl.map (cm .v .v .v)),val (vI (dP e l).Steps)]),(false,[val (.string (B (iO e l)))])]):=by
 refine gq (rs:=[(true,[sl .v ((dP e l).Store.ac7.map (be .v .v)),val (vI (dP e l).Store.Now),val (vI (dP e l).adc),sl .v ((dP e l).Order.map ax),sl .v ((dP e l).ac8.map (bz .v .v .v .v .v)),sl .v ((dP e l).Done.map (cn .v .v .v .v)),sl .v ((dP e l).adl.map (cm .v .v .v)),val (vI (dP e l).Steps)]),(false,[val (.string (B (iO e l)))])]) func100 rfl (nl rfl) bn ?_
 intro h0 w0 Fz0
 refine sn 0 0 fun hl0_0=>?_
 refine sn 0 3 fun hl0_3=>?_
 refine sn 0 4 fun hl0_4=>?_
 refine sn 0 5 fun hl0_5=>?_
 refine sn 0 6 fun hl0_6=>?_
 have hsl:=zj 32 l
 have h0w:0 < (aw 32 l).length:=ab
 have hwd0:=kV 32 l 0
 have hwd1:=kV 32 l 1
 refine xP ?_
 refine rK ?_
 refine sT [1,2,4,5,7000] [2,4] ?_
 refine BM ?_
 refine fY ?_
 refine aU ?_
 refine sU ?_
 refine xx ?_
 refine qv ?_
 refine cx 28 (fun ga sga=>?_) (fun ga sga=>?_)
 refine Ce ?_
 refine qk ?_
 refine sc ?_ ?_<;>intro hba
 have htb:((aw 32 l).getD 0 []=[116,97,98,108,101]∧(aw 32 l).length=2):=kr
 have hit:=abf htb
 have h1w:1 < (aw 32 l).length:=ab
 have hrE:=abg (e:=e) hit
 have hrT:=abh (e:=e) hit
 refine sU ?_
 refine xT ?_
 refine KK ?_
 refine jS ?_
 refine sS [1,2,4,5,6,7,8,7000] [2,4] ?_
 refine rM ?_
 refine rA ?_ (x:=cL [(false,[sl _ _]),(false,[val _])] [(false,[sl .v _]),(false,[val _])] Wi (hs:=by exact (abQ (p1:=.v) (rows:=[]) rfl)))
 refine bW ?_
 refine Bi ?_
 refine rV ?_
 refine oM ?_
 refine sO [(1,_),(2,_),(4,_),(5,_),(6,_),(7,_),(8,_),(9,_),(10,_),(7000,_)] [(2,_),(4,_),(9,(41,dE))] ?_
 refine oK ?_
 refine fw ?_
 refine sc ?_ ?_<;>intro hbb
 have hns:(ii [] (bQ ((aw 32 l).getD 1 []))).2=false:=gU
 have hx1:=abi (e:=e) hns
 have hx2:=abk hns
 refine sS [1,2,4,5,6,7,8,9,10,7000] [2,4,9] ?_
 refine oP ?_
 refine BD ?_
 exact JN
 have hns:(ii [] (bQ ((aw 32 l).getD 1 []))).2=true:=gU
 have hx1:=abj (e:=e) hns
 have hx2:=abl hns
 refine bd ?_
 refine sS [1,2,4,5,6,7,8,9,10,7000] [2,4,9] ?_
 refine CO ?_
 refine rA ?_ (x:=dq (qs:=[(false,[val _]),(false,[val _]),(false,[val _])]) ae ej nL ae rfl rfl rfl rfl rfl aH (by exact (aI (bI rfl) (aI (bI rfl) (aI (bI rfl) tI)))) rfl)
 refine rA ?_ (x:=dZ (qs:=[(true,dE),(false,[sl _ _])]) (cs:=bj) ae vF vH QD aj mc rfl aj)
 refine BD ?_
 refine xg (d:=4) fb aj (by exact (aA.cons (PV.to_map (fun _=>(aA.cons (PV.to_map (fun _=>(aD (aA.cons (PV.to_map (fun _=>(aD aA.nil))) (aD (aD aA.nil)))))) aA.nil))) (aD (aD (bK (bK (bK (bK (aD aA.nil))))))))) bn ?_
 exact JN
 have htb:¬((aw 32 l).getD 0 []=[116,97,98,108,101]∧(aw 32 l).length=2):=kr
 have hit:=Qu htb
 have hln:=Qv hok hit
 refine dH ?_
 refine sU ?_
 refine lB ?_
 refine nF ?_
 refine jw ?_
 refine sc ?_ ?_<;>intro hbb
 exact absurd hbb Gi
 refine bd ?_
 refine sU ?_
 refine rM ?_
 refine LA ?_
 refine Kd ?_
 refine Bp ?_
 refine oM ?_
 refine KI ?_
 refine rM ?_
 refine sc ?_ ?_<;>intro hbc
 have hpe:(bq l).isSome=true:=md
 have hrE:=Qx (e:=e) hit hpe
 have hrT:=Qy (e:=e) hit hpe
 have hxw:=Pm l
 refine Lr ?_
 refine Kh ?_
 refine bW ?_
 refine xw ?_
 refine nA ?_
 refine oM ?_
 refine KL ?_
 refine rM ?_
 refine fw ?_
 refine sc ?_ ?_<;>intro hbd
 have hd_:(bC e ((bq l).getD cY)).2=false:=by simpa using hbd
 exact JO
 have hd_:(bC e ((bq l).getD cY)).2=true:=by simpa using hbd
 exact JP
 have hpe:(bq l).isSome=false:=md
 have hres:=Qw hln hpe
 have hrE:=Qz (e:=e) hit hpe
 have hrT:=QA (e:=e) hit hpe
 have h1w:1 < (aw 32 l).length:=ab
 refine dH ?_
 refine sS [1,2,4,5,6,11,12,7000] [2,4,11] ?_
 refine qj ?_
 refine fG ?_
 refine xN ?_
 refine sc ?_ ?_<;>intro hbd
 exact JQ
 refine xN ?_
 refine sc ?_ ?_<;>intro hbe
 exact JR
 exact absurd hbe Ac
 refine iA ?_
 refine fW ?_
 have htb:¬((aw 32 l).getD 0 []=[116,97,98,108,101]∧(aw 32 l).length=2):=kr
 have hit:=Qu htb
 have hln:=Qv hok hit
 refine dH ?_
 refine sU ?_
 refine lB ?_
 refine nF ?_
 refine jw ?_
 refine sc ?_ ?_<;>intro hba
 exact absurd hba Gi
 refine bd ?_
 refine sU ?_
 refine rM ?_
 refine LA ?_
 refine Kd ?_
 refine Bp ?_
 refine oM ?_
 refine KI ?_
 refine rM ?_
 refine sc ?_ ?_<;>intro hbb
 have hpe:(bq l).isSome=true:=gU
 have hrE:=Qx (e:=e) hit hpe
 have hrT:=Qy (e:=e) hit hpe
 have hxw:=Pm l
 refine Lr ?_
 refine Kh ?_
 refine bW ?_
 refine xw ?_
 refine nA ?_
 refine oM ?_
 refine KL ?_
 refine rM ?_
 refine fw ?_
 refine sc ?_ ?_<;>intro hbc
 have hd_:(bC e ((bq l).getD cY)).2=false:=md
 exact JO
 have hd_:(bC e ((bq l).getD cY)).2=true:=md
 exact JP
 have hpe:(bq l).isSome=false:=gU
 have hres:=Qw hln hpe
 have hrE:=Qz (e:=e) hit hpe
 have hrT:=QA (e:=e) hit hpe
 have h1w:1 < (aw 32 l).length:=ab
 refine dH ?_
 refine sS [1,2,4,5,6,11,12,7000] [2,4,11] ?_
 refine qj ?_
 refine fG ?_
 refine xN ?_
 refine sc ?_ ?_<;>intro hbc
 exact absurd hbc Ac
 refine xN ?_
 refine sc ?_ ?_<;>intro hbd
 exact JR
 exact JQ
def abT{s:am}{ls:List am}(hl:s.length≤3000)(hls:aw 10 s=ls++[[]])(h60:ls.length≤60)(hok:∀k l,ls[k]?=some l→zB (dQ ls k).1 l∧l≠[])(hL:∀l∈ls,l.length≤3000)(hT:∀k,k≤ls.length→(dQ ls k).2.length≤200000)(hW:∀k,k≤ls.length→bw (dQ ls k).1≤60000000):db prog gl 34 [(false,[val (.string (B s))])] (aJ [(false,[val (.string (B (dQ ls ls.length).2))])]):=by
 refine gq (rs:=[(false,[val (.string (B (dQ ls ls.length).2))])]) func34 rfl (nl rfl) (gV (aB.cons (bor_val _) aB.nil) iv) ?_
 intro h0 w0 Fz0
 have hll:(ls++[[]]:List am).length=ls.length+1:=by rw [aZ];rfl
 have hlw:ls.length < (ls++[[]]:List am).length:=ab
 refine mx ?_
 refine sS [0,2,7000] [] ?_
 refine rM ?_
 refine rA ?_ (x:=gL [(false,[val _]),(false,[val _])] [(false,[val _]),(false,[val _])] DR (hs:=by exact (abO 10 ab hls)))
 refine fY ?_
 refine aU ?_
 refine qy ?_
 refine fc ?_
 refine qj ?_
 refine mz ?_
 refine rA ?_ (x:=bT (k:=ls.length) ae eo au ab (by exact iu hlw (by rw [abc])) aj)
 refine mB ?_
 refine rA ?_ (x:=up)
 refine sc ?_ ?_<;>intro hba
 refine sG [0,2,3,7000] [] ?_
 refine fc ?_
 refine qj ?_
 refine mz ?_
 refine rA ?_ (x:=wT (i:=0) (j:=ls.length) (ys:=ls) (q:=(0:Int)) ae eo aj au jo ab ab zZ (fun _=>rfl) aF)
 refine rA ?_ (x:=vA false [sl .v _])
 refine aU ?_
 refine qy ?_
 refine rM ?_
 refine rA ?_ (x:=wY abM)
 refine rA ?_ (x:=fH)
 refine rM ?_
 refine cx 27 (fun ga sga=>?_) (fun ga sga=>?_)
 refine jT ?_
 exact absurd trivial Gf
 refine Ce ?_
 refine rB ga ?_ (x:=fH)
 refine jY ?_
 refine sc ?_ ?_<;>intro hbb
 exact absurd hbb Gf
 refine bd ?_
 refine qy ?_
 refine rA ?_ (x:=dZ (qs:=[]) (cs:=bj) ae vF vH QD aj au rfl aj)
 refine nA ?_
 refine aU ?_
 refine sQ [0,2,3,4,7000] [4] ?_
 refine xg (d:=4) [sl .v [],val (.int .i64 0),val (.int .i64 0),sl .v [],sl .v [],sl .v [],sl .v [],val (.int .i64 0)] aj zF bn ?_
 refine sH [0,2,3,4,7000] [4] ?_
 refine gJ ?_
 refine sS [0,2,3,4,5,7000] [4] ?_
 refine qj ?_
 refine dM ?_
 refine sP [0,2,3,4,5,33,34,35,7000] [4] ?_
 refine sL [0,2,3,4,33,34,7000] [] (fun k:Nat=>k≤ls.length) (fun k:Nat=>[(5,RV.sc (.string (B (dQ ls k).2))),(35,RV.int (k:Int))]) (fun k:Nat=>[(4,(46,[sl .v ((dQ ls k).1.Store.ac7.map (be .v .v)),val (vI (dQ ls k).1.Store.Now),val (vI (dQ ls k).1.adc),sl .v ((dQ ls k).1.Order.map ax),sl .v ((dQ ls k).1.ac8.map (bz .v .v .v .v .v)),sl .v ((dQ ls k).1.Done.map (cn .v .v .v .v)),sl .v ((dQ ls k).1.adl.map (cm .v .v .v)),val (vI (dQ ls k).1.Steps)]))]) (fun k:Nat=>ls.length - k) 0 ab jm cb ?_
 rintro k hk
 have hwk:=hW k hk
 have htk:=hT k hk
 refine bO ?_
 refine sc ?_ ?_<;>intro hbc
 have hlt:k < ls.length:=Gm
 have hlk:=hok k _ (List.getElem?_eq_getElem hlt)
 have hlm:=hL _ (List.getElem_mem hlt)
 have htk1:=hT (k+1) hlt
 have htk2:(dQ ls (k+1)).2.length=(dQ ls k).2.length+((iO (dQ ls k).1 ls[k]).length+1):=by rw [zC hlt];unfold pI;simp only [aZ,List.length_cons,List.length_nil]
 refine bA ?_
 refine sT [0,2,3,4,5,33,34,35,7000] [4] ?_
 refine Lj ?_
 refine gu ?_
 refine sS [0,2,3,4,5,7,33,34,35,7000] [4] ?_
 refine rM ?_
 refine rA ?_ (x:=up)
 refine sc ?_ ?_<;>intro hbd
 exact absurd hbd (by have:=hlk.2;simp [this])
 refine bd ?_
 refine sS [0,2,3,4,5,7,33,34,35,7000] [4] ?_
 refine LL ?_
 refine rA ?_ (x:=gL [(true,bj),(false,[val _])] [(true,fb),(false,[val _])] VS (hs:=by exact (abS (e:=(dQ ls k).1) (l:=ls[k]) ab hlk.1 ab)))
 refine bW ?_
 refine xw ?_
 refine nA ?_
 refine gu ?_
 refine sO [(0,_),(2,_),(3,_),(4,_),(5,_),(7,_),(8,_),(9,_),(33,_),(34,_),(35,_),(7000,_)] [(4,_),(8,(46,bj))] ?_
 refine bh ?_
 refine oP ?_
 refine sV ?_
 refine sO [(0,_),(2,_),(3,_),(4,_),(5,_),(7,_),(8,_),(9,_),(33,_),(34,_),(35,_),(7000,_)] [(4,(46,bj)),(8,_)] ?_
 refine oK ?_
 refine rY ?_
 refine KF ?_
 refine sG [0,2,3,4,5,7,8,9,33,34,35,7000] [4,8] ?_
 refine cf ?_
 refine nx (k+1) ab (e:=(by exact aI (by exact congrArg (fun z=>some (RV.sc (.string (B z)))) (by rw [zC hlt];rfl)) (aI aj tI))) (f:=(by exact aI (by rw [zC hlt];exact rfl) tI))
 have hend:k=ls.length:=Gm
 subst hend
 refine bv ?_
 refine sT [0,2,3,4,5,33,34,35,7000] [4] ?_
 refine rM ?_
 exact ut
 exact absurd hba aF
end Go.Proofs.YtmekkgdboplbjaaGreatDoor
