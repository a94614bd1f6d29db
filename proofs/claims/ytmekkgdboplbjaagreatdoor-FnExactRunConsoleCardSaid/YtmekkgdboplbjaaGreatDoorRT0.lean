/- What functions of the program compute. No condition. -/
import Derived.Test.YtmekkgdboplbjaaGreatDoorRP0
set_option linter.all false
namespace Go.Proofs.YtmekkgdboplbjaaGreatDoor
open Go Go.RowKit M PV Tryz
set_option maxRecDepth 10000
attribute [local irreducible] PV.Lcl PV.LclR RV.Lcl
variable{p1 p2:Fl}
def amJ:er prog 116=some [(0,1),(1,1),(2,1),(3,1)]:=au
def awr:er prog 149=some [(0,1),(1,1),(2,1),(3,1),(4,1)]:=au
def aws:er prog 41=some [(0,1),(1,1)]:=au
def amK:er prog 46=some [(0,2),(2,1),(3,1),(4,1),(5,1),(6,1),(7,1)]:=au
def awt{x:cw}(hb:uc x≤68719476736):aE prog 197 [(true,[val (vI x.Segment),val (vI x.Base),sl .v (x.Ids.map ar),sl .v (x.aDc.map ar),sl .v (x.Rows.map ar)])] (aA [(true,[val (vI x.Segment),val (vI x.Base),sl ai (x.Ids.map ar),sl ai (x.aDc.map ar),sl ai (x.Rows.map ar)])]):=by
 refine sF func197 fun h0 w0 Fz0=>?_
 refine sn 0 2 fun hl0_2=>?_
 refine sn 0 3 fun hl0_3=>?_
 refine sn 0 4 fun hl0_4=>?_
 have hbu:=hb
 simp only [uc,fU,bh] at hbu
 refine vk ?_
 refine rX ?_ (x:=(gW ak mM yv))
 refine vw ?_
 refine dA 0 ?_ (x:=lF ur)
 refine dA 1 ?_ (x:=lD [sl .v _] bZ)
 refine dA 3 ?_ (x:=cL cf cC wd (hs:=uN))
 refine dA 0 ?_ (x:=lF qA)
 refine zox ?_
 refine dA 0 ?_ (x:=lF ut)
 refine dA 64 ?_ (x:=lD [sl .v _] bZ)
 refine dA 255 ?_ (x:=cL cf cC wd (hs:=uN))
 refine dA 223 ?_ (x:=lF ur)
 refine RH ?_
 refine dA 2047 ?_ (x:=lF qA)
 refine zoz ?_
 refine dA 8191 ?_ (x:=lF ut)
 refine zp0 ?_
 refine sV [1,2] [2] [1] ?_
 refine rA ?_ (x:=eP (ms:=pf) (qs:=zq) ak pB (fun h=>nomatch h) ay aj (by exact (aB (aB (bf (bf (bf az.nil)))))) aQ)
 refine zp1 ?_
 exact zp2
def awu{x:cw}(hb:uc x≤68719476736):aE prog 288 [(true,[val (vI x.Segment),val (vI x.Base),sl .v (x.Ids.map ar),sl .v (x.aDc.map ar),sl .v (x.Rows.map ar)])] (aA [(true,[val (vI x.Segment),val (vI x.Base),sl ai (x.Ids.map ar),sl ai (x.aDc.map ar),sl ai (x.Rows.map ar)])]):=by
 refine sF func288 fun h0 w0 Fz0=>?_
 refine sn 0 2 fun hl0_2=>?_
 refine sn 0 3 fun hl0_3=>?_
 refine sn 0 4 fun hl0_4=>?_
 have hbu:=hb
 simp only [uc,fU,bh] at hbu
 refine vk ?_
 refine rX ?_ (x:=(gW ak mM yv))
 refine vw ?_
 refine dA 0 ?_ (x:=lF Tx)
 refine tQ ?_
 refine dA 0 ?_ (x:=lF yp)
 refine dA 4 ?_ (x:=lD [val _] aV)
 refine tR ?_
 refine dA 0 ?_ (x:=lF ur)
 refine dA 32 ?_ (x:=lD [sl .v _] bZ)
 refine dA 112 ?_ (x:=ml ak bY jy rfl rfl ak oW sC bm bm)
 refine tR ?_
 refine dA 0 ?_ (x:=lF qA)
 refine zk1 ?_
 refine tR ?_
 refine dA 0 ?_ (x:=lF ut)
 refine dA 8192 ?_ (x:=lD [sl .v _] bZ)
 refine dA 32752 ?_ (x:=ml ak bY jy rfl rfl ak oW sC bm bm)
 refine dA 65535 ?_ (x:=cz (qs:=[(false,[val _]),(false,[val _]),(false,[sl _ _]),(false,[sl _ _]),(false,[sl _ _])]) (cs:=pf) ak mM yv awr aj (by exact (aI ao (aI ao (aI ao (aI ao (aI ao tI)))))) rfl aj)
 refine dA 131071 ?_ (x:=bR (ag:=true) (vs:=pf) pB ao aj ay)
 exact zp2
def awv{p4:Fl}{x:aC6}(hb:dW x≤68719476736):aE prog 195 [(true,[val (vI x.aC7.Id),val (vI x.aC7.aDb),sl .v (x.aC7.aC8.map bM),sl .v (x.aC7.Out.map ar),val (vI x.Time),sl .v (x.aDf.map ar),val (vI x.Age),val (vI x.Sent),val (vI x.Cap),sl .v (x.Rows.map (ci p4))])] (aA [(true,[val (vI x.aC7.Id),val (vI x.aC7.aDb),sl aH (x.aC7.aC8.map bM),sl ai (x.aC7.Out.map ar),val (vI x.Time),sl ai (x.aDf.map ar),val (vI x.Age),val (vI x.Sent),val (vI x.Cap),sl aJ (x.Rows.map (ci ai))])]):=by
 refine sF func195 fun h0 w0 Fz0=>?_
 refine sn 0 2 fun hl0_2=>?_
 refine sn 0 3 fun hl0_3=>?_
 refine sn 0 5 fun hl0_5=>?_
 refine sn 0 9 fun hl0_9=>?_
 have hbu:=hb
 simp only [dW,fU,bh] at hbu
 refine zp3 ?_
 refine Eg ?_
 refine vw ?_
 refine dA 0 ?_ (x:=lF kx)
 refine zp4 ?_
 refine dA 0 ?_ (x:=lF lS)
 refine zox ?_
 refine dA 0 ?_ (x:=lF py)
 refine dA 64 ?_ (x:=lD [sl .v _] iU)
 refine dA 255 ?_ (x:=cL cf cC al3 (hs:=by exact amq ab))
 refine dA 223 ?_ (x:=lF kx)
 refine zp5 ?_
 refine dA 2047 ?_ (x:=lF lS)
 refine zoz ?_
 refine dA 8191 ?_ (x:=lF py)
 refine dA 16383 ?_ (x:=bR (ag:=false) (vs:=[sl _ _]) iU ao aj ay)
 refine sV [1,2] [2] [1] ?_
 refine RI ?_
 refine RJ ?_
 refine cP ?_
 exact (bi 2 (bi _ (aI aj (aI aj (aI nJ (aI (fun h=>nomatch h) tI))))))
def amL{p3:Fl}{x:gZ}(hb:nw x≤68719476736):aE prog 196 [(true,[val (vI x.aC7.Id),val (vI x.aC7.aDb),sl .v (x.aC7.aC8.map bM),sl .v (x.aC7.Out.map ar),val (vI x.Time),val (vI x.Steps),sl .v (x.Rows.map (ci p3))])] (aA [(true,[val (vI x.aC7.Id),val (vI x.aC7.aDb),sl aH (x.aC7.aC8.map bM),sl ai (x.aC7.Out.map ar),val (vI x.Time),val (vI x.Steps),sl aJ (x.Rows.map (ci ai))])]):=by
 refine sF func196 fun h0 w0 Fz0=>?_
 refine sn 0 2 fun hl0_2=>?_
 refine sn 0 3 fun hl0_3=>?_
 refine sn 0 6 fun hl0_6=>?_
 have hbu:=hb
 simp only [nw,bh] at hbu
 refine Qw ?_
 refine JN ?_
 refine vw ?_
 refine dA 0 ?_ (x:=lF pz)
 refine zp4 ?_
 refine dA 0 ?_ (x:=lF pA)
 refine dA 8 ?_ (x:=lD [sl .v _] iU)
 refine dA 31 ?_ (x:=cL cf cC al3 (hs:=by exact amq ab))
 refine dA 31 ?_ (x:=lF pz)
 refine dA 127 ?_ (x:=bR (ag:=true) (vs:=jL) gD ao aj ay)
 refine dA 255 ?_ (x:=lF pA)
 refine dA 511 ?_ (x:=bR (ag:=false) (vs:=[sl _ _]) iU ao aj ay)
 refine sV [1,2] [2] [1] ?_
 refine zpa ?_
 refine RK ?_
 refine cP ?_
 exact (bi 2 (bi _ (aI aj (aI aj (aI ux (aI (fun h=>nomatch h) tI))))))
def aww{a:Int}{b:List Int}{c:Int}{d:Int}(hb:b.length≤68719476736):aE prog 307 [(false,[val (vI a)]),(false,[sl .v (b.map ar)]),(false,[val (vI c)]),(false,[val (vI d)])] (aA [(true,[val (vI (bb.mk a b c d).Id),sl ai ((bb.mk a b c d).Values.map ar),val (vI (bb.mk a b c d).aDk),val (vI (bb.mk a b c d).aDg)])]):=by
 refine sF func307 fun h0 w0 Fz0=>?_
 refine sj 1 fun hl1=>?_
 refine sR ?_
 refine JO ?_
 refine sT [0,1,2,3,8] [8] ?_
 refine rM ?_
 refine Qv ?_
 refine gn ?_
 refine rA ?_ (x:=cz (qs:=Cg) (cs:=pU) ak iV yu amJ aj wQ rfl aj)
 refine RL ?_
 refine cP ?_
 exact (bi 8 (bi _ (aI aj (aI aj (aI lV (aI (fun h=>nomatch h) tI))))))
def awx{x:List bb}(hb:cX x≤68719476736):aE prog 286 [(false,[sl .v (x.map (ia p1))])] (aA [(false,[sl bc (x.map (ia ai))])]):=by
 refine sF func286 fun h0 w0 Fz0=>?_
 refine sj 0 fun hl0=>?_
 have hbu:=hb
 simp only [cX] at hbu
 refine sR ?_
 refine rA ?_ (x:=pN (.inr rfl) ak (sZ (t:=116) (e:=4)))
 refine lI ?_
 refine xj ?_
 refine tF ?_
 refine sL [0,2] [] (fun k:Nat=>k≤x.length) (fun k:Nat=>[(3,RV.slc bc ((x.take k).map (ia ai))),(4,RV.int (k:Int))]) (fun k:Nat=>[]) (fun k:Nat=>x.length - k) 0 ab kd ao ?_
 rintro k hk
 refine bI ?_
 refine zR ?_
 refine dC ?_
 refine sc ?_ ?_<;>intro hba
 have hlt:k < x.length:=ab
 have hwm:=dK (f:=df) hlt
 have htl:(x.take k).length=k:=dh
 have hwv:df x[k]=x[k].Values.length:=yT
 refine aY ?_
 refine sP [0,2,3,4] [] ?_
 refine rE ?_
 refine gC ?_
 refine zpf ?_
 refine RB ?_
 refine zpg ?_
 refine dA 960 ?_ (x:=lE [sl .v _] bZ)
 refine gC ?_
 refine dA 6144 ?_ (x:=aS ak fz ao aj bD aj)
 refine dA 14336 ?_ (x:=cr ak nH ay)
 refine dA 30720 ?_ (x:=lE [val _] aV)
 refine gC ?_
 refine dA 196608 ?_ (x:=aS ak fz ao aj bD aj)
 refine dA 458752 ?_ (x:=cr ak la ay)
 refine dA 983040 ?_ (x:=lE [val _] aV)
 refine dA 2097150 ?_ (x:=cL Cg [(false,[val _]),(false,[sl .v _]),(false,[val _]),(false,[val _])] auK (hs:=by exact (aww ab)))
 refine dA 4194302 ?_ (x:=cB (qs:=uY) ak fz iV ak rfl rfl rfl rfl rfl ay cN rfl)
 refine dA 8388607 ?_ (x:=eL ak fz iV rfl rfl ak rfl bm bm)
 refine dA 16777215 ?_ (x:=tA)
 refine sG [0,2,3,4] [] ?_
 exact NV
 exact NW
def amM{s:Store}(hb:da s≤68719476736):aE prog 194 [(true,[sl .v (s.aC5.map (aG p1 p2)),val (vI s.Now)])] (aA [(true,[sl bH (s.aC5.map (aG bc ai)),val (vI s.Now)])]):=by
 refine sF func194 fun h0 w0 Fz0=>?_
 refine sn 0 0 fun hl0_0=>?_
 have hbu:=hb
 simp only [da,iR,bh] at hbu
 refine mr ?_
 refine vT ?_
 refine sT [1,2] [1,2] ?_
 refine vU ?_
 refine zpj ?_
 refine vG ?_
 refine sV [1,2,3] [1,2] [3] ?_
 refine tw ?_
 refine dm ?_
 refine sP [1,2,3,13,14,15] [1,2,3] ?_
 refine sL [1,2,3,13,14] [1,2] (fun k:Nat=>k≤s.aC5.length) (fun k:Nat=>[(15,RV.int (k:Int))]) (fun k:Nat=>[(3,(41,[sl bH ((s.aC5.take k).map (aG bc ai)),val (vI s.Now)]))]) (fun k:Nat=>s.aC5.length - k) 0 ab bu bu ?_
 rintro k hk
 refine bP ?_
 refine sc ?_ ?_<;>intro hba
 have hlt:k < s.aC5.length:=ab
 have hwm:=dK (f:=cX) hlt
 have hws:cX s.aC5[k]=s.aC5[k].length+(s.aC5[k].map df).sum:=rfl
 have htl:(s.aC5.take k).length=k:=dh
 refine aY ?_
 refine sT [1,2,3,13,14,15] [1,2,3] ?_
 refine vj ?_
 refine ox ?_
 refine sS [1,2,3,5,13,14,15] [1,2,3] ?_
 refine xj ?_
 refine sS [1,2,3,5,6,13,14,15] [1,2,3] ?_
 refine Ax ?_
 refine sP [1,2,3,5,6,13,14,15,20,21,22] [1,2,3] ?_
 refine sL [1,2,3,5,13,14,15,20,21] [1,2,3] (fun j:Nat=>j≤s.aC5[k].length) (fun j:Nat=>[(6,RV.slc bc ((s.aC5[k].take j).map (ia ai))),(22,RV.int (j:Int))]) (fun j:Nat=>[]) (fun j:Nat=>s.aC5[k].length - j) 0 ab ej ao ?_
 rintro j hj
 refine bP ?_
 refine sc ?_ ?_<;>intro hbb
 have hlt2:j < s.aC5[k].length:=ab
 have hwm2:=dK (f:=df) hlt2
 have hwv:df s.aC5[k][j]=s.aC5[k][j].Values.length:=yT
 have htl2:(s.aC5[k].take j).length=j:=dh
 refine aY ?_
 refine sT [1,2,3,5,6,13,14,15,20,21,22] [1,2,3] ?_
 refine Ay ?_
 refine sU [1,2,3,5,6,8,13,14,15,20,21,22] [1,2,3] [8] ?_
 refine rE ?_
 refine dA 0 ?_ (x:=lF yo)
 refine dA 2 ?_ (x:=lD [val _] aV)
 refine dA 0 ?_ (x:=lF qz)
 refine Ed ?_
 refine dA 24 ?_ (x:=cL cf cC wd (hs:=uN))
 refine dA 0 ?_ (x:=lF nH)
 refine dA 64 ?_ (x:=lD [val _] aV)
 refine dA 0 ?_ (x:=lF la)
 refine dA 256 ?_ (x:=lD [val _] aV)
 refine dA 1022 ?_ (x:=cz (qs:=Cg) (cs:=pU) ak iV yu amJ aj wQ rfl aj)
 refine dA 2046 ?_ (x:=cB (qs:=uY) ak fz iV ak rfl rfl rfl rfl rfl ay cN rfl)
 refine dA 4095 ?_ (x:=eL ak fz iV rfl rfl ak rfl bm bm)
 refine dA 8191 ?_ (x:=tA)
 refine sG [1,2,3,5,6,8,13,14,15,20,21,22] [1,2,3,8] ?_
 refine cc ?_
 refine nx (j+1) ab (e:=(by exact aI (by exact bC (by rw [wc hlt2,bo];exact rfl)) (aI aj tI)))
 have hend2:j=s.aC5[k].length:=ab
 refine be ?_
 refine sH [1,2,3,5,6,13,14,15,20,21,22] [1,2,3] ?_
 refine zpl ?_
 refine bL ?_
 refine zpm ?_
 refine zpn ?_
 refine sW [1,2,3,5,13,14,15,20,21,22] [1,2] [3] ?_
 refine cc ?_
 refine nx (k+1) ab (f:=(by exact aI (by rw [hend2,bG,wc hlt];simp only [bo];exact rfl) tI))
 have hend:k=s.aC5.length:=ab
 refine be ?_
 refine sT [1,2,3,13,14,15] [1,2,3] ?_
 exact zpo
def awy{s:Store}(hb:da s≤68719476736):aE prog 254 [(true,[sl .v (s.aC5.map (aG p1 p2)),val (vI s.Now)])] (aA [(true,[sl bH (s.aC5.map (aG bc ai)),val (vI s.Now)])]):=by
 refine sF func254 fun h0 w0 Fz0=>?_
 refine sn 0 0 fun hl0_0=>?_
 have hbu:=hb
 simp only [da,iR,bh] at hbu
 refine mr ?_
 refine vT ?_
 refine sT [1,2] [1,2] ?_
 refine vU ?_
 refine zpj ?_
 refine vG ?_
 refine Ji ?_
 refine sP [1,2,3,4] [1,2,3] ?_
 refine sL [1,2,3] [1,2] (fun k:Nat=>k≤s.aC5.length) (fun k:Nat=>[(4,RV.int (k:Int))]) (fun k:Nat=>[(3,(41,[sl bH ((s.aC5.take k).map (aG bc ai)),val (vI s.Now)]))]) (fun k:Nat=>s.aC5.length - k) 0 ab bu bu ?_
 rintro k hk
 refine bI ?_
 refine DP ?_
 refine sc ?_ ?_<;>intro hba
 have hlt:k < s.aC5.length:=ab
 have hwm:=dK (f:=cX) hlt
 have hws:cX s.aC5[k]=s.aC5[k].length+(s.aC5[k].map df).sum:=rfl
 have htl:(s.aC5.take k).length=k:=dh
 refine aY ?_
 refine sQ [1,2,3,4] [1,2,3] ?_
 refine cJ ?_
 refine dA 0 ?_ (x:=lF mH)
 refine dA 1 ?_ (x:=eP (ms:=[sl _ _]) (qs:=[sl .v _]) ak mK (fun _=>rfl) ay aj gS fp)
 refine dA 0 ?_ (x:=lF mH)
 refine dA 4 ?_ (x:=lD [sl .v _] mK)
 refine dt ?_
 refine dA 28 ?_ (x:=aS ak gG ao aj bD aj)
 refine dA 60 ?_ (x:=lE [sl .v _] nK)
 refine dA 124 ?_ (x:=cL cf cC auy (hs:=by exact (awx ab)))
 refine dA 252 ?_ (x:=cB (qs:=cf) ak gG EP ak rfl rfl rfl rfl rfl ay cN rfl)
 refine dA 511 ?_ (x:=eL ak gG EP rfl rfl ak rfl bm bm)
 refine dA 1023 ?_ (x:=lF mH)
 refine dA 2047 ?_ (x:=bR (ag:=false) (vs:=[sl _ _]) mK ao aj ay)
 refine sW [1,2,3,4] [1,2] [3] ?_
 exact HD
 have hend:k=s.aC5.length:=ab
 refine be ?_
 refine sT [1,2,3,4] [1,2,3] ?_
 exact zpo
def amN{p5 p6 p7 p8 p9 p11 p12 p13 p14 p16 p17 p18:Fl}{e:av}(hb:aZ e≤68719476736):aE prog 115 [(true,[sl .v (e.Store.aC5.map (aG p1 p2)),val (vI e.Store.Now),val (vI e.aDa),sl .v (e.Order.map ar),sl .v (e.aC6.map (aO p5 p6 p7 p8 p9)),sl .v (e.Done.map (bd p11 p12 p13 p14)),sl .v (e.aDi.map (ba p16 p17 p18)),val (vI e.Steps)])] (aA [(true,[sl bH (e.Store.aC5.map (aG bc ai)),val (vI e.Store.Now),val (vI e.aDa),sl ai (e.Order.map ar),sl ct (e.aC6.map (aO aH ai ai aJ ai)),sl ck (e.Done.map (bd aH ai aJ ai)),sl cl (e.aDi.map (ba ai ai ai)),val (vI e.Steps)])]):=by
 refine sF func115 fun h0 w0 Fz0=>?_
 refine sn 0 0 fun hl0_0=>?_
 refine sn 0 3 fun hl0_3=>?_
 refine sn 0 4 fun hl0_4=>?_
 refine sn 0 5 fun hl0_5=>?_
 refine sn 0 6 fun hl0_6=>?_
 have hbu:=hb
 simp only [aZ,fk,gN,go,fU,bh] at hbu
 refine np ?_
 refine vw ?_
 refine QK ?_
 refine dA 3 ?_ (x:=cL tk lA alW (hs:=by exact (amM ab)))
 refine QY ?_
 refine AH ?_
 refine dA 32 ?_ (x:=lD [sl .v _] bZ)
 refine dA 103 ?_ (x:=cL cf cC wd (hs:=uN))
 refine vV ?_
 refine dA 256 ?_ (x:=lD [val _] aV)
 refine dA 1023 ?_ (x:=cz (qs:=YZ) (cs:=dV) ak sk sq amK aj wQ rfl aj)
 refine RM ?_
 refine dA 4095 ?_ (x:=bR (ag:=true) (vs:=dV) dg ao aj ay)
 refine bg ?_
 refine sV [1,2,3] [1,2] [3] ?_
 refine tJ ?_
 refine sP [1,2,3,22,23,24] [1,2,3] ?_
 refine sL [1,2,3,22,23] [1,2] (fun k:Nat=>k≤e.aC6.length) (fun k:Nat=>[(24,RV.int (k:Int))]) (fun k:Nat=>[(3,(46,[sl bH (e.Store.aC5.map (aG bc ai)),val (vI e.Store.Now),val (vI e.aDa),sl ai (e.Order.map ar),sl ct ((e.aC6.take k).map (aO aH ai ai aJ ai)),sl ck (([]:List gZ).map (bd aH ai aJ ai)),sl cl (([]:List cw).map (ba ai ai ai)),val (vI e.Steps)]))]) (fun k:Nat=>e.aC6.length - k) 0 ab bu bu ?_
 rintro k hk
 refine bP ?_
 refine sc ?_ ?_<;>intro hba
 have hlt:k < e.aC6.length:=ab
 have hwm:=dK (f:=dW) hlt
 have hwu:dW e.aC6[k]=eS e.aC6[k].aC7+e.aC6[k].aDf.length+iQ e.aC6[k].Rows:=yU
 have htl:(e.aC6.take k).length=k:=dh
 refine aY ?_
 refine sT [1,2,3,22,23,24] [1,2,3] ?_
 refine AA ?_
 refine sU [1,2,3,5,22,23,24] [1,2,3] [5] ?_
 refine cJ ?_
 refine zpx ?_
 refine znk ?_
 refine dA 4 ?_ (x:=cL Hc YU atT (hs:=by exact (awv ab)))
 refine dA 12 ?_ (x:=cB (qs:=Hc) ak cY mL ak rfl rfl rfl rfl rfl ay cN rfl)
 refine dA 31 ?_ (x:=eL ak cY mL rfl rfl ak rfl bm bm)
 refine dA 63 ?_ (x:=lF gP)
 refine dA 127 ?_ (x:=bR (ag:=false) (vs:=[sl _ _]) fe ao aj ay)
 refine sW [1,2,3,5,22,23,24] [1,2,5] [3] ?_
 exact Ou
 have hend0:k=e.aC6.length:=ab
 refine gk ?_
 refine sT [1,2,3,22,23,24] [1,2,3] ?_
 refine Ah ?_
 refine dm ?_
 refine sP [1,2,3,22,23,24,37,38,39] [1,2,3] ?_
 refine sL [1,2,3,22,23,24,37,38] [1,2] (fun k:Nat=>k≤e.Done.length) (fun k:Nat=>[(39,RV.int (k:Int))]) (fun k:Nat=>[(3,(46,[sl bH (e.Store.aC5.map (aG bc ai)),val (vI e.Store.Now),val (vI e.aDa),sl ai (e.Order.map ar),sl ct (e.aC6.map (aO aH ai ai aJ ai)),sl ck ((e.Done.take k).map (bd aH ai aJ ai)),sl cl (([]:List cw).map (ba ai ai ai)),val (vI e.Steps)]))]) (fun k:Nat=>e.Done.length - k) 0 ab bu Xa ?_
 rintro k hk
 refine bP ?_
 refine sc ?_ ?_<;>intro hbb
 have hlt:k < e.Done.length:=ab
 have hwm:=dK (f:=nw) hlt
 have hwu:nw e.Done[k]=eS e.Done[k].aC7+iQ e.Done[k].Rows:=by simp only [nw,bh];omega
 have htl:(e.Done.take k).length=k:=dh
 refine aY ?_
 refine sT [1,2,3,22,23,24,37,38,39] [1,2,3] ?_
 refine Ih ?_
 refine CV ?_
 refine sU [1,2,3,7,22,23,24,37,38,39] [1,2,3] [7] ?_
 refine cJ ?_
 refine dA 0 ?_ (x:=lF oL)
 refine dA 1 ?_ (x:=eP (ms:=[sl _ _]) (qs:=[sl .v _]) ak nL (fun _=>rfl) ay aj gS fp)
 refine dA 0 ?_ (x:=lD vc ux)
 refine dA 4 ?_ (x:=cL zm Hf alX (hs:=by exact (amL ab)))
 refine dA 12 ?_ (x:=cB (qs:=zm) ak mJ qB ak rfl rfl rfl rfl rfl ay cN rfl)
 refine dA 31 ?_ (x:=eL ak mJ qB rfl rfl ak rfl bm bm)
 refine dA 63 ?_ (x:=lF oL)
 refine dA 127 ?_ (x:=bR (ag:=false) (vs:=[sl _ _]) nL ao aj ay)
 refine sW [1,2,3,7,22,23,24,37,38,39] [1,2,7] [3] ?_
 exact Ou
 have hend1:k=e.Done.length:=ab
 refine gk ?_
 refine sT [1,2,3,22,23,24,37,38,39] [1,2,3] ?_
 refine Jx ?_
 refine dm ?_
 refine sP [1,2,3,22,23,24,37,38,39,52,53,54] [1,2,3] ?_
 refine sL [1,2,3,22,23,24,37,38,39,52,53] [1,2] (fun k:Nat=>k≤e.aDi.length) (fun k:Nat=>[(54,RV.int (k:Int))]) (fun k:Nat=>[(3,(46,[sl bH (e.Store.aC5.map (aG bc ai)),val (vI e.Store.Now),val (vI e.aDa),sl ai (e.Order.map ar),sl ct (e.aC6.map (aO aH ai ai aJ ai)),sl ck (e.Done.map (bd aH ai aJ ai)),sl cl ((e.aDi.take k).map (ba ai ai ai)),val (vI e.Steps)]))]) (fun k:Nat=>e.aDi.length - k) 0 ab bu Xb ?_
 rintro k hk
 refine bP ?_
 refine sc ?_ ?_<;>intro hbc
 have hlt:k < e.aDi.length:=ab
 have hwm:=dK (f:=uc) hlt
 skip
 have htl:(e.aDi.take k).length=k:=dh
 refine aY ?_
 refine sT [1,2,3,22,23,24,37,38,39,52,53,54] [1,2,3] ?_
 refine xh ?_
 refine CY ?_
 refine sU [1,2,3,9,22,23,24,37,38,39,52,53,54] [1,2,3] [9] ?_
 refine cJ ?_
 refine zpz ?_
 refine dA 0 ?_ (x:=lD zq pB)
 refine dA 4 ?_ (x:=cL oh tj atU (hs:=by exact (awt ab)))
 refine dA 12 ?_ (x:=cB (qs:=oh) ak lU mM ak rfl rfl rfl rfl rfl ay cN rfl)
 refine dA 31 ?_ (x:=eL ak lU mM rfl rfl ak rfl bm bm)
 refine dA 63 ?_ (x:=lF nI)
 refine dA 127 ?_ (x:=bR (ag:=false) (vs:=[sl _ _]) nM ao aj ay)
 refine sW [1,2,3,9,22,23,24,37,38,39,52,53,54] [1,2,9] [3] ?_
 exact Ou
 have hend2:k=e.aDi.length:=ab
 refine be ?_
 refine sT [1,2,3,22,23,24,37,38,39,52,53,54] [1,2,3] ?_
 exact zq0
def TI{p5 p6 p7 p8 p9 p11 p12 p13 p14 p16 p17 p18:Fl}{e:av}(hb:aZ e≤68719476736):aE prog 257 [(true,[sl .v (e.Store.aC5.map (aG p1 p2)),val (vI e.Store.Now),val (vI e.aDa),sl .v (e.Order.map ar),sl .v (e.aC6.map (aO p5 p6 p7 p8 p9)),sl .v (e.Done.map (bd p11 p12 p13 p14)),sl .v (e.aDi.map (ba p16 p17 p18)),val (vI e.Steps)])] (aA [(true,[sl bH (e.Store.aC5.map (aG bc ai)),val (vI e.Store.Now),val (vI e.aDa),sl ai (e.Order.map ar),sl ct (e.aC6.map (aO aH ai ai aJ ai)),sl ck (e.Done.map (bd aH ai aJ ai)),sl cl (e.aDi.map (ba ai ai ai)),val (vI e.Steps)])]):=by
 refine sF func257 fun h0 w0 Fz0=>?_
 refine sn 0 0 fun hl0_0=>?_
 refine sn 0 3 fun hl0_3=>?_
 refine sn 0 4 fun hl0_4=>?_
 refine sn 0 5 fun hl0_5=>?_
 refine sn 0 6 fun hl0_6=>?_
 have hbu:=hb
 simp only [aZ,fk,gN,go,fU,bh] at hbu
 refine np ?_
 refine vw ?_
 refine QK ?_
 refine dA 3 ?_ (x:=cL tk lA Tg (hs:=MI))
 refine QY ?_
 refine tR ?_
 refine AH ?_
 refine dA 64 ?_ (x:=lD [sl .v _] bZ)
 refine dA 231 ?_ (x:=ml ak bY jy rfl rfl ak oW sC bm bm)
 refine vV ?_
 refine dA 512 ?_ (x:=lD [val _] aV)
 refine dA 2047 ?_ (x:=cz (qs:=YZ) (cs:=dV) ak sk sq amK aj wQ rfl aj)
 refine RM ?_
 refine dA 8191 ?_ (x:=bR (ag:=true) (vs:=dV) dg ao aj ay)
 refine bg ?_
 refine Ji ?_
 refine sP [1,2,3,4] [1,2,3] ?_
 refine sL [1,2,3] [1,2] (fun k:Nat=>k≤e.aC6.length) (fun k:Nat=>[(4,RV.int (k:Int))]) (fun k:Nat=>[(3,(46,[sl bH (e.Store.aC5.map (aG bc ai)),val (vI e.Store.Now),val (vI e.aDa),sl ai (e.Order.map ar),sl ct ((e.aC6.take k).map (aO aH ai ai aJ ai)),sl ck (([]:List gZ).map (bd aH ai aJ ai)),sl cl (([]:List cw).map (ba ai ai ai)),val (vI e.Steps)]))]) (fun k:Nat=>e.aC6.length - k) 0 ab bu bu ?_
 rintro k hk
 refine bI ?_
 refine Ap ?_
 refine sc ?_ ?_<;>intro hba
 have hlt:k < e.aC6.length:=ab
 have hwm:=dK (f:=dW) hlt
 have hwu:dW e.aC6[k]=eS e.aC6[k].aC7+e.aC6[k].aDf.length+iQ e.aC6[k].Rows:=yU
 have htl:(e.aC6.take k).length=k:=dh
 refine aY ?_
 refine sT [1,2,3,4] [1,2,3] ?_
 refine ry ?_
 refine rM ?_
 refine AA ?_
 refine sV [1,2,3,4,5] [1,2,3] [5] ?_
 refine tW ?_
 refine zq2 ?_
 refine tW ?_
 refine xR ?_
 refine sV [1,2,3,4,5] [1,2,3] [5] ?_
 refine Ef ?_
 refine rA ?_ (x:=lF lS)
 refine rL ?_
 refine RN ?_
 refine Iw ?_
 refine sV [1,2,3,4,5] [1,2,3] [5] ?_
 refine rA ?_ (x:=lF py)
 refine zq5 ?_
 refine zq6 ?_
 refine sW [1,2,3,4,5] [1,2,3] [5] ?_
 refine PQ ?_
 refine HW ?_
 refine PO ?_
 refine sW [1,2,3,4,5] [1,2] [3,5] ?_
 exact HD
 have hend0:k=e.aC6.length:=ab
 refine gk ?_
 refine sT [1,2,3,4] [1,2,3] ?_
 refine cm ?_
 refine sP [1,2,3,4,6] [1,2,3] ?_
 refine sL [1,2,3,4] [1,2] (fun k:Nat=>k≤e.Done.length) (fun k:Nat=>[(6,RV.int (k:Int))]) (fun k:Nat=>[(3,(46,[sl bH (e.Store.aC5.map (aG bc ai)),val (vI e.Store.Now),val (vI e.aDa),sl ai (e.Order.map ar),sl ct (e.aC6.map (aO aH ai ai aJ ai)),sl ck ((e.Done.take k).map (bd aH ai aJ ai)),sl cl (([]:List cw).map (ba ai ai ai)),val (vI e.Steps)]))]) (fun k:Nat=>e.Done.length - k) 0 ab bu Xa ?_
 rintro k hk
 refine bI ?_
 refine Ah ?_
 refine dC ?_
 refine sc ?_ ?_<;>intro hbb
 have hlt:k < e.Done.length:=ab
 have hwm:=dK (f:=nw) hlt
 have hwu:nw e.Done[k]=eS e.Done[k].aC7+iQ e.Done[k].Rows:=by simp only [nw,bh];omega
 have htl:(e.Done.take k).length=k:=dh
 refine aY ?_
 refine sT [1,2,3,4,6] [1,2,3] ?_
 refine zQ ?_
 refine rM ?_
 refine Ih ?_
 refine CV ?_
 refine sV [1,2,3,4,6,7] [1,2,3] [7] ?_
 refine rA ?_ (x:=lF pz)
 refine zq2 ?_
 refine rA ?_ (x:=lF pz)
 refine xR ?_
 refine sV [1,2,3,4,6,7] [1,2,3] [7] ?_
 refine rA ?_ (x:=lF pA)
 refine zq5 ?_
 refine rA ?_ (x:=lF pA)
 refine zqa ?_
 refine sW [1,2,3,4,6,7] [1,2,3] [7] ?_
 refine zqb ?_
 refine zpa ?_
 refine zqc ?_
 refine zqd ?_
 refine sW [1,2,3,4,6,7] [1,2] [3,7] ?_
 exact HD
 have hend1:k=e.Done.length:=ab
 refine gk ?_
 refine sT [1,2,3,4,6] [1,2,3] ?_
 refine cm ?_
 refine sP [1,2,3,4,6,8] [1,2,3] ?_
 refine sL [1,2,3,4,6] [1,2] (fun k:Nat=>k≤e.aDi.length) (fun k:Nat=>[(8,RV.int (k:Int))]) (fun k:Nat=>[(3,(46,[sl bH (e.Store.aC5.map (aG bc ai)),val (vI e.Store.Now),val (vI e.aDa),sl ai (e.Order.map ar),sl ct (e.aC6.map (aO aH ai ai aJ ai)),sl ck (e.Done.map (bd aH ai aJ ai)),sl cl ((e.aDi.take k).map (ba ai ai ai)),val (vI e.Steps)]))]) (fun k:Nat=>e.aDi.length - k) 0 ab bu Xb ?_
 rintro k hk
 refine bI ?_
 refine Jx ?_
 refine dC ?_
 refine sc ?_ ?_<;>intro hbc
 have hlt:k < e.aDi.length:=ab
 have hwm:=dK (f:=uc) hlt
 skip
 have htl:(e.aDi.take k).length=k:=dh
 refine aY ?_
 refine sQ [1,2,3,4,6,8] [1,2,3] ?_
 refine cJ ?_
 refine zpz ?_
 refine dA 0 ?_ (x:=lF nI)
 refine dA 4 ?_ (x:=lD [sl .v _] nM)
 refine dt ?_
 refine dA 28 ?_ (x:=aS ak lU ao aj bD aj)
 refine dA 60 ?_ (x:=lE zq pB)
 refine dA 124 ?_ (x:=cL oh tj auA (hs:=by exact (awu ab)))
 refine dA 252 ?_ (x:=cB (qs:=oh) ak lU mM ak rfl rfl rfl rfl rfl ay cN rfl)
 refine dA 511 ?_ (x:=eL ak lU mM rfl rfl ak rfl bm bm)
 refine dA 1023 ?_ (x:=lF nI)
 refine dA 2047 ?_ (x:=bR (ag:=false) (vs:=[sl _ _]) nM ao aj ay)
 refine sW [1,2,3,4,6,8] [1,2] [3] ?_
 exact HD
 have hend2:k=e.aDi.length:=ab
 refine be ?_
 refine sT [1,2,3,4,6,8] [1,2,3] ?_
 exact zq0
variable{p1 p2 p5 p6 p7 p8 p9 p11 p12 p13 p14 p16 p17 p18:Fl}{e:av}
def awC:er prog 27=some [(0,1),(1,1)]:=au
def awD(hb:aZ e≤68719476736):aE prog 298 [(true,[sl .v (e.Store.aC5.map (aG p1 p2)),val (vI e.Store.Now),val (vI e.aDa),sl .v (e.Order.map ar),sl .v (e.aC6.map (aO p5 p6 p7 p8 p9)),sl .v (e.Done.map (bd p11 p12 p13 p14)),sl .v (e.aDi.map (ba p16 p17 p18)),val (vI e.Steps)])] (aA [(false,[sl ai ((parts e).map ar)])]):=by
 refine sF func298 fun h0 w0 Fz0=>?_
 refine sn 0 0 fun hl0_0=>?_
 refine sn 0 3 fun hl0_3=>?_
 refine sn 0 4 fun hl0_4=>?_
 refine sn 0 5 fun hl0_5=>?_
 refine sn 0 6 fun hl0_6=>?_
 refine io ?_
 refine ID ?_
 refine jO ?_
 refine xx ?_
 refine sL [1,2] [1] (fun k:Nat=>k≤e.aC6.length∧(0 < k→aU e=true)) (fun k:Nat=>[(3,RV.slc ai ((iF e (e.aC6.take k)).map ar)),(4,RV.int (k:Int))]) (fun k:Nat=>[]) (fun k:Nat=>e.aC6.length - k) 0 uL ej ao ?_
 rintro k ⟨hk,ha⟩
 refine bI ?_
 refine Di ?_
 refine kQ ?_
 refine cx 11 ?_ ?_<;>intro ga sga
 refine zqt ?_
 refine iq ?_
 refine sc ?_ ?_<;>intro hba
 have hok:aU e=true:=cS
 have hlt:k < e.aC6.length:=me
 have haw:=alu hok hlt
 have hef:=gu hok
 have hpl:=SM (e:=e) (l:=e.aC6.take k)
 rw [cj] at hpl
 refine fT ?_
 refine sQ [1,2,3,4] [1] ?_
 refine DV ?_
 refine dA 3 ?_ (x:=cL lz kK alZ (hs:=by exact (amO ab)))
 refine dA 7 ?_ (x:=sM)
 refine dx 20 ?_ ?_<;>intro gb sgb
 refine dB 15 gb ?_ (x:=lF gP)
 refine dB 31 gb ?_ (x:=lD [sl .v _] fe)
 refine dB 15 gb ?_ (x:=sM)
 refine dB 127 gb ?_ (x:=aS ak cY ao aj bD aj)
 refine dB 255 gb ?_ (x:=cr ak lS ay)
 refine dB 511 gb ?_ (x:=lE [sl .v _] bZ)
 refine dB 15 gb ?_ (x:=lF mI)
 refine dB 1039 gb ?_ (x:=lD [val _] aV)
 refine dB 4095 gb ?_ (x:=cL gJ gK Kj (hs:=Ge))
 refine dA 8191 ?_ (x:=cd gb)
 refine sc ?_ ?_<;>intro hbb
 have hc:jT e e.aC6[k]=true:=GF
 refine sG [1,2,3,4] [1] ?_
 refine bL ?_
 refine ry ?_
 refine QA ?_
 refine rA ?_ (x:=cr ak kx ay)
 refine zS ?_
 refine oo ?_
 exact zr0
 exact zr1
 refine dF 15 gb ?_
 refine dF 31 gb ?_
 refine dF 15 gb ?_
 refine dF 127 gb ?_
 refine dF 255 gb ?_
 refine dF 511 gb ?_
 refine dF 15 gb ?_
 refine dF 1039 gb ?_
 refine dF 4095 gb ?_
 refine dA 8191 ?_ (x:=bF gb)
 refine gB ?_
 exact zr1
 exact zr2
 refine nt ?_
 exact zr2
def amP(hb:aZ e≤68719476736):aE prog 249 [(true,[sl .v (e.Store.aC5.map (aG p1 p2)),val (vI e.Store.Now),val (vI e.aDa),sl .v (e.Order.map ar),sl .v (e.aC6.map (aO p5 p6 p7 p8 p9)),sl .v (e.Done.map (bd p11 p12 p13 p14)),sl .v (e.aDi.map (ba p16 p17 p18)),val (vI e.Steps)])] (aA [(false,[sl ai ((parts e).map ar)])]):=by
 refine sF func249 fun h0 w0 Fz0=>?_
 refine sn 0 0 fun hl0_0=>?_
 refine sn 0 3 fun hl0_3=>?_
 refine sn 0 4 fun hl0_4=>?_
 refine sn 0 5 fun hl0_5=>?_
 refine sn 0 6 fun hl0_6=>?_
 refine io ?_
 refine ID ?_
 refine jO ?_
 refine mx ?_
 refine Ea ?_
 refine sc ?_ ?_<;>intro hba
 have hok:aU e=false:=cR
 refine mx ?_
 refine jN ?_
 exact (aI (by refine bC ?_;rw [alv hok];rfl) tI)
 have hok:aU e=true:=cR
 have hef:=gu hok
 refine cg ?_
 refine mx ?_
 refine tJ ?_
 refine sP [1,2,3,12,13,14] [1] ?_
 refine sL [1,2,12,13] [1] (fun k:Nat=>k≤e.aC6.length) (fun k:Nat=>[(3,RV.slc ai ((iF e (e.aC6.take k)).map ar)),(14,RV.int (k:Int))]) (fun k:Nat=>[]) (fun k:Nat=>e.aC6.length - k) 0 ab ej ao ?_
 rintro k hk
 refine bP ?_
 refine sc ?_ ?_<;>intro hbb
 have hlt:k < e.aC6.length:=ab
 have hpl:=SM (e:=e) (l:=e.aC6.take k)
 rw [cj] at hpl
 refine aY ?_
 refine sT [1,2,3,12,13,14] [1] ?_
 refine AA ?_
 refine sV [1,2,3,5,12,13,14] [1] [5] ?_
 refine zqr ?_
 refine rM ?_
 refine cx 20 ?_ ?_<;>intro ga sga
 refine rB ga ?_ (x:=lF lS)
 refine rB ga ?_ (x:=lD [sl .v _] bZ)
 refine rB ga ?_ (x:=lF mI)
 refine lJ ?_
 refine rB ga ?_ (x:=cL gJ gK akX (hs:=by exact amn))
 refine iq ?_
 refine sc ?_ ?_<;>intro hbc
 have hc:jT e e.aC6[k]=true:=GF
 refine sG [1,2,3,5,12,13,14] [1,5] ?_
 refine bL ?_
 refine tW ?_
 refine vt ?_
 refine oo ?_
 exact zr3
 exact zr4
 refine nt ?_
 exact zr4
 have hend:k=e.aC6.length:=ab
 refine be ?_
 refine sT [1,2,3,12,13,14] [1] ?_
 refine jN ?_
 exact (aI (by refine bC ?_;rw [uj hok,hend,bG]) tI)
def awE{id:Int}:aE prog 198 [(true,[sl .v (e.Store.aC5.map (aG p1 p2)),val (vI e.Store.Now),val (vI e.aDa),sl .v (e.Order.map ar),sl .v (e.aC6.map (aO p5 p6 p7 p8 p9)),sl .v (e.Done.map (bd p11 p12 p13 p14)),sl .v (e.aDi.map (ba p16 p17 p18)),val (vI e.Steps)]),(false,[val (vI id)])] (aA [(false,[val (vI (ez e.aC6 id))])]):=by
 refine sF func198 fun h0 w0 Fz0=>?_
 refine sn 0 0 fun hl0_0=>?_
 refine sn 0 3 fun hl0_3=>?_
 refine sn 0 4 fun hl0_4=>?_
 refine sn 0 5 fun hl0_5=>?_
 refine sn 0 6 fun hl0_6=>?_
 refine io ?_
 refine DM ?_
 refine tJ ?_
 refine sP [1,2,4,8,9,10] [2] ?_
 refine sL [1,2,8,9] [2] (fun k:Nat=>k≤e.aC6.length∧(e.aC6.take k).any (hE id)=false) (fun k:Nat=>[(10,RV.int (k:Int))]) (fun k:Nat=>[]) (fun k:Nat=>e.aC6.length - k) 0 jp bu ao ?_
 rintro k ⟨hk,ha⟩
 refine bP ?_
 refine sc ?_ ?_<;>intro hba
 have hlt:k < e.aC6.length:=ab
 refine aY ?_
 refine sT [1,2,8,9,10] [2] ?_
 refine rM ?_
 refine Pv ?_
 refine Eg ?_
 refine zni ?_
 refine sV [1,2,5,6,8,9,10] [2] [6] ?_
 refine tW ?_
 refine vt ?_
 refine vE ?_
 refine sc ?_ ?_<;>intro hbb
 have hy:hE id e.aC6[k]=true:=Gt
 refine sS [1,2,5,6,8,9,10] [2,6] ?_
 exact zr5
 have hno:hE id e.aC6[k]=false:=Gt
 refine aK ?_
 refine sG [1,2,5,6,8,9,10] [2,6] ?_
 refine cc ?_
 exact Oj
 have hend:k=e.aC6.length:=ab
 rw [hend,bG] at ha
 refine be ?_
 refine sT [1,2,8,9,10] [2] ?_
 exact zr6
def amQ{id:Int}:aE prog 271 [(true,[sl .v (e.Store.aC5.map (aG p1 p2)),val (vI e.Store.Now),val (vI e.aDa),sl .v (e.Order.map ar),sl .v (e.aC6.map (aO p5 p6 p7 p8 p9)),sl .v (e.Done.map (bd p11 p12 p13 p14)),sl .v (e.aDi.map (ba p16 p17 p18)),val (vI e.Steps)]),(false,[val (vI id)])] (aA [(false,[val (vI (ez e.aC6 id))])]):=by
 refine sF func271 fun h0 w0 Fz0=>?_
 refine sn 0 0 fun hl0_0=>?_
 refine sn 0 3 fun hl0_3=>?_
 refine sn 0 4 fun hl0_4=>?_
 refine sn 0 5 fun hl0_5=>?_
 refine sn 0 6 fun hl0_6=>?_
 refine io ?_
 refine DM ?_
 refine cm ?_
 refine sP [1,2,4,5] [2] ?_
 refine sL [1,2] [2] (fun k:Nat=>k≤e.aC6.length∧(e.aC6.take k).any (hE id)=false) (fun k:Nat=>[(5,RV.int (k:Int))]) (fun k:Nat=>[]) (fun k:Nat=>e.aC6.length - k) 0 jp bu ao ?_
 rintro k ⟨hk,ha⟩
 refine bI ?_
 refine Ap ?_
 refine sc ?_ ?_<;>intro hba
 have hlt:k < e.aC6.length:=ab
 refine aY ?_
 refine sT [1,2,5] [2] ?_
 refine ry ?_
 refine QA ?_
 refine rA ?_ (x:=cr ak kx ay)
 refine zS ?_
 refine vE ?_
 refine sc ?_ ?_<;>intro hbb
 have hy:hE id e.aC6[k]=true:=Gt
 refine sS [1,2,5] [2] ?_
 exact zr5
 have hno:hE id e.aC6[k]=false:=Gt
 refine aK ?_
 refine sG [1,2,5] [2] ?_
 exact zjv
 have hend:k=e.aC6.length:=ab
 rw [hend,bG] at ha
 refine be ?_
 refine sT [1,2,5] [2] ?_
 exact zr6
def awF(hok:aU e=true)(hb:aZ e≤68719476736):aE prog 305 [(true,[sl .v (e.Store.aC5.map (aG p1 p2)),val (vI e.Store.Now),val (vI e.aDa),sl .v (e.Order.map ar),sl .v (e.aC6.map (aO p5 p6 p7 p8 p9)),sl .v (e.Done.map (bd p11 p12 p13 p14)),sl .v (e.aDi.map (ba p16 p17 p18)),val (vI e.Steps)])] (aA [(true,[sl nd ((kr (kt e.aC6 (parts e))).Queries.map (fj aH ai)),sl wT ((kr (kt e.aC6 (parts e))).Fields.map (oB pO ai))]),(false,[sl aJ ((EK e).map (ci ai))])]):=by
 refine sF func305 fun h0 w0 Fz0=>?_
 refine sn 0 0 fun hl0_0=>?_
 refine sn 0 3 fun hl0_3=>?_
 refine sn 0 4 fun hl0_4=>?_
 refine sn 0 5 fun hl0_5=>?_
 refine sn 0 6 fun hl0_6=>?_
 have hef:=gu hok
 have hpl:=ym (e:=e)
 have hcl:e.aDa.toNat < e.Store.aC5.length:=hef.2.2.2.1
 have hws:=dK (f:=cX) hcl
 have hgd:=dM (d:=([]:List bb)) hcl
 rw [hgd] at hws
 have hs4:=(iE hef.1).2.2.2.2.1 _ (List.getElem_mem hcl)
 rw [hgd] at hs4
 have hws2:cX (e.Store.aC5.getD e.aDa.toNat [])=(e.Store.aC5.getD e.aDa.toNat []).length+((e.Store.aC5.getD e.aDa.toNat []).map df).sum:=rfl
 have hbu:=hb
 simp only [aZ,da,iR,bh] at hbu
 refine io ?_
 refine zr7 ?_
 refine sT [1,2,3] [1,2] ?_
 refine Iu ?_
 refine sS [1,2,3,4] [1,2] ?_
 refine je ?_
 refine rA ?_ (x:=cL fi fu al4 (hs:=by exact (amP ab)))
 refine rA ?_ (x:=lN bY)
 refine dm ?_
 refine sP [1,2,3,4,12,13,14] [1,2] ?_
 refine sL [1,2,3,12,13] [1,2] (fun k:Nat=>k≤(parts e).length) (fun k:Nat=>[(4,RV.slc nd ((kt e.aC6 ((parts e).take k)).map (fj .v .v))),(14,RV.int (k:Int))]) (fun k:Nat=>[]) (fun k:Nat=>(parts e).length - k) 0 ab ej ao ?_
 rintro k hk
 refine bP ?_
 refine sc ?_ ?_<;>intro hba
 have hlt:k < (parts e).length:=ab
 have hpk:(parts e)[k]∈iF e e.aC6:=Wx
 have hfp:=SO hpk
 have hql:(kt e.aC6 ((parts e).take k)).length=k:=ML
 refine aY ?_
 refine sT [1,2,3,4,12,13,14] [1,2] ?_
 refine rI ?_
 refine sP [1,2,3,4,6,12,13,14] [1,2] ?_
 refine rE ?_
 refine zr9 ?_
 refine dt ?_
 refine dA 24 ?_ (x:=cL lz kK Td (hs:=Mo))
 refine dA 62 ?_ (x:=aS (k:=(ez e.aC6 (parts e)[k]).toNat) ak cY ao ab Ma aj)
 refine dA 126 ?_ (x:=cr ak kx ay)
 refine dA 254 ?_ (x:=lE iB gD)
 refine dA 510 ?_ (x:=cB (qs:=il) ak lT lM ak rfl rfl rfl rfl rfl ay cN rfl)
 refine dA 1023 ?_ (x:=eL ak lT lM rfl rfl ak rfl bm bm)
 refine dA 2047 ?_ (x:=tA)
 refine sG [1,2,3,4,6,12,13,14] [1,2] ?_
 refine cc ?_
 exact zra
 have hend:k=(parts e).length:=ab
 rw [hend,bG]
 refine be ?_
 refine sT [1,2,3,4,12,13,14] [1,2] ?_
 refine Iv ?_
 refine sS [1,2,3,4,7,12,13,14] [1,2] ?_
 refine tX ?_
 refine zE ?_
 refine rA ?_ (x:=lF mI)
 refine PU ?_
 refine xT ?_
 refine vP ?_
 refine dm ?_
 refine sP [1,2,3,4,7,12,13,14,37,38,39] [1,2] ?_
 refine sL [1,2,3,4,12,13,14,37,38] [1,2] (fun k:Nat=>k≤(e.Store.aC5.getD e.aDa.toNat []).length) (fun k:Nat=>[(7,RV.slc aJ ((((e.Store.aC5.getD e.aDa.toNat []).take k).map fJ).map (ci ai))),(39,RV.int (k:Int))]) (fun k:Nat=>[]) (fun k:Nat=>(e.Store.aC5.getD e.aDa.toNat []).length - k) 0 ab ej ao ?_
 rintro k hk
 refine bP ?_
 refine sc ?_ ?_<;>intro hbb
 have hlt:k < (e.Store.aC5.getD e.aDa.toNat []).length:=ab
 have hwm2:=dK (f:=df) hlt
 have hrl:(((e.Store.aC5.getD e.aDa.toNat []).take k).map fJ).length=k:=wR
 have hrl2:((e.Store.aC5.getD e.aDa.toNat []).take k).length=k:=dh
 refine aY ?_
 refine sT [1,2,3,4,7,12,13,14,37,38,39] [1,2] ?_
 refine Ay ?_
 refine sW [1,2,3,4,7,9,12,13,14,37,38,39] [1,2] [9] ?_
 refine bL ?_
 refine PX ?_
 refine CP ?_
 refine dJ ?_
 refine sG [1,2,3,4,7,9,12,13,14,37,38,39] [1,2,9] ?_
 refine cc ?_
 exact Ov
 have hend:k=(e.Store.aC5.getD e.aDa.toNat []).length:=ab
 rw [hend,bG]
 refine be ?_
 refine sT [1,2,3,4,7,12,13,14,37,38,39] [1,2] ?_
 refine cv ?_
 refine rA ?_ (x:=cL cf cC auP (hs:=by exact awo))
 exact zrg
def awG(hok:aU e=true)(hb:aZ e≤68719476736):aE prog 289 [(true,[sl .v (e.Store.aC5.map (aG p1 p2)),val (vI e.Store.Now),val (vI e.aDa),sl .v (e.Order.map ar),sl .v (e.aC6.map (aO p5 p6 p7 p8 p9)),sl .v (e.Done.map (bd p11 p12 p13 p14)),sl .v (e.aDi.map (ba p16 p17 p18)),val (vI e.Steps)])] (aA [(true,[sl nd ((kr (kt e.aC6 (parts e))).Queries.map (fj aH ai)),sl wT ((kr (kt e.aC6 (parts e))).Fields.map (oB pO ai))]),(false,[sl aJ ((EK e).map (ci .v))])]):=by
 refine sF func289 fun h0 w0 Fz0=>?_
 refine sn 0 0 fun hl0_0=>?_
 refine sn 0 3 fun hl0_3=>?_
 refine sn 0 4 fun hl0_4=>?_
 refine sn 0 5 fun hl0_5=>?_
 refine sn 0 6 fun hl0_6=>?_
 have hef:=gu hok
 have hpl:=ym (e:=e)
 have hcl:e.aDa.toNat < e.Store.aC5.length:=hef.2.2.2.1
 have hws:=dK (f:=cX) hcl
 have hgd:=dM (d:=([]:List bb)) hcl
 rw [hgd] at hws
 have hs4:=(iE hef.1).2.2.2.2.1 _ (List.getElem_mem hcl)
 rw [hgd] at hs4
 have hws2:cX (e.Store.aC5.getD e.aDa.toNat [])=(e.Store.aC5.getD e.aDa.toNat []).length+((e.Store.aC5.getD e.aDa.toNat []).map df).sum:=rfl
 have hbu:=hb
 simp only [aZ,da,iR,bh] at hbu
 refine io ?_
 refine zr7 ?_
 refine sT [1,2,3] [1,2] ?_
 refine zrh ?_
 refine dJ ?_
 refine sS [1,2,3,4] [1,2] ?_
 refine zri ?_
 refine iP ?_
 refine sS [1,2,3,4,5] [1,2] ?_
 refine cm ?_
 refine sP [1,2,3,4,5,6] [1,2] ?_
 refine sL [1,2,3,5] [1,2] (fun k:Nat=>k≤(parts e).length) (fun k:Nat=>[(4,RV.slc nd ((kt e.aC6 ((parts e).take k)).map (fj .v .v))),(6,RV.int (k:Int))]) (fun k:Nat=>[]) (fun k:Nat=>(parts e).length - k) 0 ab ej ao ?_
 rintro k hk
 refine pj ?_
 refine sc ?_ ?_<;>intro hba
 have hlt:k < (parts e).length:=ab
 have hpk:(parts e)[k]∈iF e e.aC6:=Wx
 have hfp:=SO hpk
 have hql:(kt e.aC6 ((parts e).take k)).length=k:=ML
 refine aY ?_
 refine sQ [1,2,3,4,5,6] [1,2] ?_
 refine rE ?_
 refine zr9 ?_
 refine gC ?_
 refine Qm ?_
 refine dA 248 ?_ (x:=cL lz kK EM (hs:=Gd))
 refine dA 510 ?_ (x:=aS (k:=(ez e.aC6 (parts e)[k]).toNat) ak cY ao ab Ma aj)
 refine dA 1022 ?_ (x:=cr ak kx ay)
 refine dA 2046 ?_ (x:=lE iB gD)
 refine dA 4094 ?_ (x:=cB (qs:=il) ak lT lM ak rfl rfl rfl rfl rfl ay cN rfl)
 refine dA 8191 ?_ (x:=eL ak lT lM rfl rfl ak rfl bm bm)
 refine dA 16383 ?_ (x:=tA)
 refine sG [1,2,3,4,5,6] [1,2] ?_
 exact zrj
 have hend:k=(parts e).length:=ab
 rw [hend,bG]
 refine be ?_
 refine sT [1,2,3,4,5,6] [1,2] ?_
 refine RO ?_
 refine dJ ?_
 refine sS [1,2,3,4,5,6,7] [1,2] ?_
 refine tX ?_
 refine zE ?_
 refine rA ?_ (x:=lF mI)
 refine PU ?_
 refine xT ?_
 refine IZ ?_
 refine sS [1,2,3,4,5,6,7,8] [1,2] ?_
 refine cm ?_
 refine sP [1,2,3,4,5,6,7,8,9] [1,2] ?_
 refine sL [1,2,3,4,5,6,8] [1,2] (fun k:Nat=>k≤(e.Store.aC5.getD e.aDa.toNat []).length) (fun k:Nat=>[(7,RV.slc aJ ((((e.Store.aC5.getD e.aDa.toNat []).take k).map fJ).map (ci .v))),(9,RV.int (k:Int))]) (fun k:Nat=>[]) (fun k:Nat=>(e.Store.aC5.getD e.aDa.toNat []).length - k) 0 ab ej ao ?_
 rintro k hk
 refine bI ?_
 refine zR ?_
 refine dC ?_
 refine sc ?_ ?_<;>intro hbb
 have hlt:k < (e.Store.aC5.getD e.aDa.toNat []).length:=ab
 have hwm2:=dK (f:=df) hlt
 have hrl:(((e.Store.aC5.getD e.aDa.toNat []).take k).map fJ).length=k:=wR
 have hrl2:((e.Store.aC5.getD e.aDa.toNat []).take k).length=k:=dh
 refine aY ?_
 refine sQ [1,2,3,4,5,6,7,8,9] [1,2] ?_
 refine rE ?_
 refine gC ?_
 refine zpf ?_
 refine RB ?_
 refine zpg ?_
 refine dA 960 ?_ (x:=lE [sl .v _] bZ)
 refine dA 2046 ?_ (x:=cz (qs:=uZ) (cs:=iA) ak jh nB awC aj iY rfl aj)
 refine dA 4094 ?_ (x:=cB (qs:=jK) ak iu jh ak rfl rfl rfl rfl rfl ay cN rfl)
 refine dA 8191 ?_ (x:=eL ak iu jh rfl rfl ak rfl bm bm)
 refine dA 16383 ?_ (x:=tA)
 refine sG [1,2,3,4,5,6,7,8,9] [1,2] ?_
 refine bO ?_
 exact Ov
 have hend:k=(e.Store.aC5.getD e.aDa.toNat []).length:=ab
 rw [hend,bG]
 refine be ?_
 refine sT [1,2,3,4,5,6,7,8,9] [1,2] ?_
 refine zrl ?_
 exact zrg
def amR{p4:Fl}{x:dL}{l:List Row}{o:List Int}(hl:l.length≤1048576):aE prog 323 [(true,[sl .v (x.Queries.map (fj p1 p2)),sl .v (x.Fields.map (oB p4 p5))]),(false,[sl .v (l.map (ci p7))]),(false,[sl .v (o.map ar)])] (aA [(false,[val (vI (jU x l o))])]):=by
 refine sF func323 fun h0 w0 Fz0=>?_
 refine sn 0 0 fun hl0_0=>?_
 refine sn 0 1 fun hl0_1=>?_
 refine sj 1 fun hl1=>?_
 refine sj 2 fun hl2=>?_
 refine vn ?_
 refine rK ?_
 refine sT [1,2,3,6] [3] ?_
 refine dp ?_
 refine sS [1,2,3,6,7] [3] ?_
 refine zrm ?_
 refine dq ?_
 refine cx 15 ?_ ?_<;>intro ga sga
 refine gY ?_
 exact zrn
 refine zro ?_
 refine kP ?_
 refine sc ?_ ?_<;>intro hba
 exact zrn
 have hxo:(fb x&&cb o)=true:=cS
 obtain ⟨hx,ho⟩:=Bool.and_eq_true_iff.1 hxo
 refine cg ?_
 refine sS [1,2,3,6,7] [3] ?_
 refine vm ?_
 refine dm ?_
 refine sP [1,2,3,6,7,21,22,23] [3] ?_
 refine sL [1,2,3,6,21,22] [3] (fun k:Nat=>k≤l.length) (fun k:Nat=>[(7,RV.int (qy x o (l.take k))),(23,RV.int (k:Int))]) (fun k:Nat=>[]) (fun k:Nat=>l.length - k) 0 ab ej ao ?_
 rintro k hk
 refine bP ?_
 refine sc ?_ ?_<;>intro hbb
 have hlt:k < l.length:=ab
 have hwl:=SQ hx ho (l.take k)
 rw [cj] at hwl
 have hw1:=SP hx ho l[k]
 refine aY ?_
 refine sT [1,2,3,6,7,21,22,23] [3] ?_
 refine zI ?_
 refine xi ?_
 refine sV [1,2,3,6,7,9,21,22,23] [3] [9] ?_
 refine Ir ?_
 refine sc ?_ ?_<;>intro hbc
 have hr:bA l[k]=true:=gx
 have hwo:uk x o l[k]=(mF x l[k] o).2:=if_pos hr
 refine sS [1,2,3,6,7,9,21,22,23] [3,9] ?_
 refine JP ?_
 refine xM ?_
 refine cv ?_
 refine rA ?_ (x:=cL ND NE auY (hs:=by exact (awq (x:=x) (r:=l[k]) (o:=o) hx hr ho)))
 refine bL ?_
 refine PM ?_
 refine dJ ?_
 refine rS ?_
 refine sG [1,2,3,6,7,9,10,11,21,22,23] [3,9] ?_
 refine rM ?_
 refine bO ?_
 refine sG [1,2,3,6,7,9,10,11,21,22,23] [3,9] ?_
 exact zrr
 have hr:bA l[k]=false:=gx
 have hwo:uk x o l[k]=0:=if_neg (by rw [hr];simp)
 refine aK ?_
 refine sG [1,2,3,6,7,9,21,22,23] [3,9] ?_
 exact zrr
 have hend:k=l.length:=ab
 refine be ?_
 refine sT [1,2,3,6,7,21,22,23] [3] ?_
 refine vK ?_
 exact (aI (by refine cW ?_;rw [hend,bG];exact (if_pos hxo).symm) tI)
def awH{p4:Fl}{x:dL}{l:List Row}{o:List Int}(hl:l.length≤1048576):aE prog 310 [(true,[sl .v (x.Queries.map (fj p1 p2)),sl .v (x.Fields.map (oB p4 p5))]),(false,[sl .v (l.map (ci p7))]),(false,[sl .v (o.map ar)])] (aA [(false,[val (vI (jU x l o))])]):=by
 refine sF func310 fun h0 w0 Fz0=>?_
 refine sn 0 0 fun hl0_0=>?_
 refine sn 0 1 fun hl0_1=>?_
 refine sj 1 fun hl1=>?_
 refine sj 2 fun hl2=>?_
 refine vn ?_
 refine rK ?_
 refine sT [1,2,3,6] [3] ?_
 refine dp ?_
 refine sS [1,2,3,6,7] [3] ?_
 refine cm ?_
 refine sP [1,2,3,6,7,8] [3] ?_
 refine sL [1,2,3,6] [3] (fun k:Nat=>k≤l.length∧(0 < k→(fb x&&cb o)=true)) (fun k:Nat=>[(7,RV.int (qy x o (l.take k))),(8,RV.int (k:Int))]) (fun k:Nat=>[]) (fun k:Nat=>l.length - k) 0 uL ej ao ?_
 rintro k ⟨hk,ha⟩
 refine bI ?_
 refine vm ?_
 refine kQ ?_
 refine cx 15 ?_ ?_<;>intro ga sga
 refine zrt ?_
 refine rG ?_
 refine cx 19 ?_ ?_<;>intro gb sgb
 refine pm ?_
 refine zny ?_
 refine jP ?_
 refine sc ?_ ?_<;>intro hba
 have hxo:(fb x&&cb o)=true:=cS
 obtain ⟨hx,ho⟩:=Bool.and_eq_true_iff.1 hxo
 have hlt:k < l.length:=me
 have hwl:=SQ hx ho (l.take k)
 rw [cj] at hwl
 have hw1:=SP hx ho l[k]
 refine aY ?_
 refine sT [1,2,3,6,7,8] [3] ?_
 refine iO ?_
 refine zbx ?_
 refine sc ?_ ?_<;>intro hbb
 have hr:bA l[k]=true:=gy
 have hwo:uk x o l[k]=(mF x l[k] o).2:=if_pos hr
 refine bg ?_
 refine sP [1,2,3,6,7,8] [3] ?_
 refine zru ?_
 refine zrv ?_
 refine dX 0 ?_ (x:=(mh (.inl rfl) ak (by exact Cp.sc)))
 refine dX 6 ?_ (x:=(aS ak iu ao aj bD aj))
 refine dX 14 ?_ (x:=(ri (qs:=mo) ak jg (fun h=>nomatch h) ay FW aQ))
 refine zrv ?_
 refine GY (G:=2000) (qs:=ND) (as_:=NE) ak al7 WI sJ VX (by exact (amC (x:=x) (r:=l[k]) (o:=o) hx hr ho)) au au fun uss hU0=>?_
 obtain ⟨us0,r0,rfl,hl0,hR0,hU1⟩:=kg.cons hU0
 obtain ⟨u5_0_0,rfl⟩:=Es hl0
 obtain ⟨us1,r1,rfl,hl1,hR1,hU2⟩:=kg.cons hU1
 obtain ⟨u5_1_0,rfl⟩:=Es hl1
 obtain rfl:=ze hR1 (j:=0) rfl rfl
 obtain rfl:=kg.nil hU2
 clear hR0 hU0 hR1 hU1 hU2
 refine zrw ?_
 refine zrx ?_
 refine zg (s:=9) (G:=2000) aj BI rfl ak aj ?_
 refine zg (s:=10) (G:=2001) aj BI rfl ak aj ?_
 refine sG [1,2,3,6,7,8,9,10] [3] ?_
 refine rM ?_
 refine bO ?_
 refine sG [1,2,3,6,7,8,9,10] [3] ?_
 exact zry
 have hr:bA l[k]=false:=gy
 have hwo:uk x o l[k]=0:=if_neg (by rw [hr];simp)
 refine aK ?_
 refine sG [1,2,3,6,7,8] [3] ?_
 exact zry
 exact Ow
 refine tL ?_
 exact Ow
 refine ip ?_
 refine rN 19 ?_
 refine dz ?_
 refine gB ?_
 exact Ow
variable{p1 p2:Fl}
def awI{s:Store}(hb:da s≤68719476736):aE prog 71 [(true,[sl .v (s.aC5.map (aG p1 p2)),val (vI s.Now)])] (aA [(false,[val (vI ((lQ s:Nat):Int))])]):=by
 refine sF func71 fun h0 w0 Fz0=>?_
 refine sn 0 0 fun hl0_0=>?_
 refine mr ?_
 refine rH ?_
 refine dp ?_
 refine mx ?_
 refine tw ?_
 refine dm ?_
 refine sP [1,2,3,7,8,9] [1] ?_
 refine sL [1,2,7,8] [1] (fun k:Nat=>k≤s.aC5.length) (fun k:Nat=>[(3,RV.int (yn s k:Nat)),(9,RV.int (k:Int))]) (fun k:Nat=>[]) (fun k:Nat=>s.aC5.length - k) 0 ab ej ao ?_
 rintro k hk
 refine bP ?_
 refine sc ?_ ?_<;>intro hba
 have hlt:k < s.aC5.length:=ab
 have hcl:=asU (s:=s) (k+1) hlt
 rw [alB hlt] at hcl
 have hal:lQ s≤da s:=qr s
 refine aY ?_
 refine sT [1,2,3,7,8,9] [1] ?_
 refine vj ?_
 refine ox ?_
 refine sG [1,2,3,5,7,8,9] [1] ?_
 refine rM ?_
 refine zR ?_
 refine vF ?_
 refine sG [1,2,3,5,7,8,9] [1] ?_
 refine cc ?_
 refine nx (k+1) ab (e:=(by exact aI (by exact cW (by rw [alB hlt];omega)) (aI aj tI)))
 have hend:k=s.aC5.length:=ab
 refine be ?_
 refine sT [1,2,3,7,8,9] [1] ?_
 refine vK ?_
 exact (aI (by refine cW ?_;unfold yn;rw [hend,SE];rfl) tI)
def awJ{s:Store}(hb:da s≤68719476736):aE prog 73 [(true,[sl .v (s.aC5.map (aG p1 p2)),val (vI s.Now)])] (aA [(false,[val (vI ((lQ s:Nat):Int))])]):=by
 refine sF func73 fun h0 w0 Fz0=>?_
 refine sn 0 0 fun hl0_0=>?_
 have hal:=qr s
 refine mr ?_
 refine rH ?_
 refine zgm ?_
 refine vP ?_
 exact Cr
def awK{p5 p6 p7 p8 p9 p11 p12 p13 p14 p16 p17 p18:Fl}{e:av}(hb:aZ e≤68719476736):et prog gl 18 [(true,[sl .v (e.Store.aC5.map (aG p1 p2)),val (vI e.Store.Now),val (vI e.aDa),sl .v (e.Order.map ar),sl .v (e.aC6.map (aO p5 p6 p7 p8 p9)),sl .v (e.Done.map (bd p11 p12 p13 p14)),sl .v (e.aDi.map (ba p16 p17 p18)),val (vI e.Steps)])] (aA [(false,[val (.string (B (sf e)))])]):=by
 refine im (rs:=[(false,[val (.string (B (sf e)))])]) func18 rfl (nl rfl) aQ ?_
 intro h0 w0 Fz0
 refine sn 0 0 fun hl0_0=>?_
 refine sn 0 3 fun hl0_3=>?_
 refine sn 0 4 fun hl0_4=>?_
 refine sn 0 5 fun hl0_5=>?_
 refine sn 0 6 fun hl0_6=>?_
 have hbu:=hb
 simp only [aZ] at hbu
 refine io ?_
 refine Af ?_
 refine Ea ?_
 refine sc ?_ ?_<;>intro hba
 have hok:aU e=false:=cR
 refine tY ?_
 exact zs2
 have hok:aU e=true:=cR
 have hef:=gu hok
 obtain ⟨a1,a2,a3,a4,a5,a6⟩:=iE hef.1
 have hal:lQ e.Store≤da e.Store:=qr e.Store
 have hi0:(itoa e.Steps).length≤21:=bv br
 have hi1:(itoa e.aDa).length≤21:=bv br
 have hi2:(itoa e.Store.Now).length≤21:=bv br
 have hi3:(itoa (lQ e.Store:Int)).length≤21:=bv br
 have hi4:(itoa (e.aC6.length:Int)).length≤21:=bv br
 have hi5:(itoa (e.Done.length:Int)).length≤21:=bv br
 have hjl:(cI (ul e) [32]).length≤1000:=SX hi0 hi1 hi2 hi3 hi4 hi5
 refine cg ?_
 refine sP [1,2,7000] [1] ?_
 refine cJ ?_
 refine vV ?_
 refine Io ?_
 refine QY ?_
 refine dA 31 ?_ (x:=gL aM aM jV (hs:=jE))
 refine xU ?_
 refine dA 64 ?_ (x:=lF ky)
 refine dA 192 ?_ (x:=lD [val _] aV)
 refine dA 511 ?_ (x:=gL aM aM jV (hs:=jE))
 refine xU ?_
 refine dA 1024 ?_ (x:=lD rr iH)
 refine dA 4095 ?_ (x:=cL tk lA Tr (hs:=MD))
 refine dA 8191 ?_ (x:=gL aM aM jV (hs:=jE))
 refine xV ?_
 refine dA 16384 ?_ (x:=lD [sl .v _] fe)
 refine dA 49152 ?_ (x:=lN cY)
 refine dA 131071 ?_ (x:=gL aM aM jV (hs:=jE))
 refine dA 0 ?_ (x:=lF oL)
 refine dA 262144 ?_ (x:=lD [sl .v _] nL)
 refine dA 786432 ?_ (x:=lN mJ)
 refine dA 2097151 ?_ (x:=gL aM aM jV (hs:=jE))
 refine dA 4194303 ?_ (x:=cB (qs:=[(false,[val _]),(false,[val _]),(false,[val _]),(false,[val _]),(false,[val _]),(false,[val _]),(false,[val _]),(false,[val _]),(false,[val _]),(false,[val _]),(false,[val _]),(false,[val _])]) ak dc qC ak rfl rfl rfl rfl rfl ay (by exact (aI (bq rfl) (aI ao (aI (bq rfl) (aI ao (aI (bq rfl) (aI ao (aI (bq rfl) (aI ao (aI (bq rfl) (aI ao (aI (bq rfl) (aI ao tI))))))))))))) rfl)
 refine dA 8388607 ?_ (x:=tA)
 refine AJ ?_
 refine cv ?_
 refine rA ?_ (x:=ta (qs:=gJ) (as_:=gK) ak Bh XB (by exact (aI (aI rfl (az.cons (PV.to_eqv rfl) az.nil)) (aI (aI rfl (aB az.nil)) tI))) (by exact (Bn (xs:=ul e) (sep:=[32]) ay (by exact Nat.le_trans hjl ak))))
 refine rS ?_
 exact zs6
def awL{p5 p6 p7 p8 p9 p11 p12 p13 p14 p16 p17 p18:Fl}{e:av}(hb:aZ e≤68719476736):aE prog 19 [(true,[sl .v (e.Store.aC5.map (aG p1 p2)),val (vI e.Store.Now),val (vI e.aDa),sl .v (e.Order.map ar),sl .v (e.aC6.map (aO p5 p6 p7 p8 p9)),sl .v (e.Done.map (bd p11 p12 p13 p14)),sl .v (e.aDi.map (ba p16 p17 p18)),val (vI e.Steps)])] (aA [(false,[val (.string (B (sf e)))])]):=by
 refine sF func19 fun h0 w0 Fz0=>?_
 refine sn 0 0 fun hl0_0=>?_
 refine sn 0 3 fun hl0_3=>?_
 refine sn 0 4 fun hl0_4=>?_
 refine sn 0 5 fun hl0_5=>?_
 refine sn 0 6 fun hl0_6=>?_
 have hbu:=hb
 simp only [aZ] at hbu
 refine io ?_
 refine jd ?_
 refine zF ?_
 refine eZ ?_
 refine sc ?_ ?_<;>intro hba
 have hok:aU e=false:=cR
 refine oy ?_
 exact zs2
 have hok:aU e=true:=cR
 have hef:=gu hok
 obtain ⟨a1,a2,a3,a4,a5,a6⟩:=iE hef.1
 have hal:lQ e.Store≤da e.Store:=qr e.Store
 have hi0:(itoa e.Steps).length≤21:=bv br
 have hi1:(itoa e.aDa).length≤21:=bv br
 have hi2:(itoa e.Store.Now).length≤21:=bv br
 have hi3:(itoa (lQ e.Store:Int)).length≤21:=bv br
 have hi4:(itoa (e.aC6.length:Int)).length≤21:=bv br
 have hi5:(itoa (e.Done.length:Int)).length≤21:=bv br
 have hjl:(cI (ul e) [32]).length≤1000:=SX hi0 hi1 hi2 hi3 hi4 hi5
 refine cg ?_
 refine sP [1,2] [1] ?_
 refine cJ ?_
 refine vV ?_
 refine Ip ?_
 refine IS ?_
 refine dA 0 ?_ (x:=lF mI)
 refine zsa ?_
 refine IR ?_
 refine xU ?_
 refine dA 1024 ?_ (x:=lF ky)
 refine dA 3072 ?_ (x:=lD [val _] aV)
 refine dA 7399 ?_ (x:=cL aM aM iG (hs:=iw))
 refine Rb ?_
 refine xU ?_
 refine dA 65536 ?_ (x:=lD rr iH)
 refine dA 212199 ?_ (x:=cL tk lA avd (hs:=by exact (awJ ab)))
 refine dA 474343 ?_ (x:=cL aM aM iG (hs:=iw))
 refine dA 1048575 ?_ (x:=cZ)
 refine dA 2097151 ?_ (x:=cZ)
 refine xV ?_
 refine dA 4194304 ?_ (x:=lD [sl .v _] fe)
 refine dA 12582912 ?_ (x:=lN cY)
 refine dA 30358759 ?_ (x:=cL aM aM iG (hs:=iw))
 refine dA 67108863 ?_ (x:=cZ)
 refine dA 134217727 ?_ (x:=cZ)
 refine dA 0 ?_ (x:=lF oL)
 refine dA 268435456 ?_ (x:=lD [sl .v _] nL)
 refine dA 805306368 ?_ (x:=lN mJ)
 refine dA 1942961383 ?_ (x:=cL aM aM iG (hs:=iw))
 refine dA 4294967295 ?_ (x:=cZ)
 refine dA 8589934591 ?_ (x:=sA)
 exact zs6
variable{p1 p2 p5 p7:Fl}
def aAM  : aE prog 226 [] (aA [(false,[sl (.own 23 1) (di.map (arF ai))])]):=by
 refine sF func226 fun h0 w0 Fz0=>?_
 refine sR ?_
 refine rA ?_ (x:=pN (.inr rfl) ak (sZ (t:=23) (e:=1)))
 refine sS [0] [] ?_
 refine CN ?_
 refine CN ?_
 refine Zgo ?_
 refine dJ ?_
 exact Cq
def aAN{p4:Fl}{x:dL}{l:List Row}(hl:l.length≤1048576):aE prog 306 [(true,[sl .v (x.Queries.map (fj p1 p2)),sl .v (x.Fields.map (oB p4 p5))]),(false,[sl .v (l.map (ci p7))])] (aA [(false,[sl .v ((wt x l).map ar)])]):=by
 refine sF func306 fun h0 w0 Fz0=>?_
 refine sn 0 0 fun hl0_0=>?_
 refine sn 0 1 fun hl0_1=>?_
 refine sj 1 fun hl1=>?_
 have hO6:di.length=6:=rfl
 refine vn ?_
 refine IG ?_
 refine sT [1,2,4] [2] ?_
 refine zrm ?_
 refine eZ ?_
 refine sc ?_ ?_<;>intro hba
 have hok:fb x=false:=cR
 refine sS [1,2,4] [2] ?_
 refine rP ?_
 refine xd (s:=4) [sl _ _] aj gS fp ?_
 refine cP ?_
 exact (aI (by refine bC ?_;unfold wt;rw [if_neg oU];rfl) tI)
 have hok:fb x=true:=cR
 refine aK ?_
 refine sS [1,2,4] [2] ?_
 refine CN ?_
 refine CN ?_
 refine Zgo ?_
 refine iP ?_
 refine sP [1,2,4,5] [2] ?_
 refine xd (s:=5) [sl .v (di.map fun z=>[sl ai (z.map ar)])] aj WC fp ?_
 refine sG [1,2,4,5] [2] ?_
 refine cv ?_
 refine rA ?_ (x:=aS (k:=0) ak Bl (bq rfl) eb (by exact eQ ak rfl) aj)
 refine rA ?_ (x:=lE [sl .v _] bZ)
 refine IZ ?_
 refine sS [1,2,4,5,6] [2] ?_
 refine cv ?_
 refine rA ?_ (x:=lN Bl)
 refine dm ?_
 refine sP [1,2,4,5,6,22,23,24] [2] ?_
 refine sL [1,2,4,5,22,23] [2] (fun k:Nat=>k≤di.length) (fun k:Nat=>[(6,RV.sv false [sl .v ((ku x l k).map ar)]),(24,RV.int (k:Int))]) (fun k:Nat=>[]) (fun k:Nat=>di.length - k) 0 ab ej ao ?_
 rintro k hk
 refine bP ?_
 refine sc ?_ ?_<;>intro hbb
 have hlt:k < di.length:=by show k < 6;omega
 have ho3:=SR hlt
 refine aY ?_
 refine sT [1,2,4,5,6,22,23,24] [2] ?_
 refine Zgp ?_
 refine IZ ?_
 refine sP [1,2,4,5,6,8,22,23,24] [2] ?_
 refine cJ ?_
 refine QH ?_
 refine my ?_
 refine dA 7 ?_ (x:=cL NF NG al8 (hs:=by exact (amR ab)))
 refine QH ?_
 refine my ?_
 refine dA 127 ?_ (x:=cL NF NG al8 (hs:=by exact (amR ab)))
 refine dA 255 ?_ (x:=xc)
 refine sc ?_ ?_<;>intro hbc
 have hc:=hbc
 refine sG [1,2,4,5,6,8,22,23,24] [2] ?_
 refine QL ?_
 exact Zgs
 have hc:=hbc
 refine aK ?_
 exact Zgs
 have hend:k=6:=ab
 refine be ?_
 refine sT [1,2,4,5,6,22,23,24] [2] ?_
 refine QL ?_
 refine cP ?_
 exact (aI (by refine bC ?_;unfold wt;rw [if_pos hok,←hend]) tI)
def aAO{p4:Fl}{x:dL}{l:List Row}(hl:l.length≤1048576):aE prog 290 [(true,[sl .v (x.Queries.map (fj p1 p2)),sl .v (x.Fields.map (oB p4 p5))]),(false,[sl .v (l.map (ci p7))])] (aA [(false,[sl .v ((wt x l).map ar)])]):=by
 refine sF func290 fun h0 w0 Fz0=>?_
 refine sn 0 0 fun hl0_0=>?_
 refine sn 0 1 fun hl0_1=>?_
 refine sj 1 fun hl1=>?_
 have hO6:di.length=6:=rfl
 refine vn ?_
 refine rP ?_
 refine sT [1,2,4] [2] ?_
 refine CM ?_
 refine wa ?_
 refine rK ?_
 refine sS [1,2,4,5,6] [2] ?_
 refine rA ?_ (x:=cL [] [] at9 (hs:=by exact aAM))
 refine iP ?_
 refine sS [1,2,4,5,6,7] [2] ?_
 refine cm ?_
 refine sP [1,2,4,5,6,7,8] [2] ?_
 refine xd (s:=5) [sl .v (([]:List Int).map ar)] aj WC fp ?_
 refine sP [1,2,4,5,6,7,8] [2] ?_
 refine sL [1,2,4,7] [2] (fun k:Nat=>k≤di.length∧(0 < k→fb x=true)) (fun k:Nat=>[(5,RV.sv false [sl .v ((se x l k).map ar)]),(6,RV.int (wu x l k)),(8,RV.int (k:Int))]) (fun k:Nat=>[]) (fun k:Nat=>di.length - k) 0 uL qW ao ?_
 rintro k ⟨hk,ha⟩
 refine bI ?_
 refine cv ?_
 refine rA ?_ (x:=lN Bl)
 refine kQ ?_
 refine cx 16 ?_ ?_<;>intro ga sga
 refine zrt ?_
 refine iq ?_
 refine sc ?_ ?_<;>intro hba
 have hok:fb x=true:=cS
 have hlt:k < di.length:=by show k < 6;have h6_:di.length=6:=rfl;first|omega|(simp_all;done)|(simp_all;omega)
 have ho3:=SR hlt
 refine fT ?_
 refine sQ [1,2,4,5,6,7,8] [2] ?_
 refine cJ ?_
 refine QH ?_
 refine gC ?_
 refine dA 12 ?_ (x:=aS ak Bl ao aj bD aj)
 refine dA 28 ?_ (x:=lE [sl .v _] bZ)
 refine dA 63 ?_ (x:=cL NF NG auN (hs:=by exact (awH ab)))
 refine dA 127 ?_ (x:=sA)
 refine sS [1,2,4,5,6,7,8,9] [2] ?_
 refine jv ?_
 refine iC ?_
 refine cx 32 ?_ ?_<;>intro gb sgb
 have hk0e:k=0:=asO (x:=x) (l:=l) ab BP
 have sgb:=gb
 try simp only [qq] at sgb
 refine tK ?_
 exact Zgt
 have hk0:k≠0:=by intro h0_;subst h0_;have hz_:(se x l 0).length=0:=rfl;first|omega|(simp_all;done)
 have sgb:=gb
 try simp only [qq] at sgb
 refine ir ?_
 refine ir ?_
 refine rB gb ?_ (x:=xc)
 refine ql ?_
 refine sc ?_ ?_<;>intro hbb
 exact Zgt
 have hsb:=asQ (x:=x) (l:=l) hlt hk0 ab
 refine aK ?_
 exact Zgu
 exact Zgv
 refine nt ?_
 exact Zgv
def aAP{p6 p8 p9 p11 p12 p13 p14 p16 p17 p18:Fl}{e:av}(hb:aZ e≤68719476736):aE prog 281 [(true,[sl .v (e.Store.aC5.map (aG p1 p2)),val (vI e.Store.Now),val (vI e.aDa),sl .v (e.Order.map ar),sl .v (e.aC6.map (aO p5 p6 p7 p8 p9)),sl .v (e.Done.map (bd p11 p12 p13 p14)),sl .v (e.aDi.map (ba p16 p17 p18)),val (vI e.Steps)])] (aA [(false,[sl .v ((oK e).map ar)])]):=by
 refine sF func281 fun h0 w0 Fz0=>?_
 refine sn 0 0 fun hl0_0=>?_
 refine sn 0 3 fun hl0_3=>?_
 refine sn 0 4 fun hl0_4=>?_
 refine sn 0 5 fun hl0_5=>?_
 refine sn 0 6 fun hl0_6=>?_
 refine io ?_
 refine IG ?_
 refine sT [1,2] [1] ?_
 refine Ea ?_
 refine sc ?_ ?_<;>intro hba
 have hok:aU e=false:=cR
 refine oy ?_
 refine rP ?_
 exact Zgw
 have hok:aU e=true:=cR
 have hrl:=alw hok
 refine Zgx ?_
 refine rA ?_ (x:=cL fi fu auI (hs:=by exact (awF (by assumption) ab)))
 refine bL ?_
 refine Zgy ?_
 refine Db ?_
 refine dJ ?_
 refine sV [1,2,3,4] [1] [3] ?_
 refine JP ?_
 refine cv ?_
 refine rA ?_ (x:=cL [(true,oi),(false,[sl _ _])] Zf auJ (hs:=by exact (aAN ab)))
 exact Zgz
def aAQ{p6 p8 p9 p11 p12 p13 p14 p16 p17 p18:Fl}{e:av}(hb:aZ e≤68719476736):aE prog 259 [(true,[sl .v (e.Store.aC5.map (aG p1 p2)),val (vI e.Store.Now),val (vI e.aDa),sl .v (e.Order.map ar),sl .v (e.aC6.map (aO p5 p6 p7 p8 p9)),sl .v (e.Done.map (bd p11 p12 p13 p14)),sl .v (e.aDi.map (ba p16 p17 p18)),val (vI e.Steps)])] (aA [(false,[sl .v ((oK e).map ar)])]):=by
 refine sF func259 fun h0 w0 Fz0=>?_
 refine sn 0 0 fun hl0_0=>?_
 refine sn 0 3 fun hl0_3=>?_
 refine sn 0 4 fun hl0_4=>?_
 refine sn 0 5 fun hl0_5=>?_
 refine sn 0 6 fun hl0_6=>?_
 refine io ?_
 refine IG ?_
 refine sT [1,2] [1] ?_
 refine zF ?_
 refine eZ ?_
 refine sc ?_ ?_<;>intro hba
 have hok:aU e=false:=cR
 refine oy ?_
 refine CM ?_
 exact Zgw
 have hok:aU e=true:=cR
 have hrl:=alw hok
 refine Zgx ?_
 refine rA ?_ (x:=cL fi fu auB (hs:=by exact (awG (by assumption) ab)))
 refine bL ?_
 refine Zgy ?_
 refine Db ?_
 refine dJ ?_
 refine sV [1,2,3,4] [1] [3] ?_
 refine JP ?_
 refine cv ?_
 refine rA ?_ (x:=cL [(true,oi),(false,[sl _ _])] Zf auD (hs:=by exact (aAO ab)))
 exact Zgz
end Go.Proofs.YtmekkgdboplbjaaGreatDoor
