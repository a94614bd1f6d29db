/- What functions of the program compute. No condition. -/
import Derived.Test.YtmekkgdboplbjaaGreatDoorEU0
import Derived.Test.YtmekkgdboplbjaaGreatDoorEV0
set_option linter.all false
namespace Go.Proofs.YtmekkgdboplbjaaGreatDoor
open Go Go.RowKit M PV Tryz
set_option maxRecDepth 10000
attribute [local irreducible] PV.Lcl PV.LclR RV.Lcl
def aju:eA prog 116=some [(0,1),(1,1),(2,1),(3,1)]:=ao
def ash:eA prog 149=some [(0,1),(1,1),(2,1),(3,1),(4,1)]:=ao
def asi:eA prog 41=some [(0,1),(1,1)]:=ao
def ajv:eA prog 46=some [(0,2),(2,1),(3,1),(4,1),(5,1),(6,1),(7,1)]:=ao
def asj{x:hI}(hb:tw x≤68719476736):aQ prog 197 [(true,[val (vI x.Segment),val (vI x.Base),sl .v (x.Ids.map ar),sl .v (x.ax9.map ar),sl .v (x.Rows.map ar)])] (aB [(true,[val (vI x.Segment),val (vI x.Base),sl ai (x.Ids.map ar),sl ai (x.ax9.map ar),sl ai (x.Rows.map ar)])]):=by
 refine sF func197 fun h0 w0 Fz0=>?_
 refine sn 0 2 fun hl0_2=>?_
 refine sn 0 3 fun hl0_3=>?_
 refine sn 0 4 fun hl0_4=>?_
 have hbu:=hb
 simp only [tw,gj,bo] at hbu
 refine Ck ?_
 refine rX ?_ (x:=(fW aj mq xS))
 refine wY ?_
 refine dA 0 ?_ (x:=lF rF)
 refine dA 1 ?_ (x:=lD [sl .v _] cW)
 refine dA 3 ?_ (x:=cL [(false,[sl _ _])] [(false,[sl .v _])] uZ (hs:=uj))
 refine dA 0 ?_ (x:=lF tV)
 refine zo6 ?_
 refine dA 0 ?_ (x:=lF qc)
 refine dA 64 ?_ (x:=lD [sl .v _] cW)
 refine dA 255 ?_ (x:=cL [(false,[sl _ _])] [(false,[sl .v _])] uZ (hs:=uj))
 refine dA 223 ?_ (x:=lF rF)
 refine Qv ?_
 refine dA 2047 ?_ (x:=lF tV)
 refine zo8 ?_
 refine dA 8191 ?_ (x:=lF qc)
 refine zo9 ?_
 refine sO [(1,_),(2,_)] [(1,(149,fk)),(2,_)] ?_
 refine aY ?_
 refine rA ?_ (x:=eN (ms:=fk) (qs:=nC) aj nW (fun h=>nomatch h) az ak (by exact (aD (aD (aV (aV (aV aJ.nil)))))) bg)
 refine zoa ?_
 exact Zd
def asl{x:hI}(hb:tw x≤68719476736):aQ prog 288 [(true,[val (vI x.Segment),val (vI x.Base),sl .v (x.Ids.map ar),sl .v (x.ax9.map ar),sl .v (x.Rows.map ar)])] (aB [(true,[val (vI x.Segment),val (vI x.Base),sl ai (x.Ids.map ar),sl ai (x.ax9.map ar),sl ai (x.Rows.map ar)])]):=by
 refine sF func288 fun h0 w0 Fz0=>?_
 refine sn 0 2 fun hl0_2=>?_
 refine sn 0 3 fun hl0_3=>?_
 refine sn 0 4 fun hl0_4=>?_
 have hbu:=hb
 simp only [tw,gj,bo] at hbu
 refine Ck ?_
 refine rX ?_ (x:=(fW aj mq xS))
 refine wY ?_
 refine dA 0 ?_ (x:=lF DP)
 refine xk ?_
 refine dA 0 ?_ (x:=lF xP)
 refine dA 4 ?_ (x:=lD [val _] bb)
 refine tm ?_
 refine dA 0 ?_ (x:=lF rF)
 refine dA 32 ?_ (x:=lD [sl .v _] cW)
 refine dA 112 ?_ (x:=lU aj cn iP rfl rfl aj oo sk bq bq)
 refine tm ?_
 refine dA 0 ?_ (x:=lF tV)
 refine zkq ?_
 refine tm ?_
 refine dA 0 ?_ (x:=lF qc)
 refine dA 8192 ?_ (x:=lD [sl .v _] cW)
 refine dA 32752 ?_ (x:=lU aj cn iP rfl rfl aj oo sk bq bq)
 refine dA 65535 ?_ (x:=cy (qs:=[(false,[val _]),(false,[val _]),(false,[sl _ _]),(false,[sl _ _]),(false,[sl _ _])]) (cs:=fk) aj mq xS ash ak (by exact (aI an (aI an (aI an (aI an (aI an tI)))))) rfl ak)
 refine dA 131071 ?_ (x:=bV (ag:=true) (vs:=fk) nW an ak az)
 exact Zd
def asm{p4:Fl}{x:ax3}(hb:eC x≤68719476736):aQ prog 195 [(true,[val (vI x.ax4.Id),val (vI x.ax4.ax8),sl .v (x.ax4.ax5.map bF),sl .v (x.ax4.Out.map ar),val (vI x.Time),sl .v (x.ayc.map ar),val (vI x.Age),val (vI x.Sent),val (vI x.Cap),sl .v (x.Rows.map (cD p4))])] (aB [(true,[val (vI x.ax4.Id),val (vI x.ax4.ax8),sl aH (x.ax4.ax5.map bF),sl ai (x.ax4.Out.map ar),val (vI x.Time),sl ai (x.ayc.map ar),val (vI x.Age),val (vI x.Sent),val (vI x.Cap),sl aL (x.Rows.map (cD ai))])]):=by
 refine sF func195 fun h0 w0 Fz0=>?_
 refine sn 0 2 fun hl0_2=>?_
 refine sn 0 3 fun hl0_3=>?_
 refine sn 0 5 fun hl0_5=>?_
 refine sn 0 9 fun hl0_9=>?_
 have hbu:=hb
 simp only [eC,gj,bo] at hbu
 refine zoc ?_
 refine De ?_
 refine wY ?_
 refine dA 0 ?_ (x:=lF nb)
 refine zod ?_
 refine dA 0 ?_ (x:=lF tT)
 refine zo6 ?_
 refine dA 0 ?_ (x:=lF tU)
 refine dA 64 ?_ (x:=lD [sl .v _] nX)
 refine dA 255 ?_ (x:=cL [(false,[sl _ _])] [(false,[sl .v _])] aiD (hs:=by exact ajb ab))
 refine dA 223 ?_ (x:=lF nb)
 refine zoe ?_
 refine dA 2047 ?_ (x:=lF tT)
 refine zo8 ?_
 refine dA 8191 ?_ (x:=lF tU)
 refine dA 16383 ?_ (x:=bV (ag:=false) (vs:=[sl _ _]) nX an ak az)
 refine aU ?_
 refine sO [(1,_),(2,_)] [(1,(102,du)),(2,_)] ?_
 refine aY ?_
 refine Qw ?_
 refine Qx ?_
 refine cK ?_
 exact (bh 2 (bh _ (aI ak (aI ak (aI lI (aI (fun h=>nomatch h) tI))))))
def asn{p3:Fl}{x:jI}(hb:oO x≤68719476736):aQ prog 196 [(true,[val (vI x.ax4.Id),val (vI x.ax4.ax8),sl .v (x.ax4.ax5.map bF),sl .v (x.ax4.Out.map ar),val (vI x.Time),val (vI x.Steps),sl .v (x.Rows.map (cD p3))])] (aB [(true,[val (vI x.ax4.Id),val (vI x.ax4.ax8),sl aH (x.ax4.ax5.map bF),sl ai (x.ax4.Out.map ar),val (vI x.Time),val (vI x.Steps),sl aL (x.Rows.map (cD ai))])]):=by
 refine sF func196 fun h0 w0 Fz0=>?_
 refine sn 0 2 fun hl0_2=>?_
 refine sn 0 3 fun hl0_3=>?_
 refine sn 0 6 fun hl0_6=>?_
 have hbu:=hb
 simp only [oO,bo] at hbu
 refine sR ?_
 refine rX ?_ (x:=(kG (ag:=true) (cs:=lW) aj an))
 refine rX ?_ (x:=(fW aj rJ JF))
 refine wY ?_
 refine dA 0 ?_ (x:=lF vr)
 refine zod ?_
 refine dA 0 ?_ (x:=lF AB)
 refine dA 8 ?_ (x:=lD [sl .v _] nX)
 refine dA 31 ?_ (x:=cL [(false,[sl _ _])] [(false,[sl .v _])] aiD (hs:=by exact ajb ab))
 refine dA 31 ?_ (x:=lF vr)
 refine dA 127 ?_ (x:=bV (ag:=true) (vs:=bX) gO an ak az)
 refine dA 255 ?_ (x:=lF AB)
 refine dA 511 ?_ (x:=bV (ag:=false) (vs:=[sl _ _]) nX an ak az)
 refine aU ?_
 refine sO [(1,_),(2,_)] [(1,(56,lW)),(2,_)] ?_
 refine aY ?_
 refine zoh ?_
 refine zoi ?_
 refine cK ?_
 exact (bh 2 (bh _ (aI ak (aI ak (aI DR (aI (fun h=>nomatch h) tI))))))
def aso{a:Int}{b:List Int}{c:Int}{d:Int}(hb:b.length≤68719476736):aQ prog 307 [(false,[val (vI a)]),(false,[sl .v (b.map ar)]),(false,[val (vI c)]),(false,[val (vI d)])] (aB [(true,[val (vI (be.mk a b c d).Id),sl ai ((be.mk a b c d).Values.map ar),val (vI (be.mk a b c d).ayh),val (vI (be.mk a b c d).ayd)])]):=by
 refine sF func307 fun h0 w0 Fz0=>?_
 refine sj 1 fun hl1=>?_
 refine sR ?_
 refine IL ?_
 refine sT [0,1,2,3,8] [8] ?_
 refine rM ?_
 refine zcv ?_
 refine fB ?_
 refine rA ?_ (x:=cy (qs:=[(false,[val _]),(false,[sl _ _]),(false,[val _]),(false,[val _])]) (cs:=fe) aj iT xR aju ak vU rfl ak)
 refine Qy ?_
 refine cK ?_
 exact (bh 8 (bh _ (aI ak (aI ak (aI mn (aI (fun h=>nomatch h) tI))))))
def asp{p1:Fl}{x:List be}(hb:dv x≤68719476736):aQ prog 286 [(false,[sl .v (x.map (gG p1))])] (aB [(false,[sl bc (x.map (gG ai))])]):=by
 refine sF func286 fun h0 w0 Fz0=>?_
 refine sj 0 fun hl0=>?_
 have hbu:=hb
 simp only [dv] at hbu
 refine sR ?_
 refine rA ?_ (x:=nw (.inr rfl) aj (pk (t:=116) (e:=4)))
 refine nJ ?_
 refine zG ?_
 refine wQ ?_
 refine sL [0,2] [] (fun k:Nat=>k≤x.length) (fun k:Nat=>[(3,RV.slc bc ((x.take k).map (gG ai))),(4,RV.int (k:Int))]) (fun k:Nat=>[]) (fun k:Nat=>x.length - k) 0 ab vV an ?_
 rintro k hk
 refine cP ?_
 refine qX ?_
 refine dQ ?_
 refine sc ?_ ?_<;>intro hba
 have hlt:k < x.length:=ab
 have hwm:=fg (f:=dV) hlt
 have htl:(x.take k).length=k:=fb
 have hwv:dV x[k]=x[k].Values.length:=yp
 refine bv ?_
 refine sP [0,2,3,4] [] ?_
 refine CB ?_
 refine ij ?_
 refine dA 6 ?_ (x:=aZ aj dq an ak bE ak)
 refine dA 14 ?_ (x:=cR aj xO az)
 refine dA 30 ?_ (x:=lE [val _] bb)
 refine ij ?_
 refine dA 192 ?_ (x:=aZ aj dq an ak bE ak)
 refine dA 448 ?_ (x:=cR aj oU az)
 refine dA 960 ?_ (x:=lE [sl .v _] cW)
 refine ij ?_
 refine dA 6144 ?_ (x:=aZ aj dq an ak bE ak)
 refine dA 14336 ?_ (x:=cR aj nc az)
 refine dA 30720 ?_ (x:=lE [val _] bb)
 refine ij ?_
 refine dA 196608 ?_ (x:=aZ aj dq an ak bE ak)
 refine dA 458752 ?_ (x:=cR aj ku az)
 refine dA 983040 ?_ (x:=lE [val _] bb)
 refine dA 2097150 ?_ (x:=cL [(false,[val _]),(false,[sl _ _]),(false,[val _]),(false,[val _])] [(false,[val _]),(false,[sl .v _]),(false,[val _]),(false,[val _])] aqB (hs:=by exact (aso ab)))
 refine dA 4194302 ?_ (x:=cj (qs:=[(true,fe)]) aj dq iT aj rfl rfl rfl rfl rfl az bS rfl)
 refine dA 8388607 ?_ (x:=fc aj dq iT rfl rfl aj rfl bq bq)
 refine dA 16777215 ?_ (x:=tA)
 refine rg ?_
 exact MC
 exact MD
def ajw{p1 p2:Fl}{s:Store}(hb:cg s≤68719476736):aQ prog 194 [(true,[sl .v (s.ax2.map (aO p1 p2)),val (vI s.Now)])] (aB [(true,[sl bH (s.ax2.map (aO bc ai)),val (vI s.Now)])]):=by
 refine sF func194 fun h0 w0 Fz0=>?_
 refine sn 0 0 fun hl0_0=>?_
 have hbu:=hb
 simp only [cg,iy,bo] at hbu
 refine kN ?_
 refine Df ?_
 refine sT [1,2] [1,2] ?_
 refine tt ?_
 refine zoo ?_
 refine oz ?_
 refine dC ?_
 refine zoq ?_
 refine mP ?_
 refine fK ?_
 refine sP [1,2,3,13,14,15] [1,2,3] ?_
 refine sL [1,2,3,13,14] [1,2] (fun k:Nat=>k≤s.ax2.length) (fun k:Nat=>[(15,RV.int (k:Int))]) (fun k:Nat=>[(3,(41,[sl bH ((s.ax2.take k).map (aO bc ai)),val (vI s.Now)]))]) (fun k:Nat=>s.ax2.length - k) 0 ab bp bp ?_
 rintro k hk
 refine cY ?_
 refine sc ?_ ?_<;>intro hba
 have hlt:k < s.ax2.length:=ab
 have hwm:=fg (f:=dv) hlt
 have hws:dv s.ax2[k]=s.ax2[k].length+(s.ax2[k].map dV).sum:=rfl
 have htl:(s.ax2.take k).length=k:=fb
 refine bv ?_
 refine sT [1,2,3,13,14,15] [1,2,3] ?_
 refine Qm ?_
 refine sS [1,2,3,5,13,14,15] [1,2,3] ?_
 refine zG ?_
 refine sS [1,2,3,5,6,13,14,15] [1,2,3] ?_
 refine zK ?_
 refine sP [1,2,3,5,6,13,14,15,20,21,22] [1,2,3] ?_
 refine sL [1,2,3,5,13,14,15,20,21] [1,2,3] (fun j:Nat=>j≤s.ax2[k].length) (fun j:Nat=>[(6,RV.slc bc ((s.ax2[k].take j).map (gG ai))),(22,RV.int (j:Int))]) (fun j:Nat=>[]) (fun j:Nat=>s.ax2[k].length - j) 0 ab gp an ?_
 rintro j hj
 refine cY ?_
 refine sc ?_ ?_<;>intro hbb
 have hlt2:j < s.ax2[k].length:=ab
 have hwm2:=fg (f:=dV) hlt2
 have hwv:dV s.ax2[k][j]=s.ax2[k][j].Values.length:=yp
 have htl2:(s.ax2[k].take j).length=j:=fb
 refine bv ?_
 refine sT [1,2,3,5,6,13,14,15,20,21,22] [1,2,3] ?_
 refine Hk ?_
 refine Ce ?_
 refine sO [(1,_),(2,_),(3,_),(5,_),(6,_),(8,_),(13,_),(14,_),(15,_),(20,_),(21,_),(22,_)] [(1,_),(2,_),(3,_),(8,(116,fe))] ?_
 refine CB ?_
 refine dA 0 ?_ (x:=lF xO)
 refine dA 2 ?_ (x:=lD [val _] bb)
 refine dA 0 ?_ (x:=lF oU)
 refine dA 8 ?_ (x:=lD [sl .v _] cW)
 refine dA 24 ?_ (x:=cL [(false,[sl _ _])] [(false,[sl .v _])] uZ (hs:=uj))
 refine dA 0 ?_ (x:=lF nc)
 refine dA 64 ?_ (x:=lD [val _] bb)
 refine dA 0 ?_ (x:=lF ku)
 refine dA 256 ?_ (x:=lD [val _] bb)
 refine dA 1022 ?_ (x:=cy (qs:=[(false,[val _]),(false,[sl _ _]),(false,[val _]),(false,[val _])]) (cs:=fe) aj iT xR aju ak vU rfl ak)
 refine dA 2046 ?_ (x:=cj (qs:=[(true,fe)]) aj dq iT aj rfl rfl rfl rfl rfl az bS rfl)
 refine dA 4095 ?_ (x:=fc aj dq iT rfl rfl aj rfl bq bq)
 refine dA 8191 ?_ (x:=tA)
 refine sG [1,2,3,5,6,8,13,14,15,20,21,22] [1,2,3,8] ?_
 refine dI ?_
 refine nx (j+1) ab (e:=(by exact aI (by exact cz (by rw [xz hlt2,bK];exact rfl)) (aI ak tI)))
 have hend2:j=s.ax2[k].length:=ab
 refine bI ?_
 refine sH [1,2,3,5,6,13,14,15,20,21,22] [1,2,3] ?_
 refine zor ?_
 refine cb ?_
 refine zos ?_
 refine zot ?_
 refine sO [(1,_),(2,_),(3,_),(5,_),(13,_),(14,_),(15,_),(20,_),(21,_),(22,_)] [(1,_),(2,_),(3,(41,bW))] ?_
 refine aY ?_
 refine dI ?_
 refine nx (k+1) ab (f:=(by exact aI (by rw [hend2,cJ,xz hlt];simp only [bK];exact rfl) tI))
 have hend:k=s.ax2.length:=ab
 refine bI ?_
 refine sT [1,2,3,13,14,15] [1,2,3] ?_
 exact Ze
def asq{p1 p2:Fl}{s:Store}(hb:cg s≤68719476736):aQ prog 254 [(true,[sl .v (s.ax2.map (aO p1 p2)),val (vI s.Now)])] (aB [(true,[sl bH (s.ax2.map (aO bc ai)),val (vI s.Now)])]):=by
 refine sF func254 fun h0 w0 Fz0=>?_
 refine sn 0 0 fun hl0_0=>?_
 have hbu:=hb
 simp only [cg,iy,bo] at hbu
 refine kN ?_
 refine Df ?_
 refine sT [1,2] [1,2] ?_
 refine tt ?_
 refine zoo ?_
 refine oz ?_
 refine dC ?_
 refine zoq ?_
 refine cl ?_
 refine sP [1,2,3,4] [1,2,3] ?_
 refine sL [1,2,3] [1,2] (fun k:Nat=>k≤s.ax2.length) (fun k:Nat=>[(4,RV.int (k:Int))]) (fun k:Nat=>[(3,(41,[sl bH ((s.ax2.take k).map (aO bc ai)),val (vI s.Now)]))]) (fun k:Nat=>s.ax2.length - k) 0 ab bp bp ?_
 rintro k hk
 refine zJ ?_
 refine sc ?_ ?_<;>intro hba
 have hlt:k < s.ax2.length:=ab
 have hwm:=fg (f:=dv) hlt
 have hws:dv s.ax2[k]=s.ax2[k].length+(s.ax2[k].map dV).sum:=rfl
 have htl:(s.ax2.take k).length=k:=fb
 refine bv ?_
 refine sQ [1,2,3,4] [1,2,3] ?_
 refine cC ?_
 refine zX ?_
 refine dA 1 ?_ (x:=eN (ms:=[sl _ _]) (qs:=[sl .v _]) aj mo (fun _=>rfl) az ak iE ib)
 refine zX ?_
 refine dA 4 ?_ (x:=lD [sl .v _] mo)
 refine dS ?_
 refine dA 28 ?_ (x:=aZ aj gB an ak bE ak)
 refine dA 60 ?_ (x:=lE [sl .v _] jS)
 refine dA 124 ?_ (x:=cL [(false,[sl _ _])] [(false,[sl .v _])] aqv (hs:=by exact (asp ab)))
 refine dA 252 ?_ (x:=cj (qs:=[(false,[sl _ _])]) aj gB JB aj rfl rfl rfl rfl rfl az bS rfl)
 refine dA 511 ?_ (x:=fc aj gB JB rfl rfl aj rfl bq bq)
 refine dA 1023 ?_ (x:=lF rG)
 refine dA 2047 ?_ (x:=bV (ag:=false) (vs:=[sl _ _]) mo an ak az)
 refine sO [(1,_),(2,_),(3,_),(4,_)] [(1,_),(2,_),(3,(41,bW))] ?_
 exact Gz
 have hend:k=s.ax2.length:=ab
 refine bI ?_
 refine sT [1,2,3,4] [1,2,3] ?_
 exact Ze
def ajx{p1 p2 p5 p6 p7 p8 p9 p11 p12 p13 p14 p16 p17 p18:Fl}{e:aC}(hb:bA e≤68719476736):aQ prog 115 [(true,[sl .v (e.Store.ax2.map (aO p1 p2)),val (vI e.Store.Now),val (vI e.ax7),sl .v (e.Order.map ar),sl .v (e.ax3.map (bd p5 p6 p7 p8 p9)),sl .v (e.Done.map (bw p11 p12 p13 p14)),sl .v (e.ayf.map (bz p16 p17 p18)),val (vI e.Steps)])] (aB [(true,[sl bH (e.Store.ax2.map (aO bc ai)),val (vI e.Store.Now),val (vI e.ax7),sl ai (e.Order.map ar),sl cm (e.ax3.map (bd aH ai ai aL ai)),sl cf (e.Done.map (bw aH ai aL ai)),sl ck (e.ayf.map (bz ai ai ai)),val (vI e.Steps)])]):=by
 refine sF func115 fun h0 w0 Fz0=>?_
 refine sn 0 0 fun hl0_0=>?_
 refine sn 0 3 fun hl0_3=>?_
 refine sn 0 4 fun hl0_4=>?_
 refine sn 0 5 fun hl0_5=>?_
 refine sn 0 6 fun hl0_6=>?_
 have hbu:=hb
 simp only [bA,iO,kk,jt,gj,bo] at hbu
 refine Cv ?_
 refine wY ?_
 refine Pi ?_
 refine dA 3 ?_ (x:=cL [(true,bW)] [(true,eh)] aiv (hs:=by exact (ajw ab)))
 refine dA 0 ?_ (x:=lF oV)
 refine dA 8 ?_ (x:=lD [val _] bb)
 refine dA 0 ?_ (x:=lF AA)
 refine dA 32 ?_ (x:=lD [sl .v _] cW)
 refine dA 103 ?_ (x:=cL [(false,[sl _ _])] [(false,[sl .v _])] uZ (hs:=uj))
 refine dA 0 ?_ (x:=lF ne)
 refine dA 256 ?_ (x:=lD [val _] bb)
 refine dA 1023 ?_ (x:=cy (qs:=[(true,bW),(false,[val _]),(false,[sl _ _]),(false,[val _])]) (cs:=aW) aj xQ xT ajv ak vU rfl ak)
 refine zoy ?_
 refine dA 4095 ?_ (x:=bV (ag:=true) (vs:=aW) dj an ak az)
 refine dC ?_
 refine zoz ?_
 refine uM ?_
 refine sP [1,2,3,22,23,24] [1,2,3] ?_
 refine sL [1,2,3,22,23] [1,2] (fun k:Nat=>k≤e.ax3.length) (fun k:Nat=>[(24,RV.int (k:Int))]) (fun k:Nat=>[(3,(46,[sl bH (e.Store.ax2.map (aO bc ai)),val (vI e.Store.Now),val (vI e.ax7),sl ai (e.Order.map ar),sl cm ((e.ax3.take k).map (bd aH ai ai aL ai)),sl cf (([]:List jI).map (bw aH ai aL ai)),sl ck (([]:List hI).map (bz ai ai ai)),val (vI e.Steps)]))]) (fun k:Nat=>e.ax3.length - k) 0 ab bp bp ?_
 rintro k hk
 refine cY ?_
 refine sc ?_ ?_<;>intro hba
 have hlt:k < e.ax3.length:=ab
 have hwm:=fg (f:=eC) hlt
 have hwu:eC e.ax3[k]=fM e.ax3[k].ax4+e.ax3[k].ayc.length+iN e.ax3[k].Rows:=Fm
 have htl:(e.ax3.take k).length=k:=fb
 refine bv ?_
 refine sT [1,2,3,22,23,24] [1,2,3] ?_
 refine yU ?_
 refine yS ?_
 refine sO [(1,_),(2,_),(3,_),(5,_),(22,_),(23,_),(24,_)] [(1,_),(2,_),(3,_),(5,(102,du))] ?_
 refine cC ?_
 refine zp1 ?_
 refine znd ?_
 refine dA 4 ?_ (x:=cL [(true,du)] [(true,mI)] ap4 (hs:=by exact (asm ab)))
 refine dA 12 ?_ (x:=cj (qs:=[(true,du)]) aj cQ mp aj rfl rfl rfl rfl rfl az bS rfl)
 refine dA 31 ?_ (x:=fc aj cQ mp rfl rfl aj rfl bq bq)
 refine dA 63 ?_ (x:=lF hP)
 refine dA 127 ?_ (x:=bV (ag:=false) (vs:=[sl _ _]) fi an ak az)
 refine sO [(1,_),(2,_),(3,_),(5,_),(22,_),(23,_),(24,_)] [(1,_),(2,_),(3,(46,aW)),(5,_)] ?_
 exact MS
 have hend0:k=e.ax3.length:=ab
 refine fq ?_
 refine sT [1,2,3,22,23,24] [1,2,3] ?_
 refine CH ?_
 refine fK ?_
 refine sP [1,2,3,22,23,24,37,38,39] [1,2,3] ?_
 refine sL [1,2,3,22,23,24,37,38] [1,2] (fun k:Nat=>k≤e.Done.length) (fun k:Nat=>[(39,RV.int (k:Int))]) (fun k:Nat=>[(3,(46,[sl bH (e.Store.ax2.map (aO bc ai)),val (vI e.Store.Now),val (vI e.ax7),sl ai (e.Order.map ar),sl cm (e.ax3.map (bd aH ai ai aL ai)),sl cf ((e.Done.take k).map (bw aH ai aL ai)),sl ck (([]:List hI).map (bz ai ai ai)),val (vI e.Steps)]))]) (fun k:Nat=>e.Done.length - k) 0 ab bp Vm ?_
 rintro k hk
 refine cY ?_
 refine sc ?_ ?_<;>intro hbb
 have hlt:k < e.Done.length:=ab
 have hwm:=fg (f:=oO) hlt
 have hwu:oO e.Done[k]=fM e.Done[k].ax4+iN e.Done[k].Rows:=by simp only [oO,bo];omega
 have htl:(e.Done.take k).length=k:=fb
 refine bv ?_
 refine sT [1,2,3,22,23,24,37,38,39] [1,2,3] ?_
 refine zL ?_
 refine sO [(1,_),(2,_),(3,_),(7,_),(22,_),(23,_),(24,_),(37,_),(38,_),(39,_)] [(1,_),(2,_),(3,_),(7,(56,lW))] ?_
 refine cC ?_
 refine dA 0 ?_ (x:=lF qd)
 refine dA 1 ?_ (x:=eN (ms:=[sl _ _]) (qs:=[sl .v _]) aj qf (fun _=>rfl) az ak iE ib)
 refine dA 0 ?_ (x:=lD Gc DR)
 refine dA 4 ?_ (x:=cL [(true,lW)] [(true,Gc)] ap5 (hs:=by exact (asn ab)))
 refine dA 12 ?_ (x:=cj (qs:=[(true,lW)]) aj nf rJ aj rfl rfl rfl rfl rfl az bS rfl)
 refine dA 31 ?_ (x:=fc aj nf rJ rfl rfl aj rfl bq bq)
 refine dA 63 ?_ (x:=lF qd)
 refine dA 127 ?_ (x:=bV (ag:=false) (vs:=[sl _ _]) qf an ak az)
 refine sO [(1,_),(2,_),(3,_),(7,_),(22,_),(23,_),(24,_),(37,_),(38,_),(39,_)] [(1,_),(2,_),(3,(46,aW)),(7,_)] ?_
 exact MS
 have hend1:k=e.Done.length:=ab
 refine fq ?_
 refine sT [1,2,3,22,23,24,37,38,39] [1,2,3] ?_
 refine CI ?_
 refine fK ?_
 refine sP [1,2,3,22,23,24,37,38,39,52,53,54] [1,2,3] ?_
 refine sL [1,2,3,22,23,24,37,38,39,52,53] [1,2] (fun k:Nat=>k≤e.ayf.length) (fun k:Nat=>[(54,RV.int (k:Int))]) (fun k:Nat=>[(3,(46,[sl bH (e.Store.ax2.map (aO bc ai)),val (vI e.Store.Now),val (vI e.ax7),sl ai (e.Order.map ar),sl cm (e.ax3.map (bd aH ai ai aL ai)),sl cf (e.Done.map (bw aH ai aL ai)),sl ck ((e.ayf.take k).map (bz ai ai ai)),val (vI e.Steps)]))]) (fun k:Nat=>e.ayf.length - k) 0 ab bp Vn ?_
 rintro k hk
 refine cY ?_
 refine sc ?_ ?_<;>intro hbc
 have hlt:k < e.ayf.length:=ab
 have hwm:=fg (f:=tw) hlt
 skip
 have htl:(e.ayf.take k).length=k:=fb
 refine bv ?_
 refine sT [1,2,3,22,23,24,37,38,39,52,53,54] [1,2,3] ?_
 refine Ok ?_
 refine Og ?_
 refine sO [(1,_),(2,_),(3,_),(9,_),(22,_),(23,_),(24,_),(37,_),(38,_),(39,_),(52,_),(53,_),(54,_)] [(1,_),(2,_),(3,_),(9,(149,fk))] ?_
 refine cC ?_
 refine zp3 ?_
 refine dA 0 ?_ (x:=lD nC nW)
 refine dA 4 ?_ (x:=cL [(true,fk)] [(true,nC)] ap6 (hs:=by exact (asj ab)))
 refine dA 12 ?_ (x:=cj (qs:=[(true,fk)]) aj jR mq aj rfl rfl rfl rfl rfl az bS rfl)
 refine dA 31 ?_ (x:=fc aj jR mq rfl rfl aj rfl bq bq)
 refine dA 63 ?_ (x:=lF lH)
 refine dA 127 ?_ (x:=bV (ag:=false) (vs:=[sl _ _]) lJ an ak az)
 refine sO [(1,_),(2,_),(3,_),(9,_),(22,_),(23,_),(24,_),(37,_),(38,_),(39,_),(52,_),(53,_),(54,_)] [(1,_),(2,_),(3,(46,aW)),(9,_)] ?_
 exact MS
 have hend2:k=e.ayf.length:=ab
 refine bI ?_
 refine sT [1,2,3,22,23,24,37,38,39,52,53,54] [1,2,3] ?_
 exact Zg
def ajy{p1 p2 p5 p6 p7 p8 p9 p11 p12 p13 p14 p16 p17 p18:Fl}{e:aC}(hb:bA e≤68719476736):aQ prog 257 [(true,[sl .v (e.Store.ax2.map (aO p1 p2)),val (vI e.Store.Now),val (vI e.ax7),sl .v (e.Order.map ar),sl .v (e.ax3.map (bd p5 p6 p7 p8 p9)),sl .v (e.Done.map (bw p11 p12 p13 p14)),sl .v (e.ayf.map (bz p16 p17 p18)),val (vI e.Steps)])] (aB [(true,[sl bH (e.Store.ax2.map (aO bc ai)),val (vI e.Store.Now),val (vI e.ax7),sl ai (e.Order.map ar),sl cm (e.ax3.map (bd aH ai ai aL ai)),sl cf (e.Done.map (bw aH ai aL ai)),sl ck (e.ayf.map (bz ai ai ai)),val (vI e.Steps)])]):=by
 refine sF func257 fun h0 w0 Fz0=>?_
 refine sn 0 0 fun hl0_0=>?_
 refine sn 0 3 fun hl0_3=>?_
 refine sn 0 4 fun hl0_4=>?_
 refine sn 0 5 fun hl0_5=>?_
 refine sn 0 6 fun hl0_6=>?_
 have hbu:=hb
 simp only [bA,iO,kk,jt,gj,bo] at hbu
 refine Cv ?_
 refine wY ?_
 refine Pi ?_
 refine dA 3 ?_ (x:=cL [(true,bW)] [(true,eh)] RD (hs:=Lx))
 refine dA 0 ?_ (x:=lF oV)
 refine dA 8 ?_ (x:=lD [val _] bb)
 refine tm ?_
 refine dA 0 ?_ (x:=lF AA)
 refine dA 64 ?_ (x:=lD [sl .v _] cW)
 refine dA 231 ?_ (x:=lU aj cn iP rfl rfl aj oo sk bq bq)
 refine dA 0 ?_ (x:=lF ne)
 refine dA 512 ?_ (x:=lD [val _] bb)
 refine dA 2047 ?_ (x:=cy (qs:=[(true,bW),(false,[val _]),(false,[sl _ _]),(false,[val _])]) (cs:=aW) aj xQ xT ajv ak vU rfl ak)
 refine zoy ?_
 refine dA 8191 ?_ (x:=bV (ag:=true) (vs:=aW) dj an ak az)
 refine dC ?_
 refine zoz ?_
 refine cl ?_
 refine sP [1,2,3,4] [1,2,3] ?_
 refine sL [1,2,3] [1,2] (fun k:Nat=>k≤e.ax3.length) (fun k:Nat=>[(4,RV.int (k:Int))]) (fun k:Nat=>[(3,(46,[sl bH (e.Store.ax2.map (aO bc ai)),val (vI e.Store.Now),val (vI e.ax7),sl ai (e.Order.map ar),sl cm ((e.ax3.take k).map (bd aH ai ai aL ai)),sl cf (([]:List jI).map (bw aH ai aL ai)),sl ck (([]:List hI).map (bz ai ai ai)),val (vI e.Steps)]))]) (fun k:Nat=>e.ax3.length - k) 0 ab bp bp ?_
 rintro k hk
 refine cP ?_
 refine uH ?_
 refine sc ?_ ?_<;>intro hba
 have hlt:k < e.ax3.length:=ab
 have hwm:=fg (f:=eC) hlt
 have hwu:eC e.ax3[k]=fM e.ax3[k].ax4+e.ax3[k].ayc.length+iN e.ax3[k].Rows:=Fm
 have htl:(e.ax3.take k).length=k:=fb
 refine bv ?_
 refine sT [1,2,3,4] [1,2,3] ?_
 refine px ?_
 refine rM ?_
 refine yU ?_
 refine yS ?_
 refine aU ?_
 refine Ho ?_
 refine rm ?_
 refine zp6 ?_
 refine rm ?_
 refine zp7 ?_
 refine Ho ?_
 refine zV ?_
 refine uS ?_
 refine uO ?_
 refine Qz ?_
 refine uS ?_
 refine Cj ?_
 refine Ho ?_
 refine rA ?_ (x:=lF tU)
 refine zpa ?_
 refine zpb ?_
 refine Ho ?_
 refine Oa ?_
 refine GV ?_
 refine NU ?_
 refine sO [(1,_),(2,_),(3,_),(4,_),(5,_)] [(1,_),(2,_),(3,(46,aW)),(5,(102,du))] ?_
 exact Gz
 have hend0:k=e.ax3.length:=ab
 refine fq ?_
 refine sT [1,2,3,4] [1,2,3] ?_
 refine cl ?_
 refine sP [1,2,3,4,6] [1,2,3] ?_
 refine sL [1,2,3,4] [1,2] (fun k:Nat=>k≤e.Done.length) (fun k:Nat=>[(6,RV.int (k:Int))]) (fun k:Nat=>[(3,(46,[sl bH (e.Store.ax2.map (aO bc ai)),val (vI e.Store.Now),val (vI e.ax7),sl ai (e.Order.map ar),sl cm (e.ax3.map (bd aH ai ai aL ai)),sl cf ((e.Done.take k).map (bw aH ai aL ai)),sl ck (([]:List hI).map (bz ai ai ai)),val (vI e.Steps)]))]) (fun k:Nat=>e.Done.length - k) 0 ab bp Vm ?_
 rintro k hk
 refine cP ?_
 refine CH ?_
 refine dQ ?_
 refine sc ?_ ?_<;>intro hbb
 have hlt:k < e.Done.length:=ab
 have hwm:=fg (f:=oO) hlt
 have hwu:oO e.Done[k]=fM e.Done[k].ax4+iN e.Done[k].Rows:=by simp only [oO,bo];omega
 have htl:(e.Done.take k).length=k:=fb
 refine bv ?_
 refine sT [1,2,3,4,6] [1,2,3] ?_
 refine Cl ?_
 refine rM ?_
 refine zL ?_
 refine aU ?_
 refine OA ?_
 refine rA ?_ (x:=lF vr)
 refine zp6 ?_
 refine rA ?_ (x:=lF vr)
 refine zp7 ?_
 refine OA ?_
 refine rA ?_ (x:=lF AB)
 refine zpa ?_
 refine rA ?_ (x:=lF AB)
 refine zpg ?_
 refine OA ?_
 refine zph ?_
 refine zoh ?_
 refine zpi ?_
 refine zpj ?_
 refine sO [(1,_),(2,_),(3,_),(4,_),(6,_),(7,_)] [(1,_),(2,_),(3,(46,aW)),(7,(56,lW))] ?_
 exact Gz
 have hend1:k=e.Done.length:=ab
 refine fq ?_
 refine sT [1,2,3,4,6] [1,2,3] ?_
 refine cl ?_
 refine sP [1,2,3,4,6,8] [1,2,3] ?_
 refine sL [1,2,3,4,6] [1,2] (fun k:Nat=>k≤e.ayf.length) (fun k:Nat=>[(8,RV.int (k:Int))]) (fun k:Nat=>[(3,(46,[sl bH (e.Store.ax2.map (aO bc ai)),val (vI e.Store.Now),val (vI e.ax7),sl ai (e.Order.map ar),sl cm (e.ax3.map (bd aH ai ai aL ai)),sl cf (e.Done.map (bw aH ai aL ai)),sl ck ((e.ayf.take k).map (bz ai ai ai)),val (vI e.Steps)]))]) (fun k:Nat=>e.ayf.length - k) 0 ab bp Vn ?_
 rintro k hk
 refine cP ?_
 refine CI ?_
 refine dQ ?_
 refine sc ?_ ?_<;>intro hbc
 have hlt:k < e.ayf.length:=ab
 have hwm:=fg (f:=tw) hlt
 skip
 have htl:(e.ayf.take k).length=k:=fb
 refine bv ?_
 refine sQ [1,2,3,4,6,8] [1,2,3] ?_
 refine cC ?_
 refine zp3 ?_
 refine dA 0 ?_ (x:=lF lH)
 refine dA 4 ?_ (x:=lD [sl .v _] lJ)
 refine dS ?_
 refine dA 28 ?_ (x:=aZ aj jR an ak bE ak)
 refine dA 60 ?_ (x:=lE nC nW)
 refine dA 124 ?_ (x:=cL [(true,fk)] [(true,nC)] aqx (hs:=by exact (asl ab)))
 refine dA 252 ?_ (x:=cj (qs:=[(true,fk)]) aj jR mq aj rfl rfl rfl rfl rfl az bS rfl)
 refine dA 511 ?_ (x:=fc aj jR mq rfl rfl aj rfl bq bq)
 refine dA 1023 ?_ (x:=lF lH)
 refine dA 2047 ?_ (x:=bV (ag:=false) (vs:=[sl _ _]) lJ an ak az)
 refine sO [(1,_),(2,_),(3,_),(4,_),(6,_),(8,_)] [(1,_),(2,_),(3,(46,aW))] ?_
 exact Gz
 have hend2:k=e.ayf.length:=ab
 refine bI ?_
 refine sT [1,2,3,4,6,8] [1,2,3] ?_
 exact Zg
end Go.Proofs.YtmekkgdboplbjaaGreatDoor
