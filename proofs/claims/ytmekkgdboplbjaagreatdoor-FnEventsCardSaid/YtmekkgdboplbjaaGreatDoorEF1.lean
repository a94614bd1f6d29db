/- What functions of the program compute. No condition. -/
import Derived.Test.YtmekkgdboplbjaaGreatDoorEY0
import Derived.Test.YtmekkgdboplbjaaGreatDoorEA1
set_option linter.all false
namespace Go.Proofs.YtmekkgdboplbjaaGreatDoor
open Go Go.RowKit M PV Tryz
set_option maxRecDepth 10000
attribute [local irreducible] PV.Lcl PV.LclR RV.Lcl
def auj{l:List Int}{x:Int}(hb:l.length≤68719476736):aQ prog 252 [(false,[sl .v (l.map ar)]),(false,[val (vI x)])] (aB [(false,[sl ai ((nY l x).map ar)])]):=by
 refine sF func252 fun h0 w0 Fz0=>?_
 refine sj 0 fun hl0=>?_
 refine sY ?_
 refine pK ?_
 refine re ?_
 refine sS [0,1,4,5] [] ?_
 refine zH ?_
 refine sP [0,1,4,5,9,10,11] [] ?_
 refine sL [0,1,4,9,10] [] (fun k:Nat=>k≤l.length) (fun k:Nat=>[(5,RV.slc ai ((nY (l.take k) x).map ar)),(11,RV.int (k:Int))]) (fun k:Nat=>[]) (fun k:Nat=>l.length - k) 0 ab gp an ?_
 rintro k hk
 refine cY ?_
 refine sc ?_ ?_<;>intro hba
 have hlt:k < l.length:=ab
 have hwl:=Sm (l.take k) x
 rw [cI] at hwl
 refine bv ?_
 refine sS [0,1,4,5,9,10,11] [] ?_
 refine xf ?_
 refine sS [0,1,4,5,7,9,10,11] [] ?_
 refine fB ?_
 refine mQ ?_
 refine sc ?_ ?_<;>intro hbb
 have hne:¬l[k]=x:=hbb
 refine sG [0,1,4,5,7,9,10,11] [] ?_
 refine wX ?_
 refine rc ?_
 exact zti
 have hne:l[k]=x:=VI
 refine ba ?_
 exact zti
 have hend:k=l.length:=ab
 refine bI ?_
 refine sS [0,1,4,5,9,10,11] [] ?_
 exact BF
def auk{l:List Int}{x:Int}(hb:l.length≤68719476736):aQ prog 315 [(false,[sl .v (l.map ar)]),(false,[val (vI x)])] (aB [(false,[sl ai ((nY l x).map ar)])]):=by
 refine sF func315 fun h0 w0 Fz0=>?_
 refine sj 0 fun hl0=>?_
 refine sY ?_
 refine pK ?_
 refine re ?_
 refine sS [0,1,4,5] [] ?_
 refine cl ?_
 refine sP [0,1,4,5,6] [] ?_
 refine sL [0,1,4] [] (fun k:Nat=>k≤l.length) (fun k:Nat=>[(5,RV.slc ai ((nY (l.take k) x).map ar)),(6,RV.int (k:Int))]) (fun k:Nat=>[]) (fun k:Nat=>l.length - k) 0 ab gp an ?_
 rintro k hk
 refine oH ?_
 refine sc ?_ ?_<;>intro hba
 have hlt:k < l.length:=ab
 have hwl:=Sm (l.take k) x
 rw [cI] at hwl
 refine bv ?_
 refine xn ?_
 refine xb ?_
 refine rM ?_
 refine mQ ?_
 refine sc ?_ ?_<;>intro hbb
 have hne:¬l[k]=x:=hbb
 refine sG [0,1,4,5,6] [] ?_
 refine cb ?_
 refine xb ?_
 refine rc ?_
 exact ztj
 have hne:l[k]=x:=VI
 refine ba ?_
 exact ztj
 have hend:k=l.length:=ab
 refine bI ?_
 refine xn ?_
 exact BF
def aul{p1 p2:Fl}{s:Store}{i:Int}{t:Int}(hb:cg s≤68719476736)(hi0:0≤i)(hi2:i.toNat < s.ax2.length):aQ prog 250 [(true,[sl .v (s.ax2.map (aO p1 p2)),val (vI s.Now)]),(false,[val (vI i)]),(false,[val (vI t)])] (aB [(false,[sl aL ((eY (s.ax2.getD i.toNat []) t).map (cD ai))])]):=by
 refine sF func250 fun h0 w0 Fz0=>?_
 refine sn 0 0 fun hl0_0=>?_
 have hgd:=kl (d:=([]:List be)) hi2
 have hws:=fg (f:=dv) hi2
 rw [hgd] at hws
 have hws2:dv (s.ax2.getD i.toNat [])=(s.ax2.getD i.toNat []).length+((s.ax2.getD i.toNat []).map dV).sum:=rfl
 have hbu:=hb
 simp only [cg,iy,bo] at hbu
 refine kN ?_
 refine rA ?_ (x:=nw (.inr rfl) aj (pk (t:=27) (e:=2)))
 refine sT [1,2,3,6] [3] ?_
 refine Hr ?_
 refine aU ?_
 refine sS [1,2,3,6,7] [3] ?_
 refine sV ?_
 refine rM ?_
 refine rA ?_ (x:=aZ (k:=i.toNat) aj gB an ab (by exact fX hi2 (by rw [kl (d:=([]:List be)) hi2])) ak)
 refine rA ?_ (x:=lE [sl .v _] jS)
 refine rA ?_ (x:=lN dq)
 refine fK ?_
 refine sP [1,2,3,6,7,15,16,17] [3] ?_
 refine sL [1,2,3,6,15,16] [3] (fun k:Nat=>k≤(s.ax2.getD i.toNat []).length) (fun k:Nat=>[(7,RV.slc aL ((eY ((s.ax2.getD i.toNat []).take k) t).map (cD ai))),(17,RV.int (k:Int))]) (fun k:Nat=>[]) (fun k:Nat=>(s.ax2.getD i.toNat []).length - k) 0 ab gp an ?_
 rintro k hk
 refine cY ?_
 refine sc ?_ ?_<;>intro hba
 have hlt:k < (s.ax2.getD i.toNat []).length:=ab
 have hwm2:=fg (f:=dV) hlt
 have hvl:=DZ ((s.ax2.getD i.toNat []).take k) t
 rw [cI] at hvl
 refine bv ?_
 refine sT [1,2,3,6,7,15,16,17] [3] ?_
 refine Hk ?_
 refine Ce ?_
 refine aU ?_
 refine sO [(1,_),(2,_),(3,_),(6,_),(7,_),(9,_),(15,_),(16,_),(17,_)] [(3,_),(9,(116,fe))] ?_
 refine aY ?_
 refine Db ?_
 refine zpl ?_
 refine sc ?_ ?_<;>intro hbb
 have hv:gk (s.ax2.getD i.toNat [])[k] t=true:=jA
 refine sG [1,2,3,6,7,9,15,16,17] [3,9] ?_
 refine cb ?_
 refine zie ?_
 refine BV ?_
 refine dJ ?_
 exact ztk
 have hv:gk (s.ax2.getD i.toNat [])[k] t=false:=jA
 refine ba ?_
 exact ztk
 have hend:k=(s.ax2.getD i.toNat []).length:=ab
 refine bI ?_
 refine sT [1,2,3,6,7,15,16,17] [3] ?_
 exact BF
def Tf{e:aC}(hb:bA e≤68719476736):Me prog 200 [(true,[sl bH (e.Store.ax2.map (aO bc ai)),val (vI e.Store.Now),val (vI e.ax7),sl ai (e.Order.map ar),sl cm (e.ax3.map (bd aH ai ai aL ai)),sl cf (e.Done.map (bw aH ai aL ai)),sl ck (e.ayf.map (bz ai ai ai)),val (vI e.Steps)])] (aB [(true,[sl bH ((dZ e).Store.ax2.map (aO bc ai)),val (vI (dZ e).Store.Now),val (vI (dZ e).ax7),sl ai ((dZ e).Order.map ar),sl cm ((dZ e).ax3.map (bd aH ai ai aL ai)),sl cf ((dZ e).Done.map (bw aH ai aL ai)),sl ck ((dZ e).ayf.map (bz ai ai ai)),val (vI (dZ e).Steps)])]):=by
 refine amE (rs:=[(true,[sl bH ((dZ e).Store.ax2.map (aO bc ai)),val (vI (dZ e).Store.Now),val (vI (dZ e).ax7),sl ai ((dZ e).Order.map ar),sl cm ((dZ e).ax3.map (bd aH ai ai aL ai)),sl cf ((dZ e).Done.map (bw aH ai aL ai)),sl ck ((dZ e).ayf.map (bz ai ai ai)),val (vI (dZ e).Steps)])]) func200 rfl (nl rfl) ?_
 intro h0 w0 Fz0
 refine sn 0 0 fun hl0_0=>?_
 refine sn 0 3 fun hl0_3=>?_
 refine sn 0 4 fun hl0_4=>?_
 refine sn 0 5 fun hl0_5=>?_
 refine sn 0 6 fun hl0_6=>?_
 have hbu:=hb
 simp only [bA,iO] at hbu
 refine Cv ?_
 refine sT [1,2] [1,2] ?_
 refine re ?_
 refine sS [1,2,3] [1,2] ?_
 refine uM ?_
 refine sP [1,2,3,8,9,10] [1,2] ?_
 refine sL [1,2,8,9] [1,2] (fun k:Nat=>k≤e.ax3.length) (fun k:Nat=>[(3,RV.slc ai ((iS (e.ax3.take k)).map ar)),(10,RV.int (k:Int))]) (fun k:Nat=>[]) (fun k:Nat=>e.ax3.length - k) 0 ab gp an ?_
 rintro k hk
 refine cY ?_
 refine sc ?_ ?_<;>intro hba
 have hlt:k < e.ax3.length:=ab
 have htl:(iS (e.ax3.take k)).length=k:=Vj
 have hts:iS (e.ax3.take (k+1))=iS (e.ax3.take k)++[e.ax3[k].Time]:=UQ
 refine bv ?_
 refine sT [1,2,3,8,9,10] [1,2] ?_
 refine yU ?_
 refine yS ?_
 refine sO [(1,_),(2,_),(3,_),(5,_),(8,_),(9,_),(10,_)] [(1,_),(2,_),(5,(102,du))] ?_
 refine aY ?_
 refine cb ?_
 refine PM ?_
 refine rc ?_
 refine sG [1,2,3,5,8,9,10] [1,2,5] ?_
 refine dI ?_
 exact ztm
 have hend:k=e.ax3.length:=ab
 have hte:iS (e.ax3.take k)=iS e.ax3:=by rw [hend,cJ]
 have htl:(iS e.ax3).length=e.ax3.length:=UR
 rw [hte]
 refine bI ?_
 refine sT [1,2,3,8,9,10] [1,2] ?_
 refine zd ?_
 refine dD ?_
 refine rA ?_ (x:=cL [(true,bW),(false,[sl _ _])] [(true,eh),(false,[sl .v _])] aqk (hs:=by exact (ass (s:=e.Store) (keep:=iS e.ax3) ab ab)))
 refine CW ?_
 refine Hu ?_
 refine aU ?_
 refine sO [(1,_),(2,_),(3,_),(8,_),(9,_),(10,_)] [(1,(46,aW)),(2,_)] ?_
 refine tk ?_
 refine cK ?_
 exact (bh 2 (bh _ (aI ak (aI ak (aI dj (aI (fun h=>nomatch h) tI))))))
def Tg{e:aC}(hb:bA e≤68719476736):ie prog 273 46 [sl bH (e.Store.ax2.map (aO bc ai)),val (vI e.Store.Now),val (vI e.ax7),sl ai (e.Order.map ar),sl cm (e.ax3.map (bd aH ai ai aL ai)),sl cf (e.Done.map (bw aH ai aL ai)),sl ck (e.ayf.map (bz ai ai ai)),val (vI e.Steps)] [sl bH ((dZ e).Store.ax2.map (aO bc ai)),val (vI (dZ e).Store.Now),val (vI e.ax7),sl ai (e.Order.map ar),sl cm (e.ax3.map (bd aH ai ai aL ai)),sl cf (e.Done.map (bw aH ai aL ai)),sl ck (e.ayf.map (bz ai ai ai)),val (vI e.Steps)] [] (aB []):=by
 refine iX (rs:=[]) func273 rfl (nl rfl) (nl rfl) ?_
 intro g_ h0 w0 Fz0
 have hbu:=hb
 simp only [bA,iO] at hbu
 refine sR ?_
 refine re ?_
 refine sT [0,2,5000] [0] ?_
 refine cl ?_
 refine sP [0,2,3,5000] [0] ?_
 refine sL [0,5000] [0] (fun k:Nat=>k≤e.ax3.length) (fun k:Nat=>[(2,RV.slc ai ((iS (e.ax3.take k)).map ar)),(3,RV.int (k:Int))]) (fun k:Nat=>[]) (fun k:Nat=>e.ax3.length - k) 0 ab gp an ?_
 rintro k hk
 refine cP ?_
 refine oA ?_
 refine uH ?_
 refine sc ?_ ?_<;>intro hba
 have hlt:k < e.ax3.length:=ab
 have htl:(iS (e.ax3.take k)).length=k:=Vj
 have hts:iS (e.ax3.take (k+1))=iS (e.ax3.take k)++[e.ax3[k].Time]:=UQ
 refine bv ?_
 refine sH [0,2,3,5000] [0] ?_
 refine cb ?_
 refine oA ?_
 refine px ?_
 refine OO ?_
 refine rA ?_ (x:=cR aj vq az)
 refine rA ?_ (x:=lE [val _] bb)
 refine rc ?_
 refine sG [0,2,3,5000] [0] ?_
 refine cB ?_
 exact ztm
 have hend:k=e.ax3.length:=ab
 have hte:iS (e.ax3.take k)=iS e.ax3:=by rw [hend,cJ]
 have htl:(iS e.ax3).length=e.ax3.length:=UR
 rw [hte]
 refine bI ?_
 refine sT [0,2,3,5000] [0] ?_
 refine oA ?_
 refine zd ?_
 refine dD ?_
 refine rA ?_ (x:=cL [(true,bW),(false,[sl _ _])] [(true,eh),(false,[sl .v _])] aqy (hs:=by exact (ast (s:=e.Store) (keep:=iS e.ax3) ab ab)))
 refine CW ?_
 refine oz ?_
 refine rS ?_
 refine sO [(0,_),(2,_),(3,_),(4,_),(5,_),(5000,_)] [(0,_),(4,(41,bW))] ?_
 refine oC ?_
 refine IM ?_
 refine xh ?_
 refine Hu ?_
 exact ⟨ak,rfl,tI⟩
end Go.Proofs.YtmekkgdboplbjaaGreatDoor
