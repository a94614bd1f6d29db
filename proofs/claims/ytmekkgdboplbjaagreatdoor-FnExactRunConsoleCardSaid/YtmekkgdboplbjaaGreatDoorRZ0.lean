/- What functions of the program compute. No condition. -/
import Derived.Test.YtmekkgdboplbjaaGreatDoorRX0
import Derived.Test.YtmekkgdboplbjaaGreatDoorRY0
set_option linter.all false
set_option maxHeartbeats 8000000
namespace Go.Proofs.YtmekkgdboplbjaaGreatDoor
open Go Go.RowKit M PV Tryz
set_option maxRecDepth 10000
attribute [local irreducible] PV.Lcl PV.LclR RV.Lcl
def ax5{l:List Int}{x:Int}(hb:l.length≤68719476736):aE prog 252 [(false,[sl .v (l.map ar)]),(false,[val (vI x)])] (aA [(false,[sl ai ((iW l x).map ar)])]):=by
 refine sF func252 fun h0 w0 Fz0=>?_
 refine sj 0 fun hl0=>?_
 refine pi ?_
 refine mw ?_
 refine jO ?_
 refine sS [0,1,4,5] [] ?_
 refine Av ?_
 refine sP [0,1,4,5,9,10,11] [] ?_
 refine sL [0,1,4,9,10] [] (fun k:Nat=>k≤l.length) (fun k:Nat=>[(5,RV.slc ai ((iW (l.take k) x).map ar)),(11,RV.int (k:Int))]) (fun k:Nat=>[]) (fun k:Nat=>l.length - k) 0 ab ej ao ?_
 rintro k hk
 refine bP ?_
 refine sc ?_ ?_<;>intro hba
 have hlt:k < l.length:=ab
 have hwl:=TR (l.take k) x
 rw [cj] at hwl
 refine aY ?_
 refine sS [0,1,4,5,9,10,11] [] ?_
 refine rI ?_
 refine sS [0,1,4,5,7,9,10,11] [] ?_
 refine gn ?_
 refine nu ?_
 refine sc ?_ ?_<;>intro hbb
 have hne:¬l[k]=x:=hbb
 refine sG [0,1,4,5,7,9,10,11] [] ?_
 refine Az ?_
 exact ztf
 have hne:l[k]=x:=Xw
 refine aK ?_
 exact ztf
 have hend:k=l.length:=ab
 refine be ?_
 refine sS [0,1,4,5,9,10,11] [] ?_
 exact zx
def ax6{l:List Int}{x:Int}(hb:l.length≤68719476736):aE prog 315 [(false,[sl .v (l.map ar)]),(false,[val (vI x)])] (aA [(false,[sl ai ((iW l x).map ar)])]):=by
 refine sF func315 fun h0 w0 Fz0=>?_
 refine sj 0 fun hl0=>?_
 refine pi ?_
 refine mw ?_
 refine jO ?_
 refine DI ?_
 refine sP [0,1,4,5,6] [] ?_
 refine sL [0,1,4] [] (fun k:Nat=>k≤l.length) (fun k:Nat=>[(5,RV.slc ai ((iW (l.take k) x).map ar)),(6,RV.int (k:Int))]) (fun k:Nat=>[]) (fun k:Nat=>l.length - k) 0 ab ej ao ?_
 rintro k hk
 refine pj ?_
 refine sc ?_ ?_<;>intro hba
 have hlt:k < l.length:=ab
 have hwl:=TR (l.take k) x
 rw [cj] at hwl
 refine DD ?_
 refine xF ?_
 refine rM ?_
 refine nu ?_
 refine sc ?_ ?_<;>intro hbb
 have hne:¬l[k]=x:=hbb
 refine sG [0,1,4,5,6] [] ?_
 refine bL ?_
 refine xF ?_
 refine oo ?_
 exact ztg
 have hne:l[k]=x:=Xw
 refine aK ?_
 exact ztg
 have hend:k=l.length:=ab
 refine Jg ?_
 exact zx
def ax7{p1 p2:Fl}{s:Store}{i:Int}{t:Int}(hb:da s≤68719476736)(hi0:0≤i)(hi2:i.toNat < s.aC5.length):aE prog 250 [(true,[sl .v (s.aC5.map (aG p1 p2)),val (vI s.Now)]),(false,[val (vI i)]),(false,[val (vI t)])] (aA [(false,[sl aJ ((eU (s.aC5.getD i.toNat []) t).map (ci ai))])]):=by
 refine sF func250 fun h0 w0 Fz0=>?_
 refine sn 0 0 fun hl0_0=>?_
 have hgd:=dM (d:=([]:List bb)) hi2
 have hws:=dK (f:=cX) hi2
 rw [hgd] at hws
 have hws2:cX (s.aC5.getD i.toNat [])=(s.aC5.getD i.toNat []).length+((s.aC5.getD i.toNat []).map df).sum:=rfl
 have hbu:=hb
 simp only [da,iR,bh] at hbu
 refine mr ?_
 refine RQ ?_
 refine sT [1,2,3,6] [3] ?_
 refine Iv ?_
 refine sS [1,2,3,6,7] [3] ?_
 refine tO ?_
 refine rA ?_ (x:=aS (k:=i.toNat) ak gG ao ab (by exact eQ hi2 (by rw [dM (d:=([]:List bb)) hi2])) aj)
 refine xT ?_
 refine vP ?_
 refine dm ?_
 refine sP [1,2,3,6,7,15,16,17] [3] ?_
 refine sL [1,2,3,6,15,16] [3] (fun k:Nat=>k≤(s.aC5.getD i.toNat []).length) (fun k:Nat=>[(7,RV.slc aJ ((eU ((s.aC5.getD i.toNat []).take k) t).map (ci ai))),(17,RV.int (k:Int))]) (fun k:Nat=>[]) (fun k:Nat=>(s.aC5.getD i.toNat []).length - k) 0 ab ej ao ?_
 rintro k hk
 refine bP ?_
 refine sc ?_ ?_<;>intro hba
 have hlt:k < (s.aC5.getD i.toNat []).length:=ab
 have hwm2:=dK (f:=df) hlt
 have hvl:=EZ ((s.aC5.getD i.toNat []).take k) t
 rw [cj] at hvl
 refine aY ?_
 refine sT [1,2,3,6,7,15,16,17] [3] ?_
 refine Ay ?_
 refine sV [1,2,3,6,7,9,15,16,17] [3] [9] ?_
 refine Ee ?_
 refine zsb ?_
 refine sc ?_ ?_<;>intro hbb
 have hv:gp (s.aC5.getD i.toNat [])[k] t=true:=gy
 refine sG [1,2,3,6,7,9,15,16,17] [3,9] ?_
 refine bL ?_
 refine PX ?_
 refine CP ?_
 refine dJ ?_
 exact zti
 have hv:gp (s.aC5.getD i.toNat [])[k] t=false:=gy
 refine aK ?_
 exact zti
 have hend:k=(s.aC5.getD i.toNat []).length:=ab
 refine be ?_
 refine sT [1,2,3,6,7,15,16,17] [3] ?_
 exact zx
def UJ{e:av}(hb:aZ e≤68719476736):Ns prog 200 [(true,[sl bH (e.Store.aC5.map (aG bc ai)),val (vI e.Store.Now),val (vI e.aDa),sl ai (e.Order.map ar),sl ct (e.aC6.map (aO aH ai ai aJ ai)),sl ck (e.Done.map (bd aH ai aJ ai)),sl cl (e.aDi.map (ba ai ai ai)),val (vI e.Steps)])] (aA [(true,[sl bH ((eD e).Store.aC5.map (aG bc ai)),val (vI (eD e).Store.Now),val (vI (eD e).aDa),sl ai ((eD e).Order.map ar),sl ct ((eD e).aC6.map (aO aH ai ai aJ ai)),sl ck ((eD e).Done.map (bd aH ai aJ ai)),sl cl ((eD e).aDi.map (ba ai ai ai)),val (vI (eD e).Steps)])]):=by
 refine aqp (rs:=[(true,[sl bH ((eD e).Store.aC5.map (aG bc ai)),val (vI (eD e).Store.Now),val (vI (eD e).aDa),sl ai ((eD e).Order.map ar),sl ct ((eD e).aC6.map (aO aH ai ai aJ ai)),sl ck ((eD e).Done.map (bd aH ai aJ ai)),sl cl ((eD e).aDi.map (ba ai ai ai)),val (vI (eD e).Steps)])]) func200 rfl (nl rfl) ?_
 intro h0 w0 Fz0
 refine sn 0 0 fun hl0_0=>?_
 refine sn 0 3 fun hl0_3=>?_
 refine sn 0 4 fun hl0_4=>?_
 refine sn 0 5 fun hl0_5=>?_
 refine sn 0 6 fun hl0_6=>?_
 have hbu:=hb
 simp only [aZ,fk] at hbu
 refine np ?_
 refine sT [1,2] [1,2] ?_
 refine jO ?_
 refine sS [1,2,3] [1,2] ?_
 refine tJ ?_
 refine sP [1,2,3,8,9,10] [1,2] ?_
 refine sL [1,2,8,9] [1,2] (fun k:Nat=>k≤e.aC6.length) (fun k:Nat=>[(3,RV.slc ai ((iT (e.aC6.take k)).map ar)),(10,RV.int (k:Int))]) (fun k:Nat=>[]) (fun k:Nat=>e.aC6.length - k) 0 ab ej ao ?_
 rintro k hk
 refine bP ?_
 refine sc ?_ ?_<;>intro hba
 have hlt:k < e.aC6.length:=ab
 have htl:(iT (e.aC6.take k)).length=k:=XE
 have hts:iT (e.aC6.take (k+1))=iT (e.aC6.take k)++[e.aC6[k].Time]:=WJ
 refine aY ?_
 refine sT [1,2,3,8,9,10] [1,2] ?_
 refine AA ?_
 refine sW [1,2,3,5,8,9,10] [1,2] [5] ?_
 refine bL ?_
 refine Rd ?_
 refine oo ?_
 refine sG [1,2,3,5,8,9,10] [1,2,5] ?_
 refine cc ?_
 exact ztk
 have hend:k=e.aC6.length:=ab
 have hte:iT (e.aC6.take k)=iT e.aC6:=by rw [hend,bG]
 have htl:(iT e.aC6).length=e.aC6.length:=WK
 rw [hte]
 refine be ?_
 refine sT [1,2,3,8,9,10] [1,2] ?_
 refine zV ?_
 refine cv ?_
 refine rA ?_ (x:=cL Hg [(true,rr),(false,[sl .v _])] aug (hs:=by exact (awN (s:=e.Store) (keep:=iT e.aC6) ab ab)))
 refine At ?_
 refine Is ?_
 refine sV [1,2,3,8,9,10] [2] [1] ?_
 exact ztn
def UK{e:av}(hb:aZ e≤68719476736):Cd prog 273 46 [sl bH (e.Store.aC5.map (aG bc ai)),val (vI e.Store.Now),val (vI e.aDa),sl ai (e.Order.map ar),sl ct (e.aC6.map (aO aH ai ai aJ ai)),sl ck (e.Done.map (bd aH ai aJ ai)),sl cl (e.aDi.map (ba ai ai ai)),val (vI e.Steps)] [sl bH ((eD e).Store.aC5.map (aG bc ai)),val (vI (eD e).Store.Now),val (vI e.aDa),sl ai (e.Order.map ar),sl ct (e.aC6.map (aO aH ai ai aJ ai)),sl ck (e.Done.map (bd aH ai aJ ai)),sl cl (e.aDi.map (ba ai ai ai)),val (vI e.Steps)] [] (aA []):=by
 refine Nx (rs:=[]) func273 rfl (nl rfl) (nl rfl) ?_
 intro g_ h0 w0 Fz0
 have hbu:=hb
 simp only [aZ,fk] at hbu
 refine sR ?_
 refine jO ?_
 refine sT [0,2,5000] [0] ?_
 refine cm ?_
 refine sP [0,2,3,5000] [0] ?_
 refine sL [0,5000] [0] (fun k:Nat=>k≤e.aC6.length) (fun k:Nat=>[(2,RV.slc ai ((iT (e.aC6.take k)).map ar)),(3,RV.int (k:Int))]) (fun k:Nat=>[]) (fun k:Nat=>e.aC6.length - k) 0 ab ej ao ?_
 rintro k hk
 refine bI ?_
 refine qd ?_
 refine Ap ?_
 refine sc ?_ ?_<;>intro hba
 have hlt:k < e.aC6.length:=ab
 have htl:(iT (e.aC6.take k)).length=k:=XE
 have hts:iT (e.aC6.take (k+1))=iT (e.aC6.take k)++[e.aC6[k].Time]:=WJ
 refine aY ?_
 refine sH [0,2,3,5000] [0] ?_
 refine bL ?_
 refine qd ?_
 refine ry ?_
 refine QA ?_
 refine rA ?_ (x:=cr ak ww ay)
 refine AK ?_
 refine oo ?_
 refine sG [0,2,3,5000] [0] ?_
 refine bO ?_
 exact ztk
 have hend:k=e.aC6.length:=ab
 have hte:iT (e.aC6.take k)=iT e.aC6:=by rw [hend,bG]
 have htl:(iT e.aC6).length=e.aC6.length:=WK
 rw [hte]
 refine be ?_
 refine sT [0,2,3,5000] [0] ?_
 refine qd ?_
 refine zV ?_
 refine cv ?_
 refine rA ?_ (x:=cL Hg [(true,rr),(false,[sl .v _])] auE (hs:=by exact (awO (s:=e.Store) (keep:=iT e.aC6) ab ab)))
 refine At ?_
 refine zD ?_
 refine rS ?_
 refine sW [0,2,3,4,5,5000] [0] [4] ?_
 refine rA ?_ (x:=cM Cp.ptr)
 refine Ei ?_
 refine xX ?_
 refine Is ?_
 exact ⟨aj,rfl,tI⟩
def ax8:Hs prog 46 3=some (4,42):=au
def ax9:er prog 102=some [(0,4),(4,1),(5,1),(6,1),(7,1),(8,1),(9,1)]:=au
def aya{p1 p2 p5 p6 p7 p8 p9 p11 p12 p13 p14 p16 p17 p18:Fl}{e:av}{q:aC7}{l:Int}(hb:aZ e≤68719000000)(hbq:eS q≤68719000000):aE prog 116 [(true,[sl .v (e.Store.aC5.map (aG p1 p2)),val (vI e.Store.Now),val (vI e.aDa),sl .v (e.Order.map ar),sl .v (e.aC6.map (aO p5 p6 p7 p8 p9)),sl .v (e.Done.map (bd p11 p12 p13 p14)),sl .v (e.aDi.map (ba p16 p17 p18)),val (vI e.Steps)]),(true,[val (vI q.Id),val (vI q.aDb),sl .v (q.aC8.map bM),sl .v (q.Out.map ar)]),(false,[val (vI l)])] (aA [(true,[sl bH ((hJ e q l).1.Store.aC5.map (aG bc ai)),val (vI (hJ e q l).1.Store.Now),val (vI (hJ e q l).1.aDa),sl ai ((hJ e q l).1.Order.map ar),sl ct ((hJ e q l).1.aC6.map (aO aH ai ai aJ ai)),sl ck ((hJ e q l).1.Done.map (bd aH ai aJ ai)),sl cl ((hJ e q l).1.aDi.map (ba ai ai ai)),val (vI (hJ e q l).1.Steps)]),(false,[val (.bool (hJ e q l).2)])]):=by
 refine sF func116 fun h0 w0 Fz0=>?_
 refine sn 0 0 fun hl0_0=>?_
 refine sn 0 3 fun hl0_3=>?_
 refine sn 0 4 fun hl0_4=>?_
 refine sn 0 5 fun hl0_5=>?_
 refine sn 0 6 fun hl0_6=>?_
 refine sn 1 2 fun hl1_2=>?_
 refine sn 1 3 fun hl1_3=>?_
 have hbu:=hb
 simp only [aZ,fk,gN,go] at hbu
 refine zts ?_
 refine tz ?_
 refine sT [2,3,4,6,7] [3,4,6] ?_
 refine CS ?_
 refine kR ?_
 refine sV [2,3,4,6,7,8] [3,4,6] [8] ?_
 refine HY ?_
 refine dq ?_
 refine cx 20 ?_ ?_<;>intro ga sga
 refine ko ?_
 refine rY 25 ?_
 refine lH ?_
 exact ztx
 refine zmn ?_
 refine kP ?_
 refine rM ?_
 refine cx 25 ?_ ?_<;>intro gb sgb
 refine tx ?_
 exact ztx
 refine ir ?_
 refine zty ?_
 refine Ao ?_
 refine cx 30 ?_ ?_<;>intro gc sgc
 refine xo ?_
 refine rM ?_
 refine rY 37 ?_
 exact HF
 refine zu0 ?_
 refine pk ?_
 refine rB gc ?_ (x:=cL lz kK Td (hs:=Mo))
 refine rB gc ?_ (x:=jc)
 refine DU ?_
 refine cx 37 ?_ ?_<;>intro gd sgd
 exact zu1
 refine rB gd ?_ (x:=lF gP)
 refine rB gd ?_ (x:=lD [sl .v _] fe)
 refine rB gd ?_ (x:=lN cY)
 refine rB gd ?_ (x:=kL)
 refine tV ?_
 refine sc ?_ ?_<;>intro hba
 exact HE
 have hok:nO e q l=true:=by
  have ho_:aU e=true:=cS
  have hq_:bp q=true:=cS
  have hl_:aF l 0 32=true:=cS
  have hef_:=gu ho_
  unfold nO
  rw [ho_,hq_,hl_]
  simp only [Bool.true_and,aR,decide_eq_true_eq]
  exact ⟨ab,ab⟩
 obtain ⟨hoe,hoq,hol,hfn,ha8⟩:=Bq hok
 have hef:=gu hoe
 obtain ⟨hs8,hs1,_,_,_,_⟩:=iE hef.1
 have hcl:=am9 (e:=e) (x:=q.Id)
 refine cg ?_
 refine sP [2,3,4,6,7,8] [3,4,6,8] ?_
 refine QI ?_
 refine dA 1 ?_ (x:=cL il ju Te (hs:=MH))
 refine xU ?_
 refine dA 4 ?_ (x:=lF ky)
 refine dA 12 ?_ (x:=lD [val _] aV)
 refine dt ?_
 refine zu3 ?_
 refine zu4 ?_
 refine sV [2,3,4,6,7,8,9] [3,4,6,8] [9] ?_
 refine xv ?_
 refine dm ?_
 refine sP [2,3,4,6,7,8,9,54,55] [3,4,6,8,9] ?_
 refine sL [2,3,4,6,7,8,9,54] [3,4,6,8] (fun k:Nat=>k≤e.Store.aC5.length) (fun k:Nat=>[(55,RV.int (k:Int))]) (fun k:Nat=>[(9,(102,[val (vI (eM e q l).aC7.Id),val (vI (eM e q l).aC7.aDb),sl aH ((eM e q l).aC7.aC8.map bM),sl ai ((eM e q l).aC7.Out.map ar),val (vI (eM e q l).Time),sl ai ((qD k).map ar),val (vI (eM e q l).Age),val (vI (eM e q l).Sent),val (vI (eM e q l).Cap),sl aJ ((eM e q l).Rows.map (ci ai))]))]) (fun k:Nat=>e.Store.aC5.length - k) 0 ab bu bu ?_
 rintro k hk
 have htl:=Fc k
 refine bP ?_
 refine sc ?_ ?_<;>intro hbb
 have hlt:k < e.Store.aC5.length:=ab
 refine aY ?_
 refine sT [2,3,4,6,7,8,9,54,55] [3,4,6,8,9] ?_
 refine tP ?_
 refine sG [2,3,4,6,7,8,9,10,54,55] [3,4,6,8,9] ?_
 refine rA ?_ (x:=lF lS)
 refine CX ?_
 refine xg ?_
 refine Iw ?_
 refine sW [2,3,4,6,7,8,9,10,54,55] [3,4,6,8] [9] ?_
 refine cc ?_
 exact zu9
 have hend:k=e.Store.aC5.length:=ab
 subst hend
 refine be ?_
 refine sT [2,3,4,6,7,8,9,54,55] [3,4,6,8,9] ?_
 refine De ?_
 refine bg ?_
 refine sP [2,3,4,6,7,8,9,11,54,55] [3,4,6,8,9] ?_
 refine zv (d:=8) (t:=102) (e:=10) (G:=6200) (A:=nh) (B:=ni) (f:=(aO aH ai ai aJ ai)) (g:=(fun z:aC6=>[val (vI z.aC7.Id),val (vI z.aC7.aDb),sl .v (z.aC7.aC8.map bM),sl .v (z.aC7.Out.map ar),val (vI z.Time),sl .v (z.aDf.map ar),val (vI z.Age),val (vI z.Sent),val (vI z.Cap),sl .v (z.Rows.map (ci ai))])) (fN:=hI) (xs:=e.aC6) aj aj (fun _ _=>rfl) (fun _=>rfl) (fun _=>(aB (aB (bf (bf (aB (bf (aB (aB (aB (bf az.nil))))))))))) (fun _=>aQ) fun za hza=>?_
 have hzal:za.length=e.aC6.length:=Mc
 refine sU [2,3,4,6,7,8,9,11,54,55,6200] [3,4,6,9] [8] ?_
 refine ZN (d:=9) (e:=10) (G:=6300) (f:=(aO aH ai ai aJ ai)) (g:=(fun z:aC6=>[val (vI z.aC7.Id),val (vI z.aC7.aDb),sl .v (z.aC7.aC8.map bM),sl .v (z.aC7.Out.map ar),val (vI z.Time),sl .v (z.aDf.map ar),val (vI z.Age),val (vI z.Sent),val (vI z.Cap),sl .v (z.Rows.map (ci ai))])) (fN:=hI) (eM e q l) aj aj (fun _ _=>rfl) (fun _=>rfl) (aB (aB (bf (bf (aB (bf (aB (aB (aB (bf az.nil)))))))))) aQ fun kNew=>?_
 refine sO [(2,_),(3,_),(4,_),(6,_),(7,_),(8,_),(9,_),(11,_),(54,_),(55,_),(6200,_),(6300,_)] [(3,_),(4,_),(6,_),(8,_),(9,(102,pV))] ?_
 refine fh ?_
 refine tJ ?_
 refine sP [2,3,4,6,7,8,9,11,54,55,67,68,69,6200,6300] [3,4,6,8,9] ?_
 refine sL [2,3,4,6,7,8,9,54,55,67,68,6200,6300] [3,4,6,8,9] (fun m:Nat=>m≤za.length) (fun m:Nat=>[(11,RV.slc ct ((lW q.Id (za.take m)).map hI)),(69,RV.int (m:Int))]) (fun m:Nat=>[]) (fun m:Nat=>za.length - m) 0 ab ej ao ?_
 rintro m hm
 have hfl:=axj (x:=q.Id) (zs:=za) (k:=m)
 refine bP ?_
 refine sc ?_ ?_<;>intro hbc
 have hmz:m < za.length:=ab
 refine fT ?_
 refine zub ?_
 refine HZ ?_
 refine Ib ?_
 refine bg ?_
 refine sO [(2,_),(3,_),(4,_),(6,_),(7,_),(8,_),(9,_),(11,_),(13,_),(54,_),(55,_),(67,_),(68,_),(69,_),(6200,_),(6300,_)] [(3,_),(4,_),(6,_),(8,_),(9,_),(13,(102,pV))] ?_
 refine fh ?_
 refine tW ?_
 refine rA ?_ (x:=lF jf)
 refine zt8 ?_
 refine vt ?_
 refine dC ?_
 refine sc ?_ ?_<;>intro hbd
 have hlz:lf q.Id za[m].1=true:=by simpa [lf] using hbd
 refine sG [2,3,4,6,7,8,9,11,13,54,55,67,68,69,6200,6300] [3,4,6,8,9,13] ?_
 refine bL ?_
 refine HV ?_
 refine CT ?_
 exact zug
 have hlz:lf q.Id za[m].1=false:=by simpa [lf] using hbd
 refine aK ?_
 exact zug
 have hend2:m=za.length:=ab
 have hfa:lW q.Id (za.take m)=lW q.Id za:=by rw [hend2,bG]
 rw [hfa]
 have hfl2:=am7 (x:=q.Id) hza
 refine gk ?_
 refine zub ?_
 refine cv ?_
 refine rA ?_ (x:=lN cY)
 refine rS ?_
 refine zuh ?_
 refine HV ?_
 refine CT ?_
 refine zuh ?_
 refine ry ?_
 refine rM ?_
 refine rA ?_ (x:=zi (i:=(eN e.aC6 q.Id)) (j:=za.length) (ys:=(za.drop (eN e.aC6 q.Id))) (r:=((za.length:Nat):Int)) ak cY ao aj ab ab ab ab (fun _=>rfl) yL)
 refine rA ?_ (x:=ml ak cY mL rfl rfl ak MN MM WQ WQ)
 refine zK ?_
 refine bg ?_
 refine sU [2,3,4,6,7,8,9,14,54,55,67,68,69,6200,6300] [3,4,6,9] [8] ?_
 refine eI (d:=8) aj (show _=[sl bH (e.Store.aC5.map (aG bc ai)),val (vI e.Store.Now),val (vI e.aDa),sl ai (e.Order.map ar),sl ct ((za.take (eN e.aC6 q.Id)++(eM e q l,kNew)::za.drop (eN e.aC6 q.Id)).map hI),sl ck (e.Done.map (bd aH ai aJ ai)),sl cl (e.aDi.map (ba ai ai ai)),val (vI e.Steps)] from by rw [←am8 hoe hza];simp only [bo,List.map_cons,List.map_nil,bn];exact rfl) ?_
 refine sP [2,3,4,6,7,8,9,14,54,55,67,68,69,6200,6300] [3,4,6,8,9] ?_
 refine zuj ?_
 refine sP [2,3,4,6,7,8,9,14,54,55,67,68,69,6300] [3,4,6,8,9] ?_
 refine zuk ?_
 refine sW [2,3,4,6,7,8,9,14,54,55,67,68,69] [3,4,6,9] [8] ?_
 exact zul
def ayb{p1 p2 p5 p6 p7 p8 p9 p11 p12 p13 p14 p16 p17 p18:Fl}{e:av}{q:aC7}{l:Int}(hb:aZ e≤68719000000)(hbq:eS q≤68719000000):aE prog 222 [(true,[sl .v (e.Store.aC5.map (aG p1 p2)),val (vI e.Store.Now),val (vI e.aDa),sl .v (e.Order.map ar),sl .v (e.aC6.map (aO p5 p6 p7 p8 p9)),sl .v (e.Done.map (bd p11 p12 p13 p14)),sl .v (e.aDi.map (ba p16 p17 p18)),val (vI e.Steps)]),(true,[val (vI q.Id),val (vI q.aDb),sl .v (q.aC8.map bM),sl .v (q.Out.map ar)]),(false,[val (vI l)])] (aA [(true,[sl bH ((hJ e q l).1.Store.aC5.map (aG bc ai)),val (vI (hJ e q l).1.Store.Now),val (vI (hJ e q l).1.aDa),sl ai ((hJ e q l).1.Order.map ar),sl ct ((hJ e q l).1.aC6.map (aO aH ai ai aJ ai)),sl ck ((hJ e q l).1.Done.map (bd aH ai aJ ai)),sl cl ((hJ e q l).1.aDi.map (ba ai ai ai)),val (vI (hJ e q l).1.Steps)]),(false,[val (.bool (hJ e q l).2)])]):=by
 refine sF func222 fun h0 w0 Fz0=>?_
 refine sn 0 0 fun hl0_0=>?_
 refine sn 0 3 fun hl0_3=>?_
 refine sn 0 4 fun hl0_4=>?_
 refine sn 0 5 fun hl0_5=>?_
 refine sn 0 6 fun hl0_6=>?_
 refine sn 1 2 fun hl1_2=>?_
 refine sn 1 3 fun hl1_3=>?_
 have hbu:=hb
 simp only [aZ,fk,gN,go] at hbu
 refine zts ?_
 refine tz ?_
 refine sT [2,3,4,6,7] [3,4,6] ?_
 refine zG ?_
 refine kR ?_
 refine sV [2,3,4,6,7,8] [3,4,6] [8] ?_
 refine zF ?_
 refine dq ?_
 refine cx 19 ?_ ?_<;>intro ga sga
 refine ko ?_
 refine rY 24 ?_
 refine lH ?_
 exact zun
 refine rB ga ?_ (x:=lD iB gD)
 refine rB ga ?_ (x:=cL il ju Kk (hs:=Gg))
 refine kP ?_
 refine rM ?_
 refine cx 24 ?_ ?_<;>intro gb sgb
 refine tx ?_
 exact zun
 refine ir ?_
 refine zuo ?_
 refine Ao ?_
 refine cx 29 ?_ ?_<;>intro gc sgc
 refine xo ?_
 refine rM ?_
 refine rY 36 ?_
 exact HF
 refine zu0 ?_
 refine pk ?_
 refine rB gc ?_ (x:=cL lz kK EM (hs:=Gd))
 refine rB gc ?_ (x:=jc)
 refine DU ?_
 refine cx 36 ?_ ?_<;>intro gd sgd
 exact zu1
 refine rB gd ?_ (x:=lF gP)
 refine rB gd ?_ (x:=lD [sl .v _] fe)
 refine rB gd ?_ (x:=lN cY)
 refine rB gd ?_ (x:=jc)
 refine tV ?_
 refine sc ?_ ?_<;>intro hba
 exact HE
 have hok:nO e q l=true:=by
  have ho_:aU e=true:=cS
  have hq_:bp q=true:=cS
  have hl_:aF l 0 32=true:=cS
  have hef_:=gu ho_
  unfold nO
  rw [ho_,hq_,hl_]
  simp only [Bool.true_and,aR,decide_eq_true_eq]
  exact ⟨ab,ab⟩
 obtain ⟨hoe,hoq,hol,hfn,ha8⟩:=Bq hok
 have hef:=gu hoe
 obtain ⟨hs8,hs1,_,_,_,_⟩:=iE hef.1
 have hcl:=am9 (e:=e) (x:=q.Id)
 refine cg ?_
 refine sP [2,3,4,6,7,8] [3,4,6,8] ?_
 refine QI ?_
 refine dA 1 ?_ (x:=cL il ju al5 (hs:=by exact amA ab))
 refine xU ?_
 refine dA 4 ?_ (x:=lF ky)
 refine dA 12 ?_ (x:=lD [val _] aV)
 refine dt ?_
 refine zu3 ?_
 refine zu4 ?_
 refine sV [2,3,4,6,7,8,9] [3,4,6,8] [9] ?_
 refine cm ?_
 refine sP [2,3,4,6,7,8,9,10] [3,4,6,8,9] ?_
 refine sL [2,3,4,6,7,8,9] [3,4,6,8] (fun k:Nat=>k≤e.Store.aC5.length) (fun k:Nat=>[(10,RV.int (k:Int))]) (fun k:Nat=>[(9,(102,[val (vI (eM e q l).aC7.Id),val (vI (eM e q l).aC7.aDb),sl aH ((eM e q l).aC7.aC8.map bM),sl ai ((eM e q l).aC7.Out.map ar),val (vI (eM e q l).Time),sl ai ((qD k).map ar),val (vI (eM e q l).Age),val (vI (eM e q l).Sent),val (vI (eM e q l).Cap),sl aJ ((eM e q l).Rows.map (ci ai))]))]) (fun k:Nat=>e.Store.aC5.length - k) 0 ab bu bu ?_
 rintro k hk
 have htl:=Fc k
 refine bI ?_
 refine xv ?_
 refine dC ?_
 refine sc ?_ ?_<;>intro hbb
 have hlt:k < e.Store.aC5.length:=ab
 refine aY ?_
 refine sH [2,3,4,6,7,8,9,10] [3,4,6,8,9] ?_
 refine rA ?_ (x:=lF lS)
 refine CX ?_
 refine xg ?_
 refine Iw ?_
 refine sW [2,3,4,6,7,8,9,10] [3,4,6,8] [9] ?_
 refine bO ?_
 exact zu9
 have hend:k=e.Store.aC5.length:=ab
 subst hend
 refine be ?_
 refine sT [2,3,4,6,7,8,9,10] [3,4,6,8,9] ?_
 refine zup ?_
 refine zK ?_
 refine sV [2,3,4,6,7,8,9,10] [3,4,6,9] [8] ?_
 refine rK ?_
 refine sS [2,3,4,6,7,8,9,10,11] [3,4,6,8,9] ?_
 refine zG ?_
 refine rA ?_ (x:=ZQ (ag:=false) (qs:=[sl _ _]) ak ax8 fe (fun _=>rfl) ay aj)
 refine iP ?_
 refine sS [2,3,4,6,7,8,9,10,11,12] [3,4,6,8,9] ?_
 refine cm ?_
 refine sP [2,3,4,6,7,8,9,10,11,12,13] [3,4,6,8,9] ?_
 refine Zu (s:=12) (t:=102) (e:=10) (G:=6200) (f:=(aO aH ai ai aJ ai)) (g:=(fun z:aC6=>[val (vI z.aC7.Id),val (vI z.aC7.aDb),sl .v (z.aC7.aC8.map bM),sl .v (z.aC7.Out.map ar),val (vI z.Time),sl .v (z.aDf.map ar),val (vI z.Age),val (vI z.Sent),val (vI z.Cap),sl .v (z.Rows.map (ci ai))])) (fN:=hI) (xs:=e.aC6) aj aj aj (fun _ _=>rfl) (fun _=>rfl) (fun _=>(aB (aB (bf (bf (aB (bf (aB (aB (aB (bf az.nil))))))))))) (fun _=>aQ) fun za hza=>?_
 have hzal:za.length=e.aC6.length:=Mc
 refine sP [2,3,4,6,7,8,9,10,11,12,13,6200] [3,4,6,8,9] ?_
 refine ZN (d:=9) (e:=10) (G:=6300) (f:=(aO aH ai ai aJ ai)) (g:=(fun z:aC6=>[val (vI z.aC7.Id),val (vI z.aC7.aDb),sl .v (z.aC7.aC8.map bM),sl .v (z.aC7.Out.map ar),val (vI z.Time),sl .v (z.aDf.map ar),val (vI z.Age),val (vI z.Sent),val (vI z.Cap),sl .v (z.Rows.map (ci ai))])) (fN:=hI) (eM e q l) aj aj (fun _ _=>rfl) (fun _=>rfl) (aB (aB (bf (bf (aB (bf (aB (aB (aB (bf az.nil)))))))))) aQ fun kNew=>?_
 refine sO [(2,_),(3,_),(4,_),(6,_),(7,_),(8,_),(9,_),(10,_),(11,_),(12,_),(13,_),(6200,_),(6300,_)] [(3,_),(4,_),(6,_),(8,_),(9,(102,pV))] ?_
 refine sL [2,3,4,6,7,8,9,10,12,6200,6300] [3,4,6,9] (fun m:Nat=>m≤za.length) (fun m:Nat=>[(11,RV.bool (decide ((eN e.aC6 q.Id) < m))),(13,RV.int (m:Int))]) (fun m:Nat=>[(8,(46,[sl bH (e.Store.aC5.map (aG bc ai)),val (vI e.Store.Now),val (vI e.aDa),sl ai (e.Order.map ar),sl ct ((mS za (eM e q l,kNew) (eN e.aC6 q.Id) m).map hI),sl ck (e.Done.map (bd aH ai aJ ai)),sl cl (e.aDi.map (ba ai ai ai)),val (vI e.Steps)]))]) (fun m:Nat=>za.length - m) 0 ab (by exact aI (by exact dQ aP) (aI aj tI)) (by exact aI (by show _=some (46,[sl bH (e.Store.aC5.map (aG bc ai)),val (vI e.Store.Now),val (vI e.aDa),sl ai (e.Order.map ar),sl ct ((mS za (eM e q l,kNew) (eN e.aC6 q.Id) 0).map hI),sl ck (e.Done.map (bd aH ai aJ ai)),sl cl (e.aDi.map (ba ai ai ai)),val (vI e.Steps)]);unfold mS;rw [if_neg ab];exact rfl) tI) ?_
 rintro m hm
 have hazl:=axl (zn:=(eM e q l,kNew)) (p:=(eN e.aC6 q.Id)) hm
 refine bI ?_
 refine cv ?_
 refine rA ?_ (x:=lN cY)
 refine dC ?_
 refine sc ?_ ?_<;>intro hbc
 have hmz:m < za.length:=ab
 have hcl2:=ana (x:=q.Id) hoe (show m < e.aC6.length by omega)
 have hni:=anb (x:=q.Id) hfn (show m < e.aC6.length by omega)
 have hzm:za[m].1=e.aC6[m]:=BL
 refine fT ?_
 refine zuq ?_
 refine xu ?_
 refine dA 1 ?_ (x:=nT)
 refine dA 3 ?_ (x:=sM)
 refine dx 77 ?_ ?_<;>intro ge sge
 refine dB 7 ge ?_ (x:=vM false [sl .v _])
 refine dB 7 ge ?_ (x:=sM)
 refine dB 31 ge ?_ (x:=aS ak cY ao aj bD aj)
 refine dB 63 ge ?_ (x:=cr ak kx ay)
 refine dB 127 ge ?_ (x:=cr ak jf ay)
 refine dB 255 ge ?_ (x:=ri (qs:=[val _]) ak aV (fun _=>rfl) ay FQ mZ)
 refine dB 7 ge ?_ (x:=lF jf)
 refine dB 519 ge ?_ (x:=lD [val _] aV)
 refine dB 2047 ge ?_ (x:=iN)
 refine dA 4095 ?_ (x:=cd ge)
 refine sc ?_ ?_<;>intro hbd
 have hpm:m=(eN e.aC6 q.Id):=by rw [hzm] at hbd;first|omega|(simp_all;omega)
 refine sS [2,3,4,6,7,8,9,10,11,12,13,6200,6300] [3,4,6,8,9] ?_
 refine PQ ?_
 refine HV ?_
 refine PO ?_
 refine sW [2,3,4,6,7,8,9,10,11,12,13,6200,6300] [3,4,6,9] [8] ?_
 refine rK ?_
 exact Ox
 have hpm:m≠(eN e.aC6 q.Id):=by first|(rw [hzm] at hbd;omega)|omega|(simp_all;omega)
 refine aK ?_
 exact Ox
 refine dF 7 ge ?_
 refine dF 7 ge ?_
 refine dF 31 ge ?_
 refine dF 63 ge ?_
 refine dF 127 ge ?_
 refine dF 255 ge ?_
 refine dF 7 ge ?_
 refine dF 519 ge ?_
 refine dF 2047 ge ?_
 refine dA 4095 ?_ (x:=bF ge)
 refine gB ?_
 have hpm:m≠(eN e.aC6 q.Id):=by first|(rw [hzm] at hb_;omega)|omega|(simp_all;omega)
 refine aK ?_
 exact Ox
 have hend2:m=za.length:=ab
 subst hend2
 refine gk ?_
 refine zuq ?_
 refine fh ?_
 refine qi ?_
 refine sc ?_ ?_<;>intro hbd
 have hpl:(eN e.aC6 q.Id)=za.length:=ln
 refine sG [2,3,4,6,7,8,9,10,11,12,13,6200,6300] [3,4,6,8,9] ?_
 refine PQ ?_
 refine HV ?_
 refine PO ?_
 refine bg ?_
 refine sU [2,3,4,6,7,8,9,10,11,12,13,6200,6300] [3,4,6,9] [8] ?_
 exact zut
 have hpl:(eN e.aC6 q.Id) < za.length:=ln
 refine cg ?_
 refine RR ?_
 exact zut
def ayc{p1 p2 p5 p6 p7 p8 p9 p11 p12 p13 p14 p16 p17 p18:Fl}{e:av}{id:Int}(hb:aZ e≤68719000000):aE Tryz.prog 117 [(true,[sl .v (e.Store.aC5.map (aG p1 p2)),val (vI e.Store.Now),val (vI e.aDa),sl .v (e.Order.map ar),sl .v (e.aC6.map (aO p5 p6 p7 p8 p9)),sl .v (e.Done.map (bd p11 p12 p13 p14)),sl .v (e.aDi.map (ba p16 p17 p18)),val (vI e.Steps)]),(false,[val (vI id)])] (aA [(true,[sl bH ((dE e id).1.Store.aC5.map (aG bc ai)),val (vI (dE e id).1.Store.Now),val (vI (dE e id).1.aDa),sl ai ((dE e id).1.Order.map ar),sl ct ((dE e id).1.aC6.map (aO aH ai ai aJ ai)),sl ck ((dE e id).1.Done.map (bd aH ai aJ ai)),sl cl ((dE e id).1.aDi.map (ba ai ai ai)),val (vI (dE e id).1.Steps)]),(false,[val (.bool (dE e id).2)])]):=by
 refine oZ (largs:=fun L=>[(true,[sl (.lo L) (e.Store.aC5.map (aG (.lo L) (.lo L))),val (vI e.Store.Now),val (vI e.aDa),sl (.lo L) (e.Order.map ar),sl (.lo L) (e.aC6.map (aO (.lo L) (.lo L) (.lo L) (.lo L) (.lo L))),sl (.lo L) (e.Done.map (bd (.lo L) (.lo L) (.lo L) (.lo L))),sl (.lo L) (e.aDi.map (ba (.lo L) (.lo L) (.lo L))),val (vI e.Steps)]),(false,[val (vI id)])]) (rs:=[(true,[sl bH ((dE e id).1.Store.aC5.map (aG bc ai)),val (vI (dE e id).1.Store.Now),val (vI (dE e id).1.aDa),sl ai ((dE e id).1.Order.map ar),sl ct ((dE e id).1.aC6.map (aO aH ai ai aJ ai)),sl ck ((dE e id).1.Done.map (bd aH ai aJ ai)),sl cl ((dE e id).1.aDi.map (ba ai ai ai)),val (vI (dE e id).1.Steps)]),(false,[val (.bool (dE e id).2)])]) Tryz.func117 rfl (nl rfl) (fun L=>by exact (aI (aI rfl (am.cons (aT (fun _=>nl rfl) (fun _=>(am.cons (aT (fun _=>nl rfl) (fun _=>(am.cons ax (am.cons (aT (fun _=>nl rfl) (fun _=>(am.cons ax am.nil))) (am.cons ax (am.cons ax am.nil)))))) am.nil))) (am.cons ax (am.cons ax (am.cons (aT (fun _=>nl rfl) (fun _=>(am.cons ax am.nil))) (am.cons (aT (fun _=>nl rfl) (fun _=>(am.cons ax (am.cons ax (am.cons (aT (fun _=>nl rfl) (fun _=>(am.cons ax (am.cons ax (am.cons ax am.nil))))) (am.cons (aT (fun _=>nl rfl) (fun _=>(am.cons ax am.nil))) (am.cons ax (am.cons (aT (fun _=>nl rfl) (fun _=>(am.cons ax am.nil))) (am.cons ax (am.cons ax (am.cons ax (am.cons (aT (fun _=>nl rfl) (fun _=>(am.cons ax (am.cons (aT (fun _=>nl rfl) (fun _=>(am.cons ax am.nil))) am.nil)))) am.nil)))))))))))) (am.cons (aT (fun _=>nl rfl) (fun _=>(am.cons ax (am.cons ax (am.cons (aT (fun _=>nl rfl) (fun _=>(am.cons ax (am.cons ax (am.cons ax am.nil))))) (am.cons (aT (fun _=>nl rfl) (fun _=>(am.cons ax am.nil))) (am.cons ax (am.cons ax (am.cons (aT (fun _=>nl rfl) (fun _=>(am.cons ax (am.cons (aT (fun _=>nl rfl) (fun _=>(am.cons ax am.nil))) am.nil)))) am.nil))))))))) (am.cons (aT (fun _=>nl rfl) (fun _=>(am.cons ax (am.cons ax (am.cons (aT (fun _=>nl rfl) (fun _=>(am.cons ax am.nil))) (am.cons (aT (fun _=>nl rfl) (fun _=>(am.cons ax am.nil))) (am.cons (aT (fun _=>nl rfl) (fun _=>(am.cons ax am.nil))) am.nil))))))) (am.cons ax am.nil))))))))) (aI (aI rfl (am.cons ax am.nil)) tI))) (fun L=>by exact lq) ?_
 intro w0 Fz0
 refine sn 0 0 fun hl0_0=>?_
 refine sn 0 3 fun hl0_3=>?_
 refine sn 0 4 fun hl0_4=>?_
 refine sn 0 5 fun hl0_5=>?_
 refine sn 0 6 fun hl0_6=>?_
 have hbu:=hb
 simp only [aZ,fk,gN,go] at hbu
 refine CW ?_
 refine tz ?_
 refine sT [1,2,4,5] [2,4] ?_
 refine PG ?_
 refine tt ?_
 refine xW ?_
 refine QE ?_
 refine zuz ?_
 refine sS [1,2,4,5,6,7] [2,4,6] ?_
 refine PH ?_
 refine dq ?_
 refine cx 16 ?_ ?_<;>intro ga sga
 exact zv1
 refine Aa ?_
 refine jQ ?_
 refine sc ?_ ?_<;>intro hba
 exact Oy
 have hoe:aU e=true:=cS
 have hge:0≤ez e.aC6 id:=ln
 have hok:nP e id=true:=Xq
 obtain ⟨i,hi,hf⟩:=Ua hge
 have hef:=gu hoe
 have hdw:=Uc hi
 have hdl:=NR hi
 refine cg ?_
 refine sP [1,2,4,5,6,7] [2,4,6] ?_
 refine mn (d:=6) (t:=46) (D:=900) (G:=2900) (E:=102) (e:=10) (L:=(Lw w0.heap.size)) (A:=nh) (B:=ni) (es:=(e.aC6).map (aO aH ai ai aJ ai)) aj (kh hi) aj aj rfl aj (fun x hx=>hx) aQ aQ aQ aQ (aw.map fun x=>(aw.cons lcl_val (aw.cons lcl_val (aw.cons (lcl_own (aw.map fun x=>(aw.cons lcl_val (aw.cons lcl_val (aw.cons lcl_val aw.nil))))) (aw.cons (lcl_own (aw.map fun x=>(aw.cons lcl_val aw.nil))) (aw.cons lcl_val (aw.cons (lcl_own (aw.map fun x=>(aw.cons lcl_val aw.nil))) (aw.cons lcl_val (aw.cons lcl_val (aw.cons lcl_val (aw.cons (lcl_own (aw.map fun x=>(aw.cons lcl_val (aw.cons (lcl_own (aw.map fun x=>(aw.cons lcl_val aw.nil))) aw.nil)))) aw.nil))))))))))) fun uu900 cp900 jk900 hlD900 hcp900 hjk900=>?_
 rw [aX] at hlD900 hcp900 hjk900
 refine eI (d:=900) aj (show _=bW (aO aH ai ai aJ ai) (e.aC6) jk900 from rfl) ?_
 refine sO [(1,_),(2,_),(4,_),(5,_),(6,_),(7,_),(2900,_)] [(2,_),(4,_),(6,(46,Cm)),(900,(102,bW (aO aH ai ai aJ ai) _ _))] ?_
 refine aqE (d:=900) (G:=4900) (e:=10) (f:=(aO aH ai ai aJ ai)) (g:=(fun z:aC6=>[val (vI z.aC7.Id),val (vI z.aC7.aDb),sl .v (z.aC7.aC8.map bM),sl .v (z.aC7.Out.map ar),val (vI z.Time),sl .v (z.aDf.map ar),val (vI z.Age),val (vI z.Sent),val (vI z.Cap),sl .v (z.Rows.map (ci ai))])) (fN:=hI) aj aj (fun _ _=>rfl) (fun _=>rfl) (fun _=>(aB (aB (bf (bf (aB (bf (aB (aB (aB (bf az.nil))))))))))) (fun _=>aQ) fun zs900 hz900=>?_
 refine sO [(1,_),(2,_),(4,_),(5,_),(6,_),(7,_),(2900,_),(4900,_)] [(2,_),(4,_),(6,_),(900,(102,bW hI _ _))] ?_
 refine cJ ?_
 refine xV ?_
 refine dA 1 ?_ (x:=lD [val _] fe)
 refine dt ?_
 refine dA 7 ?_ (x:=ZS (G:=2900) (i:=0) (j:=i) (q:=(0:Int)) ak cY aj ao eb ab ab Gz)
 refine xV ?_
 refine dA 16 ?_ (x:=lD [val _] fe)
 refine dt ?_
 refine dA 64 ?_ (x:=mq)
 refine dA 240 ?_ (x:=ZS (G:=2900) (i:=(i+1)) (j:=(e.aC6.map (aO aH ai ai aJ ai)).length) (r:=(((e.aC6.map (aO aH ai ai aJ ai)).length:Nat):Int)) ak cY ao aj ab eb Gz ab)
 refine dA 511 ?_ (x:=arf (G:=2900) (D:=900) (i:=i) (g:=(fun z:aC6=>[val (vI z.aC7.Id),val (vI z.aC7.aDb),sl .v (z.aC7.aC8.map bM),sl .v (z.aC7.Out.map ar),val (vI z.Time),sl .v (z.aDf.map ar),val (vI z.Age),val (vI z.Sent),val (vI z.Cap),sl .v (z.Rows.map (ci ai))])) (fN:=hI) ak cY ak (fun _ _=>rfl) (fun _=>rfl) (fun _=>aQ) Wo (by rw [aX];exact hi) yK aj)
 refine dA 1023 ?_ (x:=lF gP)
 refine dA 2047 ?_ (x:=bR (ag:=false) (vs:=[val _]) fe ao aj ay)
 refine ara (d:=900) (G:=4900) (e:=10) (f:=(aO aH ai ai aJ ai)) (g:=(fun z:aC6=>[val (vI z.aC7.Id),val (vI z.aC7.aDb),sl .v (z.aC7.aC8.map bM),sl .v (z.aC7.Out.map ar),val (vI z.Time),sl .v (z.aDf.map ar),val (vI z.Age),val (vI z.Sent),val (vI z.Cap),sl .v (z.Rows.map (ci ai))])) (fN:=hI) [zs900[i]'(Wu)] (gM e.aC6 i) aj aj (fun _ _=>rfl) (fun _=>rfl) (fun _=>rfl) (by exact Ub Wu) (by exact ane hz900) ?_
 refine tf (d:=6) (D:=900) (G:=2900) (e:=10) (A:=nh) (B:=ni) (es:=((gM e.aC6 i)).map (aO aH ai ai aJ ai)) aj aj aj rfl (by rw [aX,hdl,aX]) pM (by exact are Wo Gz yK) ?_
 refine bg ?_
 refine sU [1,2,4,5,6,7] [2,4] [6] ?_
 refine uW ?_
 refine wA ?_ (x:=eP (ms:=dV) (qs:=zp) ak dg (fun h=>nomatch h) ay aj LW aQ)
 refine wO [(1,_),(2,_),(4,_),(5,_),(6,_),(7,_),(32,_)] [(2,_),(4,_),(6,(46,zp))] ?_
 refine Nz (L:=(Lw w0.heap.size)) (qs:=fi) (as_:=fi) ak Tf oT cN ak aQ (by exact (UJ (e:=wz e i) ab)) (fun x hx=>hx) aQ aQ ?_
 refine wA ?_ (x:=bR (ag:=true) (vs:=dV) dg ao aj ay)
 refine wA ?_ (x:=kA)
 refine uV ?_
 exact zv4
def ayd{p1 p2 p5 p6 p7 p8 p9 p11 p12 p13 p14 p16 p17 p18:Fl}{e:av}{id:Int}(hb:aZ e≤68719000000):aE Tryz.prog 224 [(true,[sl .v (e.Store.aC5.map (aG p1 p2)),val (vI e.Store.Now),val (vI e.aDa),sl .v (e.Order.map ar),sl .v (e.aC6.map (aO p5 p6 p7 p8 p9)),sl .v (e.Done.map (bd p11 p12 p13 p14)),sl .v (e.aDi.map (ba p16 p17 p18)),val (vI e.Steps)]),(false,[val (vI id)])] (aA [(true,[sl bH ((dE e id).1.Store.aC5.map (aG bc ai)),val (vI (dE e id).1.Store.Now),val (vI (dE e id).1.aDa),sl ai ((dE e id).1.Order.map ar),sl ct ((dE e id).1.aC6.map (aO aH ai ai aJ ai)),sl ck ((dE e id).1.Done.map (bd aH ai aJ ai)),sl cl ((dE e id).1.aDi.map (ba ai ai ai)),val (vI (dE e id).1.Steps)]),(false,[val (.bool (dE e id).2)])]):=by
 refine oZ (largs:=fun L=>[(true,[sl (.lo L) (e.Store.aC5.map (aG (.lo L) (.lo L))),val (vI e.Store.Now),val (vI e.aDa),sl (.lo L) (e.Order.map ar),sl (.lo L) (e.aC6.map (aO (.lo L) (.lo L) (.lo L) (.lo L) (.lo L))),sl (.lo L) (e.Done.map (bd (.lo L) (.lo L) (.lo L) (.lo L))),sl (.lo L) (e.aDi.map (ba (.lo L) (.lo L) (.lo L))),val (vI e.Steps)]),(false,[val (vI id)])]) (rs:=[(true,[sl bH ((dE e id).1.Store.aC5.map (aG bc ai)),val (vI (dE e id).1.Store.Now),val (vI (dE e id).1.aDa),sl ai ((dE e id).1.Order.map ar),sl ct ((dE e id).1.aC6.map (aO aH ai ai aJ ai)),sl ck ((dE e id).1.Done.map (bd aH ai aJ ai)),sl cl ((dE e id).1.aDi.map (ba ai ai ai)),val (vI (dE e id).1.Steps)]),(false,[val (.bool (dE e id).2)])]) Tryz.func224 rfl (nl rfl) (fun L=>by exact (aI (aI rfl (am.cons (aT (fun _=>nl rfl) (fun _=>(am.cons (aT (fun _=>nl rfl) (fun _=>(am.cons ax (am.cons (aT (fun _=>nl rfl) (fun _=>(am.cons ax am.nil))) (am.cons ax (am.cons ax am.nil)))))) am.nil))) (am.cons ax (am.cons ax (am.cons (aT (fun _=>nl rfl) (fun _=>(am.cons ax am.nil))) (am.cons (aT (fun _=>nl rfl) (fun _=>(am.cons ax (am.cons ax (am.cons (aT (fun _=>nl rfl) (fun _=>(am.cons ax (am.cons ax (am.cons ax am.nil))))) (am.cons (aT (fun _=>nl rfl) (fun _=>(am.cons ax am.nil))) (am.cons ax (am.cons (aT (fun _=>nl rfl) (fun _=>(am.cons ax am.nil))) (am.cons ax (am.cons ax (am.cons ax (am.cons (aT (fun _=>nl rfl) (fun _=>(am.cons ax (am.cons (aT (fun _=>nl rfl) (fun _=>(am.cons ax am.nil))) am.nil)))) am.nil)))))))))))) (am.cons (aT (fun _=>nl rfl) (fun _=>(am.cons ax (am.cons ax (am.cons (aT (fun _=>nl rfl) (fun _=>(am.cons ax (am.cons ax (am.cons ax am.nil))))) (am.cons (aT (fun _=>nl rfl) (fun _=>(am.cons ax am.nil))) (am.cons ax (am.cons ax (am.cons (aT (fun _=>nl rfl) (fun _=>(am.cons ax (am.cons (aT (fun _=>nl rfl) (fun _=>(am.cons ax am.nil))) am.nil)))) am.nil))))))))) (am.cons (aT (fun _=>nl rfl) (fun _=>(am.cons ax (am.cons ax (am.cons (aT (fun _=>nl rfl) (fun _=>(am.cons ax am.nil))) (am.cons (aT (fun _=>nl rfl) (fun _=>(am.cons ax am.nil))) (am.cons (aT (fun _=>nl rfl) (fun _=>(am.cons ax am.nil))) am.nil))))))) (am.cons ax am.nil))))))))) (aI (aI rfl (am.cons ax am.nil)) tI))) (fun L=>by exact lq) ?_
 intro w0 Fz0
 refine sn 0 0 fun hl0_0=>?_
 refine sn 0 3 fun hl0_3=>?_
 refine sn 0 4 fun hl0_4=>?_
 refine sn 0 5 fun hl0_5=>?_
 refine sn 0 6 fun hl0_6=>?_
 have hbu:=hb
 simp only [aZ,fk,gN,go] at hbu
 refine CW ?_
 refine tz ?_
 refine sT [1,2,4,5] [2,4] ?_
 refine PJ ?_
 refine tt ?_
 refine xW ?_
 refine QE ?_
 refine rA ?_ (x:=cL [(true,[sl (.lo _) _,val _,val _,sl (.lo _) _,sl (.lo _) _,sl (.lo _) _,sl (.lo _) _,val _]),(false,[val _])] kK EM (hs:=Gd))
 refine dr ?_
 refine sS [1,2,4,5,6,7] [2,4,6] ?_
 refine PI ?_
 refine dq ?_
 refine cx 16 ?_ ?_<;>intro ga sga
 exact zv1
 refine Aa ?_
 refine jQ ?_
 refine sc ?_ ?_<;>intro hba
 exact Oy
 have hoe:aU e=true:=cS
 have hge:0≤ez e.aC6 id:=ln
 have hok:nP e id=true:=Xq
 obtain ⟨i,hi,hf⟩:=Ua hge
 have hef:=gu hoe
 have hdw:=Uc hi
 have hdl:=NR hi
 refine cg ?_
 refine sP [1,2,4,5,6,7] [2,4,6] ?_
 refine zv (d:=6) (t:=102) (e:=10) (G:=6200) (A:=nh) (B:=ni) (f:=(aO aH ai ai aJ ai)) (g:=(fun z:aC6=>[val (vI z.aC7.Id),val (vI z.aC7.aDb),sl .v (z.aC7.aC8.map bM),sl .v (z.aC7.Out.map ar),val (vI z.Time),sl .v (z.aDf.map ar),val (vI z.Age),val (vI z.Sent),val (vI z.Cap),sl .v (z.Rows.map (ci ai))])) (fN:=hI) (xs:=e.aC6) aj aj (fun _ _=>rfl) (fun _=>rfl) (fun _=>(aB (aB (bf (bf (aB (bf (aB (aB (aB (bf az.nil))))))))))) (fun _=>aQ) fun za hza=>?_
 have hzal:za.length=e.aC6.length:=Mc
 refine sU [1,2,4,5,6,7,6200] [2,4] [6] ?_
 refine cJ ?_
 refine dA 0 ?_ (x:=cB (qs:=[]) ak cY mL ak rfl rfl rfl rfl rfl ay ao rfl)
 refine QF ?_
 refine dt ?_
 refine dA 14 ?_ (x:=zi (i:=0) (j:=i) (ys:=(za.take i)) (q:=(0:Int)) ak cY aj ao eb ab ab ab (fun _=>rfl) aP)
 refine dA 31 ?_ (x:=ml ak cY mL rfl rfl ak MN MM Gm Gm)
 refine xV ?_
 refine dA 64 ?_ (x:=lD [sl .v _] fe)
 refine dt ?_
 refine dA 256 ?_ (x:=mq)
 refine dA 960 ?_ (x:=zi (i:=(i+1)) (j:=za.length) (ys:=(za.drop (i+1))) (r:=((za.length:Nat):Int)) ak cY ao aj ab eb ab ab (fun _=>rfl) yL)
 refine dA 2047 ?_ (x:=ml ak cY mL rfl rfl ak MN MM Gm Gm)
 refine dA 4095 ?_ (x:=lF gP)
 refine dA 8191 ?_ (x:=bR (ag:=false) (vs:=[sl _ _]) fe ao aj ay)
 refine bg ?_
 refine sU [1,2,4,5,6,7,6200] [2,4] [6] ?_
 refine eI (d:=6) aj (show _=[sl bH (e.Store.aC5.map (aG bc ai)),val (vI e.Store.Now),val (vI e.aDa),sl ai (e.Order.map ar),sl ct ((gM za i).map hI),sl ck (e.Done.map (bd aH ai aJ ai)),sl cl (e.aDi.map (ba ai ai ai)),val (vI e.Steps)] from by unfold gM;simp only [bo];exact rfl) ?_
 refine sP [1,2,4,5,6,7,6200] [2,4,6] ?_
 refine ZO (d:=6) (t:=102) (e:=10) (G:=6200) (A:=nh) (B:=ni) (f:=(aO aH ai ai aJ ai)) (g:=(fun z:aC6=>[val (vI z.aC7.Id),val (vI z.aC7.aDb),sl .v (z.aC7.aC8.map bM),sl .v (z.aC7.Out.map ar),val (vI z.Time),sl .v (z.aDf.map ar),val (vI z.Age),val (vI z.Sent),val (vI z.Cap),sl .v (z.Rows.map (ci ai))])) (fN:=hI) (ys:=(gM za i)) [za[i]] (gM e.aC6 i) aj aj (fun _ _=>rfl) (fun _=>rfl) (fun _=>rfl) (Ub ab) (ane hza) ?_
 refine sU [1,2,4,5,6,7] [2,4] [6] ?_
 refine uW ?_
 refine wO [(1,_),(2,_),(4,_),(5,_),(6,_),(7,_)] [(2,_),(4,_),(6,_)] ?_
 refine Cf (bx:=6) (L:=(Lw w0.heap.size)) (qs:=[]) (as_:=[]) ak Ti rfl aj aj ao ao ak ao (by exact (UK (e:=wz e i) ab)) (fun x hx=>hx) aQ aQ ?_
 refine uV ?_
 refine sV [1,2,4,5,6,7] [2,4] [6] ?_
 refine ph ?_
 refine rK ?_
 exact zv4
variable{p1 p2:Fl}{s:Store}
def anS:er prog 116=some [(0,1),(1,1),(2,1),(3,1)]:=au
def anT:prog.underlying 4=some .bool:=au
def aye{id:Int}(hb:da s≤68719476736):aE prog 248 [(true,[sl .v (s.aC5.map (aG p1 p2)),val (vI s.Now)]),(false,[val (vI id)])] (aA [(false,[val (vI (cK s id))]),(false,[val (vI (pC s id))])]):=by
 refine sF func248 fun h0 w0 Fz0=>?_
 refine sn 0 0 fun hl0_0=>?_
 have hbu:=hb
 simp only [da,iR,bh] at hbu
 refine mr ?_
 refine rK ?_
 refine dp ?_
 refine sT [1,2,4,5] [2] ?_
 refine tw ?_
 refine dm ?_
 refine sP [1,2,4,5,11,12,13] [2] ?_
 refine sL [1,2,11,12] [2] (fun i:Nat=>i≤s.aC5.length∧(s.aC5.take i).any (jW id)=false) (fun i:Nat=>[(13,RV.int (i:Int))]) (fun i:Nat=>[]) (fun i:Nat=>s.aC5.length - i) 0 fS bu ao ?_
 rintro i ⟨hi,ha⟩
 refine bP ?_
 refine sc ?_ ?_<;>intro hba
 have hlt:i < s.aC5.length:=ab
 have hwm:=dK (f:=cX) hlt
 have hws:cX s.aC5[i]=s.aC5[i].length+(s.aC5[i].map df).sum:=rfl
 refine aY ?_
 refine sT [1,2,11,12,13] [2] ?_
 refine rM ?_
 refine vj ?_
 refine rS ?_
 refine ox ?_
 refine sS [1,2,6,7,11,12,13] [2] ?_
 refine Ax ?_
 refine sP [1,2,6,7,11,12,13,18,19,20] [2] ?_
 refine sL [1,2,6,7,11,12,13,18,19] [2] (fun j:Nat=>j≤s.aC5[i].length∧(s.aC5[i].take j).any (lg id)=false) (fun j:Nat=>[(20,RV.int (j:Int))]) (fun j:Nat=>[]) (fun j:Nat=>s.aC5[i].length - j) 0 fS bu ao ?_
 rintro j ⟨hj,hc⟩
 refine bP ?_
 refine sc ?_ ?_<;>intro hbb
 have hlt2:j < s.aC5[i].length:=ab
 refine aY ?_
 refine sT [1,2,6,7,11,12,13,18,19,20] [2] ?_
 refine rM ?_
 refine zv8 ?_
 refine JO ?_
 refine rS ?_
 refine RL ?_
 refine sV [1,2,6,7,8,9,11,12,13,18,19,20] [2] [9] ?_
 refine vr ?_
 refine rM ?_
 refine iC ?_
 refine cx 29 ?_ ?_<;>intro ga sga
 refine rB ga ?_ (x:=lF la)
 refine zT ?_
 refine sc ?_ ?_<;>intro hbc
 have hyy:lg id s.aC5[i][j]=true:=Gr
 have hfa:=anf hlt ha hlt2 hc hyy
 refine sS [1,2,6,7,8,9,11,12,13,18,19,20] [2,9] ?_
 exact zv9
 exact zva
 refine nt ?_
 exact zva
 have hno1:jW id s.aC5[i]=false:=WT
 refine be ?_
 refine sH [1,2,6,7,11,12,13,18,19,20] [2] ?_
 refine cc ?_
 exact zvb
 have hend:i=s.aC5.length:=ab
 have hfn:=ang (s:=s) (id:=id) FR
 refine be ?_
 refine sT [1,2,11,12,13] [2] ?_
 exact zvc
def ayf{id:Int}(hb:da s≤68719476736):aE prog 255 [(true,[sl .v (s.aC5.map (aG p1 p2)),val (vI s.Now)]),(false,[val (vI id)])] (aA [(false,[val (vI (cK s id))]),(false,[val (vI (pC s id))])]):=by
 refine sF func255 fun h0 w0 Fz0=>?_
 refine sn 0 0 fun hl0_0=>?_
 have hbu:=hb
 simp only [da,iR,bh] at hbu
 refine mr ?_
 refine rK ?_
 refine dp ?_
 refine sT [1,2,4,5] [2] ?_
 refine cm ?_
 refine sP [1,2,4,5,6] [2] ?_
 refine sL [1,2] [2] (fun i:Nat=>i≤s.aC5.length∧(s.aC5.take i).any (jW id)=false) (fun i:Nat=>[(6,RV.int (i:Int))]) (fun i:Nat=>[]) (fun i:Nat=>s.aC5.length - i) 0 fS bu ao ?_
 rintro i ⟨hi,ha⟩
 refine bI ?_
 refine DP ?_
 refine sc ?_ ?_<;>intro hba
 have hlt:i < s.aC5.length:=ab
 have hwm:=dK (f:=cX) hlt
 have hws:cX s.aC5[i]=s.aC5[i].length+(s.aC5[i].map df).sum:=rfl
 refine aY ?_
 refine sT [1,2,6] [2] ?_
 refine cm ?_
 refine sP [1,2,6,7] [2] ?_
 refine sL [1,2,6] [2] (fun j:Nat=>j≤s.aC5[i].length∧(s.aC5[i].take j).any (lg id)=false) (fun j:Nat=>[(7,RV.int (j:Int))]) (fun j:Nat=>[]) (fun j:Nat=>s.aC5[i].length - j) 0 fS bu ao ?_
 rintro j ⟨hj,hc⟩
 refine bI ?_
 refine tO ?_
 refine vj ?_
 refine Du ?_
 refine sc ?_ ?_<;>intro hbb
 have hlt2:j < s.aC5[i].length:=ab
 refine aY ?_
 refine sT [1,2,6,7] [2] ?_
 refine tO ?_
 refine vj ?_
 refine rM ?_
 refine RP ?_
 refine rA ?_ (x:=cr ak yo ay)
 refine AK ?_
 refine rM ?_
 refine iC ?_
 refine cx 36 ?_ ?_<;>intro ga sga
 refine Dp ?_
 refine fI ?_
 refine rB ga ?_ (x:=aS ak gG ao aj bD aj)
 refine rB ga ?_ (x:=lE [sl .v _] nK)
 refine fI ?_
 refine rB ga ?_ (x:=aS ak fz ao aj bD aj)
 refine rB ga ?_ (x:=cr ak la ay)
 refine rB ga ?_ (x:=lE [val _] aV)
 refine vo ?_
 refine sc ?_ ?_<;>intro hbc
 have hyy:lg id s.aC5[i][j]=true:=Gr
 have hfa:=anf hlt ha hlt2 hc hyy
 refine sS [1,2,6,7] [2] ?_
 exact zv9
 exact zvd
 refine nt ?_
 exact zvd
 have hno1:jW id s.aC5[i]=false:=WT
 refine be ?_
 refine sH [1,2,6,7] [2] ?_
 refine bO ?_
 exact zvb
 have hend:i=s.aC5.length:=ab
 have hfn:=ang (s:=s) (id:=id) FR
 refine be ?_
 refine sT [1,2,6] [2] ?_
 exact zvc
def ayg(hb:da s≤68719476736):aE prog 256 [(true,[sl .v (s.aC5.map (aG p1 p2)),val (vI s.Now)])] (aA [(false,[val (vI (jX s.aC5))])]):=by
 refine sF func256 fun h0 w0 Fz0=>?_
 refine sn 0 0 fun hl0_0=>?_
 have hbu:=hb
 simp only [da,iR,bh] at hbu
 refine mr ?_
 refine jd ?_
 refine Ak ?_
 refine sL [1] [1] (fun k:Nat=>k≤s.aC5.length∧(s.aC5.take k).any jD=false) (fun k:Nat=>[(3,RV.int (k:Int))]) (fun k:Nat=>[]) (fun k:Nat=>s.aC5.length - k) 0 fS bu ao ?_
 rintro k ⟨hk,ha⟩
 refine bI ?_
 refine DP ?_
 refine sc ?_ ?_<;>intro hba
 have hlt:k < s.aC5.length:=ab
 have hwm:=dK (f:=cX) hlt
 have hws:cX s.aC5[k]=s.aC5[k].length+(s.aC5[k].map df).sum:=rfl
 refine aY ?_
 refine sT [1,3] [1] ?_
 refine tO ?_
 refine vj ?_
 refine Du ?_
 refine sc ?_ ?_<;>intro hbb
 have hy:jD s.aC5[k]=true:=by unfold jD;simpa using hbb
 have hra:=anh hlt ha hy
 refine sS [1,3] [1] ?_
 refine vK ?_
 exact (aI (by refine cW ?_;rw [hra]) tI)
 have hno1:jD s.aC5[k]=false:=by unfold jD;simpa using hbb
 refine Al ?_
 refine bO ?_
 refine nx (k+1) Xx
 have hend:k=s.aC5.length:=ab
 have hrn:=ani FR
 refine DL ?_
 refine cn ?_
 exact (aI (by refine cW ?_;rw [hrn]) tI)
def ayh{u:aC9}(hb:da s≤68719000000)(hbu0:jR u≤68719000000):aE prog 201 [(true,[sl .v (s.aC5.map (aG p1 p2)),val (vI s.Now)]),(true,[val (vI u.Kind),val (vI u.Row.Id),sl .v (u.Row.Values.map ar),val (vI u.Field),val (vI u.Value)])] (aA [(true,[sl bH ((eV s u).1.aC5.map (aG bc ai)),val (vI (eV s u).1.Now)]),(false,[val (.bool (eV s u).2)])]):=by
 refine oZ (largs:=fun L=>[(true,[sl (.lo L) (s.aC5.map (aG (.lo L) (.lo L))),val (vI s.Now)]),(true,[val (vI u.Kind),val (vI u.Row.Id),sl (.lo L) (u.Row.Values.map ar),val (vI u.Field),val (vI u.Value)])]) (rs:=[(true,[sl bH ((eV s u).1.aC5.map (aG bc ai)),val (vI (eV s u).1.Now)]),(false,[val (.bool (eV s u).2)])]) func201 rfl (nl rfl) (fun L=>by exact (aI (aI rfl (am.cons (aT (fun _=>nl rfl) (fun _=>(am.cons (aT (fun _=>nl rfl) (fun _=>(am.cons ax (am.cons (aT (fun _=>nl rfl) (fun _=>(am.cons ax am.nil))) (am.cons ax (am.cons ax am.nil)))))) am.nil))) (am.cons ax am.nil))) (aI (aI rfl (am.cons ax (am.cons ax (am.cons (aT (fun _=>nl rfl) (fun _=>(am.cons ax am.nil))) (am.cons ax (am.cons ax am.nil)))))) tI))) (fun L=>by exact lq) ?_
 intro w0 Fz0
 refine sn 0 0 fun hl0_0=>?_
 refine sn 1 2 fun hl1_2=>?_
 have hbu:=hb
 simp only [da,iR,bh] at hbu
 have hbv:=hbu0
 simp only [jR,kp,fU,bh] at hbv
 have hvl2:=anl s u
 have hul:=Bv s u
 refine IC ?_
 refine zve ?_
 refine rK ?_
 refine AL ?_
 refine Qf ?_
 refine vG ?_
 refine Ek ?_
 refine zsh ?_
 refine dq ?_
 refine cx 17 ?_ ?_<;>intro ga sga
 refine ko ?_
 refine rY 22 ?_
 exact zvh
 refine rB ga ?_ (x:=lD [val _,val _,sl (.lo _) _,val _,val _] mD)
 refine rB ga ?_ (x:=cL [(true,[val _,val _,sl (.lo _) _,val _,val _])] pR Sz (hs:=by exact TB))
 refine kP ?_
 refine rM ?_
 refine cx 22 ?_ ?_<;>intro gb sgb
 exact zvi
 refine rB gb ?_ (x:=lF ky)
 refine xn ?_
 refine ql ?_
 refine sc ?_ ?_<;>intro hba
 exact HG
 have hos:cy s=true:=cS
 have hou:ee u=true:=cS
 obtain ⟨hs8,hs1,hn0,hn1,hs4,hver⟩:=iE hos
 have hnw:s.Now < 100000:=ln
 refine IW ?_
 refine vW ?_
 refine tB ?_
 refine eJ ?_
 refine rA ?_ (x:=cL [(true,[sl (.lo _) _,val _]),(false,[val _])] Hb auh (hs:=by exact (aye ab)))
 refine xp ?_
 refine rS ?_
 refine dr ?_
 refine JQ ?_
 refine rM ?_
 refine rA ?_ (x:=jc)
 refine DR ?_
 refine rA ?_ (x:=aqd ak anT ao ao)
 refine sc ?_ ?_<;>intro hbb
 have hno:kD s u=false:=by rw [←Bool.not_eq_true];intro hc_;obtain ⟨h1_,h2_,h3_,h4_,h5_⟩:=yx hc_;have hh_:=hbb;by_cases h1:0≤cK s u.Row.Id<;>by_cases h2:u.Kind=1<;>simp_all [GE.ge]
 refine JQ ?_
 exact Oz
 have hkd:0≤cK s u.Row.Id↔¬u.Kind=1:=by have h_:=hbb;by_cases h1:0≤cK s u.Row.Id<;>by_cases h2:u.Kind=1<;>simp_all [GE.ge]
 refine aK ?_
 refine JQ ?_
 refine vU ?_
 refine rD ?_
 refine vU ?_
 refine tZ ?_
 refine sV [2,3,4,5,6,7,8] [2,3,4] [6] ?_
 refine xN ?_
 refine rA ?_ (x:=lF oH)
 refine rA ?_ (x:=lD [sl (.lo _) _] bZ)
 refine zvs ?_
 refine iP ?_
 refine AM ?_
 refine rM ?_
 refine rA ?_ (x:=jc)
 refine sc ?_ ?_<;>intro hbc
 have hge:0≤cK s u.Row.Id:=ab
 obtain ⟨i,k,hi,hk,hfi,hfk,hal⟩:=uz hge
 obtain ⟨hu1,hu2⟩:=qE hi hk hfi hfk
 have hwm:=dK (f:=cX) hi
 have hws:cX s.aC5[i]=s.aC5[i].length+(s.aC5[i].map df).sum:=rfl
 have hwm2:=dK (f:=df) hk
 have hwv:df s.aC5[i][k]=s.aC5[i][k].Values.length:=yT
 refine bg ?_
 refine AN ?_
 refine mn (d:=6) (t:=41) (D:=920) (G:=2920) (E:=114) (e:=1) (L:=(Lw w0.heap.size)) (A:=[]) (B:=[val _]) (es:=(s.aC5).map (aG bc ai)) aj (kh hi) aj aj rfl aj (fun x hx=>hx) aQ aQ wM kE (aw.map fun x=>(aw.cons (lcl_own (aw.map fun x=>(aw.cons lcl_val (aw.cons (lcl_own (aw.map fun x=>(aw.cons lcl_val aw.nil))) (aw.cons lcl_val (aw.cons lcl_val aw.nil)))))) aw.nil)) fun uu920 cp920 jk920 hlD920 hcp920 hjk920=>?_
 rw [aX] at hlD920 hcp920 hjk920
 refine RS ?_
 have hA920:=lv (f:=(aG bc ai)) (e:=1) (xs:=s.aC5) (k:=i) (fun _=>rfl) (Nat.le_of_lt hi)
 refine sO [(2,_),(3,_),(4,_),(5,_),(6,_),(7,_),(8,_),(9,_),(2920,_)] [(2,_),(3,_),(4,_),(6,(41,ng)),(920,(114,_++([sl _ _]++_)))] ?_
 refine mn (d:=920) (t:=114) (D:=921) (G:=2921) (E:=116) (e:=4) (L:=(Lw w0.heap.size)) (A:=_) (B:=[]++_) (es:=(s.aC5[i]).map (ia ai)) aj (kh hk) aj aj rfl aj (fun x hx=>hx) aQ aQ kE kE (aw.map fun x=>(aw.cons lcl_val (aw.cons (lcl_own (aw.map fun x=>(aw.cons lcl_val aw.nil))) (aw.cons lcl_val (aw.cons lcl_val aw.nil))))) fun uu921 cp921 jk921 hlD921 hcp921 hjk921=>?_
 rw [aX] at hlD921 hcp921 hjk921
 refine RT ?_
 have hA921:=lv (f:=(ia ai)) (e:=4) (xs:=s.aC5[i]) (k:=k) (fun _=>rfl) (Nat.le_of_lt hk)
 refine sO [(2,_),(3,_),(4,_),(5,_),(6,_),(7,_),(8,_),(9,_),(2920,_),(2921,_)] [(2,_),(3,_),(4,_),(6,_),(920,(114,_++([val _]++_))),(921,(116,_++(pU++_)))] ?_
 refine cJ ?_
 refine DW ?_
 refine PK ?_
 refine Rr ?_
 refine Qc ?_
 refine Qk ?_
 refine PA ?_
 refine Py ?_
 refine sW [2,3,4,5,6,7,8,9] [2,3,4] [6] ?_
 refine Dq ?_
 refine QC ?_
 refine rA ?_ (x:=lE [sl (.lo _) _] nK)
 refine rM ?_
 refine Qd ?_
 refine rA ?_ (x:=lE [sl (.lo _) _] bZ)
 refine zvs ?_
 refine dJ ?_
 exact zw6
 have hge:¬0≤cK s u.Row.Id:=ab
 obtain ⟨hu1,hu2⟩:=uA hge
 refine aK ?_
 exact zw6
def ayi{u:aC9}(hb:da s≤68719000000)(hbu0:jR u≤68719000000):aE prog 204 [(true,[sl .v (s.aC5.map (aG p1 p2)),val (vI s.Now)]),(true,[val (vI u.Kind),val (vI u.Row.Id),sl .v (u.Row.Values.map ar),val (vI u.Field),val (vI u.Value)])] (aA [(true,[sl bH ((eV s u).1.aC5.map (aG bc ai)),val (vI (eV s u).1.Now)]),(false,[val (.bool (eV s u).2)])]):=by
 refine oZ (largs:=fun L=>[(true,[sl (.lo L) (s.aC5.map (aG (.lo L) (.lo L))),val (vI s.Now)]),(true,[val (vI u.Kind),val (vI u.Row.Id),sl (.lo L) (u.Row.Values.map ar),val (vI u.Field),val (vI u.Value)])]) (rs:=[(true,[sl bH ((eV s u).1.aC5.map (aG bc ai)),val (vI (eV s u).1.Now)]),(false,[val (.bool (eV s u).2)])]) func204 rfl (nl rfl) (fun L=>by exact (aI (aI rfl (am.cons (aT (fun _=>nl rfl) (fun _=>(am.cons (aT (fun _=>nl rfl) (fun _=>(am.cons ax (am.cons (aT (fun _=>nl rfl) (fun _=>(am.cons ax am.nil))) (am.cons ax (am.cons ax am.nil)))))) am.nil))) (am.cons ax am.nil))) (aI (aI rfl (am.cons ax (am.cons ax (am.cons (aT (fun _=>nl rfl) (fun _=>(am.cons ax am.nil))) (am.cons ax (am.cons ax am.nil)))))) tI))) (fun L=>by exact lq) ?_
 intro w0 Fz0
 refine sn 0 0 fun hl0_0=>?_
 refine sn 1 2 fun hl1_2=>?_
 have hbu:=hb
 simp only [da,iR,bh] at hbu
 have hbv:=hbu0
 simp only [jR,kp,fU,bh] at hbv
 have hvl2:=anl s u
 have hul:=Bv s u
 refine IC ?_
 refine zve ?_
 refine rK ?_
 refine AL ?_
 refine zt2 ?_
 refine vG ?_
 refine Ek ?_
 refine zt3 ?_
 refine dq ?_
 refine cx 16 ?_ ?_<;>intro ga sga
 refine ko ?_
 refine rY 21 ?_
 exact zvh
 refine rB ga ?_ (x:=lD [val _,val _,sl (.lo _) _,val _,val _] mD)
 refine rB ga ?_ (x:=cL [(true,[val _,val _,sl (.lo _) _,val _,val _])] pR Sy (hs:=Mt))
 refine kP ?_
 refine rM ?_
 refine cx 21 ?_ ?_<;>intro gb sgb
 exact zvi
 refine rB gb ?_ (x:=lF ky)
 refine ou ?_
 refine rB gb ?_ (x:=jc)
 refine ql ?_
 refine sc ?_ ?_<;>intro hba
 exact HG
 have hos:cy s=true:=cS
 have hou:ee u=true:=cS
 obtain ⟨hs8,hs1,hn0,hn1,hs4,hver⟩:=iE hos
 have hnw:s.Now < 100000:=ln
 refine IW ?_
 refine vW ?_
 refine tB ?_
 refine eJ ?_
 refine rA ?_ (x:=cL [(true,[sl (.lo _) _,val _]),(false,[val _])] Hb aun (hs:=by exact (ayf ab)))
 refine xI ?_
 refine JQ ?_
 refine vW ?_
 refine rA ?_ (x:=cL [(true,[sl (.lo _) _,val _])] lA auo (hs:=by exact (ayg ab)))
 refine dr ?_
 refine AM ?_
 refine vl ?_
 refine iC ?_
 refine dC ?_
 refine rA ?_ (x:=aqe ak anT ao ao)
 refine rM ?_
 refine cx 43 ?_ ?_<;>intro gc sgc
 refine vH ?_
 exact zw9
 refine rB gc ?_ (x:=lF SC)
 refine pk ?_
 refine Rw ?_
 refine cx 47 ?_ ?_<;>intro gd sgd
 refine rB gd ?_ (x:=sM)
 refine rB gd ?_ (x:=xc)
 refine Rs ?_
 refine sc ?_ ?_<;>intro hbb
 exact zw9
 have hkr:(0≤cK s u.Row.Id↔¬u.Kind=1)∧(u.Kind=2∨0≤jX s.aC5):=by by_cases h1:0≤cK s u.Row.Id<;>by_cases h2:u.Kind=1<;>by_cases h3:u.Kind=2<;>by_cases h4:0≤jX s.aC5<;>by_cases h6:cK s u.Row.Id < 0<;>(first|omega|(simp_all;done)|(simp_all;omega))
 obtain ⟨hkd,hrr⟩:=hkr
 have hok:=Lc hos hou hnw hkd hrr
 refine aK ?_
 refine AM ?_
 refine vU ?_
 refine rD ?_
 refine vU ?_
 refine xk ?_
 refine sU [2,3,4,5,6,7,8,9] [2,3,4] [6] ?_
 refine Ja ?_
 refine IM ?_
 refine zwd ?_
 refine dA 16 ?_ (x:=lF oH)
 refine zwe ?_
 refine QW ?_
 refine zwg ?_
 refine zwh ?_
 refine sV [2,3,4,5,6,7,8,9,10] [2,3,4,6] [10] ?_
 refine rM ?_
 refine rA ?_ (x:=jc)
 refine sc ?_ ?_<;>intro hbc
 have hge:0≤cK s u.Row.Id:=ab
 obtain ⟨i,k,hi,hk,hfi,hfk,hal⟩:=uz hge
 obtain ⟨hu1,hu2⟩:=qE hi hk hfi hfk
 have hwm:=dK (f:=cX) hi
 have hws:cX s.aC5[i]=s.aC5[i].length+(s.aC5[i].map df).sum:=rfl
 have hwm2:=dK (f:=df) hk
 have hwv:df s.aC5[i][k]=s.aC5[i][k].Values.length:=yT
 refine zwi ?_
 refine zE ?_
 refine QC ?_
 refine xT ?_
 refine rM ?_
 refine Qd ?_
 refine Pz ?_
 refine rA ?_ (x:=lF qz)
 refine zwj ?_
 refine mn (d:=6) (t:=41) (D:=920) (G:=2920) (E:=114) (e:=1) (L:=(Lw w0.heap.size)) (A:=[]) (B:=[val _]) (es:=(s.aC5).map (aG bc ai)) aj (kh hi) aj aj rfl aj (fun x hx=>hx) aQ aQ wM kE (aw.map fun x=>(aw.cons (lcl_own (aw.map fun x=>(aw.cons lcl_val (aw.cons (lcl_own (aw.map fun x=>(aw.cons lcl_val aw.nil))) (aw.cons lcl_val (aw.cons lcl_val aw.nil)))))) aw.nil)) fun uu920 cp920 jk920 hlD920 hcp920 hjk920=>?_
 rw [aX] at hlD920 hcp920 hjk920
 refine RS ?_
 have hA920:=lv (f:=(aG bc ai)) (e:=1) (xs:=s.aC5) (k:=i) (fun _=>rfl) (Nat.le_of_lt hi)
 refine zwk ?_
 refine mn (d:=920) (t:=114) (D:=921) (G:=2921) (E:=116) (e:=4) (L:=(Lw w0.heap.size)) (A:=_) (B:=[]++_) (es:=(s.aC5[i]).map (ia ai)) aj (kh hk) aj aj rfl aj (fun x hx=>hx) aQ aQ kE kE (aw.map fun x=>(aw.cons lcl_val (aw.cons (lcl_own (aw.map fun x=>(aw.cons lcl_val aw.nil))) (aw.cons lcl_val (aw.cons lcl_val aw.nil))))) fun uu921 cp921 jk921 hlD921 hcp921 hjk921=>?_
 rw [aX] at hlD921 hcp921 hjk921
 refine RT ?_
 have hA921:=lv (f:=(ia ai)) (e:=4) (xs:=s.aC5[i]) (k:=k) (fun _=>rfl) (Nat.le_of_lt hk)
 refine zwl ?_
 refine DW ?_
 refine PK ?_
 refine Rr ?_
 refine Qc ?_
 refine Qk ?_
 refine PA ?_
 refine Py ?_
 refine ot ?_
 refine sU [2,3,4,5,6,7,8,9,10] [2,3,4,10] [6] ?_
 exact zwn
 have hge:¬0≤cK s u.Row.Id:=ab
 obtain ⟨hu1,hu2⟩:=uA hge
 refine cg ?_
 refine IK ?_
 exact zwn
 refine zf gd ?_
 refine Rt ?_
 refine gB ?_
 have hkr:(0≤cK s u.Row.Id↔¬u.Kind=1)∧(u.Kind=2∨0≤jX s.aC5):=by by_cases h1:0≤cK s u.Row.Id<;>by_cases h2:u.Kind=1<;>by_cases h3:u.Kind=2<;>by_cases h4:0≤jX s.aC5<;>by_cases h6:cK s u.Row.Id < 0<;>(first|omega|(simp_all;done)|(simp_all;omega))
 obtain ⟨hkd,hrr⟩:=hkr
 have hok:=Lc hos hou hnw hkd hrr
 refine aK ?_
 refine AM ?_
 refine vU ?_
 refine rD ?_
 refine vU ?_
 refine xk ?_
 refine sU [2,3,4,5,6,7,8,9] [2,3,4] [6] ?_
 refine Ja ?_
 refine IM ?_
 refine zwd ?_
 refine dA 16 ?_ (x:=lF oH)
 refine zwe ?_
 refine QW ?_
 refine zwg ?_
 refine zwh ?_
 refine sV [2,3,4,5,6,7,8,9,10] [2,3,4,6] [10] ?_
 refine rM ?_
 refine rA ?_ (x:=jc)
 refine sc ?_ ?_<;>intro hbb
 have hge:0≤cK s u.Row.Id:=ab
 obtain ⟨i,k,hi,hk,hfi,hfk,hal⟩:=uz hge
 obtain ⟨hu1,hu2⟩:=qE hi hk hfi hfk
 have hwm:=dK (f:=cX) hi
 have hws:cX s.aC5[i]=s.aC5[i].length+(s.aC5[i].map df).sum:=rfl
 have hwm2:=dK (f:=df) hk
 have hwv:df s.aC5[i][k]=s.aC5[i][k].Values.length:=yT
 refine zwi ?_
 refine zE ?_
 refine QC ?_
 refine xT ?_
 refine rM ?_
 refine Qd ?_
 refine Pz ?_
 refine rA ?_ (x:=lF qz)
 refine zwj ?_
 refine mn (d:=6) (t:=41) (D:=920) (G:=2920) (E:=114) (e:=1) (L:=(Lw w0.heap.size)) (A:=[]) (B:=[val _]) (es:=(s.aC5).map (aG bc ai)) aj (kh hi) aj aj rfl aj (fun x hx=>hx) aQ aQ wM kE (aw.map fun x=>(aw.cons (lcl_own (aw.map fun x=>(aw.cons lcl_val (aw.cons (lcl_own (aw.map fun x=>(aw.cons lcl_val aw.nil))) (aw.cons lcl_val (aw.cons lcl_val aw.nil)))))) aw.nil)) fun uu920 cp920 jk920 hlD920 hcp920 hjk920=>?_
 rw [aX] at hlD920 hcp920 hjk920
 refine RS ?_
 have hA920:=lv (f:=(aG bc ai)) (e:=1) (xs:=s.aC5) (k:=i) (fun _=>rfl) (Nat.le_of_lt hi)
 refine zwk ?_
 refine mn (d:=920) (t:=114) (D:=921) (G:=2921) (E:=116) (e:=4) (L:=(Lw w0.heap.size)) (A:=_) (B:=[]++_) (es:=(s.aC5[i]).map (ia ai)) aj (kh hk) aj aj rfl aj (fun x hx=>hx) aQ aQ kE kE (aw.map fun x=>(aw.cons lcl_val (aw.cons (lcl_own (aw.map fun x=>(aw.cons lcl_val aw.nil))) (aw.cons lcl_val (aw.cons lcl_val aw.nil))))) fun uu921 cp921 jk921 hlD921 hcp921 hjk921=>?_
 rw [aX] at hlD921 hcp921 hjk921
 refine RT ?_
 have hA921:=lv (f:=(ia ai)) (e:=4) (xs:=s.aC5[i]) (k:=k) (fun _=>rfl) (Nat.le_of_lt hk)
 refine zwl ?_
 refine DW ?_
 refine PK ?_
 refine Rr ?_
 refine Qc ?_
 refine Qk ?_
 refine PA ?_
 refine Py ?_
 refine ot ?_
 refine sU [2,3,4,5,6,7,8,9,10] [2,3,4,10] [6] ?_
 exact zwp
 have hge:¬0≤cK s u.Row.Id:=ab
 obtain ⟨hu1,hu2⟩:=uA hge
 refine cg ?_
 refine IK ?_
 exact zwp
def Vv{r:Row}:et Tryz.prog gl 82 [(true,[val (vI r.Id),sl .v (r.Values.map ar)])] (aA [(false,[val (.string (B (gv r)))])]):=by
 refine im (rs:=[(false,[val (.string (B (gv r)))])]) Tryz.func82 rfl (nl rfl) aQ ?_
 intro h0 w0 Fz0
 refine sn 0 1 fun hl0_1=>?_
 refine xm ?_
 refine Af ?_
 refine Ir ?_
 refine eZ ?_
 refine sc ?_ ?_<;>intro hba
 have hok:bA r=false:=cR
 refine tY ?_
 exact Zab
 have hok:bA r=true:=cR
 obtain ⟨hi0,hi1,hvl,hv⟩:=qG hok
 have hil:(itoa r.Id).length≤21:=bv br
 have hll:=px hv
 refine cg ?_
 refine sP [1,2,7000] [1] ?_
 refine cJ ?_
 refine dA 0 ?_ (x:=lF kW)
 refine Io ?_
 refine dA 7 ?_ (x:=cZ)
 refine vL ?_
 refine dA 16 ?_ (x:=lD [sl .v _] bZ)
 refine dA 55 ?_ (x:=gL cf cC KF (hs:=by exact (KL hv ab)))
 exact Zac
def Vw{r:Row}:aE Tryz.prog 32 [(true,[val (vI r.Id),sl .v (r.Values.map ar)])] (aA [(false,[val (.string (B (gv r)))])]):=by
 refine sF Tryz.func32 fun h0 w0 Fz0=>?_
 refine sn 0 1 fun hl0_1=>?_
 refine xm ?_
 refine jd ?_
 refine zf8 ?_
 refine eZ ?_
 refine sc ?_ ?_<;>intro hba
 have hok:bA r=false:=cR
 refine oy ?_
 exact Zab
 have hok:bA r=true:=cR
 obtain ⟨hi0,hi1,hvl,hv⟩:=qG hok
 have hil:(itoa r.Id).length≤21:=bv br
 have hll:=px hv
 refine cg ?_
 refine sP [1,2] [1] ?_
 refine cJ ?_
 refine dA 0 ?_ (x:=lF kW)
 refine Ip ?_
 refine dA 7 ?_ (x:=cZ)
 refine vL ?_
 refine dA 16 ?_ (x:=lD [sl .v _] bZ)
 refine dA 55 ?_ (x:=cL cf cC Tv (hs:=by exact (TF hv ab)))
 exact Zac
end Go.Proofs.YtmekkgdboplbjaaGreatDoor
