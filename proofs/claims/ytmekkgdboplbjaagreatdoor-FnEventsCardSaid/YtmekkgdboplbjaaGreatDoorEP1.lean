/- What functions of the program compute. No condition. -/
import Derived.Test.YtmekkgdboplbjaaGreatDoorEB1
import Derived.Test.YtmekkgdboplbjaaGreatDoorEE1
import Derived.Test.YtmekkgdboplbjaaGreatDoorEN1
import Derived.Test.YtmekkgdboplbjaaGreatDoorEO1
set_option linter.all false
namespace Go.Proofs.YtmekkgdboplbjaaGreatDoor
open Go Go.RowKit M PV Tryz
set_option maxRecDepth 10000
attribute [local irreducible] PV.Lcl PV.LclR RV.Lcl
set_option maxHeartbeats 8000000
attribute [local irreducible] aw hJ
def awC{c:aG}:ie prog 153 176 (da .v c) (da .v (qp c).2) [] (aB [(false,[sl ai ((qp c).1.map ar)])]):=by
 refine iX (rs:=[(false,[sl ai ((qp c).1.map ar)])]) func153 rfl (nl rfl) (nl rfl) ?_
 intro g_ h0 w0 Fz0
 refine amS (fun L=>[(0,RV.ptr 0 0),(5000,RV.phi 0 g_)]) (fun L=>[(0,(176,[sl (.lo L) (c.b.map oN),val (vI (c.i:Int)),val (vI c.h)]))]) (fun L=>by exact (qR.cons pp.ptr (qR.cons pp.phi tI))) (fun L=>by exact (sJ.cons (am.cons (aT (fun _=>nl rfl) (fun _=>(am.cons ay am.nil))) (am.cons ay (am.cons ay am.nil))) (aF.cons (bor_lo _ _) (aF.cons (bor_val _) (aF.cons (bor_val _) aF.nil))) tI)) fun Bl w0 Fz0=>?_
 have hb11:=dW c 6
 have hb12:=dY c (n:=6) aj
 have h6_:rz.length=6:=rfl
 have hob:(tY c).1=(aw c 6).1:=rfl
 have hk6:(tY c).1.toNat < rz.length:=by unfold tY;omega
 have hol:=Tl c
 have hv0:0 < (rY c).length:=ab
 have hol3:(rz.getD (tY c).1.toNat []).length=3:=Tl c
 refine sY ?_
 refine aU ?_
 refine sO [(0,_),(2,_),(5000,_)] [(0,(176,[sl (.lo _) _,val _,val _]))] ?_
 refine aY ?_
 refine zV ?_
 refine rA ?_ (x:=cL [] [] aqh (hs:=by exact aui))
 refine fL ?_
 refine rA ?_ (x:=dP (bx:=0) (qs:=[(false,[val _])]) (as_:=[(false,[val _])]) aj vp rfl nt kb KF jZ (by exact (RQ (fun es=>bor_lo _ es) ab)))
 refine rA ?_ (x:=aZ (k:=(tY c).1.toNat) aj ai0 an ab (by exact fX hk6 (by rw [kl (d:=([]:List Int)) hk6])) ak)
 refine GY ?_
 refine oD ?_
 refine sS [0,2,3,5000] [0] ?_
 refine fL ?_
 refine rA ?_ (x:=dP (bx:=0) (qs:=[(false,[val _])]) (as_:=[(false,[val _])]) aj RA rfl nt kb KF jZ (by exact (RR (fun es=>bor_lo _ es) ab)))
 refine sc ?_ ?_<;>intro hba
 have hr:=auR (c:=c) hba
 refine sP [0,2,3,5000] [0] ?_
 refine Mb (s:=3) (D:=900) (G:=2900) (E:=3) (e:=1) (L:=Bl) (es:=((rY c)).map ar) ak (kd hv0) ak ak rfl ak (fun x hx=>hx) bg bg (ax.map fun x=>(ax.cons lcl_val ax.nil)) fun uu900 cp900 jk900 hlD900 hcp900 hjk900=>?_
 rw [bf] at hlD900 hcp900 hjk900
 refine eg (d:=900) ak (ox (k:=0) hv0) ?_
 have hA900:=lp (f:=ar) (e:=1) (xs:=(rY c)) (k:=0) (fun _=>rfl) (Nat.le_of_lt hv0)
 refine sO [(0,_),(2,_),(3,_),(2900,_),(5000,_)] [(0,_),(900,(3,_++([val _]++_)))] ?_
 refine Qn ?_
 refine fL ?_
 refine Di ?_
 refine rA ?_ (x:=dP (bx:=0) (qs:=[(false,[sl _ _])]) (as_:=[(false,[sl .v _])]) aj vo rfl bS qA KF sq (by exact (xU (l:=[-1,0,3]) (fun es=>bor_lo _ es) aj aj)))
 refine rA ?_ (x:=kI (k:=0) (G:=2900) aj cn (bi rfl) fU (by first|(rw [bf];exact hv0)|exact hv0))
 refine zyp ?_
 refine eg (d:=900) ak (po ((bL (qo c).2 [-1,0,3]).1) hv0 ak) ?_
 refine Mc (s:=3) (D:=900) (G:=2900) (e:=1) (es:=(((rY c)).set 0 ((bL (qo c).2 [-1,0,3]).1)).map ar) ak ak ak rfl aj qz oq vQ ?_
 exact zyq
 have hr:=auS (c:=c) hba
 refine ba ?_
 exact zyq
def awD{o:Fl}{c:aG}(hbo:∀es,(sl o es).Bor){most:Int}(hm:0 < most∧most≤100):ie prog 151 176 (da o c) (da o (eZ c most).c) [(false,[val (vI most)])] (aB [(true,[sl bH ((eZ c most).e.Store.ax2.map (aO bc ai)),val (vI (eZ c most).e.Store.Now),val (vI (eZ c most).e.ax7),sl ai ((eZ c most).e.Order.map ar),sl cm ((eZ c most).e.ax3.map (bd aH ai ai aL ai)),sl cf ((eZ c most).e.Done.map (bw aH ai aL ai)),sl ck ((eZ c most).e.ayf.map (bz ai ai ai)),val (vI (eZ c most).e.Steps)])]):=by
 refine iX (rs:=[(true,[sl bH ((eZ c most).e.Store.ax2.map (aO bc ai)),val (vI (eZ c most).e.Store.Now),val (vI (eZ c most).e.ax7),sl ai ((eZ c most).e.Order.map ar),sl cm ((eZ c most).e.ax3.map (bd aH ai ai aL ai)),sl cf ((eZ c most).e.Done.map (bw aH ai aL ai)),sl ck ((eZ c most).e.ayf.map (bz ai ai ai)),val (vI (eZ c most).e.Steps)])]) func151 rfl (nl rfl) (nl rfl) ?_
 intro g_ h0 w0 Fz0
 have hso0:=AG c
 have hn1:=Ti c hm.1
 have hm1:=dW (bD c).c most
 have hm2:=dY (bD c).c (n:=most) hm.1
 refine PO ?_
 refine aU ?_
 refine sO [(0,_),(1,_),(4,_),(5000,_)] [(0,(176,[sl o _,val _,val _])),(4,(46,aW))] ?_
 refine oC ?_
 refine rA ?_ (x:=dP (bx:=0) (qs:=[]) (as_:=[]) aj aiq rfl an an iC yn (by exact (ako hbo)))
 refine rA ?_ (x:=cL [(true,bW)] [(true,eh)] aqc (hs:=by exact (auc (s:=(bD c).s) hso0)))
 refine cb ?_
 refine BR ?_
 refine lu ?_
 refine rS ?_
 refine dC ?_
 refine sO [(0,_),(1,_),(4,_),(5,_),(6,_),(5000,_)] [(0,_),(4,_),(5,(46,aW))] ?_
 refine oC ?_
 refine rM ?_
 refine wx ?_
 refine iJ ?_
 refine sP [0,1,4,5,6,7,5000] [0,4,5] ?_
 refine sL [0,1,4,5,6,5000] [4] (fun k:Nat=>k≤qn c most) (fun k:Nat=>[(7,RV.int ((qn c most:Int) - (k:Int)))]) (fun k:Nat=>[(0,(176,da o (co (cq c most) k).c)),(5,(46,[sl bH ((co (cq c most) k).e.Store.ax2.map (aO bc ai)),val (vI (co (cq c most) k).e.Store.Now),val (vI (co (cq c most) k).e.ax7),sl ai ((co (cq c most) k).e.Order.map ar),sl cm ((co (cq c most) k).e.ax3.map (bd aH ai ai aL ai)),sl cf ((co (cq c most) k).e.Done.map (bw aH ai aL ai)),sl ck ((co (cq c most) k).e.ayf.map (bz ai ai ai)),val (vI (co (cq c most) k).e.Steps)]))]) (fun k:Nat=>qn c most - k) 0 ab (by exact aI (by exact cX (by unfold qn;omega)) tI) gp ?_
 rintro k hk
 have heb:=Tj c most k ab
 have hew:=Tk c most k
 have hso:=(mB.1 heb.ok).so
 have hqw:=Jh (pb (co (cq c most) k).c).2 (pb (co (cq c most) k).c).1
 have huw:=SG (de (co (cq c most) k).c).2 (co (cq c most) k).e.Store
 have hb31:=dW (de (co (cq c most) k).c).2 6
 have hb32:=dY (de (co (cq c most) k).c).2 (n:=6) aj
 refine zx ?_
 refine sc ?_ ?_<;>intro hba
 have hlt:k < qn c most:=ab
 refine eB ?_
 refine zys ?_
 refine NC ?_
 refine zN ?_
 refine sO [(0,_),(1,_),(4,_),(5,_),(6,_),(7,_),(8,_),(5000,_)] [(0,_),(4,_),(5,(46,aW)),(8,(46,aW))] ?_
 refine aY ?_
 refine jp ?_
 refine CY ?_
 refine Cu ?_
 refine sc ?_ ?_<;>intro hbb
 have hk0:(de (co (cq c most) k).c).1=0∨(de (co (cq c most) k).c).1=1:=.inl hbb
 have hxn:=Th (x:=(co (cq c most) k)) hk0
 refine ba ?_
 refine sc ?_ ?_<;>intro hbc
 have hk0:(de (co (cq c most) k).c).1=0∨(de (co (cq c most) k).c).1=1:=Vv
 have hxn:=Th (x:=(co (cq c most) k)) hk0
 refine zyv ?_
 refine BU ?_
 refine xq ?_
 refine zyx ?_
 refine xq ?_
 refine zyy ?_
 refine qO (G:=2000) (qs:=[(true,aW),(true,bX),(false,[val _])]) (as_:=[(true,cO),(true,di),(false,[val _])]) aj aiz KS qD Ug UV ao ao fun uss hU0=>?_
 obtain ⟨us0,r0,rfl,hl0,hR0,hU1⟩:=eO.cons hU0
 obtain ⟨u4_0_0,u4_0_1,u4_0_2,u4_0_3,u4_0_4,u4_0_5,u4_0_6,u4_0_7,rfl⟩:=tv hl0
 obtain rfl:=fz hR0 (j:=1) rfl rfl
 obtain rfl:=fz hR0 (j:=2) rfl rfl
 obtain rfl:=fz hR0 (j:=7) rfl rfl
 obtain ⟨us1,r1,rfl,hl1,hR1,hU2⟩:=eO.cons hU1
 obtain ⟨u4_1_0,rfl⟩:=pP hl1
 exact zyz
 have hk0:¬((de (co (cq c most) k).c).1=0∨(de (co (cq c most) k).c).1=1):=Ul
 refine Cu ?_
 refine sc ?_ ?_<;>intro hbd
 have hk2:(de (co (cq c most) k).c).1=2:=hbd
 have hxn:=aku (x:=(co (cq c most) k)) hk0 hk2
 refine zz0 ?_
 refine BU ?_
 refine dX 0 ?_ (x:=(FK aj nd))
 refine zz1 ?_
 refine qO (G:=2000) (qs:=[(true,aW),(true,eP)]) (as_:=[(true,cO),(true,gK)]) aj aiA oi ip Ui UW ao ao fun uss hU0=>?_
 obtain ⟨us0,r0,rfl,hl0,hR0,hU1⟩:=eO.cons hU0
 obtain ⟨u6_0_0,u6_0_1,u6_0_2,u6_0_3,u6_0_4,u6_0_5,u6_0_6,u6_0_7,rfl⟩:=tv hl0
 obtain rfl:=fz hR0 (j:=1) rfl rfl
 obtain rfl:=fz hR0 (j:=2) rfl rfl
 obtain rfl:=fz hR0 (j:=7) rfl rfl
 obtain ⟨us1,r1,rfl,hl1,hR1,hU2⟩:=eO.cons hU1
 obtain ⟨u6_1_0,rfl⟩:=pP hl1
 exact zz2
 have hk2:¬(de (co (cq c most) k).c).1=2:=hbd
 refine Cu ?_
 refine sc ?_ ?_<;>intro hbe
 have hk3:(de (co (cq c most) k).c).1=3:=hbe
 have hxn:=akv (x:=(co (cq c most) k)) hk0 hk2 hk3
 refine zz3 ?_
 refine zz4 ?_
 refine qO (G:=2000) (qs:=[(true,aW),(false,[val _])]) (as_:=[(true,cO),(false,[val _])]) aj aiB oi ip Uk Vc ao ao fun uss hU0=>?_
 obtain ⟨us0,r0,rfl,hl0,hR0,hU1⟩:=eO.cons hU0
 obtain ⟨u8_0_0,u8_0_1,u8_0_2,u8_0_3,u8_0_4,u8_0_5,u8_0_6,u8_0_7,rfl⟩:=tv hl0
 obtain rfl:=fz hR0 (j:=1) rfl rfl
 obtain rfl:=fz hR0 (j:=2) rfl rfl
 obtain rfl:=fz hR0 (j:=7) rfl rfl
 obtain ⟨us1,r1,rfl,hl1,hR1,hU2⟩:=eO.cons hU1
 obtain ⟨u8_1_0,rfl⟩:=pP hl1
 exact zz5
 exact zz6
 have hk00:=hbb
 refine sG [0,1,4,5,6,7,8,24,5000] [0,4,5,8] ?_
 refine iu ?_
 refine sc ?_ ?_<;>intro hbc
 have hk0:(de (co (cq c most) k).c).1=0∨(de (co (cq c most) k).c).1=1:=Vv
 have hxn:=Th (x:=(co (cq c most) k)) hk0
 refine zyv ?_
 refine BU ?_
 refine xq ?_
 refine zyx ?_
 refine xq ?_
 refine zyy ?_
 refine qO (G:=2000) (qs:=[(true,aW),(true,bX),(false,[val _])]) (as_:=[(true,cO),(true,di),(false,[val _])]) aj aiz KS qD Ug UV ao ao fun uss hU0=>?_
 obtain ⟨us0,r0,rfl,hl0,hR0,hU1⟩:=eO.cons hU0
 obtain ⟨u10_0_0,u10_0_1,u10_0_2,u10_0_3,u10_0_4,u10_0_5,u10_0_6,u10_0_7,rfl⟩:=tv hl0
 obtain rfl:=fz hR0 (j:=1) rfl rfl
 obtain rfl:=fz hR0 (j:=2) rfl rfl
 obtain rfl:=fz hR0 (j:=7) rfl rfl
 obtain ⟨us1,r1,rfl,hl1,hR1,hU2⟩:=eO.cons hU1
 obtain ⟨u10_1_0,rfl⟩:=pP hl1
 exact zyz
 have hk0:¬((de (co (cq c most) k).c).1=0∨(de (co (cq c most) k).c).1=1):=Ul
 refine Cu ?_
 refine sc ?_ ?_<;>intro hbd
 have hk2:(de (co (cq c most) k).c).1=2:=hbd
 have hxn:=aku (x:=(co (cq c most) k)) hk0 hk2
 refine zz0 ?_
 refine BU ?_
 refine dX 0 ?_ (x:=(FK aj nd))
 refine zz1 ?_
 refine qO (G:=2000) (qs:=[(true,aW),(true,eP)]) (as_:=[(true,cO),(true,gK)]) aj aiA oi ip Ui UW ao ao fun uss hU0=>?_
 obtain ⟨us0,r0,rfl,hl0,hR0,hU1⟩:=eO.cons hU0
 obtain ⟨u12_0_0,u12_0_1,u12_0_2,u12_0_3,u12_0_4,u12_0_5,u12_0_6,u12_0_7,rfl⟩:=tv hl0
 obtain rfl:=fz hR0 (j:=1) rfl rfl
 obtain rfl:=fz hR0 (j:=2) rfl rfl
 obtain rfl:=fz hR0 (j:=7) rfl rfl
 obtain ⟨us1,r1,rfl,hl1,hR1,hU2⟩:=eO.cons hU1
 obtain ⟨u12_1_0,rfl⟩:=pP hl1
 exact zz2
 have hk2:¬(de (co (cq c most) k).c).1=2:=hbd
 refine Cu ?_
 refine sc ?_ ?_<;>intro hbe
 have hk3:(de (co (cq c most) k).c).1=3:=hbe
 have hxn:=akv (x:=(co (cq c most) k)) hk0 hk2 hk3
 refine zz3 ?_
 refine zz4 ?_
 refine qO (G:=2000) (qs:=[(true,aW),(false,[val _])]) (as_:=[(true,cO),(false,[val _])]) aj aiB oi ip Uk Vc ao ao fun uss hU0=>?_
 obtain ⟨us0,r0,rfl,hl0,hR0,hU1⟩:=eO.cons hU0
 obtain ⟨u14_0_0,u14_0_1,u14_0_2,u14_0_3,u14_0_4,u14_0_5,u14_0_6,u14_0_7,rfl⟩:=tv hl0
 obtain rfl:=fz hR0 (j:=1) rfl rfl
 obtain rfl:=fz hR0 (j:=2) rfl rfl
 obtain rfl:=fz hR0 (j:=7) rfl rfl
 obtain ⟨us1,r1,rfl,hl1,hR1,hU2⟩:=eO.cons hU1
 obtain ⟨u14_1_0,rfl⟩:=pP hl1
 exact zz5
 exact zz6
 have hend:k=qn c most:=ab
 refine fq ?_
 refine zys ?_
 refine tk ?_
 refine cK ?_
 exact ⟨(by unfold eZ;rw [←hend];exact rfl),rfl,(bh 4 (bh _ (aI ak (aI (by refine dh ?_;unfold eZ;rw [←hend];exact rfl) (aI dj (aI (fun h=>nomatch h) tI))))))⟩
def awE{c:aG}:ie prog 64 176 (da .v c) (da .v (bR c).2) [] (aB [(true,[sl bH ((bR c).1.Store.ax2.map (aO bc ai)),val (vI (bR c).1.Store.Now),val (vI (bR c).1.ax7),sl ai ((bR c).1.Order.map ar),sl cm ((bR c).1.ax3.map (bd aH ai ai aL ai)),sl cf ((bR c).1.Done.map (bw aH ai aL ai)),sl ck ((bR c).1.ayf.map (bz ai ai ai)),val (vI (bR c).1.Steps)])]):=by
 refine iX (rs:=[(true,[sl bH ((bR c).1.Store.ax2.map (aO bc ai)),val (vI (bR c).1.Store.Now),val (vI (bR c).1.ax7),sl ai ((bR c).1.Order.map ar),sl cm ((bR c).1.ax3.map (bd aH ai ai aL ai)),sl cf ((bR c).1.Done.map (bw aH ai aL ai)),sl ck ((bR c).1.ayf.map (bz ai ai ai)),val (vI (bR c).1.Steps)])]) func64 rfl (nl rfl) (nl rfl) ?_
 intro g_ h0 w0 Fz0
 have hew:=akB c
 refine PO ?_
 refine sT [0,2,5000] [0,2] ?_
 refine fL ?_
 refine rA ?_ (x:=dP (bx:=0) (qs:=[(false,[val _])]) (as_:=[(false,[val _])]) aj apQ rfl nt kb lh jZ (by exact (awD (most:=14) (fun es=>bor_sl es) aj)))
 refine zN ?_
 refine sO [(0,_),(2,_),(3,_),(5000,_)] [(0,_),(2,_),(3,(46,aW))] ?_
 refine aY ?_
 refine NE ?_
 refine iJ ?_
 refine HT ?_
 refine sc ?_ ?_<;>intro hba
 have hr:=akw (c:=c) hba
 refine sG [0,2,3,7,5000] [0,2,3] ?_
 refine fL ?_
 refine rA ?_ (x:=cj (qs:=[(false,[val _]),(false,[val _])]) aj cn iP aj rfl rfl rfl rfl rfl az (by exact (aI (bi rfl) (aI (bi rfl) tI))) rfl)
 refine rA ?_ (x:=dP (bx:=0) (qs:=[(false,[sl _ _])]) (as_:=[(false,[sl .v _])]) aj vo rfl bS qA lh sq (by exact (xU (l:=[-1,8]) (fun es=>bor_sl es) aj aj)))
 refine rA ?_ (x:=lF oV)
 exact zz9
 have h0_:=hba
 refine HT ?_
 refine sc ?_ ?_<;>intro hbb
 have hr:=akx (c:=c) h0_ hbb
 refine sG [0,2,3,7,5000] [0,2,3] ?_
 refine NP ?_
 refine rA ?_ (x:=dP (bx:=0) (qs:=[(false,[sl _ _])]) (as_:=[(false,[sl .v _])]) aj vo rfl bS qA lh sq (by exact (xU (l:=[-1,99999,100000,100001]) (fun es=>bor_sl es) aj aj)))
 refine rA ?_ (x:=lF ne)
 exact zz9
 have h1_:=hbb
 refine HT ?_
 refine sc ?_ ?_<;>intro hbc
 have hr:=aky (c:=c) h0_ h1_ hbc
 refine sG [0,2,3,7,5000] [0,2,3] ?_
 refine pM ?_
 refine tt ?_
 refine IP ?_
 exact Nc
 have h2_:=hbc
 refine HT ?_
 refine sc ?_ ?_<;>intro hbd
 have hr:=akz (c:=c) h0_ h1_ h2_ hbd
 refine sG [0,2,3,7,5000] [0,2,3] ?_
 refine fL ?_
 refine rA ?_ (x:=dP (bx:=0) (qs:=[]) (as_:=[]) aj apR rfl an an lh yn (by exact awC))
 refine rA ?_ (x:=lF AA)
 refine xj ?_
 exact Nc
 have hr:=akA (c:=c) h0_ h1_ h2_ hbd
 refine ba ?_
 refine sS [0,2,3,7,5000] [0,2,3] ?_
 exact zzd
end Go.Proofs.YtmekkgdboplbjaaGreatDoor
