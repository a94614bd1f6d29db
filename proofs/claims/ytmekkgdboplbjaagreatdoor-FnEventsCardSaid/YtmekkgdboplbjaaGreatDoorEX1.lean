/- What functions of the program compute. No condition. -/
import Derived.Test.YtmekkgdboplbjaaGreatDoorEP1
import Derived.Test.YtmekkgdboplbjaaGreatDoorEW1
set_option linter.all false
namespace Go.Proofs.YtmekkgdboplbjaaGreatDoor
open Go Go.RowKit M PV Tryz
set_option maxRecDepth 10000
attribute [local irreducible] PV.Lcl PV.LclR RV.Lcl
set_option maxHeartbeats 8000000
attribute [local irreducible] aw hJ
def KC:prog.underlying 3=some (.int .i64):=ao
def yh:prog.underlying 5=some (.int .u8):=ao
def qy:prog.underlying 9=some .string:=ao
def Ud:prog.underlying 37=some (.slice 5):=ao
def aw0{c:aG}{p1 p2:Fl}{s:Store}(hs:cg s≤200):ie prog 120 176 (da .v c) (da .v (bT c s).2) [(true,[sl .v (s.ax2.map (aO p1 p2)),val (vI s.Now)])] (aB [(true,[val (vI (bT c s).1.Kind),val (vI (bT c s).1.ax4.Id),val (vI (bT c s).1.ax4.ax8),sl aH ((bT c s).1.ax4.ax5.map bF),sl ai ((bT c s).1.ax4.Out.map ar),val (vI (bT c s).1.Limit),val (vI (bT c s).1.Id),val (vI (bT c s).1.ax6.Kind),val (vI (bT c s).1.ax6.Row.Id),sl ai ((bT c s).1.ax6.Row.Values.map ar),val (vI (bT c s).1.ax6.Field),val (vI (bT c s).1.ax6.Value),val (vI (bT c s).1.Steps)])]):=by
 refine iX (rs:=[(true,[val (vI (bT c s).1.Kind),val (vI (bT c s).1.ax4.Id),val (vI (bT c s).1.ax4.ax8),sl aH ((bT c s).1.ax4.ax5.map bF),sl ai ((bT c s).1.ax4.Out.map ar),val (vI (bT c s).1.Limit),val (vI (bT c s).1.Id),val (vI (bT c s).1.ax6.Kind),val (vI (bT c s).1.ax6.Row.Id),sl ai ((bT c s).1.ax6.Row.Values.map ar),val (vI (bT c s).1.ax6.Field),val (vI (bT c s).1.ax6.Value),val (vI (bT c s).1.Steps)])]) func120 rfl (nl rfl) (nl rfl) ?_
 intro g_ h0 w0 Fz0
 refine sn 1 0 fun hl1_0=>?_
 have hsw:=hs
 have hbs:=hsw
 simp only [cg,iy,bo] at hbs
 have hew:=Tb c s
 have hbew:=hew
 simp only [ki,bo,fM,mR,jr] at hbew
 refine kN ?_
 refine xr ?_
 refine sT [0,3,4,5000] [0,3,4] ?_
 refine Pu ?_
 refine rA ?_ (x:=dP (bx:=0) (qs:=[(true,bW)]) (as_:=[(true,eh)]) aj aiu rfl bS yj lh yi (by exact (akp (fun es=>bor_sl es) Lz)))
 refine xr ?_
 refine pE ?_
 refine sO [(0,_),(3,_),(4,_),(5,_),(5000,_)] [(0,_),(3,_),(4,_),(5,(31,cS))] ?_
 refine aY ?_
 refine NE ?_
 refine iJ ?_
 refine PU ?_
 refine sc ?_ ?_<;>intro hba
 have hr:=awg (c:=c) (s:=s) hba
 refine sG [0,3,4,5,10,5000] [0,3,4,5] ?_
 refine NE ?_
 refine rA ?_ (x:=lF Rf)
 exact Nu
 have h0_:=hba
 refine PU ?_
 refine sc ?_ ?_<;>intro hbb
 have hr:=awh (c:=c) (s:=s) h0_ hbb
 refine sG [0,3,4,5,10,5000] [0,3,4,5] ?_
 refine NP ?_
 refine rA ?_ (x:=dP (bx:=0) (qs:=[(false,[sl _ _])]) (as_:=[(false,[sl .v _])]) aj vo rfl bS qA lh sq (by exact (xU (l:=[0,1,100,101]) (fun es=>bor_sl es) aj aj)))
 refine xu ?_
 exact Nu
 have h1_:=hbb
 refine PU ?_
 refine sc ?_ ?_<;>intro hbc
 have hr:=awi (c:=c) (s:=s) h0_ h1_ hbc
 refine sG [0,3,4,5,10,5000] [0,3,4,5] ?_
 refine NP ?_
 refine rA ?_ (x:=dP (bx:=0) (qs:=[(false,[sl _ _])]) (as_:=[(false,[sl .v _])]) aj vo rfl bS qA lh sq (by exact (xU (l:=[-1,0,32,33]) (fun es=>bor_sl es) aj aj)))
 refine rA ?_ (x:=lF oP)
 exact Nu
 have hr:=awj (c:=c) (s:=s) h0_ h1_ hbc
 refine ba ?_
 refine sS [0,3,4,5,10,5000] [0,3,4,5] ?_
 exact Zf3
def aw1{code:List Int}(hb:code.length≤9223372036854775807)(hb2:code.length≤4611686018427387904):aQ prog 104 [(false,[sl .v (code.map oN)])] (aB [(true,[val (vI (bT (bD (aS code hb)).c (bD (aS code hb)).s).1.Kind),val (vI (bT (bD (aS code hb)).c (bD (aS code hb)).s).1.ax4.Id),val (vI (bT (bD (aS code hb)).c (bD (aS code hb)).s).1.ax4.ax8),sl aH ((bT (bD (aS code hb)).c (bD (aS code hb)).s).1.ax4.ax5.map bF),sl ai ((bT (bD (aS code hb)).c (bD (aS code hb)).s).1.ax4.Out.map ar),val (vI (bT (bD (aS code hb)).c (bD (aS code hb)).s).1.Limit),val (vI (bT (bD (aS code hb)).c (bD (aS code hb)).s).1.Id),val (vI (bT (bD (aS code hb)).c (bD (aS code hb)).s).1.ax6.Kind),val (vI (bT (bD (aS code hb)).c (bD (aS code hb)).s).1.ax6.Row.Id),sl ai ((bT (bD (aS code hb)).c (bD (aS code hb)).s).1.ax6.Row.Values.map ar),val (vI (bT (bD (aS code hb)).c (bD (aS code hb)).s).1.ax6.Field),val (vI (bT (bD (aS code hb)).c (bD (aS code hb)).s).1.ax6.Value),val (vI (bT (bD (aS code hb)).c (bD (aS code hb)).s).1.Steps)])]):=by
 refine sF func104 fun h0 w0 Fz0=>?_
 refine sj 0 fun hl0=>?_
 have hso:=AG (aS code hb)
 have hsw:=vE hso
 refine HM ?_
 refine sT [0,2] [2] ?_
 refine NW ?_
 refine rA ?_ (x:=cA Cp.ptr)
 refine aU ?_
 refine sO [(0,_),(2,_),(3,_)] [(2,_),(6,(176,Gb))] ?_
 refine oC ?_
 refine Zf5 ?_
 refine oz ?_
 refine aU ?_
 refine sO [(0,_),(2,_),(3,_),(4,_)] [(2,_),(4,(41,bW)),(6,_)] ?_
 refine oC ?_
 refine Aa ?_
 refine Zf6 ?_
 exact Zf7
def aw2{code:List Int}(hb:code.length≤9223372036854775807)(hb2:code.length≤4611686018427387904):aQ prog 37 [(false,[sl .v (code.map oN)])] (aB [(true,[val (vI (bT (bD (aS code hb)).c (bD (aS code hb)).s).1.Kind),val (vI (bT (bD (aS code hb)).c (bD (aS code hb)).s).1.ax4.Id),val (vI (bT (bD (aS code hb)).c (bD (aS code hb)).s).1.ax4.ax8),sl aH ((bT (bD (aS code hb)).c (bD (aS code hb)).s).1.ax4.ax5.map bF),sl ai ((bT (bD (aS code hb)).c (bD (aS code hb)).s).1.ax4.Out.map ar),val (vI (bT (bD (aS code hb)).c (bD (aS code hb)).s).1.Limit),val (vI (bT (bD (aS code hb)).c (bD (aS code hb)).s).1.Id),val (vI (bT (bD (aS code hb)).c (bD (aS code hb)).s).1.ax6.Kind),val (vI (bT (bD (aS code hb)).c (bD (aS code hb)).s).1.ax6.Row.Id),sl ai ((bT (bD (aS code hb)).c (bD (aS code hb)).s).1.ax6.Row.Values.map ar),val (vI (bT (bD (aS code hb)).c (bD (aS code hb)).s).1.ax6.Field),val (vI (bT (bD (aS code hb)).c (bD (aS code hb)).s).1.ax6.Value),val (vI (bT (bD (aS code hb)).c (bD (aS code hb)).s).1.Steps)])]):=by
 refine sF func37 fun h0 w0 Fz0=>?_
 refine sj 0 fun hl0=>?_
 have hso:=AG (aS code hb)
 have hsw:=vE hso
 refine HM ?_
 refine sT [0,2] [2] ?_
 refine dD ?_
 refine rA ?_ (x:=cL [(false,[sl _ _])] [(false,[sl .v _])] apw (hs:=by exact (aw1 ab ab)))
 exact Zf7
def aw3{o:Fl}{c:aG}(hbo:∀es,(sl o es).Bor){most:Int}(hm:0≤most∧most≤100):ie prog 206 176 (da o c) (da o (sh c most).c) [(false,[val (vI most)])] (aB [(false,[val (.string (B (ii (sh c most).l)))])]):=by
 refine iX (rs:=[(false,[val (.string (B (ii (sh c most).l)))])]) func206 rfl (nl rfl) (nl rfl) ?_
 intro g_ h0 w0 Fz0
 have hn1:0≤(jY c most).1:=dW _ _
 have hn2:(jY c most).1 < most+1:=dY _ ab
 refine qY ?_
 refine wE ?_
 refine rA ?_ (x:=cj (qs:=[]) aj pV DT aj rfl rfl rfl rfl rfl az an rfl)
 refine dJ ?_
 refine sS [0,1,4,5,5000] [0] ?_
 refine jp ?_
 refine eU ?_
 refine sS [0,1,4,5,6,5000] [0] ?_
 refine fL ?_
 refine lv ?_
 refine wx ?_
 refine iJ ?_
 refine sP [0,1,4,5,6,7,5000] [0] ?_
 refine sL [0,1,4,6,5000] [] (fun k:Nat=>(k:Int)≤(jY c most).1) (fun k:Nat=>[(5,RV.slc (.own 5 1) ((qx (lM c).1 ⟨[],(jY c most).2⟩ k).l.map oN)),(7,RV.int ((jY c most).1 - (k:Int)))]) (fun k:Nat=>[(0,(176,da o (qx (lM c).1 ⟨[],(jY c most).2⟩ k).c))]) (fun k:Nat=>((jY c most).1 - (k:Int)).toNat) 0 ab (by exact aI ak (aI (by exact cX (by unfold jY;unfold lM;omega)) tI)) bp ?_
 rintro k hk
 have htl:=alp (lM c).1 (jY c most).2 k
 have hby:=Jf (qx (lM c).1 ⟨[],(jY c most).2⟩ k).c
 have hm1:=Int.tmod_nonneg 2 hby.1
 have hm2:=Int.tmod_lt_of_pos (hJ (qx (lM c).1 ⟨[],(jY c most).2⟩ k).c).1 (show (0:Int) < 2 by decide)
 have hm3:=Int.tmod_nonneg 4 hby.1
 have hm4:=Int.tmod_lt_of_pos (hJ (qx (lM c).1 ⟨[],(jY c most).2⟩ k).c).1 (show (0:Int) < 4 by decide)
 have hm5:=Int.tmod_nonneg 4 hm1
 have hm6:=Int.tmod_lt_of_pos ((hJ (qx (lM c).1 ⟨[],(jY c most).2⟩ k).c).1.tmod 2) (show (0:Int) < 4 by decide)
 refine zx ?_
 refine sc ?_ ?_<;>intro hba
 have hlt:(k:Int) < (jY c most).1:=ab
 refine eB ?_
 refine Zf8 ?_
 refine oC ?_
 refine zb0 ?_
 refine eU ?_
 refine sS [0,1,4,5,6,7,8,5000] [0] ?_
 refine zB ?_
 refine sc ?_ ?_<;>intro hbb
 have h1c:(lM c).1=1:=hbb
 refine IS ?_
 refine Zfa ?_
 refine rS ?_
 exact Zfb
 have h1c:¬(lM c).1=1:=hbb
 refine ba ?_
 exact Zfb
 have hend:k=(jY c most).1.toNat:=ab
 refine fq ?_
 refine OS ?_
 refine dD ?_
 refine rA ?_ (x:=Xd Ud yh qy (fun _=>rfl))
 refine db ?_
 exact ⟨(by unfold sh;rw [←hend];exact rfl),rfl,(aI (by refine iL ?_;unfold sh;rw [←hend];try exact rfl) tI)⟩
def aw4{o:Fl}{c:aG}(hbo:∀es,(sl o es).Bor){s:av}(hl:s.length≤250):ie prog 122 176 (da o c) (da o (mD c s).2) [(false,[val (.string (B s))])] (aB [(false,[val (.string (B (mD c s).1))])]):=by
 refine iX (rs:=[(false,[val (.string (B (mD c s).1))])]) func122 rfl (nl rfl) (nl rfl) ?_
 intro g_ h0 w0 Fz0
 refine qY ?_
 refine aU ?_
 refine wE ?_
 refine rM ?_
 refine rA ?_ (x:=pt qy)
 refine oK ?_
 refine sc ?_ ?_<;>intro hba
 have hr:=awl (c:=c) (s:=s) ab
 refine sS [0,1,4,5000] [0] ?_
 refine fL ?_
 refine rA ?_ (x:=dP (bx:=0) (qs:=[(false,[val _])]) (as_:=[(false,[val _])]) aj aqa rfl nt kb iC jZ (by exact (aw3 hbo aj)))
 refine rS ?_
 exact GQ
 have he_:¬s.length=0:=ab
 have hk1:=dW c (s.length:Int)
 have hk2:=dY c (n:=(s.length:Int)) ab
 have hk3:(fw c s).1=(aw c (s.length:Int)).1:=rfl
 have hkl:(fw c s).1.toNat < s.length:=ab
 have hb256:=s[(fw c s).1.toNat].toNat_lt
 have hby:=Jf (ji c s).2
 have hby2:=Jf (aw (aw c (s.length:Int)).2 4).2
 have hx3:=dW (aw (aw c (s.length:Int)).2 4).2 255
 have hx4:=dY (aw (aw c (s.length:Int)).2 4).2 (n:=255) aj
 have hx1:=dW (ji c s).2 255
 have hx2:=dY (ji c s).2 (n:=255) aj
 refine ba ?_
 refine sS [0,1,4,5000] [0] ?_
 refine CJ ?_
 refine rA ?_ (x:=pt qy)
 refine wx ?_
 refine aU ?_
 refine sS [0,1,4,5,5000] [0] ?_
 refine jp ?_
 refine iJ ?_
 refine Ql ?_
 refine sc ?_ ?_<;>intro hbb
 have hr:=awm (c:=c) he_ hbb
 refine aU ?_
 refine PY ?_
 refine OL ?_
 refine uB ?_
 refine dA 16 ?_ (x:=jF)
 refine dA 56 ?_ (x:=DW ((fw c s).1.toNat+1) qy (u:=(s.drop ((fw c s).1.toNat+1))) ab ab uf)
 refine dA 127 ?_ (x:=fA (h:=Bh))
 refine dA 255 ?_ (x:=sA)
 exact GQ
 have h0_:=hbb
 refine Ql ?_
 refine sc ?_ ?_<;>intro hbc
 have hr:=awn (c:=c) he_ h0_ hbc
 refine aU ?_
 refine PY ?_
 refine OL ?_
 refine pH ?_
 refine dA 8 ?_ (x:=dP (bx:=0) (qs:=[]) (as_:=[]) aj ais rfl an an iC yn (by exact (ai5 hbo)))
 refine dA 24 ?_ (x:=uu KC yh Lj)
 refine dA 56 ?_ (x:=cj (qs:=[(false,[val _])]) aj pV DT aj rfl rfl rfl rfl rfl az bS rfl)
 refine dA 120 ?_ (x:=Mu Ud yh qy)
 refine dA 255 ?_ (x:=fA (h:=Bh))
 refine uB ?_
 refine dA 1536 ?_ (x:=DW (fw c s).1.toNat qy (u:=(s.drop (fw c s).1.toNat)) ab ab uf)
 refine dA 4095 ?_ (x:=fA (h:=Bh))
 refine dA 8191 ?_ (x:=sA)
 exact GQ
 have h1_:=hbc
 refine Ql ?_
 refine sc ?_ ?_<;>intro hbd
 have hr:=awo (c:=c) he_ h0_ h1_ hbd
 refine sS [0,1,4,5,16,5000] [0] ?_
 refine fB ?_
 refine rA ?_ (x:=Sb (fw c s).1.toNat qy (u:=(s.take (fw c s).1.toNat)) ab ab Lb)
 refine rS ?_
 exact GQ
 have hr:=awp (c:=c) he_ h0_ h1_ hbd
 have hsa:TP s (fw c s).1.toNat=((s[(fw c s).1.toNat].toNat:Nat):Int):=by unfold TP;rw [List.getD_eq_getElem?_getD,List.getElem?_eq_getElem hkl];rfl
 refine dp ?_
 refine PY ?_
 refine OL ?_
 refine uB ?_
 refine dA 24 ?_ (x:=sXq (fw c s).1.toNat hkl qy ab)
 refine dA 56 ?_ (x:=uu yh KC Vb)
 refine pH ?_
 refine dA 128 ?_ (x:=dP (bx:=0) (qs:=[(false,[val _])]) (as_:=[(false,[val _])]) aj vp rfl nt kb iC jZ Bi)
 refine dA 384 ?_ (x:=jF)
 refine dA 1016 ?_ (x:=Xb aj an an)
 refine dA 2040 ?_ (x:=uu KC yh rfl)
 refine dA 4088 ?_ (x:=cj (qs:=[(false,[val _])]) aj pV DT aj rfl rfl rfl rfl rfl az bS rfl)
 refine dA 8184 ?_ (x:=Mu Ud yh qy)
 refine dA 16383 ?_ (x:=fA (h:=Bh))
 refine uB ?_
 refine dA 65536 ?_ (x:=jF)
 refine dA 229376 ?_ (x:=DW ((fw c s).1.toNat+1) qy (u:=(s.drop ((fw c s).1.toNat+1))) ab ab uf)
 refine dA 524287 ?_ (x:=fA (h:=Bh))
 refine dA 1048575 ?_ (x:=sA)
 refine cK ?_
 exact ⟨vY,rfl,(aI (by refine iL ?_;rw [hr];unfold TQ;rw [hsa];try exact rfl) tI)⟩
def aw5{o:Fl}{c:aG}(hbo:∀es,(sl o es).Bor){l:List av}(hl:0 < l.length)(hl2:l.length≤256):ie prog 123 176 (da o c) (da o (aw c (l.length:Int)).2) [(false,[sl .v (l.map mS)])] (aB [(false,[val (.string (B (l.getD (aw c (l.length:Int)).1.toNat [])))])]):=by
 refine iX (rs:=[(false,[val (.string (B (l.getD (aw c (l.length:Int)).1.toNat [])))])]) func123 rfl (nl rfl) (nl rfl) ?_
 intro g_ h0 w0 Fz0
 refine sj 1 fun hl1=>?_
 have hg:=dW c (l.length:Int)
 have hg2:=dY c (n:=(l.length:Int)) ab
 refine qY ?_
 refine wE ?_
 refine PJ ?_
 refine qW ?_
 refine Da ?_
 refine rA ?_ (x:=aZ (k:=(aw c (l.length:Int)).1.toNat) aj eR an ab (by exact fX ab (by rw [←AW ab])) ak)
 refine pO ?_
 exact XI
def aw6{code:List Int}(hb:code.length≤9223372036854775807)(hb2:code.length≤4611686018427387904):aQ prog 45 [(false,[sl .v (code.map oN)])] (aB [(false,[val (.string (B (si (aS code hb))))])]):=by
 refine sF func45 fun h0 w0 Fz0=>?_
 refine sj 0 fun hl0=>?_
 have hso:=AG (aS code hb)
 have hsw:=vE hso
 have hsl:(AX (aS code hb)).length≤200:=TM _
 refine wW ?_
 refine NW ?_
 refine rA ?_ (x:=cA Cp.ptr)
 refine sT [0,2,3] [6] ?_
 refine fL ?_
 refine fL ?_
 refine Zf5 ?_
 refine Zf6 ?_
 refine rA ?_ (x:=cL [(true,cS)] [(true,ej)] DN (hs:=by exact (TY (x:=(Kz (aS code hb)).1))))
 refine eU ?_
 refine sS [0,2,3,4] [6] ?_
 refine fL ?_
 refine rA ?_ (x:=dP (bx:=6) (qs:=[(false,[val _])]) (as_:=[(false,[val _])]) aj vp rfl nt kb lh jZ VE)
 refine iJ ?_
 refine sS [0,2,3,4,13] [6] ?_
 refine iu ?_
 refine sc ?_ ?_<;>intro hba
 have hr:si (aS code hb)=_:=if_pos hba
 refine sS [0,2,3,4,13] [6] ?_
 refine CJ ?_
 refine rA ?_ (x:=dP (bx:=6) (qs:=[(false,[val _])]) (as_:=[(false,[val _])]) aj apD rfl bS kb lh jZ (by exact (aw4 (s:=AX (aS code hb)) (fun es=>bor_sl es) ab)))
 exact Nv
 have h0_:=hba
 refine sS [0,2,3,4,13] [6] ?_
 refine iu ?_
 refine sc ?_ ?_<;>intro hbb
 have hr:si (aS code hb)=_:=(if_neg h0_).trans (if_pos hbb)
 refine sS [0,2,3,4,13] [6] ?_
 refine fL ?_
 refine rA ?_ (x:=cj (qs:=[(false,[val _]),(false,[val _]),(false,[val _]),(false,[val _]),(false,[val _]),(false,[val _]),(false,[val _]),(false,[val _]),(false,[val _]),(false,[val _])]) aj eR vt aj rfl rfl rfl rfl rfl az (by exact (aI (bi rfl) (aI (bi rfl) (aI (bi rfl) (aI (bi rfl) (aI (bi rfl) (aI (bi rfl) (aI (bi rfl) (aI (bi rfl) (aI (bi rfl) (aI (bi rfl) tI))))))))))) rfl)
 refine rA ?_ (x:=dP (bx:=6) (qs:=[(false,[sl _ _])]) (as_:=[(false,[sl .v _])]) aj apE rfl bS qA lh sq (by exact (aw5 (l:=Et) (fun es=>bor_sl es) aj aj)))
 exact Nv
 have hr:si (aS code hb)=_:=(if_neg h0_).trans (if_neg hbb)
 refine ba ?_
 refine sS [0,2,3,4,13] [6] ?_
 refine rM ?_
 exact Nv
def aw7{code:List Int}(hb:code.length≤9223372036854775807)(hb2:code.length≤4611686018427387904):aQ prog 42 [(false,[sl .v (code.map oN)])] (aB [(true,[sl bH ((bR (aS code hb)).1.Store.ax2.map (aO bc ai)),val (vI (bR (aS code hb)).1.Store.Now),val (vI (bR (aS code hb)).1.ax7),sl ai ((bR (aS code hb)).1.Order.map ar),sl cm ((bR (aS code hb)).1.ax3.map (bd aH ai ai aL ai)),sl cf ((bR (aS code hb)).1.Done.map (bw aH ai aL ai)),sl ck ((bR (aS code hb)).1.ayf.map (bz ai ai ai)),val (vI (bR (aS code hb)).1.Steps)]),(false,[sl (.own 31 13) ((fx (aS code hb)).map (Ds aH ai ai))])]):=by
 refine sF func42 fun h0 w0 Fz0=>?_
 refine sj 0 fun hl0=>?_
 have hew:=akC (aS code hb)
 have hsw:=alq (aS code hb)
 refine PO ?_
 refine rA ?_ (x:=nw (.inr rfl) aj (pk (t:=31) (e:=13)))
 refine sT [0,2,3] [2] ?_
 refine NW ?_
 refine rA ?_ (x:=cA Cp.ptr)
 refine aU ?_
 refine sO [(0,_),(2,_),(3,_),(4,_)] [(2,_),(7,(176,Gb))] ?_
 refine oC ?_
 refine rA ?_ (x:=dP (bx:=7) (qs:=[]) (as_:=[]) aj aqV rfl an an lh yn (by exact awE))
 refine lu ?_
 refine aU ?_
 refine sO [(0,_),(2,_),(3,_),(4,_),(5,_)] [(2,_),(5,(46,aW)),(7,_)] ?_
 refine BD (d:=5) (G:=1005) ak ak (aV (aD (aD (aV (aV (aV (aV (aD aJ.nil)))))))) bg fun us hRN=>?_
 obtain ⟨_,_,hRN⟩:=hRN
 obtain ⟨u1_0,u1_1,u1_2,u1_3,u1_4,u1_5,u1_6,u1_7,rfl⟩:=tv hRN.len
 clear hRN
 refine sO [(0,_),(2,_),(3,_),(4,_),(5,_),(1005,_)] [(2,_),(5,(46,WQ)),(7,_)] ?_
 refine cC ?_
 refine dA 0 ?_ (x:=jB (qs:=[nv _ (sl .v _),nv _ (val _),nv _ (val _),nv _ (sl .v _),nv _ (sl .v _),nv _ (sl .v _),nv _ (sl .v _),nv _ (val _)]) aj dj (fun h=>nomatch h) az (by exact (aD (aD (aD (aD (aD (aD (aD (aD aJ.nil))))))))) bg)
 refine pH ?_
 refine dA 0 ?_ (x:=lF nd)
 refine dA 4 ?_ (x:=jB (qs:=[nv _ (sl .v _),nv _ (val _)]) aj hR (fun h=>nomatch h) az KV Ur)
 refine dA 14 ?_ (x:=dP (bx:=7) (qs:=[(true,Gd),(false,[val _])]) (as_:=[(true,eh),(false,[val _])]) aj apx rfl VK (by exact (aI (aI rfl (aJ.cons (PV.nv_to ut) (aJ.cons (PV.nv_to (sB _)) aJ.nil))) (aI (aI rfl (aD aJ.nil)) tI))) lh bg (by exact (aud (s:=(bR (aS code hb)).1.Store) (most:=6) (fun es=>bor_sl es) (alq (aS code hb)) aj)))
 refine dA 31 ?_ (x:=bV (ag:=true) (vs:=WQ) dj an ak az)
 refine dA 63 ?_ (x:=tA)
 refine Bu (d:=2) (G:=1005) ak (by exact (Nm.nv (Nm.nv (Nm.nv (Nm.nv (Nm.nv (Nm.nv (Nm.nv (Nm.nv Nm.nil))))))))) ak ?_
 exact ZK
end Go.Proofs.YtmekkgdboplbjaaGreatDoor
