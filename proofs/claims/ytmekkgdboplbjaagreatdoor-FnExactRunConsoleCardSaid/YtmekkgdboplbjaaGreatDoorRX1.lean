/- What functions of the program compute. No condition. -/
import Derived.Test.YtmekkgdboplbjaaGreatDoorRK1
import Derived.Test.YtmekkgdboplbjaaGreatDoorRV1
import Derived.Test.YtmekkgdboplbjaaGreatDoorRW1
set_option linter.all false
namespace Go.Proofs.YtmekkgdboplbjaaGreatDoor
open Go Go.RowKit M PV Tryz
set_option maxRecDepth 10000
attribute [local irreducible] PV.Lcl PV.LclR RV.Lcl
set_option maxHeartbeats 8000000
attribute [local irreducible] fP
variable{p1 p2 p5 p6 p7 p8 p9 p11 p12 p13 p14 p16 p17 p18:Fl}{e:av}{s:an}
def aph:er prog 41=some [(0,1),(1,1)]:=au
def api:er prog 46=some [(0,2),(2,1),(3,1),(4,1),(5,1),(6,1),(7,1)]:=au
def aBA:er prog 56=some [(0,4),(4,1),(5,1),(6,1)]:=au
def aBB:prog.underlying 9=some .string:=au
def aBC(hb:aZ e≤68718000000):aE prog 243 [(true,[sl .v (e.Store.aC5.map (aG p1 p2)),val (vI e.Store.Now),val (vI e.aDa),sl .v (e.Order.map ar),sl .v (e.aC6.map (aO p5 p6 p7 p8 p9)),sl .v (e.Done.map (bd p11 p12 p13 p14)),sl .v (e.aDi.map (ba p16 p17 p18)),val (vI e.Steps)])] (aA [(true,[sl bH ((fP e).Store.aC5.map (aG bc ai)),val (vI (fP e).Store.Now),val (vI (fP e).aDa),sl ai ((fP e).Order.map ar),sl ct ((fP e).aC6.map (aO aH ai ai aJ ai)),sl ck ((fP e).Done.map (bd aH ai aJ ai)),sl cl ((fP e).aDi.map (ba ai ai ai)),val (vI (fP e).Steps)])]):=by
 refine sF func243 fun h0 w0 Fz0=>?_
 refine sn 0 0 fun hl0_0=>?_
 refine sn 0 3 fun hl0_3=>?_
 refine sn 0 4 fun hl0_4=>?_
 refine sn 0 5 fun hl0_5=>?_
 refine sn 0 6 fun hl0_6=>?_
 have hbu:=hb
 simp only [aZ,fk,gN,go] at hbu
 refine np ?_
 refine sT [1,2] [1,2] ?_
 refine CS ?_
 refine kR ?_
 refine Ji ?_
 refine Zh6 ?_
 rintro k hk
 have hfw:=LG e k
 refine bI ?_
 refine kQ ?_
 refine cx 9 ?_ ?_<;>intro ga sga
 refine JX ?_
 refine rB ga ?_ (x:=cL fi fu Tq (hs:=by exact (TG (e:=eA e k) ab)))
 refine rG ?_
 refine cx 13 ?_ ?_<;>intro gb sgb
 refine rB gb ?_ (x:=lF gP)
 refine rB gb ?_ (x:=lD [sl .v _] fe)
 refine rB gb ?_ (x:=lN cY)
 refine rB gb ?_ (x:=iN)
 refine jP ?_
 refine sc ?_ ?_<;>intro hba
 have hns:pH (eA e k)=false:=XJ
 have hlt:k < 200:=ln
 refine aY ?_
 refine sH [1,2,3,4] [1,2,3] ?_
 refine je ?_
 refine rA ?_ (x:=cL fi fu alY (hs:=by exact (anU (e:=eA e k) ab)))
 refine zzl ?_
 refine sW [1,2,3,4] [1,2] [3] ?_
 exact Zh8
 exact HR
 exact Zha
 refine ip ?_
 refine rN 13 ?_
 exact Zhb
def aBD(hb:aZ e≤68718000000):aE prog 213 [(true,[sl .v (e.Store.aC5.map (aG p1 p2)),val (vI e.Store.Now),val (vI e.aDa),sl .v (e.Order.map ar),sl .v (e.aC6.map (aO p5 p6 p7 p8 p9)),sl .v (e.Done.map (bd p11 p12 p13 p14)),sl .v (e.aDi.map (ba p16 p17 p18)),val (vI e.Steps)])] (aA [(true,[sl bH ((fP e).Store.aC5.map (aG bc ai)),val (vI (fP e).Store.Now),val (vI (fP e).aDa),sl ai ((fP e).Order.map ar),sl ct ((fP e).aC6.map (aO aH ai ai aJ ai)),sl ck ((fP e).Done.map (bd aH ai aJ ai)),sl cl ((fP e).aDi.map (ba ai ai ai)),val (vI (fP e).Steps)])]):=by
 refine sF func213 fun h0 w0 Fz0=>?_
 refine sn 0 0 fun hl0_0=>?_
 refine sn 0 3 fun hl0_3=>?_
 refine sn 0 4 fun hl0_4=>?_
 refine sn 0 5 fun hl0_5=>?_
 refine sn 0 6 fun hl0_6=>?_
 have hbu:=hb
 simp only [aZ,fk,gN,go] at hbu
 refine np ?_
 refine sT [1,2] [1,2] ?_
 refine zG ?_
 refine kR ?_
 refine Ji ?_
 refine Zh6 ?_
 rintro k hk
 have hfw:=LG e k
 refine bI ?_
 refine kQ ?_
 refine cx 11 ?_ ?_<;>intro ga sga
 refine JX ?_
 refine rB ga ?_ (x:=cL fi fu EN (hs:=by exact (TH (e:=eA e k) ab)))
 refine rG ?_
 refine cx 15 ?_ ?_<;>intro gb sgb
 refine rB gb ?_ (x:=lF gP)
 refine rB gb ?_ (x:=lD [sl .v _] fe)
 refine rB gb ?_ (x:=lN cY)
 refine rB gb ?_ (x:=iN)
 refine jP ?_
 refine sc ?_ ?_<;>intro hba
 have hns:pH (eA e k)=false:=XJ
 have hlt:k < 200:=ln
 refine aY ?_
 refine sT [1,2,3,4] [1,2,3] ?_
 refine je ?_
 refine rA ?_ (x:=cL fi fu al1 (hs:=by exact (anV (e:=eA e k) ab)))
 refine xL ?_
 refine sW [1,2,3,4,5,6] [1,2,3] [5] ?_
 refine ph ?_
 refine sW [1,2,3,4,5,6] [1,2] [3,5] ?_
 exact Zh8
 exact HR
 exact Zha
 refine ip ?_
 refine rN 15 ?_
 exact Zhb
def aBE{id:Int}(hb:aZ e≤68718000000):aE prog 244 [(true,[sl .v (e.Store.aC5.map (aG p1 p2)),val (vI e.Store.Now),val (vI e.aDa),sl .v (e.Order.map ar),sl .v (e.aC6.map (aO p5 p6 p7 p8 p9)),sl .v (e.Done.map (bd p11 p12 p13 p14)),sl .v (e.aDi.map (ba p16 p17 p18)),val (vI e.Steps)]),(false,[val (vI id)])] (aA [(true,[val (vI (fD e id).1.aC7.Id),val (vI (fD e id).1.aC7.aDb),sl aH ((fD e id).1.aC7.aC8.map bM),sl ai ((fD e id).1.aC7.Out.map ar),val (vI (fD e id).1.Time),val (vI (fD e id).1.Steps),sl aJ ((fD e id).1.Rows.map (ci ai))]),(false,[val (.bool (fD e id).2)])]):=by
 refine sF func244 fun h0 w0 Fz0=>?_
 refine sn 0 0 fun hl0_0=>?_
 refine sn 0 3 fun hl0_3=>?_
 refine sn 0 4 fun hl0_4=>?_
 refine sn 0 5 fun hl0_5=>?_
 refine sn 0 6 fun hl0_6=>?_
 have hbu:=hb
 simp only [aZ,fk,gN,go] at hbu
 refine io ?_
 refine JN ?_
 refine dp ?_
 refine sT [1,2,4,5] [2,4] ?_
 refine Ea ?_
 refine sc ?_ ?_<;>intro hba
 have hr:=aow (id:=id) (by simpa using hba:aU e=false)
 refine sS [1,2,4,5] [2,4] ?_
 exact Zhc
 have hok:aU e=true:=cR
 refine cg ?_
 refine sS [1,2,4,5] [2,4] ?_
 refine Ah ?_
 refine rA ?_ (x:=hP)
 refine rS ?_
 refine jH ?_
 refine sP [1,2,4,5,6] [2,4] ?_
 refine sL [1,2,4] [2,4] (fun k:Nat=>k≤e.Done.length∧(∀f∈e.Done.drop (e.Done.length - k),f.aC7.Id≠id)) (fun k:Nat=>[(6,RV.int ((e.Done.length:Int) - 1 - (k:Int)))]) (fun k:Nat=>[]) (fun k:Nat=>e.Done.length - k) 0 jp oa ao ?_
 rintro k ⟨hk,ha⟩
 refine bI ?_
 refine rA ?_ (x:=jc)
 refine sc ?_ ?_<;>intro hbb
 have hlt:k < e.Done.length:=ab
 have hwm:=dK (f:=nw) (show e.Done.length - 1 - k < e.Done.length by omega)
 refine aY ?_
 refine sT [1,2,4,6] [2,4] ?_
 refine zQ ?_
 refine PR ?_
 refine rA ?_ (x:=cr ak pz ay)
 refine zS ?_
 refine vE ?_
 refine sc ?_ ?_<;>intro hbc
 have hr:=aou hlt hok ha uM
 refine sS [1,2,4,6] [2,4] ?_
 refine zQ ?_
 refine Zhe ?_
 refine rA ?_ (x:=cL zm Hf alX (hs:=by exact (amL (x:=e.Done[e.Done.length - 1 - k]) ab)))
 exact Ph
 have hno:¬e.Done[e.Done.length - 1 - k].aC7.Id=id:=uM
 refine aK ?_
 refine sG [1,2,4,6] [2,4] ?_
 refine xC ?_
 refine rS ?_
 refine nx (k+1) (by exact ⟨ab,aox hlt ha hno⟩) (e:=oa)
 have hend:k=e.Done.length:=ab
 have hr:=aov (id:=id) hok (by rw [hend,Nat.sub_self,List.drop_zero] at ha;exact ha)
 refine be ?_
 refine sT [1,2,4,6] [2,4] ?_
 exact Zhc
def aBF{ws:List an}(c:UInt8)(hs:s.length≤1048576)(hw:aq c s=ws):et prog gl 99 [(false,[val (.string (B s))]),(false,[val (.string (B [c]))])] (aA [(false,[sl jG (ws.map fm)])]):=by
 subst hw;exact Vu c hs
def aBG(a b:UInt8)(hs:s.length≤1048576):et prog gl 242 [(false,[val (.string (B s))]),(false,[val (.string (B [a]))]),(false,[val (.string (B [b]))])] (aA [(false,[val (.string (B (Lib.replaceAll s [a] [b])))])]):=arw (gm:=0) (G:=gl) (fun h=>h.2.1) Tryz.strings_ReplaceAll ab (Nat.le_refl 1) (aBd a b hs)
def aBH(hl:s.length≤1048576):aE prog 50 [(false,[val (.string (B s))]),(false,[val (.int .u8 10)])] (aA [(false,[sl jG ((aq 10 s).map fm)])]):=LH hl (b:=10) ak ak
def aBI{l:List Row}(h0l:l=[]):aE prog 240 [(false,[sl .v (l.map (ci p1))])] (aA [(false,[val (.bool true)])]):=by
 refine sF func240 fun h0 w0 Fz0=>?_
 refine sj 0 fun hl0=>?_
 subst h0l
 refine tC ?_
 refine vm ?_
 refine Jn ?_
 refine sL [0,5,6] [] (fun k:Nat=>k≤([]:List Row).length) (fun k:Nat=>[(7,RV.int (k:Int))]) (fun k:Nat=>[]) (fun k:Nat=>([]:List Row).length - k) 0 ab bu ao ?_
 rintro k hk
 refine bP ?_
 refine sc ?_ ?_<;>intro hba
 exact absurd hba aP
 refine Jo ?_
 refine JE ?_
 refine rM ?_
 refine cx 29 ?_ ?_<;>intro ga sga
 refine zbr ?_
 refine iq ?_
 exact Cr
 exact absurd ga ak
def aBJ{rows:List Row}{n:Int}(h0l:rows=[]):aE prog 185 [(false,[sl .v (rows.map (ci p1))]),(false,[val (vI n)])] (aA [(true,[sl bH ((ik [] n).1.aC5.map (aG bc ai)),val (vI (ik [] n).1.Now)]),(false,[val (.bool (ik [] n).2)])]):=by
 refine sF func185 fun h0 w0 Fz0=>?_
 refine sj 0 fun hl0=>?_
 subst h0l
 refine sR ?_
 refine vT ?_
 refine dp ?_
 refine sT [0,1,4,5] [4] ?_
 refine cv ?_
 refine rA ?_ (x:=cL cf cC aub (hs:=by exact (aBI (l:=[]) rfl)))
 refine dq ?_
 refine cx 13 ?_ ?_<;>intro ga sga
 refine ko ?_
 refine rY 18 ?_
 refine kS ?_
 exact Pi
 refine fI ?_
 refine CU ?_
 refine nq ?_
 refine cx 18 ?_ ?_<;>intro gb sgb
 refine tK ?_
 exact Pi
 refine pm ?_
 refine rB gb ?_ (x:=lN iu)
 refine ir ?_
 refine rB gb ?_ (x:=MY ak (bq rfl) ao (by have h2_:aF n 1 8=true:=cS;simp only [aF,aR,decide_eq_true_eq] at h2_;unfold dN;omega))
 refine IY ?_
 refine sc ?_ ?_<;>intro hba
 exact Pi
 have hin:1≤n∧n≤8:=by first|omega|(simp_all [aF];done)|(simp_all [aF];omega)
 have hok:nX [] n=true:=aBk hin
 refine aK ?_
 refine sS [0,1,4,5] [4] ?_
 refine rM ?_
 refine rX ?_ (x:=(aqs (m:=n.toNat) ak gG EP rfl avo ao ao (by first|exact rfl|omega) (by first|exact rfl|omega) ab ab))
 refine rA ?_ (x:=cz (qs:=cf) (cs:=jM) ak ES EV aph aj cN rfl aj)
 refine vG ?_
 refine sV [0,1,4,5,6] [4] [6] ?_
 refine vm ?_
 refine dm ?_
 refine sP [0,1,4,5,6,29,30,31] [4,6] ?_
 refine sL [0,1,4,5,6,29,30] [4,6] (fun k:Nat=>k≤([]:List Row).length) (fun k:Nat=>[(31,RV.int (k:Int))]) (fun k:Nat=>[]) (fun k:Nat=>([]:List Row).length - k) 0 ab bu ao ?_
 rintro k hk
 refine bP ?_
 refine sc ?_ ?_<;>intro hbb
 exact absurd hbb aP
 refine be ?_
 refine sT [0,1,4,5,6,29,30,31] [4,6] ?_
 refine xH ?_
 exact (bi 4 (bi _ (aI aj (aI (by refine dS ?_;rw [FD hok,aBl];simp only [List.map_replicate];exact rfl) (aI iH (aI (fun h=>nomatch h) (aI (by refine dQ ?_;rw [FD hok]) tI)))))))
def aBK{w:an}(hb:aZ e≤70000000)(hi:dw e)(hl:w.length≤1048576):et prog gl 186 [(true,[sl .v (e.Store.aC5.map (aG .v .v)),val (vI e.Store.Now),val (vI e.aDa),sl .v (e.Order.map ar),sl .v (e.aC6.map (aO .v .v .v .v .v)),sl .v (e.Done.map (bd .v .v .v .v)),sl .v (e.aDi.map (ba .v .v .v)),val (vI e.Steps)]),(false,[val (.string (B w))])] (aA [(true,[sl .v ((fZ e w).1.Store.aC5.map (aG .v .v)),val (vI (fZ e w).1.Store.Now),val (vI (fZ e w).1.aDa),sl .v ((fZ e w).1.Order.map ar),sl .v ((fZ e w).1.aC6.map (aO .v .v .v .v .v)),sl .v ((fZ e w).1.Done.map (bd .v .v .v .v)),sl .v ((fZ e w).1.aDi.map (ba .v .v .v)),val (vI (fZ e w).1.Steps)]),(false,[val (.string (B (fZ e w).2))])]):=by
 refine im (rs:=[(true,[sl .v ((fZ e w).1.Store.aC5.map (aG .v .v)),val (vI (fZ e w).1.Store.Now),val (vI (fZ e w).1.aDa),sl .v ((fZ e w).1.Order.map ar),sl .v ((fZ e w).1.aC6.map (aO .v .v .v .v .v)),sl .v ((fZ e w).1.Done.map (bd .v .v .v .v)),sl .v ((fZ e w).1.aDi.map (ba .v .v .v)),val (vI (fZ e w).1.Steps)]),(false,[val (.string (B (fZ e w).2))])]) func186 rfl (nl rfl) aQ ?_
 intro h0 w0 Fz0
 refine sn 0 0 fun hl0_0=>?_
 refine sn 0 3 fun hl0_3=>?_
 refine sn 0 4 fun hl0_4=>?_
 refine sn 0 5 fun hl0_5=>?_
 refine sn 0 6 fun hl0_6=>?_
 have hll1:=(fO.1 hi.ok).l1
 have hbu:=hb
 simp only [aZ,fk,gN,go] at hbu
 refine np ?_
 refine dp ?_
 refine sT [1,2,4,5,7000] [2,4] ?_
 refine rM ?_
 refine jH ?_
 refine Dw ?_
 refine sc ?_ ?_<;>intro hba
 have hw_:w=([97,100,97,112,116]:an):=cR
 subst hw_
 have hr:=aoZ e
 have hoo:cb (fC e).Order=true:=(fO.1 (FI hi (oK e)).ok).od
 have hol3:=VR hoo
 have hoi:=ape hoo
 have hol:=aBg hoo
 have hrp:=aBf hoo
 refine QD ?_
 refine rA ?_ (x:=cL fi fu auc (hs:=by exact (aAR (e:=e) ab)))
 refine ub ?_
 refine bg ?_
 refine sU [1,2,4,5,8,7000] [4] [2] ?_
 refine vf (d:=2) lB aj BF aQ ?_
 refine sU [1,2,4,5,8,7000] [4] [2] ?_
 refine tv ?_
 refine AH ?_
 refine dA 2 ?_ (x:=lD [sl .v _] bZ)
 refine dA 6 ?_ (x:=gL cf cC KF (hs:=by exact (KL hoi ab)))
 refine dA 14 ?_ (x:=gL cF cF aud (hs:=by exact (aBG 44 32 ab)))
 refine dA 31 ?_ (x:=bR (ag:=true) (vs:=dV) dg ao aj ay)
 refine dA 63 ?_ (x:=sA)
 exact CG
 have hat:¬w=([97,100,97,112,116]:an):=cR
 refine Dw ?_
 refine sc ?_ ?_<;>intro hbb
 have hw_:w=([102,105,110,105,115,104]:an):=gy
 subst hw_
 have hr:=ao0 e
 have hs1:=BD hi
 have hs2:0≤(fP e).Steps∧(fP e).Steps≤100000:=BD (LK hi)
 refine QD ?_
 refine rA ?_ (x:=cL fi fu aue (hs:=by exact (aBC (e:=e) ab)))
 refine kR ?_
 refine sU [1,2,4,5,6,8,7000] [2,4] [6] ?_
 refine Zhk ?_
 refine sU [1,2,4,5,6,8,7000] [2,4] [6] ?_
 refine tv ?_
 refine vV ?_
 refine dA 2 ?_ (x:=lD [val _] aV)
 refine vV ?_
 refine dA 8 ?_ (x:=lD [val _] aV)
 refine dA 30 ?_ (x:=hP)
 refine dA 62 ?_ (x:=gL aM aM jV (hs:=jE))
 refine Zhl ?_
 exact CG
 have hfh:¬w=([102,105,110,105,115,104]:an):=gy
 have hr0:=ao1 (e:=e) hat hfh
 refine Dw ?_
 refine sc ?_ ?_<;>intro hbc
 have hw_:w=([101,110,103,105,110,101]:an):=gx
 subst hw_
 have hr:=hr0.trans (congrArg (Prod.mk e) (ao2 e))
 refine bg ?_
 refine sP [1,2,4,5,8,7000] [2,4] ?_
 refine tv ?_
 refine JY ?_
 refine dA 2 ?_ (x:=gL fi fu atK (hs:=by exact (awK (e:=e) ab)))
 exact Zhn
 have hee:¬w=([101,110,103,105,110,101]:an):=gx
 refine Dw ?_
 refine sc ?_ ?_<;>intro hbd
 have hw_:w=([99,104,97,114,103,101,115]:an):=oX
 subst hw_
 have hr:=hr0.trans (congrArg (Prod.mk e) (ao3 e))
 refine bg ?_
 refine sP [1,2,4,5,8,7000] [2,4] ?_
 refine tv ?_
 refine dA 0 ?_ (x:=lF nI)
 refine dA 2 ?_ (x:=lD [sl .v _] nM)
 refine dA 6 ?_ (x:=gL cf cC auC (hs:=by exact (aAK (l:=e.aDi) ab)))
 refine dA 15 ?_ (x:=bR (ag:=true) (vs:=dV) dg ao aj ay)
 refine dA 31 ?_ (x:=sA)
 exact CG
 have hcs:¬w=([99,104,97,114,103,101,115]:an):=oX
 refine Dw ?_
 refine sc ?_ ?_<;>intro hbe
 have hw_:w=([97,99,116,105,118,101]:an):=sI
 subst hw_
 have hal:=alA e
 have ha8:=(fO.1 hi.ok).a8
 have hat_:=aoM hi
 have hr1:=hr0.trans (congrArg (Prod.mk e) (ao4 e))
 refine QD ?_
 refine rA ?_ (x:=gL fi fu atD (hs:=by exact (awA (e:=e) ab)))
 refine iP ?_
 refine sS [1,2,4,5,7,8,7000] [2,4] ?_
 refine nn ?_
 refine jw ?_
 refine sc ?_ ?_<;>intro hbf
 have hz_:eg e=[]:=iJ ab
 have hr:=hr1.trans (congrArg (Prod.mk e) (aBh hz_))
 refine sS [1,2,4,5,7,8,7000] [2,4] ?_
 exact Zho
 have hz_:¬eg e=[]:=fun e_=>absurd (congrArg List.length e_) (by simp only [List.length_nil];omega)
 have hr:=hr1.trans (congrArg (Prod.mk e) (apf hz_))
 have hjl:(cI (eg e) [59,32]).length≤2000:=by rw [←apf hz_];exact hat_
 refine cg ?_
 refine sP [1,2,4,5,7,8,7000] [2,4] ?_
 refine tv ?_
 refine my ?_
 refine dA 2 ?_ (x:=cL gJ gK Bh (hs:=by exact (Bn (xs:=eg e) (sep:=[59,32]) ab ab)))
 exact Zhn
 have hae:¬w=([97,99,116,105,118,101]:an):=sI
 have hr:=hr0.trans (congrArg (Prod.mk e) (ao5 hee hcs hae))
 refine aK ?_
 refine sS [1,2,4,5,8,7000] [2,4] ?_
 exact Zho
def aBL{w:an}(hb:aZ e≤70000000)(hl:s.length≤1048576)(hwl:w.length≤1048576):et prog gl 187 [(true,[sl .v (e.Store.aC5.map (aG p1 p2)),val (vI e.Store.Now),val (vI e.aDa),sl .v (e.Order.map ar),sl .v (e.aC6.map (aO p5 p6 p7 p8 p9)),sl .v (e.Done.map (bd p11 p12 p13 p14)),sl .v (e.aDi.map (ba p16 p17 p18)),val (vI e.Steps)]),(false,[val (.string (B w))]),(false,[val (.string (B s))])] (aA [(false,[val (.string (B (lm e w s)))])]):=by
 refine im (rs:=[(false,[val (.string (B (lm e w s)))])]) func187 rfl (nl rfl) aQ ?_
 intro h0 w0 Fz0
 refine sn 0 0 fun hl0_0=>?_
 refine sn 0 3 fun hl0_3=>?_
 refine sn 0 4 fun hl0_4=>?_
 refine sn 0 5 fun hl0_5=>?_
 refine sn 0 6 fun hl0_6=>?_
 have hbu:=hb
 simp only [aZ] at hbu
 have hnl:=axP s
 refine io ?_
 refine rK ?_
 refine sT [1,2,3,6,7000] [3] ?_
 refine rM ?_
 refine xt ?_
 refine rS ?_
 refine dr ?_
 refine sS [1,2,3,6,7,8,7000] [3] ?_
 refine rM ?_
 refine dq ?_
 refine cx 18 ?_ ?_<;>intro ga sga
 refine gY ?_
 exact Zhp
 refine Aa ?_
 refine jQ ?_
 refine sc ?_ ?_<;>intro hba
 exact Zhp
 have hnn:cQ s=true∧0≤bJ s:=by first|(constructor<;>first|omega|(simp_all;done))|(simp_all;done)|(simp_all;omega)
 refine cg ?_
 refine sS [1,2,3,6,7,8,7000] [3] ?_
 refine rM ?_
 refine jH ?_
 refine AR ?_
 refine IF ?_
 refine sc ?_ ?_<;>intro hbb
 have hw_:w=([114,101,115,117,108,116]:an):=gy
 subst hw_
 refine AR ?_
 refine Dk ?_
 refine rA ?_ (x:=cL lz kK auf (hs:=by exact (aBE (e:=e) ab)))
 refine bL ?_
 refine rA ?_ (x:=rj (cs:=vb) (qs:=vc) ak aj LZ aQ)
 refine Zhs ?_
 refine dr ?_
 refine sV [1,2,3,6,7,8,9,10,22,7000] [3] [9] ?_
 refine qi ?_
 refine sc ?_ ?_<;>intro hbc
 have hr:=aBc (e:=e) hnn gx
 refine sS [1,2,3,6,7,8,9,10,22,7000] [3,9] ?_
 exact zC
 have hr:=aBb (e:=e) hnn gx
 refine aK ?_
 refine sS [1,2,3,6,7,8,9,10,22,7000] [3,9] ?_
 refine rA ?_ (x:=lD vc ux)
 refine rA ?_ (x:=gL zm Hf aut (hs:=by exact (aAF (x:=(fD e (bJ s)).1))))
 refine rS ?_
 exact CH
 have hrt:¬w=([114,101,115,117,108,116]:an):=gy
 refine AR ?_
 refine IF ?_
 refine sc ?_ ?_<;>intro hbc
 have hw_:w=([115,101,103,109,101,110,116]:an):=gx
 subst hw_
 refine AR ?_
 refine rM ?_
 refine xv ?_
 refine dC ?_
 refine sc ?_ ?_<;>intro hbd
 have hr:=ao7 (e:=e) hnn ab
 refine AR ?_
 refine zV ?_
 refine rM ?_
 refine rA ?_ (x:=gL [(true,jM),(false,[val _])] Hb aui (hs:=by exact (aAI (s:=e.Store) (i:=bJ s) ab)))
 refine rS ?_
 exact CH
 have hr:=VO (e:=e) hnn hrt (fun h_=>by omega)
 exact Zhv
 have hst:¬w=([115,101,103,109,101,110,116]:an):=gx
 have hr:=VO (e:=e) hnn hrt (fun h_=>hst h_.1)
 exact Zhv
def aBM{l:an}(hb:aZ e≤70000000)(hci:CI e)(hl:l.length≤1048576):et prog gl 100 [(true,[sl .v (e.Store.aC5.map (aG .v .v)),val (vI e.Store.Now),val (vI e.aDa),sl .v (e.Order.map ar),sl .v (e.aC6.map (aO .v .v .v .v .v)),sl .v (e.Done.map (bd .v .v .v .v)),sl .v (e.aDi.map (ba .v .v .v)),val (vI e.Steps)]),(false,[val (.string (B l))])] (aA [(true,[sl .v ((cV e l).1.Store.aC5.map (aG .v .v)),val (vI (cV e l).1.Store.Now),val (vI (cV e l).1.aDa),sl .v ((cV e l).1.Order.map ar),sl .v ((cV e l).1.aC6.map (aO .v .v .v .v .v)),sl .v ((cV e l).1.Done.map (bd .v .v .v .v)),sl .v ((cV e l).1.aDi.map (ba .v .v .v)),val (vI (cV e l).1.Steps)]),(false,[val (.string (B (cV e l).2))])]):=by
 refine im (rs:=[(true,[sl .v ((cV e l).1.Store.aC5.map (aG .v .v)),val (vI (cV e l).1.Store.Now),val (vI (cV e l).1.aDa),sl .v ((cV e l).1.Order.map ar),sl .v ((cV e l).1.aC6.map (aO .v .v .v .v .v)),sl .v ((cV e l).1.Done.map (bd .v .v .v .v)),sl .v ((cV e l).1.aDi.map (ba .v .v .v)),val (vI (cV e l).1.Steps)]),(false,[val (.string (B (cV e l).2))])]) func100 rfl (nl rfl) aQ ?_
 intro h0 w0 Fz0
 refine sn 0 0 fun hl0_0=>?_
 refine sn 0 3 fun hl0_3=>?_
 refine sn 0 4 fun hl0_4=>?_
 refine sn 0 5 fun hl0_5=>?_
 refine sn 0 6 fun hl0_6=>?_
 have hsl:=nU 32 l
 have h0w:0 < (aq 32 l).length:=ab
 have hwd0:=ij 32 l 0
 have hwd1:=ij 32 l 1
 refine np ?_
 refine rK ?_
 refine sT [1,2,4,5,7000] [2,4] ?_
 refine Qr ?_
 refine iP ?_
 refine yb ?_
 refine Dm ?_
 refine rz ?_
 refine cx 28 ?_ ?_<;>intro ga sga
 refine QP ?_
 refine vo ?_
 refine sc ?_ ?_<;>intro hba
 have htb:((aq 32 l).getD 0 []=[116,97,98,108,101]∧(aq 32 l).length=2):=eO
 have hit:=aoR htb
 have h1w:1 < (aq 32 l).length:=ab
 have hr0:=aoS (e:=e) hit
 refine yb ?_
 refine vp ?_
 refine xt ?_
 refine oq ?_
 refine sS [1,2,4,5,6,7,8,7000] [2,4] ?_
 refine rM ?_
 refine rA ?_ (x:=cL gJ gK atP (hs:=by exact (aBJ (p1:=.v) (rows:=[]) rfl)))
 refine At ?_
 refine zD ?_
 refine dr ?_
 refine sV [1,2,4,5,6,7,8,9,10,7000] [2,4] [9] ?_
 refine qi ?_
 refine sc ?_ ?_<;>intro hbb
 have hr:=hr0.trans (aoW gy)
 refine sS [1,2,4,5,6,7,8,9,10,7000] [2,4,9] ?_
 exact HS
 have hr:=hr0.trans (aoV gy)
 refine aK ?_
 refine sS [1,2,4,5,6,7,8,9,10,7000] [2,4,9] ?_
 refine Ei ?_
 refine JZ ?_
 refine rA ?_ (x:=cz (qs:=Hg) (cs:=dV) ak sk sq api aj iY rfl aj)
 refine Za3 ?_
 refine vf (d:=4) lB aj (by exact (az.cons (PV.to_map (fun _=>(az.cons (PV.to_map (fun _=>(aB (az.cons (PV.to_map (fun _=>(aB az.nil))) (aB (aB az.nil)))))) az.nil))) (aB (aB (bf (bf (bf (bf (aB az.nil))))))))) aQ ?_
 exact CJ
 have htb:¬((aq 32 l).getD 0 []=[116,97,98,108,101]∧(aq 32 l).length=2):=eO
 have hit:=LP htb
 refine cg ?_
 refine yb ?_
 refine xv ?_
 refine jw ?_
 refine sc ?_ ?_<;>intro hbb
 exact Zi0
 have hsg:0 < e.Store.aC5.length:=ab
 have hi:=hci.of hsg
 refine aK ?_
 refine yb ?_
 refine rM ?_
 refine Zi1 ?_
 refine HX ?_
 refine Ie ?_
 refine dr ?_
 refine sV [1,2,4,5,6,11,12,7000] [2,4] [11] ?_
 refine rM ?_
 refine sc ?_ ?_<;>intro hbc
 have hpe:(bE l).isSome=true:=gx
 have hxw:=Lx l
 refine Ka ?_
 refine Ig ?_
 refine Zi6 ?_
 refine vi ?_
 refine tt ?_
 refine dr ?_
 refine sV [1,2,4,5,6,11,12,13,14,7000] [2,4,11] [13] ?_
 refine qi ?_
 refine sc ?_ ?_<;>intro hbd
 have hd_:(dv e ((bE l).getD cH)).2=false:=oX
 exact Zi8
 have hd_:(dv e ((bE l).getD cH)).2=true:=oX
 exact Zi9
 have hpe:(bE l).isSome=false:=gx
 have hr0:=LQ hit hsg hpe
 refine cg ?_
 refine Ka ?_
 refine nn ?_
 refine jH ?_
 refine zW ?_
 refine sc ?_ ?_<;>intro hbd
 exact Zib
 have hn1:(aq 32 l).length≠1:=ab
 refine zW ?_
 refine sc ?_ ?_<;>intro hbe
 exact Zic
 have hn2:(aq 32 l).length≠2:=ab
 refine zW ?_
 refine sc ?_ ?_<;>intro hbf
 have hw4:(aq 32 l).length=4:=ab
 have hd1:((aq 32 l).drop 1).length=3:=sK
 have hos:=aoQ hw4
 refine Kb ?_
 refine jO ?_
 refine sS [1,2,4,5,6,11,12,15,74,7000] [2,4,11] ?_
 refine Zie ?_
 refine rA ?_ (x:=lN dc)
 refine dm ?_
 refine Zif ?_
 rintro k hk
 refine bP ?_
 refine sc ?_ ?_<;>intro hbg
 have hlt:k < ((aq 32 l).drop 1).length:=ab
 have hwk:=qO (List.mem_of_mem_drop (List.getElem_mem hlt))
 have htl:(((aq 32 l).drop 1).take k).length=k:=dh
 have hfl:=jr cQ (((aq 32 l).drop 1).take k)
 refine aY ?_
 refine Sc ?_
 refine zN ?_
 refine rS ?_
 refine Zih ?_
 refine rM ?_
 refine sc ?_ ?_<;>intro hbh
 have hnm:cQ ((aq 32 l).drop 1)[k]=true:=by simpa using hbh
 exact Zii
 have hnm:cQ ((aq 32 l).drop 1)[k]=false:=by simpa using hbh
 refine aK ?_
 exact Pj
 have hend:k=((aq 32 l).drop 1).length:=ab
 subst hend
 rw [bG]
 have hol:(oR (aq 32 l)).length≤3:=WU
 refine be ?_
 refine Zik ?_
 refine Zil ?_
 refine xL ?_
 refine Zim ?_
 refine rz ?_
 refine cx 126 ?_ ?_<;>intro gb sgb
 refine Dy ?_
 refine sc ?_ ?_<;>intro hbh
 exact Zin
 exact Pk
 exact Zip
 exact Ziq
 refine nt ?_
 have htb:¬((aq 32 l).getD 0 []=[116,97,98,108,101]∧(aq 32 l).length=2):=eO
 have hit:=LP htb
 refine cg ?_
 refine yb ?_
 refine xv ?_
 refine jw ?_
 refine sc ?_ ?_<;>intro hba
 exact Zi0
 have hsg:0 < e.Store.aC5.length:=ab
 have hi:=hci.of hsg
 refine aK ?_
 refine yb ?_
 refine rM ?_
 refine Zi1 ?_
 refine HX ?_
 refine Ie ?_
 refine dr ?_
 refine sV [1,2,4,5,6,11,12,7000] [2,4] [11] ?_
 refine rM ?_
 refine sc ?_ ?_<;>intro hbb
 have hpe:(bE l).isSome=true:=gy
 have hxw:=Lx l
 refine Ka ?_
 refine Ig ?_
 refine Zi6 ?_
 refine vi ?_
 refine tt ?_
 refine dr ?_
 refine sV [1,2,4,5,6,11,12,13,14,7000] [2,4,11] [13] ?_
 refine qi ?_
 refine sc ?_ ?_<;>intro hbc
 have hd_:(dv e ((bE l).getD cH)).2=false:=gx
 exact Zi8
 have hd_:(dv e ((bE l).getD cH)).2=true:=gx
 exact Zi9
 have hpe:(bE l).isSome=false:=gy
 have hr0:=LQ hit hsg hpe
 refine cg ?_
 refine Ka ?_
 refine nn ?_
 refine jH ?_
 refine zW ?_
 refine sc ?_ ?_<;>intro hbc
 exact Zib
 have hn1:(aq 32 l).length≠1:=ab
 refine zW ?_
 refine sc ?_ ?_<;>intro hbd
 exact Zic
 have hn2:(aq 32 l).length≠2:=ab
 refine zW ?_
 refine sc ?_ ?_<;>intro hbe
 have hw4:(aq 32 l).length=4:=ab
 have hd1:((aq 32 l).drop 1).length=3:=sK
 have hos:=aoQ hw4
 refine Kb ?_
 refine jO ?_
 refine sS [1,2,4,5,6,11,12,15,74,7000] [2,4,11] ?_
 refine Zie ?_
 refine rA ?_ (x:=lN dc)
 refine dm ?_
 refine Zif ?_
 rintro k hk
 refine bP ?_
 refine sc ?_ ?_<;>intro hbf
 have hlt:k < ((aq 32 l).drop 1).length:=ab
 have hwk:=qO (List.mem_of_mem_drop (List.getElem_mem hlt))
 have htl:(((aq 32 l).drop 1).take k).length=k:=dh
 have hfl:=jr cQ (((aq 32 l).drop 1).take k)
 refine aY ?_
 refine Sc ?_
 refine zN ?_
 refine rS ?_
 refine Zih ?_
 refine rM ?_
 refine sc ?_ ?_<;>intro hbg
 have hnm:cQ ((aq 32 l).drop 1)[k]=true:=by simpa using hbg
 exact Zii
 have hnm:cQ ((aq 32 l).drop 1)[k]=false:=by simpa using hbg
 refine aK ?_
 exact Pj
 have hend:k=((aq 32 l).drop 1).length:=ab
 subst hend
 rw [bG]
 have hol:(oR (aq 32 l)).length≤3:=WU
 refine be ?_
 refine Zik ?_
 refine Zil ?_
 refine xL ?_
 refine Zim ?_
 refine rz ?_
 refine cx 126 ?_ ?_<;>intro gb sgb
 refine Dy ?_
 refine sc ?_ ?_<;>intro hbg
 exact Zin
 exact Pk
 exact Zip
 exact Ziq
def aBN(hl:s.length≤1048576):et prog gl 34 [(false,[val (.string (B s))])] (aA [(false,[val (.string (B (FK s)))])]):=by
 refine im (rs:=[(false,[val (.string (B (FK s)))])]) func34 rfl (nl rfl) (jI (aW.cons (bor_val _) aW.nil) kJ) ?_
 intro h0 w0 Fz0
 obtain ⟨ws,hws⟩:∃ws,aq 10 s=ws:=⟨_,rfl⟩
 have hsl:=nU 10 s
 rw [hws] at hsl
 have hlw:ws.length - 1 < ws.length:=ab
 refine Jw ?_
 refine rM ?_
 refine rA ?_ (x:=gL dl dl Tw (hs:=by exact (aBF 10 ab hws)))
 refine iP ?_
 refine tU ?_
 refine JH ?_
 refine Zis ?_
 refine vZ ?_
 refine sc ?_ ?_<;>intro hba
 have hll:ws.getLastD []=[]:=by rw [LS hlw];simpa using hba
 obtain ⟨ls,hls⟩:∃ls,ws.dropLast=ls:=⟨_,rfl⟩
 have hle:mY s=ls:=by rw [apb Gc,hws,hls]
 have hln:ls.length=ws.length - 1:=WG
 refine sG [0,2,3,7000] [] ?_
 refine JH ?_
 refine Zit ?_
 exact Ziu
 have hll:¬ws.getLastD []=[]:=by rw [LS hlw];simpa using hba
 have hle:mY s=ws:=by rw [apc Gc,hws]
 obtain ⟨ls,rfl⟩:∃ls,ls=ws:=⟨_,rfl⟩
 refine aK ?_
 exact Ziu
end Go.Proofs.YtmekkgdboplbjaaGreatDoor
