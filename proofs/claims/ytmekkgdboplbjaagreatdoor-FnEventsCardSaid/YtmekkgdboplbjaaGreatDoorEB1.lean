/- What functions of the program compute. No condition. -/
import Derived.Test.YtmekkgdboplbjaaGreatDoorEH0
import Derived.Test.YtmekkgdboplbjaaGreatDoorEZ0
import Derived.Test.YtmekkgdboplbjaaGreatDoorEA1
set_option linter.all false
namespace Go.Proofs.YtmekkgdboplbjaaGreatDoor
open Go Go.RowKit M PV Tryz
set_option maxRecDepth 10000
attribute [local irreducible] PV.Lcl PV.LclR RV.Lcl
set_option maxHeartbeats 8000000
attribute [local irreducible] aw hJ
def at6:eA prog 116=some [(0,1),(1,1),(2,1),(3,1)]:=ao
def at7:eA prog 27=some [(0,1),(1,1)]:=ao
def akm:eA prog 29=some [(0,1),(1,2),(3,1),(4,1)]:=ao
def Te:eA prog 31=some [(0,1),(1,4),(5,1),(6,1),(7,5),(12,1)]:=ao
def at8:eA prog 41=some [(0,1),(1,1)]:=ao
def at9:eA prog 46=some [(0,2),(2,1),(3,1),(4,1),(5,1),(6,1),(7,1)]:=ao
def aua{p1:Fl}{l:List Row}:aQ prog 253 [(false,[sl .v (l.map (cD p1))])] (aB [(false,[val (.bool (jU l))])]):=by
 refine sF func253 fun h0 w0 Fz0=>?_
 refine sj 0 fun hl0=>?_
 refine zI ?_
 refine sL [0] [] (fun k:Nat=>k≤l.length∧mT vC bM vD l k=true) (fun k:Nat=>[(3,RV.int (k:Int))]) (fun k:Nat=>[]) (fun k:Nat=>l.length - k) 0 gF bp an ?_
 rintro k ⟨hk,ha⟩
 refine cP ?_
 refine CP ?_
 refine sc ?_ ?_<;>intro hba
 have hlt:k < l.length:=ab
 have hgk:l.getD k vC=l[k]:=fP hlt
 have hgp:0 < k→l.getD (k - 1) vC=l[k - 1]:=fun h=>fP ab
 refine eB ?_
 refine sP [0,3] [] ?_
 refine oG ?_
 refine zjx ?_
 refine dA 15 ?_ (x:=cL [(true,ct)] [(true,fJ)] Rd (hs:=by exact RU))
 refine dA 31 ?_ (x:=nT)
 refine dA 63 ?_ (x:=sM)
 refine dx 16 ?_ ?_<;>intro ga sga
 refine dT 127 ga ?_
 refine dT 255 ga ?_
 refine dT 511 ga ?_
 refine zE ?_
 refine CX ?_
 refine dU 16383 ?_
 refine zE ?_
 refine dU 66559 ?_
 refine dU 230399 ?_
 refine dU 492543 ?_
 refine dU 1016831 ?_
 refine dU 2097151 ?_
 refine HR ?_
 refine cH ?_
 exact ZD
 refine PW ?_
 refine xl ?_
 refine dx 19 ?_ ?_<;>intro gb sgb
 refine zc ?_
 refine dB 4095 gb ?_ (x:=aZ aj mi an ak bE ak)
 refine dB 8191 gb ?_ (x:=cR aj mU az)
 refine dB 16383 gb ?_ (x:=lE [val _] bb)
 refine zc ?_
 refine dB 66559 gb ?_ (x:=jo)
 refine dB 230399 gb ?_ (x:=aZ (k:=k - 1) aj mi an ab bE ak)
 refine dB 492543 gb ?_ (x:=cR aj mU az)
 refine dB 1016831 gb ?_ (x:=lE [val _] bb)
 refine Pv ?_
 refine dA 8388607 ?_ (x:=aR ga)
 refine sc ?_ ?_<;>intro hbb
 exact ZD
 exact ZE
 refine zv ?_
 refine dF 4095 gb ?_
 refine dF 8191 gb ?_
 refine dF 16383 gb ?_
 refine zv ?_
 refine dF 66559 gb ?_
 refine dF 230399 gb ?_
 refine dF 492543 gb ?_
 refine dF 1016831 gb ?_
 refine dF 2097151 gb ?_
 refine PC ?_
 refine gv ?_
 exact ZE
 have hend:k=l.length:=ab
 have hall:fh vC bM vD l=true:=uY ha hend
 refine wS ?_
 refine uy ?_
 refine rA ?_ (x:=kf)
 refine db ?_
 exact rb (by first|(simp_all [jU];done)|(simp_all [jU];rfl)|(simp_all [jU];omega)|(simp_all [jU];intros;omega))
def aub{p1:Fl}{rows:List Row}{n:Int}:aQ prog 203 [(false,[sl .v (rows.map (cD p1))]),(false,[val (vI n)])] (aB [(true,[sl bH ((xW rows n).1.ax2.map (aO bc ai)),val (vI (xW rows n).1.Now)]),(false,[val (.bool (xW rows n).2)])]):=by
 refine sF func203 fun h0 w0 Fz0=>?_
 refine sj 0 fun hl0=>?_
 refine sR ?_
 refine OU ?_
 refine sT [0,1,4,5] [4] ?_
 refine dD ?_
 refine rA ?_ (x:=cL [(false,[sl _ _])] [(false,[sl .v _])] aqq (hs:=by exact aua))
 refine fp ?_
 refine cx 13 ?_ ?_<;>intro ga sga
 refine jH ?_
 refine au.cases (s:=18) rfl (fun g2=>?_) (fun g2=>nomatch g2)
 refine zb ?_
 refine cH ?_
 exact MU
 refine gN ?_
 refine Hj ?_
 refine ly ?_
 refine cx 18 ?_ ?_<;>intro gb sgb
 refine xd ?_
 exact MU
 refine xm ?_
 refine rB gb ?_ (x:=lN mi)
 refine kh ?_
 refine rB gb ?_ (x:=Wd aj an (bi rfl) (by have h1_:jU rows=true∧aK n 1 8=true:=(by first|(simp_all;done)|exact ⟨dO,dO⟩);have h2_:=h1_.2;simp only [aK,aX,decide_eq_true_eq] at h2_;unfold ee;omega))
 refine rB gb ?_ (x:=jE)
 refine pI ?_
 refine sc ?_ ?_<;>intro hba
 exact MU
 have hok:qi rows n=true:=by unfold qi;first|(simp_all;done)|(simp_all;omega)
 obtain ⟨har,hn18,hl4⟩:=SB hok
 have hn0:0 < n.toNat:=ab
 have hr32:=ath har
 have hnn:(n.toNat:Int)=n:=ab
 refine ba ?_
 refine zsd ?_
 refine oz ?_
 refine dC ?_
 refine sO [(0,_),(1,_),(4,_),(5,_),(6,_)] [(4,_),(6,(41,bW))] ?_
 refine aY ?_
 refine cl ?_
 refine sP [0,1,4,5,6,7] [4,6] ?_
 refine sL [0,1,4,5,6] [4] (fun k:Nat=>k≤n.toNat) (fun k:Nat=>[(7,RV.int (k:Int))]) (fun k:Nat=>[(6,(41,[sl bH ((oX rows n.toNat k).map (aO bc ai)),val (vI 0)]))]) (fun k:Nat=>n.toNat - k) 0 ab bp bp ?_
 rintro k hk
 have hsl:=SE (rows:=rows) (n:=n.toNat) (k:=k)
 refine cP ?_
 refine uJ ?_
 refine sc ?_ ?_<;>intro hbb
 have hlt:k < n.toNat:=ab
 refine bv ?_
 refine sT [0,1,4,5,6,7] [4,6] ?_
 refine zG ?_
 refine sS [0,1,4,5,6,7,8] [4,6] ?_
 refine rM ?_
 refine rS ?_
 refine iJ ?_
 refine sP [0,1,4,5,6,7,8,9] [4,6] ?_
 refine sL [0,1,4,5,6,7] [4,6] (fun j:Nat=>j≤rO rows.length n.toNat k) (fun j:Nat=>[(8,RV.slc bc ((rN rows n.toNat k j).map (gG ai))),(9,RV.int ((k+j * n.toNat:Nat):Int))]) (fun j:Nat=>[]) (fun j:Nat=>rO rows.length n.toNat k - j) 0 ab (by exact aI ak (aI jj tI)) an ?_
 rintro j hj
 have htl:=SD (rows:=rows) (n:=n.toNat) (i:=k) (k:=j)
 have hj4:j≤4:=by have h_:=ajW (i:=k) hn0 (rows:=rows) ab;unfold rP at h_;rw [SD] at h_;omega
 refine cP ?_
 refine CP ?_
 refine sc ?_ ?_<;>intro hbc
 have hlt2:k+j * n.toNat < rows.length:=ab
 have hv3:rows[k+j * n.toNat].Values.length=3:=(JT.1 (ajU har hlt2)).2.1
 have hjs:j < rO rows.length n.toNat k:=(Eb hn0 ab).1 hlt2
 refine bv ?_
 refine sQ [0,1,4,5,6,7,8,9] [4,6] ?_
 refine CB ?_
 refine ij ?_
 refine dA 6 ?_ (x:=aZ (k:=k+j * n.toNat) aj mi an fU (by exact fX hlt2 rfl) ak)
 refine dA 14 ?_ (x:=cR aj mU az)
 refine dA 30 ?_ (x:=lE [val _] bb)
 refine tm ?_
 refine ij ?_
 refine dA 384 ?_ (x:=aZ (k:=k+j * n.toNat) aj mi an fU (by exact fX hlt2 rfl) ak)
 refine dA 896 ?_ (x:=cR aj va az)
 refine dA 1920 ?_ (x:=lE [sl .v _] cW)
 refine dA 4032 ?_ (x:=lU aj cn iP rfl rfl aj oo sk bq bq)
 refine dA 8190 ?_ (x:=cy (qs:=[(false,[val _]),(false,[sl _ _]),(false,[val _])]) (cs:=fe) aj iT xR at6 ak (by exact (aI an (aI an (aI (bi rfl) tI)))) rfl ak)
 refine dA 16382 ?_ (x:=cj (qs:=[(true,fe)]) aj dq iT aj rfl rfl rfl rfl rfl az bS rfl)
 refine dA 32767 ?_ (x:=fc aj dq iT rfl rfl aj rfl bq bq)
 refine dA 65535 ?_ (x:=tA)
 refine sG [0,1,4,5,6,7,8,9] [4,6] ?_
 refine rM ?_
 refine cB ?_
 refine nx (j+1) ab (e:=(by exact aI (by exact cz (by rw [atf,bK,←kl hlt2];rfl)) (aI (by exact cX (by rw [Nat.succ_mul];omega)) tI)))
 have hend2:j=rO rows.length n.toNat k:=by
  by_cases hkl:k≤rows.length
  ·have h_:=Eb (k:=j) hn0 hkl;omega
  ·have h_:=SC (n:=n.toNat) hn0 (show rows.length≤k by omega);omega
 refine bI ?_
 refine sH [0,1,4,5,6,7,8,9] [4,6] ?_
 refine zor ?_
 refine cb ?_
 refine zos ?_
 refine zot ?_
 refine sO [(0,_),(1,_),(4,_),(5,_),(6,_),(7,_),(9,_)] [(4,_),(6,(41,bW))] ?_
 refine tj ?_
 refine nx (k+1) ab (e:=nu) (f:=(by exact aI (by rw [atg,bK];unfold rP;rw [←hend2];exact rfl) tI))
 have hend:k=n.toNat:=ab
 subst hend
 refine bI ?_
 refine sT [0,1,4,5,6,7] [4,6] ?_
 refine zM ?_
 exact (bh 4 (bh _ (aI ak (aI (by refine dh ?_;rw [SA hok];exact rfl) (aI hR (aI (fun h=>nomatch h) (aI (by refine eG ?_;rw [SA hok]) tI)))))))
def akn{o:Fl}{c:aG}(hbo:∀es,(sl o es).Bor){p1 p2:Fl}{s:Store}(hs:cg s≤200):ie prog 205 176 (da o c) (da o (fE c s).2) [(true,[sl .v (s.ax2.map (aO p1 p2)),val (vI s.Now)])] (aB [(true,[val (vI (fE c s).1.Kind),val (vI (fE c s).1.Row.Id),sl ai ((fE c s).1.Row.Values.map ar),val (vI (fE c s).1.Field),val (vI (fE c s).1.Value)])]):=by
 refine iX (rs:=[(true,[val (vI (fE c s).1.Kind),val (vI (fE c s).1.Row.Id),sl ai ((fE c s).1.Row.Values.map ar),val (vI (fE c s).1.Field),val (vI (fE c s).1.Value)])]) func205 rfl (nl rfl) (nl rfl) ?_
 intro g_ h0 w0 Fz0
 refine sn 1 0 fun hl1_0=>?_
 have hsw:=hs
 have hal:=vg s
 have hb11:=dW c 12
 have hb12:=dY c (n:=12) aj
 have hb21:=dW (aw c 12).2 4
 have hb22:=dY (aw c 12).2 (n:=4) aj
 have hbs:=hsw
 simp only [cg,iy,bo] at hbs
 refine kN ?_
 refine rX ?_ (x:=(fW aj tC tD))
 refine aU ?_
 refine sO [(0,_),(3,_),(4,_),(5000,_)] [(0,(176,[sl o _,val _,val _])),(3,(41,bW)),(4,(29,eP))] ?_
 refine aY ?_
 refine zhz ?_
 refine dJ ?_
 refine sS [0,3,4,5,5000] [0,3,4] ?_
 refine jp ?_
 refine eU ?_
 refine sS [0,3,4,5,6,5000] [0,3,4] ?_
 refine qX ?_
 refine uC ?_
 refine cx 15 ?_ ?_<;>intro ga sga
 refine rB ga ?_ (x:=cM Cp.ptr)
 refine rB ga ?_ (x:=dP (bx:=0) (qs:=[(false,[val _])]) (as_:=[(false,[val _])]) aj RA rfl nt kb iC jZ (by exact (RR hbo ab)))
 refine rB ga ?_ (x:=nT)
 refine jq ?_
 refine sc ?_ ?_<;>intro hba
 have hl0:¬(bu s).length=0:=kc
 have ho0:¬(aw (aw c 12).2 4).1=0:=VP
 have hge:=dW (aw (aw c 12).2 4).2 (bu s).length
 have hlt_:=dY (aw (aw c 12).2 4).2 (n:=(bu s).length) ab
 have hu:=atl hl0 ho0;have huk:dy c s=aw (aw (aw (aw c 12).2 4).2 (bu s).length).2 3:=KZ;have hk1:=dW (dy c s).2 20;have hk2:=dY (dy c s).2 (n:=20) aj
 refine sG [0,3,4,5,6,5000] [0,3,4] ?_
 refine PJ ?_
 refine qX ?_
 refine Da ?_
 refine rA ?_ (x:=aZ (k:=(aw (aw (aw c 12).2 4).2 (bu s).length).1.toNat) aj dq an ab (by exact fX ab (by rw [kl (d:=v0) ab])) ak)
 refine zqv ?_
 refine rS ?_
 exact ZI
 have ho1:(aw (aw c 12).2 4).1=0:=VP;have hl0:¬(bu s).length=0:=kc;have hu:=atk hl0 ho1;have huk:dy c s=aw (aw (aw c 12).2 4).2 3:=KZ;have hk1:=dW (dy c s).2 20;have hk2:=dY (dy c s).2 (n:=20) aj
 refine ba ?_
 exact ZI
 have hl0:(bu s).length=0:=(by first|(simp at ga;omega)|(simp at ga;simp_all;done));have hu:=atj (c:=c) hl0;have huk:dy c s=aw (aw c 12).2 3:=KZ;have hk1:=dW (dy c s).2 20;have hk2:=dY (dy c s).2 (n:=20) aj
 have sga:=ga
 try simp only [qq] at sga
 refine rf ?_
 refine dp ?_
 refine sS [0,3,4,5,6,5000] [0,3,4] ?_
 refine jp ?_
 refine iJ ?_
 refine HP ?_
 refine sc ?_ ?_<;>intro hba
 have h0_:(dy c s).1=0:=VQ
 exact ZF
 have h0_:¬(dy c s).1=0:=VQ
 refine HP ?_
 refine sc ?_ ?_<;>intro hbb
 have h1_:(dy c s).1=1:=Fu
 exact ZG
 have h1_:¬(dy c s).1=1:=Fu
 exact ZH
def ako{o:Fl}{c:aG}(hbo:∀es,(sl o es).Bor):ie prog 121 176 (da o c) (da o (bD c).c) [] (aB [(true,[sl bH ((bD c).s.ax2.map (aO bc ai)),val (vI (bD c).s.Now)])]):=by
 refine iX (rs:=[(true,[sl bH ((bD c).s.ax2.map (aO bc ai)),val (vI (bD c).s.Now)])]) func121 rfl (nl rfl) (nl rfl) ?_
 intro g_ h0 w0 Fz0
 have hrw:=aoj c (most:=7) aj
 have hN1:0≤tX c:=dW _ _
 have hN2:tX c < 6:=dY _ aj
 have hb11:=dW (pW c 7).2 3
 have hb12:=dY (pW c 7).2 (n:=3) aj
 refine sR ?_
 refine Df ?_
 refine aU ?_
 refine sO [(0,_),(2,_),(5000,_)] [(0,(176,[sl o _,val _,val _])),(2,(41,bW))] ?_
 refine oC ?_
 refine rA ?_ (x:=dP (bx:=0) (qs:=[(false,[val _])]) (as_:=[(false,[val _])]) aj ap0 rfl nt kb iC jZ (by exact (arc hbo ab)))
 refine jp ?_
 refine rA ?_ (x:=jF)
 refine rA ?_ (x:=cL [(false,[sl _ _]),(false,[val _])] [(false,[sl .v _]),(false,[val _])] ap9 (hs:=by exact (aub (rows:=(oY c).1) (n:=2+(aw (oY c).2 3).1))))
 refine CW ?_
 refine oz ?_
 refine rS ?_
 refine dC ?_
 refine sO [(0,_),(2,_),(3,_),(4,_),(5000,_)] [(0,_),(2,_),(3,(41,bW))] ?_
 refine aY ?_
 refine jp ?_
 refine rS ?_
 refine iJ ?_
 refine sP [0,2,3,4,5,5000] [0,2,3] ?_
 refine sL [0,2,3,4,5000] [2] (fun k:Nat=>(k:Int)≤tX c) (fun k:Nat=>[(5,RV.int (tX c - (k:Int)))]) (fun k:Nat=>[(0,(176,da o (qj (qk c) k).c)),(3,(41,[sl bH ((qj (qk c) k).s.ax2.map (aO bc ai)),val (vI (qj (qk c) k).s.Now)]))]) (fun k:Nat=>(tX c - (k:Int)).toNat) 0 ab (by exact aI (by exact cX (by first|omega|(show tX c=_;omega))) tI) gp ?_
 rintro k hk
 have hso:=SH (x:=qk c) (aj1 c) k
 have hsw:=vE hso
 have huw:=SG (qj (qk c) k).c (qj (qk c) k).s
 refine zx ?_
 refine sc ?_ ?_<;>intro hba
 have hlt:(k:Int) < tX c:=ab
 refine eB ?_
 refine zsk ?_
 refine yC (c:=4) (AI:=[(8,⟨[],[],[(6,some (RV.ptr 6 0))],[(6,some (41,[sl bH [],val (.int .i64 0)]))],some 6⟩)]) xA rfl rfl rfl rfl ao (fun j L h o ho=>by have h:=kF h;simp only [kz,List.not_mem_nil,or_false,Prod.mk.injEq] at h;obtain ⟨rfl,rfl⟩:=h;(· cases (show some ⟨some 6,.alloc 41,_,_,_,none⟩=some o from ho);apply cc.of rfl;exact fW (d:=6) aj DS DU)) (fun j L h d hd=>by have h:=kF h;simp only [kz,List.not_mem_nil,or_false,Prod.mk.injEq] at h;obtain ⟨rfl,rfl⟩:=h;(· cases (show some _=some d from hd);exact cV.of_ rfl)) ?_
 refine zsl ?_
 refine xq ?_
 refine zsl ?_
 refine dX 6 ?_ (x:=(dP (bx:=0) (qs:=[(true,bW)]) (as_:=[(true,eh)]) aj RC rfl bS yj iC yi Vp))
 refine qO (G:=2000) (qs:=[(true,bW),(true,eP)]) (as_:=[(true,eh),(true,gK)]) aj aiy oi ip (by exact (aI (aI rfl (aV (aD aJ.nil))) (aI (aI rfl (aD (aD (aV (aD (aD aJ.nil)))))) tI))) (by exact (ajC (s:=(qj (qk c) k).s) (u:=(fE (qj (qk c) k).c (qj (qk c) k).s).1) ab ab)) ao ao fun uss hU0=>?_
 obtain ⟨us0,r0,rfl,hl0,hR0,hU1⟩:=eO.cons hU0
 obtain ⟨u2_0_0,u2_0_1,rfl⟩:=ahh hl0
 obtain rfl:=fz hR0 (j:=1) rfl rfl
 obtain ⟨us1,r1,rfl,hl1,hR1,hU2⟩:=eO.cons hU1
 obtain ⟨u2_1_0,rfl⟩:=pP hl1
 obtain rfl:=fz hR1 (j:=0) rfl rfl
 obtain rfl:=eO.nil hU2
 clear hR0 hU0 hR1 hU1 hU2
 refine bO.stepC 31 gI an (cc.of rfl (wa (.inl rfl) aj)) fY ao iD ?_
 refine bO.stepC 63 gI an (cc.of rfl (qP (cs:=lr) aj ak (by exact (aF.cons (bor_val _) (aF.cons (bor_val _) aF.nil))))) fY ao iD ?_
 refine bO.stepC 63 gI an (cc.of rfl (qP (cs:=[val _]) aj ak lP)) fY ao iD ?_
 refine bO.stepC 0 an an (cc.of rfl (fW aj DS DU)) (sD (cV.wr (cV.app (cV.app (cV.app (cV.app (cV.of_ rfl) rfl) rfl) rfl) rfl) rfl)) ao Uu ?_
 refine bO.stepC 383 oi gI (cc.of rfl (bV (ag:=true) (vs:=lr) hR an ak az)) fY ao iD ?_
 refine bO.stepC 1023 gI an (cc.of rfl (lS (.inr rfl) aj Fg)) fY ao iD ?_
 refine Bu (d:=6) (G:=2000) ak (by exact (Nm.val (Nm.val Nm.nil))) ak ?_
 refine FU (s:=7) (G:=2001) ak KY rfl aj ak ?_
 refine sO [(0,_),(2,_),(3,_),(4,_),(5,_),(6,_),(7,_),(5000,_)] [(0,_),(2,_),(3,_),(6,(41,bW))] ?_
 refine aY ?_
 refine GT ?_
 refine sO [(0,_),(2,_),(3,_),(4,_),(5,_),(6,_),(7,_),(5000,_)] [(0,_),(2,_),(3,(41,bW)),(6,(41,bW))] ?_
 refine aY ?_
 refine uD ?_
 exact ZJ
 have hend:k=(tX c).toNat:=ab
 refine fq ?_
 refine zsk ?_
 refine aY ?_
 refine GT ?_
 refine cK ?_
 exact ⟨(by unfold bD;rw [←hend];exact rfl),rfl,(bh 2 (bh _ (aI ak (aI (by refine dh ?_;unfold bD;rw [←hend];exact rfl) (aI hR (aI (fun h=>nomatch h) tI))))))⟩
def auc{p1 p2:Fl}{s:Store}(hs:cN s=true):aQ prog 209 [(true,[sl .v (s.ax2.map (aO p1 p2)),val (vI s.Now)])] (aB [(true,[sl bH ((rW s).Store.ax2.map (aO bc ai)),val (vI (rW s).Store.Now),val (vI (rW s).ax7),sl ai ((rW s).Order.map ar),sl cm ((rW s).ax3.map (bd aH ai ai aL ai)),sl cf ((rW s).Done.map (bw aH ai aL ai)),sl ck ((rW s).ayf.map (bz ai ai ai)),val (vI (rW s).Steps)]),(false,[val (.bool true)])]):=by
 refine sF func209 fun h0 w0 Fz0=>?_
 refine sn 0 0 fun hl0_0=>?_
 have hb:=vE hs
 have hbu:=hb
 simp only [cg,iy,bo] at hbu
 refine kN ?_
 refine Co ?_
 refine sT [1,2,3] [1,2] ?_
 refine Aa ?_
 refine zno ?_
 refine gx ?_
 refine sc ?_ ?_<;>intro hba
 exact absurd hba (by simp [hs])
 refine ba ?_
 refine sS [1,2,3] [1,2] ?_
 refine Aa ?_
 refine rA ?_ (x:=cL [(true,bW)] [(true,eh)] RD (hs:=Lx))
 refine Di ?_
 refine rA ?_ (x:=cy (qs:=[(true,bW),(false,[sl _ _])]) (cs:=aW) aj xQ xT at9 ak ip rfl ak)
 refine zss ?_
 exact ZK
def akp{o:Fl}{c:aG}(hbo:∀es,(sl o es).Bor){p1 p2:Fl}{s:Store}(hs:cg s≤200):ie prog 193 176 (da o c) (da o (bQ c s).2) [(true,[sl .v (s.ax2.map (aO p1 p2)),val (vI s.Now)])] (aB [(true,[val (vI (bQ c s).1.Kind),val (vI (bQ c s).1.ax4.Id),val (vI (bQ c s).1.ax4.ax8),sl aH ((bQ c s).1.ax4.ax5.map bF),sl ai ((bQ c s).1.ax4.Out.map ar),val (vI (bQ c s).1.Limit),val (vI (bQ c s).1.Id),val (vI (bQ c s).1.ax6.Kind),val (vI (bQ c s).1.ax6.Row.Id),sl ai ((bQ c s).1.ax6.Row.Values.map ar),val (vI (bQ c s).1.ax6.Field),val (vI (bQ c s).1.ax6.Value),val (vI (bQ c s).1.Steps)])]):=by
 refine iX (rs:=[(true,[val (vI (bQ c s).1.Kind),val (vI (bQ c s).1.ax4.Id),val (vI (bQ c s).1.ax4.ax8),sl aH ((bQ c s).1.ax4.ax5.map bF),sl ai ((bQ c s).1.ax4.Out.map ar),val (vI (bQ c s).1.Limit),val (vI (bQ c s).1.Id),val (vI (bQ c s).1.ax6.Kind),val (vI (bQ c s).1.ax6.Row.Id),sl ai ((bQ c s).1.ax6.Row.Values.map ar),val (vI (bQ c s).1.ax6.Field),val (vI (bQ c s).1.ax6.Value),val (vI (bQ c s).1.Steps)])]) func193 rfl (nl rfl) (nl rfl) ?_
 intro g_ h0 w0 Fz0
 refine sn 1 0 fun hl1_0=>?_
 have hsw:=hs
 have hbs:=hsw
 simp only [cg,iy,bo] at hbs
 have hqw:=Jh (aw (dc c).2 6).2 (aw (dc c).2 6).1
 have hb11:=dW (aw c 6).2 6
 have hb12:=dY (aw c 6).2 (n:=6) aj
 have hb21:=dW (aw c 6).2 3
 have hb22:=dY (aw c 6).2 (n:=3) aj
 refine kN ?_
 refine xr ?_
 refine dC ?_
 refine sO [(0,_),(3,_),(4,_),(5000,_)] [(0,(176,[sl o _,val _,val _])),(3,(41,bW)),(4,(31,cS))] ?_
 refine aY ?_
 refine jp ?_
 refine CY ?_
 refine Qf ?_
 refine sc ?_ ?_<;>intro hba
 have hk0:(dc c).1=0∨(dc c).1=1:=.inl hba
 refine ba ?_
 exact ZO
 have hk00:=hba
 refine sG [0,3,4,7,5000] [0,3,4] ?_
 refine iu ?_
 exact ZO
def aud{o:Fl}{c:aG}(hbo:∀es,(sl o es).Bor){p1 p2:Fl}{s:Store}{most:Int}(hs:cg s≤200)(hm:0 < most∧most≤100):ie prog 114 176 (da o c) (da o (xY c s most).c) [(true,[sl .v (s.ax2.map (aO p1 p2)),val (vI s.Now)]),(false,[val (vI most)])] (aB [(false,[sl (.own 31 13) ((xY c s most).l.map (Ds aH ai ai))])]):=by
 refine iX (rs:=[(false,[sl (.own 31 13) ((xY c s most).l.map (Ds aH ai ai))])]) func114 rfl (nl rfl) (nl rfl) ?_
 intro g_ h0 w0 Fz0
 refine sn 1 0 fun hl1_0=>?_
 have hsw:=hs
 have hbs:=hsw
 simp only [cg,iy,bo] at hbs
 have hb1:=dW c most
 have hb2:=dY c (n:=most) hm.1
 refine kN ?_
 refine rA ?_ (x:=nw (.inr rfl) aj (pk (t:=31) (e:=13)))
 refine aU ?_
 refine sO [(0,_),(2,_),(4,_),(6,_),(5000,_)] [(0,(176,[sl o _,val _,val _])),(4,(41,bW))] ?_
 refine aY ?_
 refine rA ?_ (x:=cj (qs:=[]) aj rI qg aj rfl rfl rfl rfl rfl az an rfl)
 refine oD ?_
 refine sS [0,2,4,6,7,5000] [0,4] ?_
 refine CJ ?_
 refine wx ?_
 refine iJ ?_
 refine sP [0,2,4,6,7,8,5000] [0,4] ?_
 refine sL [0,2,4,6,5000] [4] (fun k:Nat=>(k:Int)≤(aw c most).1) (fun k:Nat=>[(7,RV.slc (.own 31 13) ((rV s (aw c most).2 k).l.map (Ds aH ai ai))),(8,RV.int ((aw c most).1 - (k:Int)))]) (fun k:Nat=>[(0,(176,da o (rV s (aw c most).2 k).c))]) (fun k:Nat=>((aw c most).1 - (k:Int)).toNat) 0 ab (by exact aI ak (aI jj tI)) bp ?_
 rintro k hk
 have hel:=Td (s:=s) (c:=(aw c most).2) k
 refine zx ?_
 refine sc ?_ ?_<;>intro hba
 have hlt:(k:Int) < (aw c most).1:=ab
 refine bv ?_
 refine zsy ?_
 refine cb ?_
 refine Pu ?_
 refine rA ?_ (x:=dP (bx:=0) (qs:=[(true,bW)]) (as_:=[(true,eh)]) aj aiu rfl bS yj iC yi (by exact (akp hbo Lz)))
 refine rA ?_ (x:=cj (qs:=[(true,cS)]) aj rI qg aj rfl rfl rfl rfl rfl az bS rfl)
 refine rA ?_ (x:=fc aj rI qg rfl rfl aj rfl bq bq)
 refine dJ ?_
 refine sG [0,2,4,6,7,8,5000] [0,4] ?_
 refine uD ?_
 refine rS ?_
 refine nx (k+1) ab (e:=(by exact aI (by exact cz (by rw [rV];unfold Tc;rw [bK];rfl)) (aI jj tI)))
 have hend:vH c most=k:=by unfold vH;omega
 refine fq ?_
 refine zsy ?_
 refine pD ?_
 exact ⟨(by unfold xY;rw [hend];exact rfl),rfl,(aI (by refine cz ?_;unfold xY;rw [hend]) tI)⟩
end Go.Proofs.YtmekkgdboplbjaaGreatDoor
