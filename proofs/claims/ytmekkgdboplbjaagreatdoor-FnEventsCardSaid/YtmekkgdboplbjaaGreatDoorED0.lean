/- Short names for what the printed proofs say often. No condition. -/
import Derived.Test.YtmekkgdboplbjaaGreatDoorEC0
set_option linter.all false
namespace Go.Proofs.YtmekkgdboplbjaaGreatDoor.M
open Go Go.RowKit
variable{G H:Prop}(h:H)
def XF (h:G:=by
 have hend:k=min code.length 4000:=ab
 refine bI ?_
 refine sS [0,2,3,4] [] ?_
 refine pz ?_
 refine rA ?_ (x:=cy (qs:=[(false,[sl _ _]),(false,[val _])]) (cs:=Gb) aj aq4 aq6 aq8 ak ip rfl ak)
 refine rX ?_ (x:=(kG (ag:=true) (cs:=Gb) aj an))
 refine rA ?_ (x:=cA Cp.ptr)
 refine cK ?_
 exact ⟨31,ak,by subst hend;exact rfl⟩):G:=h
def XG (h:G:=by
 refine rM ?_
 refine db ?_
 exact ⟨vY,rfl,(aI (by refine cX ?_;rw [hr];rfl) tI)⟩):G:=h
def XH (h:G:=by
 refine cK ?_
 exact ⟨vY,rfl,(aI (by refine cX ?_;rw [hr];try rfl) tI)⟩):G:=h
def XI (h:G:=by
 refine db ?_
 exact ⟨ak,rfl,(aI ak tI)⟩):G:=h
def XJ (h:G:=by
 refine cB ?_
 refine nx (k+1) ab (e:=nu) (f:=(by exact aI (by rw [jK,hcn];rfl) (aI (by rw [jK,hcn];try first|exact rfl|(simp only [bK];exact rfl)) tI)))):G:=h
def XK (h:G:=by
 refine sG [0,1,4,5,6,7,8,9,5000] [0,4,5] ?_
 refine He ?_
 refine fB ?_
 refine rM ?_
 refine rA ?_ (x:=cy (qs:=[(false,[val _]),(false,[val _]),(false,[val _])]) (cs:=iY) aj nU DD are ak qD rfl ak)
 refine Zgo ?_
 refine zo2 ?_
 refine sO [(0,_),(1,_),(4,_),(5,_),(6,_),(7,_),(8,_),(9,_),(5000,_)] [(0,_),(4,_),(5,(25,bX))] ?_
 refine aY ?_
 exact XJ):G:=h
def MA (h:G:=by
 refine db ?_
 exact rb (by simp [aK, *])):G:=h
def XL (h:G:=by
 refine uL ?_
 refine sS [0,1,2,6] [] ?_
 refine fB ?_
 refine rA ?_ (x:=kJ)
 refine rM ?_
 refine cx 10 ?_ ?_<;>intro ga sga
 refine gN ?_
 refine gN ?_
 refine rB ga ?_ (x:=kf)
 refine jq ?_
 exact MA
 refine mO ?_
 exact MA):G:=h
def XM (h:G:=by
 refine ca ?_
 exact rb ((xw (P:=fun y=>y==x) hlt (by simpa using ‹_=x›)).symm)):G:=h
def XN (h:G:=by
 refine nx (k+1) (by exact ⟨ab,Ae ha ‹_› (by simpa using ‹¬_›)⟩)):G:=h
def XO (h:G:=by
 refine ca ?_
 exact rb (by exact (ahg (by rw [show xs.length=k by omega];exact ha)).symm)):G:=h
def yK (h:G:=by
 refine cK ?_
 exact (aI ak tI)):G:=h
def XP (h:G:=by
 refine ca ?_
 exact rb (by simp [bM,ahk,oM (P:=me) hlt hno])):G:=h
def XQ (h:G:=by
 refine nx (k+1) (by exact ⟨ab,IV ha hlt hyes⟩)):G:=h
def BE (h:G:=by
 refine dI ?_
 exact XQ):G:=h
def MB (h:G:=by
 refine db ?_
 exact rb (by simp [bM,ahk,hall, *])):G:=h
def XR (h:G:=by
 refine Ic ?_
 refine wB ?_
 exact MB):G:=h
def wo (h:G:=by
 refine cB ?_
 exact XQ):G:=h
def XS (h:G:=by
 refine db ?_
 exact rb (by simp [pQ, *])):G:=h
def XT (h:G:=by
 refine cK ?_
 exact (bh 2 (bh _ (aI ak (aI ak (aI ju (aI (fun h=>nomatch h) tI))))))):G:=h
def XU (h:G:=by
 refine dA 63 ?_ (x:=bV (ag:=true) (vs:=ct) ju an ak az)
 exact XT):G:=h
def XV (h:G:=by
 refine nx (k+1) ab (e:=(by exact aI (by exact cz (by rw [xz hlt,bK];rfl)) (aI ak tI)))):G:=h
def BF (h:G:=by
 refine pD ?_
 exact (aI (by refine cz ?_;rw [hend,cJ]) tI)):G:=h
def MC (h:G:=by
 refine cB ?_
 exact XV):G:=h
def XW (h:G:=by
 refine bI ?_
 refine sS [0,2,3,4] [] ?_
 exact BF):G:=h
def MD (h:G:=by
 have hend:k=x.length:=ab
 exact XW):G:=h
def wq (h:G:=by
 refine db ?_
 exact rb (by first|(simp_all [nN,aK];done)|(simp_all [nN,aK];omega))):G:=h
def XX (h:G:=by
 have hbad:fh ⟨0,0,0⟩ nN rp x.ax5=false:=uX hlt (Bool.eq_false_iff.2 fun hx=>by
  have hx:=mf.1 hx
  rw [hgk] at hx
  obtain ⟨hx1,hx2⟩:=hx
  first
  | (simp_all;done)
  | (simp only [decide_eq_true_eq,rp] at *;by_cases h0:k=0<;>(try rw [hgp ab] at hx2)<;>omega))
 refine sS [1,3] [1] ?_
 refine ca ?_
 exact rb (by simp [bN,nO,hbad])):G:=h
def XY (h:G:=by
 refine nx (k+1) (by exact ⟨ab,by rw [Dv,ha,Bool.true_and];refine mf.2 ⟨AZ,?_⟩;rcases Nat.eq_zero_or_pos k with h0|h0;(· exact .inl h0);(· right;rw [hgk,hgp h0];first|(simp only [decide_eq_true_eq,rp] at *;omega)|(simp_all;done))⟩)):G:=h
def XZ (h:G:=by
 refine CN ?_
 refine cB ?_
 exact XY):G:=h
def Gr (h:G:=by
 refine db ?_
 exact rb (by first|(simp_all [bN,nO];done)|(simp_all [bN,nO];rfl)|(simp_all [bN,nO];omega)|(simp_all [bN,nO];intros;omega))):G:=h
def Gs (h:G:=by
 refine cK ?_
 exact rb (by first|exact hbad0.symm|(simp [bN,nO,hbad];done)|(simp [bN,nP,hn3];done)|(simp_all [bN,nO,nP];done)|(simp_all [bN,nO,nP];rfl)|(simp_all [bN,nO,nP];omega)|(simp_all [bN,nO,nP];intros;omega))):G:=h
def ME (h:G:=by
 have hbad0:bN x=false:=by first|(simp_all [bN];done)|(simp_all [bN];rfl)|(simp_all [bN];omega)|(simp_all [bN];intros;omega)
 refine sS [1,2] [1] ?_
 refine rK ?_
 exact Gs):G:=h
def Ya (h:G:=by
 have hbad:fh ⟨0,0,0⟩ nN rp x.ax5=false:=uX hlt (Bool.eq_false_iff.2 fun hx=>by
  have hx:=mf.1 hx
  rw [hgk] at hx
  obtain ⟨hx1,hx2⟩:=hx
  first
  | (simp_all;done)
  | (simp only [decide_eq_true_eq,rp] at *;by_cases h0:k=0<;>(try rw [hgp ab] at hx2)<;>omega))
 refine sS [1,3,4,24,25,26] [1,4] ?_
 refine rK ?_
 exact Gs):G:=h
def Yb (h:G:=by
 refine ba ?_
 refine sG [1,3,4,24,25,26] [1,4] ?_
 refine dI ?_
 exact XY):G:=h
def Yc (h:G:=by
 refine ca ?_
 exact rb (by simp [kP,oM (P:=(mg f v)) hlt hno])):G:=h
def Yd (h:G:=by
 have hyes:mg f v q.ax5[k]=true:=Fe
 refine ba ?_
 refine sG [1,2,3,8,10,11,12] [3,8] ?_
 exact BE):G:=h
def Ye (h:G:=by
 refine ca ?_
 exact rb (by simp [kP,hall, *])):G:=h
def oy (h:G:=by
 refine ca ?_
 exact rb (hbad.symm)):G:=h
def Yf (h:G:=by
 have hbad:ik q r=false:=by simp_all [ik]
 refine sS [2,3,4] [2,3] ?_
 exact oy):G:=h
def MF (h:G:=by
 refine cK ?_
 exact rb (by first|(simp_all [dK,pS];done)|(simp_all [dK,pS];rfl)|(simp_all [dK,pS];omega)|(simp_all [dK,pS];intros;omega))):G:=h
def lY (h:G:=by
 refine rS ?_
 exact MF):G:=h
def MG (h:G:=by
 refine rh ?_
 exact lY):G:=h
def MH (h:G:=by
 refine rB gc ?_ (x:=lF pT)
 refine Cq ?_
 exact MG):G:=h
def BG (h:G:=by
 refine oB ?_
 exact lY):G:=h
def Yg (h:G:=by
 refine HY ?_
 refine iM ?_
 refine cx 27 ?_ ?_<;>intro gc sgc
 exact MH
 exact BG):G:=h
def Yh (h:G:=by
 refine ba ?_
 refine sS [1,2,3,16] [1] ?_
 refine rK ?_
 exact MF):G:=h
def MI (h:G:=by
 refine db ?_
 exact rb (by first|(simp_all [gk];done)|(simp_all [gk];rfl)|(simp_all [gk];omega)|(simp_all [gk];intros;omega))):G:=h
def Yi (h:G:=by
 refine sn 0 1 fun hl0_1=>?_
 refine Ci ?_
 refine rK ?_
 refine sT [1,2,4] [2] ?_
 refine rA ?_ (x:=lF nc)
 refine ff ?_
 refine rM ?_
 refine rA ?_ (x:=kf)
 refine rM ?_
 refine cx 9 ?_ ?_<;>intro ga sga
 refine rB ga ?_ (x:=lF ku)
 refine kg ?_
 refine rB ga ?_ (x:=iZ)
 refine gN ?_
 refine cx 13 ?_ ?_<;>intro gb sgb
 refine zt gb ?_
 refine rB ga ?_ (x:=bj gb)
 refine jq ?_
 exact MI
 refine rB gb ?_ (x:=lF ku)
 refine nK ?_
 refine HV ?_
 refine rB ga ?_ (x:=aR gb)
 refine jq ?_
 exact MI
 refine mO ?_
 exact MI):G:=h
def Yj (h:G:=by
 refine db ?_
 exact rb (by first|(simp_all [xB];done)|(simp_all [xB];rfl)|(simp_all [xB];omega)|(simp_all [xB];intros;omega))):G:=h
def yL (h:G:=by
 refine db ?_
 exact rb (by first|(simp_all [gy];done)|(simp_all [gy];omega)|(rw [Bool.eq_iff_iff];simp_all [gy];done)|(rw [Bool.eq_iff_iff];simp_all [gy];omega))):G:=h
def Gt (h:G:=by
 refine db ?_
 exact rb (by first|(simp_all [eW];done)|(simp_all [eW];rfl)|(simp_all [eW];omega)|(simp_all [eW];intros;omega))):G:=h
def MJ (h:G:=by
 have hbad:cN s=false:=by first|(simp_all [cN,ru];done)|(simp_all [cN,ru];omega)
 refine sS [1,2] [1] ?_
 exact oy):G:=h
def Yk (h:G:=by
 refine mb ?_
 exact MJ):G:=h
def Yl (h:G:=by
 refine nx (m+1) (by refine ⟨ab,?_⟩;rw [aon,hfr,Bool.true_and];exact hap)):G:=h
def MK (h:G:=by
 have hvo:eW s.Now s.ax2[k][j]=false:=Lk
 have hbad:=Ji hag.1 (ahG (by rw [hag.2];exact hvo))
 refine sS [1,3,5,7,23,24,25,32,33,34] [1,7] ?_
 exact oy):G:=h
def Ym (h:G:=by
 have hap:gy ((bu s).getD ((ek s k).length+j) v0) ((bu s).getD m v0)=false:=by
  rw [hag.2] at hma ⊢
  by_cases hid:s.ax2[k][j].Id=((bu s).getD m v0).Id
  ·rw [beq_iff_eq.2 hid,Bool.true_and] at hma;simp_all
  ·simp_all
 have hbad:=Ji hag.1 (ahH hlt3 hap)
 refine sS [1,3,5,7,9,23,24,25,32,33,34,66,67,68] [1,7,9] ?_
 exact oy):G:=h
def ML (h:G:=by
 have hap:gy ((bu s).getD ((ek s k).length+j) v0) ((bu s).getD m v0)=true:=by
  rw [hag.2] at hma ⊢
  by_cases hid:s.ax2[k][j].Id=((bu s).getD m v0).Id
  ·rw [beq_iff_eq.2 hid,Bool.true_and] at hma;simp_all
  ·rw [beq_false_of_ne hid,Bool.false_and] at hma;simpa using hma.symm
 refine ba ?_
 refine sG [1,3,5,7,9,23,24,25,32,33,34,66,67,68] [1,7,9] ?_
 refine dI ?_
 exact Yl):G:=h
def Yn (h:G:=by
 refine zf ge ?_
 refine rA ?_ (x:=aR ge)
 refine gv ?_
 exact ML):G:=h
def Yo (h:G:=by
 have hend3:m=(ek s k).length+j:=ab
 refine bI ?_
 refine sH [1,3,5,7,23,24,25,32,33,34,66,67,68] [1,7] ?_
 refine cb ?_
 refine Db ?_
 refine rA ?_ (x:=cj (qs:=[(true,fe)]) aj dq iT aj rfl rfl rfl rfl rfl az bS rfl)
 refine NQ ?_
 refine sG [1,3,5,7,23,24,25,32,33,34,66,67,68] [1,7] ?_
 refine dI ?_
 refine nx (j+1) (by refine ⟨ab,?_⟩;rw [←Nat.add_assoc,ahF,hg,Bool.true_and];unfold oQ;rw [hag.2,hvo,Bool.true_and,←hend3];rw [hend3] at hfr ⊢;exact hfr) (e:=(by exact aI (by exact cz (by rw [cU hlt2];simp only [bK,bB];rfl)) (aI ak tI)))):G:=h
def Gu (h:G:=by
 refine ca ?_
 exact rb (by exact (anI hlt (Bool.eq_false_iff.2 fun hx=>by have hx:=IY.1 hx;rw [hgk] at hx;(try simp only [aK,Bool.and_eq_false_iff,decide_eq_false_iff_not] at *);omega)).symm)):G:=h
def Yp (h:G:=by
 refine cH ?_
 refine sS [0,3,4,5,6,7] [] ?_
 exact Gu):G:=h
def Yq (h:G:=by
 refine nx (k+1) (by exact ⟨ab,by rw [anH,ha,Bool.true_and];exact IY.2 (by rw [hgk];(try simp only [aK,aX,decide_eq_true_eq] at *);omega)⟩)):G:=h
def Yr (h:G:=by
 refine ba ?_
 refine sG [0,3,4,5,6,7] [] ?_
 refine dI ?_
 exact Yq):G:=h
def Ys (h:G:=by
 refine ca ?_
 exact rb (by subst hend;exact ha.symm)):G:=h
def Yt (h:G:=by
 refine wR ?_
 refine cB ?_
 exact Yq):G:=h
def Yu (h:G:=by
 refine sG [0,1,4,5,6] [] ?_
 refine cB ?_
 refine nx (k+1) (by exact ⟨ab,fun _=>hok2⟩) (e:=(by exact aI (by exact cz (by rw [xz hlt,gW,bK];simp [hc,ar])) (aI ak tI)))):G:=h
def MM (h:G:=by
 have hfin:(k=a.length∧(eV a&&eV b)=true)∨(k=0∧(a.length=0∨(eV a&&eV b)=false)):=by
  by_cases h0k:0 < k
  ·left
   have:=ha h0k
   refine ⟨?_,this⟩
   rw [aX] at this
   by_cases hka:k=a.length
   ·exact hka
   ·have:k < a.length:=by omega
    simp_all
  ·right
   refine ⟨ab,?_⟩
   by_cases hka:a.length=0
   ·exact .inl hka
   ·right
    have:k < a.length:=ab
    cases h1:eV a<;>cases h2:eV b<;>simp_all
 refine bI ?_
 refine xn ?_
 refine pD ?_
 exact (aI (by refine cz ?_;rw [anM ha hfin]) tI)):G:=h
def BH (h:G:=by
 refine pK ?_
 refine ca ?_
 exact rb (by exact (Ag (fun e=>by subst e;simp at *)).symm)):G:=h
def MN (h:G:=by
 refine ca ?_
 exact rb (by exact (Ag (anz hlt hlt2 (by intro e;simp [e,Dq] at *))).symm)):G:=h
def yM (h:G:=by
 refine sS [0,1,5] [] ?_
 exact MN):G:=h
def Yv (h:G:=by
 refine nx (k+1) (by exact ⟨ab,xx ha hlt hlt2 dO⟩)):G:=h
def Yw (h:G:=by
 refine ca ?_
 exact rb (by exact (xy (Af hl Fo)).symm)):G:=h
def MO (h:G:=by
 refine Ir ?_
 exact Yw):G:=h
def Yx (h:G:=by
 refine bI ?_
 refine sS [0,1,12,13] [] ?_
 exact Yw):G:=h
def Gv (h:G:=by
 refine db ?_
 exact rb (by rw [Bool.eq_iff_iff];simp only [fZ,anG];simp_all [fZ])):G:=h
def Yy (h:G:=by
 have hbad:fh Ap bN xC l=false:=uX hlt (Bool.eq_false_iff.2 fun hx=>by
  have hx:=mf.1 hx
  rw [hgk] at hx
  obtain ⟨hx1,hx2⟩:=hx
  first
  | (simp_all;done)
  | (simp only [decide_eq_true_eq,xC] at *;by_cases h0:k=0<;>(try rw [hgp ab] at hx2)<;>omega))
 refine zC ?_
 exact rb (by simp [eQ,hbad])):G:=h
def Yz (h:G:=by
 refine wR ?_
 refine cB ?_
 refine nx (k+1) (by exact ⟨ab,by rw [Dv,ha,Bool.true_and];refine mf.2 ⟨AZ,?_⟩;rcases Nat.eq_zero_or_pos k with h0|h0;(· exact .inl h0);(· right;rw [hgk,hgp h0];first|(simp only [decide_eq_true_eq,xC] at *;omega)|(simp_all;done))⟩)):G:=h
def YA (h:G:=by
 have hyes:mg f v q.ax5[k]=true:=Fe
 refine ba ?_
 refine sG [1,2,3,7] [3] ?_
 exact wo):G:=h
def YB (h:G:=by
 refine sG [0,1,2,6,7,8] [] ?_
 refine cB ?_
 refine nx (k+1) (by exact ⟨ab,fun _=>hok⟩) (e:=(by exact aI (by first|exact cz (by rw [aoq hlt hc,bK];rfl)|exact cz (by rw [aor hlt hc])) (aI ak tI)))):G:=h
def Gw (h:G:=by
 have hfin:(k=l.length∧(eQ l&&(aK f 0 2&&aK v 0 99))=true)∨(k=0∧(l.length=0∨(eQ l&&(aK f 0 2&&aK v 0 99))=false)):=by
  by_cases h0k:0 < k
  ·left
   have h1:=ha h0k
   refine ⟨?_,h1⟩
   by_cases hka:k=l.length
   ·exact hka
   ·exfalso
    have hlt_:k < l.length:=ab
    have hlt2_:(k:Int) < (l.length:Int):=ab
    first|omega|simp_all
  ·right
   refine ⟨ab,?_⟩
   by_cases hka:l.length=0
   ·exact .inl hka
   ·right
    have hlt_:k < l.length:=ab
    have hlt2_:(k:Int) < (l.length:Int):=ab
    rw [←Bool.not_eq_true];intro hc_;simp_all
 refine bI ?_
 refine sS [0,1,2,6,7,8] [] ?_
 refine pD ?_
 exact (aI (by refine cz ?_;rw [aos hfin]) tI)):G:=h
def YC (h:G:=by
 have hok:(eQ l&&aK f 0 2)=false:=dO
 refine sS [0,1,4,5] [] ?_
 refine pD ?_
 exact (aI (by refine cz ?_;unfold jc;rw [if_neg Bd];rfl) tI)):G:=h
def YD (h:G:=by
 refine cB ?_
 refine nx (k+1) ab (e:=(by exact aI (by first|exact cz (by rw [en,aov hls,bK,←hse];exact rfl)|exact cz (by rw [en,aou hls])) (aI ak tI)))):G:=h
def YE (h:G:=by
 have hls:pY (en l f k) (iz l f (k:Int))=false:=by
  by_cases h0:(en l f k).length=0
  ·simp [pY,h0]
  ·simp_all [pY]
 refine sG [0,1,4,5,6,7,8] [] ?_
 refine cb ?_
 refine fB ?_
 refine cb ?_
 refine rA ?_ (x:=cy (qs:=[(false,[val _]),(false,[val _]),(false,[sl _ _])]) (cs:=[val _,val _,sl _ _]) aj JD aq7 arF ak qD rfl ak)
 refine rA ?_ (x:=cj (qs:=[(true,[val _,val _,sl _ _])]) aj rH JD aj rfl rfl rfl rfl rfl az bS rfl)
 refine rA ?_ (x:=fc aj rH JD rfl rfl aj rfl bq bq)
 refine dJ ?_
 refine sG [0,1,4,5,6,8] [] ?_
 exact YD):G:=h
def YF (h:G:=by
 refine nx (k+1) (by exact ⟨ab,Ae ha hlt hno⟩)):G:=h
def YG (h:G:=by
 refine cB ?_
 exact YF):G:=h
def YH (h:G:=by
 refine cK ?_
 exact (bh 2 (bh _ (aI ak (aI ak (aI gO (aI (fun h=>nomatch h) tI))))))):G:=h
def YI (h:G:=by
 have hno:(aK (o.getD k 0) 0 2&&!cv (o.take k) (o.getD k 0))=false:=by rw [←hgk];simp_all
 refine zC ?_
 exact rb ((aoD hl3 ab hno).symm)):G:=h
def YJ (h:G:=by
 have hfin:k=o.length∨(gP x r o k).1=[]:=by
  by_cases hka:k=o.length
  ·exact .inl hka
  ·right
   have hlt_:k < o.length:=ab
   have hlt2_:(k:Int) < (o.length:Int):=ab
   first|omega|(rw [←List.length_eq_zero_iff];first|omega|(simp_all;done))
 have hpe:=aoE (x:=x) (r:=r) hfin
 refine bI ?_
 refine sT [2,3,4,6,7,8,9,10] [3,4] ?_
 refine wX ?_
 refine dJ ?_
 refine db ?_
 exact (aI (by refine cz ?_;rw [hpe]) (aI (by refine cX ?_;rw [hpe]) tI))):G:=h
def YK (h:G:=by
 refine sS [0,2,3,4,5] [] ?_
 refine lv ?_
 refine rA ?_ (x:=uu ar4 ajo Lj)
 refine Zgu ?_
 refine rA ?_ (x:=Mu ar6 ajo ar5)
 refine rM ?_
 refine Iy ?_
 refine sG [0,2,3,4,5] [] ?_
 refine rM ?_
 refine rA ?_ (x:=amY)
 refine rS ?_
 refine nx (q.1.tdiv 10,ii [48+((q.1.natAbs%10:Nat):Int)]++q.2) (by exact ⟨by have:=As q.1;unfold ee;omega,aoM hto hq0 rfl⟩) (b:=(by have:=As q.1;dsimp only;omega)) (e:=(by exact aI ak (aI (by exact congrArg (fun z=>some (RV.sc (.string (B (ii [48+z]++q.2))))) hd_) tI)))):G:=h
def YL (h:G:=by
 refine rg ?_
 refine rM ?_
 refine xb ?_
 refine Zgv ?_
 refine Iy ?_
 refine rg ?_
 refine cB ?_
 refine nx (k+1) ab (e:=(by exact aI (by first|exact congrArg (fun z=>some (RV.sc (.string (B z)))) (by rw [hsc,if_neg hk0])|exact congrArg (fun z=>some (RV.sc (.string (B z)))) (by rw [hsc,if_pos hk0];subst hk0;rfl)) (aI ak tI)))):G:=h
def MP (h:G:=by
 have hbad:gQ x=false:=by first|(simp_all [gQ,oS,aK];done)|(simp_all [gQ,oS,aK];rfl)|(simp_all [gQ,oS,aK];omega)|(simp_all [gQ,oS,aK];intros;omega)
 refine pJ ?_
 exact oy):G:=h
def sN (h:G:=by
 refine cH ?_
 exact MP):G:=h
def YM (h:G:=by
 refine ca ?_
 exact rb ((aoR hlt hno).symm)):G:=h
def YN (h:G:=by
 have hno:tK x k=false:=EY
 refine sS [1,3,4,33,34] [1] ?_
 exact YM):G:=h
def YO (h:G:=by
 refine nx (k+1) (by exact ⟨ab,by rw [aoQ,ha,hyes];rfl⟩)):G:=h
def YP (h:G:=by
 refine db ?_
 exact rb (by simp_all [gQ])):G:=h
def YQ (h:G:=by
 have hno:tK x k=false:=EY
 refine sS [1,3,4] [1] ?_
 exact YM):G:=h
def YR (h:G:=by
 have hbad:fh 0 (mY s.ax2.length) mZ a.ayc=false:=uX hlt (Bool.eq_false_iff.2 fun hx=>by
  have hx:=mf.1 hx
  rw [hgk] at hx
  obtain ⟨hx1,hx2⟩:=hx
  first
  | (simp_all;done)
  | (simp only [decide_eq_true_eq,mZ,mY,aK,aX,Bool.and_eq_false_iff,decide_eq_false_iff_not] at *;by_cases h0:k=0<;>(try rw [hgp ab] at hx2)<;>omega))
 refine sS [2,3,5,6,8,9,10] [2,3] ?_
 refine ca ?_
 exact rb (by simp [gz,na,hbad])):G:=h
def YS (h:G:=by
 refine nx (k+1) (by exact ⟨ab,by rw [Dv,ha,Bool.true_and];refine mf.2 ⟨AZ,?_⟩;rcases Nat.eq_zero_or_pos k with h0|h0;(· exact .inl h0);(· right;rw [hgk,hgp h0];first|(simp only [decide_eq_true_eq,mZ,mY,aK,aX,Bool.and_eq_false_iff,decide_eq_false_iff_not] at *;omega)|(simp_all;done))⟩)):G:=h
def YT (h:G:=by
 refine ba ?_
 refine sG [2,3,5,6,8,9,10] [2,3] ?_
 refine dI ?_
 exact YS):G:=h
def wt (h:G:=by
 refine db ?_
 exact rb (by first|(simp_all [gz,na];done)|(simp_all [gz,na];rfl)|(simp_all [gz,na];omega)|(simp_all [gz,na];intros;omega))):G:=h
def YU (h:G:=by
 have hbad:fh 0 (mY n) mZ l=false:=uX hlt (Bool.eq_false_iff.2 fun hx=>by
  have hx:=mf.1 hx
  rw [hgk] at hx
  obtain ⟨hx1,hx2⟩:=hx
  first
  | (simp_all;done)
  | (simp only [decide_eq_true_eq,mZ,mY,aK,aX,Bool.and_eq_false_iff,decide_eq_false_iff_not] at *;by_cases h0:k=0<;>(try rw [hgp ab] at hx2)<;>omega))
 refine sS [0,1,5] [] ?_
 refine ca ?_
 exact rb (by simp [na,hbad])):G:=h
def YV (h:G:=by
 refine zo ?_
 refine cB ?_
 exact YS):G:=h
def wu (h:G:=by
 refine db ?_
 exact rb (by first|(simp_all [gz];done)|(simp_all [gz];rfl)|(simp_all [gz];omega)|(simp_all [gz];intros;omega))):G:=h
def YW (h:G:=by
 have hbad:=aoS hpr
 refine sS [1,2] [1] ?_
 exact oy):G:=h
def MQ (h:G:=by
 have hpr:lB e=false:=by first|(simp_all [lB];done)|(simp_all [lB];omega)|(rw [←Bool.not_eq_true];intro hc_;simp [lB] at hc_;simp_all;done)|(rw [←Bool.not_eq_true];intro hc_;simp [lB] at hc_;omega)
 exact YW):G:=h
def sU (h:G:=by
 refine cH ?_
 exact MQ):G:=h
def MR (h:G:=by
 have hpr:lB e=false:=VN
 exact YW):G:=h
def yN (h:G:=by
 refine ca ?_
 exact rb (hbad2.symm)):G:=h
def YX (h:G:=by
 have hbad:fh jN (gz e.Store) nV e.ax3=false:=uX hlt (Bool.eq_false_iff.2 fun hx=>by
  have hx:=mf.1 hx
  rw [hgk] at hx
  obtain ⟨hx1,hx2⟩:=hx
  first
  | (simp_all;done)
  | (simp only [decide_eq_true_eq,nV] at *;by_cases h0:k=0<;>(try rw [hgp ab] at hx2)<;>omega))
 have hbad2:=ahV hbad
 refine sS [1,3,4,53,54,55] [1,4] ?_
 exact yN):G:=h
def YY (h:G:=by
 refine nx (k+1) (by exact ⟨ab,by rw [Dv,ha,Bool.true_and];refine mf.2 ⟨AZ,?_⟩;rcases Nat.eq_zero_or_pos k with h0|h0;(· exact .inl h0);(· right;rw [hgk,hgp h0];first|(simp only [decide_eq_true_eq,nV] at *;omega)|(simp_all;done))⟩)):G:=h
def YZ (h:G:=by
 refine ba ?_
 refine sG [1,3,4,53,54,55] [1,4] ?_
 refine dI ?_
 exact YY):G:=h
def Gx (h:G:=by
 have hno:(kU e.Store.Now) e.Done[k]=false:=Fk
 have hbad2:=ahW (oM hlt hno)
 refine sS [1,6,53,54,55,85,86,87] [1,6] ?_
 exact yN):G:=h
def Za (h:G:=by
 refine ca ?_
 exact rb ((ahY hpr hall hfa hla).symm)):G:=h
def Zb (h:G:=by
 have hbad:fh jN (gz e.Store) nV e.ax3=false:=uX hlt (Bool.eq_false_iff.2 fun hx=>by
  have hx:=mf.1 hx
  rw [hgk] at hx
  obtain ⟨hx1,hx2⟩:=hx
  first
  | (simp_all;done)
  | (simp only [decide_eq_true_eq,nV] at *;by_cases h0:k=0<;>(try rw [hgp ab] at hx2)<;>omega))
 have hbad2:=ahV hbad
 refine sS [1,3] [1] ?_
 exact yN):G:=h
def Zc (h:G:=by
 refine CN ?_
 refine cB ?_
 exact YY):G:=h
def Gy (h:G:=by
 have hno:(kU e.Store.Now) e.Done[k]=false:=Fk
 have hbad2:=ahW (oM hlt hno)
 refine sS [1,3,4,5] [1,5] ?_
 exact yN):G:=h
def Zd (h:G:=by
 refine cK ?_
 exact (bh 2 (bh _ (aI ak (aI ak (aI nW (aI (fun h=>nomatch h) tI))))))):G:=h
def Ze (h:G:=by
 refine GT ?_
 refine cK ?_
 exact (bh 2 (bh _ (aI ak (aI (by refine dh ?_;rw [hend,cJ];exact rfl) (aI hR (aI (fun h=>nomatch h) tI))))))):G:=h
def Zf (h:G:=by
 refine nx (k+1) ab (f:=(by exact aI (by rw [xz hlt];simp only [bK];exact rfl) tI))):G:=h
def Gz (h:G:=by
 refine tj ?_
 exact Zf):G:=h
def MS (h:G:=by
 refine aY ?_
 refine dI ?_
 exact Zf):G:=h
def Zg (h:G:=by
 refine uv ?_
 refine cK ?_
 exact (bh 2 (bh _ (aI ak (aI (by refine dh ?_;rw [hend2,cJ];exact rfl) (aI dj (aI (fun h=>nomatch h) tI))))))):G:=h
def Zh (h:G:=by
 refine sG [1,2,4,5,6,7,8,9,11,19,20,21,27,28,29,2900,6000] [2,4,6,11,900] ?_
 refine dI ?_
 refine nx (j+1) ab (e:=(by exact aI UZ (aI jj tI)))):G:=h
def Zi (h:G:=by
 refine dA 511 ?_ (x:=sA)
 refine Pc ?_
 refine nx (m+1) ab (e:=(by exact aI (by exact eG (by rw [ao4 hlm,hg];rfl)) (aI jj tI)))):G:=h
def Zj (h:G:=by
 refine Pc ?_
 refine nx (j+1) ab (e:=(by exact aI (by first|exact cX (by rw [apd hls hlj2 hnd])|exact cX (by rw [ape hls hlj2 hnd];omega)) (aI UZ (aI jj tI))))):G:=h
def Zk (h:G:=by
 refine fB ?_
 refine rS ?_
 refine db ?_
 exact (aI (by refine cX ?_;rw [hfa.1]) (aI (by refine cX ?_;rw [hfa.2]) tI))):G:=h
def Zl (h:G:=by
 refine nx (j+1) (by exact ⟨ab,Ae hc hlt2 hno2⟩) (e:=nu)):G:=h
def Zm (h:G:=by
 have hno2:kX id s.ax2[i][j]=false:=Ez
 refine ba ?_
 refine sG [1,2,6,7,8,9,11,12,13,18,19,20] [2,9] ?_
 refine dI ?_
 exact Zl):G:=h
def Zn (h:G:=by
 refine nx (i+1) VJ (e:=nu)):G:=h
def Zo (h:G:=by
 refine rK ?_
 refine ca ?_
 exact (aI (by refine cX ?_;rw [hfn.1]) (aI (by refine cX ?_;rw [hfn.2]) tI))):G:=h
def Zp (h:G:=by
 have hno2:kX id s.ax2[i][j]=false:=Ez
 refine ba ?_
 refine sG [1,2,6,7] [2] ?_
 refine cB ?_
 exact Zl):G:=h
def Zq (h:G:=by
 refine Zh4 ?_
 exact (bh 4 (bh _ (aI ak (aI (by refine dh ?_;rw [DL hno];exact rfl) (aI hR (aI (fun h=>nomatch h) (aI (by refine eG ?_;rw [DL hno]) tI)))))))):G:=h
def MT (h:G:=by
 refine IM ?_
 exact Zq):G:=h
def GA (h:G:=by
 have hno:kt s u=false:=UX
 refine sS [2,3,4,5,6] [2,3,4,6] ?_
 exact MT):G:=h
def Zr (h:G:=by
 refine zb ?_
 refine cH ?_
 exact GA):G:=h
def Zs (h:G:=by
 refine xd ?_
 exact GA):G:=h
def Zt (h:G:=by
 refine dC ?_
 refine zZ ?_
 refine XC (s:=9) ak (show _=RV.slc ai ((jQ s u).map ar) from by first|(rw [hv2];done)|(rw [hv2];exact rfl)) ?_
 refine sG [2,3,4,5,6,7,8,9] [2,3,4,6] ?_
 refine CT ?_
 refine sc ?_ ?_<;>intro hbe
 have hk2:u.Kind=2:=EH
 have hok:=Ju hos hou hnw hkd (.inl hk2)
 refine zY ?_
 refine zM ?_
 exact (bh 4 (bh _ (aI ak (aI (by refine dh ?_;rw [xK hok hk2];exact rfl) (aI hR (aI (fun h=>nomatch h) (aI (by refine eG ?_;rw [xK hok hk2]) tI)))))))
 have hk2:¬u.Kind=2:=EH
 have hu0:0 < (dG s u).length:=ab
 refine dp ?_
 refine aU ?_
 refine zZ ?_
 refine lV (d:=6) (t:=41) (D:=910) (G:=2910) (E:=114) (e:=1) (L:=(Lw w0.heap.size)) (A:=[]) (B:=[val _]) (es:=((dG s u)).map (aO bc ai)) ak (kd hu0) ak ak rfl ak (fun x hx=>hx) bg bg vS ky (ax.map fun x=>(ax.cons (lcl_own (ax.map fun x=>(ax.cons lcl_val (ax.cons (lcl_own (ax.map fun x=>(ax.cons lcl_val ax.nil))) (ax.cons lcl_val (ax.cons lcl_val ax.nil)))))) ax.nil)) fun uu910 cp910 jk910 hlD910 hcp910 hjk910=>?_
 rw [bf] at hlD910 hcp910 hjk910
 refine eg (d:=910) ak (show _=bU (aO bc ai) ((dG s u)) jk910 from rfl) ?_
 refine sO [(2,_),(3,_),(4,_),(5,_),(6,_),(7,_),(8,_),(9,_),(2910,_)] [(2,_),(3,_),(4,_),(6,(41,lr)),(910,(114,bU (aO bc ai) _ _))] ?_
 refine aY ?_
 refine zg ?_
 refine rA ?_ (x:=WI (G:=2910) aj gB)
 refine fK ?_
 refine sP [2,3,4,5,6,7,8,9,87,88,89,2910] [2,3,4,6,910] ?_
 refine sL [2,3,4,6,7,8,9,87,88,2910] [2,3,4,6,910] (fun m:Nat=>m≤s.ax2.length∧(s.ax2.take m).any jx=false) (fun m:Nat=>[(89,RV.int (m:Int))]) (fun m:Nat=>[]) (fun m:Nat=>s.ax2.length - m) 0 gF bp an ?_
 rintro m ⟨hm,ha⟩
 refine cY ?_
 refine sc ?_ ?_<;>intro hbf
 try simp only [bf] at hbf
 have hlt:m < s.ax2.length:=ab
 have hum:m < (dG s u).length:=ab
 have hua:=Jr s u hum hlt
 have hs4m:=hs4 _ (List.getElem_mem hlt)
 refine eB ?_
 refine Zh6 ?_
 refine eg (d:=910) ak (ox (f:=(aO bc ai)) (xs:=(dG s u)) (k:=m) hum) ?_
 have hA910:=lp (f:=(aO bc ai)) (e:=1) (xs:=(dG s u)) (k:=m) (fun _=>rfl) (Nat.le_of_lt hum)
 refine sO [(2,_),(3,_),(4,_),(6,_),(7,_),(8,_),(9,_),(87,_),(88,_),(89,_),(2910,_)] [(2,_),(3,_),(4,_),(6,_),(910,(114,_++([sl _ _]++_)))] ?_
 refine anq (d:=910) (A:=_) (B:=[]++_) ak fun vN=>?_
 refine sO [(2,_),(3,_),(4,_),(6,_),(7,_),(8,_),(9,_),(87,_),(88,_),(89,_),(2910,_)] [(2,_),(3,_),(4,_),(6,_),(910,(114,_++([nv _ (sl _ _)]++_)))] ?_
 refine nH ?_
 refine rA ?_ (x:=kI (k:=m) (G:=2910) aj gB an ab UA)
 refine rA ?_ (x:=we (o:=0) (qs:=BB) ab aj jS (fun _=>rfl) az ug KM)
 refine rS ?_
 refine rA ?_ (x:=lS (r':=RV.sv false BB) (.inr rfl) aj Ut)
 refine sS [2,3,4,6,7,8,9,10,11,87,88,89,2910] [2,3,4,6,910] ?_
 refine zuv ?_
 refine dQ ?_
 refine sc ?_ ?_<;>intro hbg
 have hsm:jx s.ax2[m]=true:=by unfold jx;rw [decide_eq_true_eq];omega
 have hrm:=aid hlt ha hsm
 have hok:=Ju hos hou hnw hkd (.inr ab)
 have hpv:=xM (v:=mm s u) hum
 refine aU ?_
 refine QK ?_
 refine ans (d:=910) (G:=6400) (A:=_) (B:=[]++_) ak ak ut (bor_sl _) ?_
 refine sO [(2,_),(3,_),(4,_),(6,_),(7,_),(8,_),(9,_),(10,_),(11,_),(87,_),(88,_),(89,_),(2910,_),(6400,_)] [(2,_),(3,_),(4,_),(6,_),(910,(114,_++([sl _ _]++_)))] ?_
 refine FU (s:=11) (G:=6400) ak (by exact (Nm.nv Nm.nil)) rfl aj ak ?_
 refine QK ?_
 refine cC ?_
 refine CV ?_
 refine dA 0 ?_ (x:=tM)
 refine dA 0 ?_ (x:=lF Aj)
 refine dA 16 ?_ (x:=lF mU)
 refine dA 48 ?_ (x:=lD [val _] bb)
 refine dA 0 ?_ (x:=tM)
 refine PF ?_
 refine dA 1008 ?_ (x:=cy (qs:=[(false,[val _]),(false,[sl _ _]),(false,[val _]),(false,[val _])]) (cs:=fe) aj iT xR ajA ak Vk rfl ak)
 refine dA 2032 ?_ (x:=cj (qs:=[(true,fe)]) aj dq iT aj rfl rfl rfl rfl rfl az bS rfl)
 refine dA 4088 ?_ (x:=fc aj dq iT rfl rfl aj rfl bq bq)
 refine dA 8191 ?_ (x:=kI (k:=m) (G:=2910) aj gB an ab UA)
 refine dA 16383 ?_ (x:=qM (o:=0) (ag:=false) (vs:=[sl _ _]) ab jS an ak az)
 refine eg (d:=910) ak (po ((dG s u)[m]++[mm s u]) hum Vu) ?_
 refine sI (d:=6) (D:=910) (G:=2910) (e:=1) (A:=[]) (B:=[val _]) (es:=(((dG s u)).set m ((dG s u)[m]++[mm s u])).map (aO bc ai)) ak ak ak rfl qz oq (by rw [bf];exact hjk910) ?_
 refine aU ?_
 refine sO [(2,_),(3,_),(4,_),(6,_),(7,_),(8,_),(10,_),(87,_),(88,_),(89,_)] [(2,_),(3,_),(4,_),(6,(41,bW))] ?_
 refine aY ?_
 refine zM ?_
 exact (bh 4 (bh _ (aI ak (aI (by refine dh ?_;rw [Aw hok hk2 hrm,hpv];exact rfl) (aI hR (aI (fun h=>nomatch h) (aI (by refine eG ?_;rw [Aw hok hk2 hrm]) tI)))))))
 have hns:jx s.ax2[m]=false:=by unfold jx;rw [decide_eq_false_iff_not];omega
 refine ba ?_
 refine QK ?_
 refine anr (d:=910) (A:=_) (B:=[]++_) ak ?_
 refine sO [(2,_),(3,_),(4,_),(6,_),(7,_),(8,_),(9,_),(10,_),(11,_),(87,_),(88,_),(89,_),(2910,_)] [(2,_),(3,_),(4,_),(6,_),(910,(114,_++([sl _ _]++_)))] ?_
 refine eg (d:=910) ak (show _=bU (aO bc ai) (dG s u) jk910 from (ox (f:=(aO bc ai)) (xs:=(dG s u)) (k:=m) hum).symm) ?_
 refine sO [(2,_),(3,_),(4,_),(6,_),(7,_),(8,_),(9,_),(10,_),(11,_),(87,_),(88,_),(89,_),(2910,_)] [(2,_),(3,_),(4,_),(6,_),(910,(114,bU (aO bc ai) _ _))] ?_
 refine aY ?_
 refine dI ?_
 refine nx (m+1) (by exact ⟨ab,Ae ha hlt hns⟩) (e:=nu)
 try simp only [bf] at hbf
 have hend:m=s.ax2.length:=ab
 have hrn:=aie ED
 have hno:kt s u=false:=UX
 refine fq ?_
 refine Zh6 ?_
 refine OM ?_
 exact Zq):G:=h
def Zu (h:G:=by
 refine dC ?_
 refine zZ ?_
 refine Zh8 ?_
 refine zZ ?_
 refine XC (s:=9) ak (show _=RV.slc ai ((gA s u).map ar) from by first|(rw [hu2];done)|(rw [hu2];exact rfl)) ?_
 refine sG [2,3,4,5,6,7,8,9] [2,3,4,6] ?_
 refine CT ?_
 refine sc ?_ ?_<;>intro hbd
 have hk3:u.Kind=3:=ue
 have hge3:0≤cF s u.Row.Id:=ab
 have hv3:=Jt (u:=u) hos hge3
 have hf3:=Rw hou hk3
 have hfl:u.Field.toNat < (gA s u).length:=ab
 have hv2:jQ s u=(gA s u).set u.Field.toNat u.Value:=if_pos hk3
 refine zZ ?_
 refine Mb (s:=9) (D:=930) (G:=2930) (E:=3) (e:=1) (L:=(Lw w0.heap.size)) (es:=((gA s u)).map ar) ak (kd hfl) ak ak rfl ak (fun x hx=>hx) bg bg (ax.map fun x=>(ax.cons lcl_val ax.nil)) fun uu930 cp930 jk930 hlD930 hcp930 hjk930=>?_
 rw [bf] at hlD930 hcp930 hjk930
 refine QL ?_
 have hA930:=lp (f:=ar) (e:=1) (xs:=(gA s u)) (k:=u.Field.toNat) (fun _=>rfl) (Nat.le_of_lt hfl)
 refine sO [(2,_),(3,_),(4,_),(5,_),(6,_),(7,_),(8,_),(9,_),(2930,_)] [(2,_),(3,_),(4,_),(6,_),(930,(3,_++([val _]++_)))] ?_
 refine Qn ?_
 refine PS ?_
 refine PT ?_
 refine NO ?_
 refine eg (d:=930) ak (po u.Value hfl ak) ?_
 refine Mc (s:=9) (D:=930) (G:=2930) (e:=1) (es:=(((gA s u)).set u.Field.toNat u.Value).map ar) ak ak ak rfl aj qz oq UO ?_
 exact Zt
 have hk3n:¬u.Kind=3:=ue
 have hv2:jQ s u=gA s u:=if_neg hk3n
 refine ba ?_
 exact Zt):G:=h
def Zv (h:G:=by
 have hno:kt s u=false:=by rw [←Bool.not_eq_true];intro hc_;obtain ⟨h1_,h2_,h3_,h4_,h5_⟩:=xL hc_;by_cases h1:0≤cF s u.Row.Id<;>by_cases h2:u.Kind=1<;>by_cases h3:u.Kind=2<;>by_cases h4:0≤jP s.ax2<;>by_cases h6:cF s u.Row.Id < 0<;>(first|omega|(simp_all;done)|(simp_all;omega))
 refine zY ?_
 exact MT):G:=h
def Zw (h:G:=by
 refine zM ?_
 exact (bh 4 (bh _ (aI ak (aI (by refine dh ?_;first|(rw [Aw hok hk2 hrm,hpv];exact rfl)|(rw [xK hok hk2];exact rfl)) (aI hR (aI (fun h=>nomatch h) (aI (by refine eG ?_;first|(rw [Aw hok hk2 hrm];done)|(rw [xK hok hk2];done)) tI)))))))):G:=h
def Zx (h:G:=by
 obtain ⟨r,hr,hrm,hr4⟩:=Rt (hrr.resolve_left hk2)
 have hru:r < (dG s u).length:=ab
 have hua:=Jr s u hru hr
 have hpv:=xM (v:=mm s u) hru
 refine Dn ?_
 refine lV (d:=6) (t:=41) (D:=940) (G:=2940) (E:=114) (e:=1) (L:=(Lw w0.heap.size)) (A:=[]) (B:=[val _]) (es:=((dG s u)).map (aO bc ai)) ak (kd hru) ak ak rfl ak (fun x hx=>hx) bg bg vS ky (ax.map fun x=>(ax.cons (lcl_own (ax.map fun x=>(ax.cons lcl_val (ax.cons (lcl_own (ax.map fun x=>(ax.cons lcl_val ax.nil))) (ax.cons lcl_val (ax.cons lcl_val ax.nil)))))) ax.nil)) fun uu940 cp940 jk940 hlD940 hcp940 hjk940=>?_
 rw [bf] at hlD940 hcp940 hjk940
 refine eg (d:=940) ak (ox (k:=r) hru) ?_
 have hA940:=lp (f:=(aO bc ai)) (e:=1) (xs:=(dG s u)) (k:=r) (fun _=>rfl) (Nat.le_of_lt hru)
 refine sO [(2,_),(3,_),(4,_),(5,_),(6,_),(7,_),(8,_),(9,_),(10,_),(2940,_)] [(2,_),(3,_),(4,_),(6,(41,lr)),(10,_),(940,(114,_++([sl _ _]++_)))] ?_
 refine cC ?_
 refine CV ?_
 refine zX ?_
 refine dA 8 ?_ (x:=lD [val _] mo)
 refine dS ?_
 refine dA 56 ?_ (x:=kI (k:=r) (G:=2940) aj gB an ab UB)
 refine dA 120 ?_ (x:=Md (o:=0) (ms:=[sl _ _]) (qs:=[sl .v _]) ab aj jS (fun _=>rfl) az ak iE ib)
 refine dA 0 ?_ (x:=eN (ms:=fe) (qs:=jD) aj mn (fun h=>nomatch h) az ak (by exact (aD (aV (aD (aD aJ.nil))))) bg)
 refine dA 256 ?_ (x:=cj (qs:=[(true,fe)]) aj dq iT aj rfl rfl rfl rfl rfl az bS rfl)
 refine dA 1016 ?_ (x:=fc aj dq iT rfl rfl aj rfl bq bq)
 refine dA 2047 ?_ (x:=kI (k:=r) (G:=2940) aj gB an ab UB)
 refine dA 4095 ?_ (x:=qM (o:=0) (ag:=false) (vs:=[sl _ _]) ab jS an ak az)
 refine eg (d:=940) ak (po ((dG s u)[r]++[mm s u]) hru Vu) ?_
 refine sI (d:=6) (D:=940) (G:=2940) (e:=1) (A:=[]) (B:=[val _]) (es:=(((dG s u)).set r ((dG s u)[r]++[mm s u])).map (aO bc ai)) ak ak ak rfl qz oq (by rw [bf];exact hjk940) ?_
 refine aU ?_
 refine sO [(2,_),(3,_),(4,_),(5,_),(6,_),(7,_),(8,_),(9,_),(10,_)] [(2,_),(3,_),(4,_),(6,(41,bW)),(10,(116,fe))] ?_
 refine aY ?_
 exact Zw):G:=h
def Zy (h:G:=by
 refine ba ?_
 refine sS [2,3,4,5,6,7,8,9,10] [2,3,4,6,10] ?_
 exact Zw):G:=h
def Zz (h:G:=by
 refine Zhi ?_
 refine ux ?_
 refine mQ ?_
 refine sc ?_ ?_<;>intro hbe
 have hk2:¬u.Kind=2:=EH
 exact Zx
 have hk2:u.Kind=2:=EH
 exact Zy):G:=h
def ZA (h:G:=by
 refine Zhj ?_
 refine QM ?_
 refine CT ?_
 refine sc ?_ ?_<;>intro hbd
 have hk3:u.Kind=3:=ue
 have hge3:0≤cF s u.Row.Id:=ab
 have hv3:=Jt (u:=u) hos hge3
 have hf3:=Rw hou hk3
 have hfl:u.Field.toNat < (gA s u).length:=ab
 have hv2:jQ s u=(gA s u).set u.Field.toNat u.Value:=if_pos hk3
 refine Dn ?_
 refine lV (d:=10) (t:=116) (D:=930) (G:=2930) (E:=3) (e:=1) (L:=(Lw w0.heap.size)) (A:=[val _]) (B:=lr) (es:=((gA s u)).map ar) ak (kd hfl) ak ak rfl ak (fun x hx=>hx) bg bg ky ky (ax.map fun x=>(ax.cons lcl_val ax.nil)) fun uu930 cp930 jk930 hlD930 hcp930 hjk930=>?_
 rw [bf] at hlD930 hcp930 hjk930
 refine QL ?_
 have hA930:=lp (f:=ar) (e:=1) (xs:=(gA s u)) (k:=u.Field.toNat) (fun _=>rfl) (Nat.le_of_lt hfl)
 refine Zhl ?_
 refine rA ?_ (x:=lF oU)
 refine rA ?_ (x:=lD [val _] cW)
 refine PS ?_
 refine PT ?_
 refine NO ?_
 refine Zhm ?_
 refine Hp ?_
 exact Zz
 have hk3n:¬u.Kind=3:=ue
 have hv2:jQ s u=gA s u:=if_neg hk3n
 refine dp ?_
 refine HF ?_
 exact Zz):G:=h
def ZB (h:G:=by
 refine Zhi ?_
 refine ux ?_
 refine mQ ?_
 refine sc ?_ ?_<;>intro hbd
 have hk2:¬u.Kind=2:=ue
 exact Zx
 have hk2:u.Kind=2:=ue
 exact Zy):G:=h
def ZC (h:G:=by
 refine Zhj ?_
 refine QM ?_
 refine CT ?_
 refine sc ?_ ?_<;>intro hbc
 have hk3:u.Kind=3:=Fv
 have hge3:0≤cF s u.Row.Id:=ab
 have hv3:=Jt (u:=u) hos hge3
 have hf3:=Rw hou hk3
 have hfl:u.Field.toNat < (gA s u).length:=ab
 have hv2:jQ s u=(gA s u).set u.Field.toNat u.Value:=if_pos hk3
 refine Dn ?_
 refine lV (d:=10) (t:=116) (D:=930) (G:=2930) (E:=3) (e:=1) (L:=(Lw w0.heap.size)) (A:=[val _]) (B:=lr) (es:=((gA s u)).map ar) ak (kd hfl) ak ak rfl ak (fun x hx=>hx) bg bg ky ky (ax.map fun x=>(ax.cons lcl_val ax.nil)) fun uu930 cp930 jk930 hlD930 hcp930 hjk930=>?_
 rw [bf] at hlD930 hcp930 hjk930
 refine QL ?_
 have hA930:=lp (f:=ar) (e:=1) (xs:=(gA s u)) (k:=u.Field.toNat) (fun _=>rfl) (Nat.le_of_lt hfl)
 refine Zhl ?_
 refine rA ?_ (x:=lF oU)
 refine rA ?_ (x:=lD [val _] cW)
 refine PS ?_
 refine PT ?_
 refine NO ?_
 refine Zhm ?_
 refine Hp ?_
 exact ZB
 have hk3n:¬u.Kind=3:=Fv
 have hv2:jQ s u=gA s u:=if_neg hk3n
 refine dp ?_
 refine HF ?_
 exact ZB):G:=h
def ZD (h:G:=by
 have hbad:fh vC bM vD l=false:=uX hlt (Bool.eq_false_iff.2 fun hx=>by
  have hx:=mf.1 hx
  rw [hgk] at hx
  obtain ⟨hx1,hx2⟩:=hx
  first
  | (simp_all;done)
  | (simp only [decide_eq_true_eq,vD] at *;by_cases h0:k=0<;>(try rw [hgp ab] at hx2)<;>omega))
 refine zC ?_
 exact rb (by simp [jU,hbad])):G:=h
def ZE (h:G:=by
 refine wR ?_
 refine cB ?_
 refine nx (k+1) (by exact ⟨ab,by rw [Dv,ha,Bool.true_and];refine mf.2 ⟨AZ,?_⟩;rcases Nat.eq_zero_or_pos k with h0|h0;(· exact .inl h0);(· right;rw [hgk,hgp h0];first|(simp only [decide_eq_true_eq,vD] at *;omega)|(simp_all;done))⟩)):G:=h
def MU (h:G:=by
 have hno:qi rows n=false:=by rw [←Bool.not_eq_true];intro hc_;obtain ⟨h1_,h2_,h3_⟩:=SB hc_;have h4_:aK n 1 8=true:=(by simp [aK];omega);(first|omega|(simp_all;done)|(simp_all;omega))
 refine zsd ?_
 refine Zh4 ?_
 exact (bh 4 (bh _ (aI ak (aI (by refine dh ?_;rw [ajT hno];exact rfl) (aI hR (aI (fun h=>nomatch h) (aI (by refine eG ?_;rw [ajT hno]) tI)))))))):G:=h
def ZF (h:G:=by
 refine IT ?_
 refine fL ?_
 refine jp ?_
 refine zbx ?_
 refine Zhp ?_
 refine cK ?_
 exact ⟨(by rw [ajX h0_,huk];exact rfl),rfl,(bh 4 (bh _ (aI ak (aI (by refine dh ?_;rw [ajX h0_,huk];exact rfl) (aI kq (aI (fun h=>nomatch h) tI))))))⟩):G:=h
def ZG (h:G:=by
 refine IT ?_
 refine Zhq ?_
 refine Zhp ?_
 refine cK ?_
 exact ⟨(by rw [ajY h0_ h1_,huk];exact rfl),rfl,(bh 4 (bh _ (aI ak (aI (by refine dh ?_;rw [ajY h0_ h1_,hu];exact rfl) (aI kq (aI (fun h=>nomatch h) tI))))))⟩):G:=h
def ZH (h:G:=by
 refine ba ?_
 refine IT ?_
 refine jp ?_
 refine rS ?_
 refine sS [0,3,4,5,6,7,29,5000] [0,3,4] ?_
 refine Zhq ?_
 refine rM ?_
 refine jp ?_
 refine rA ?_ (x:=cy (qs:=[(false,[val _]),(true,ct),(false,[val _]),(false,[val _])]) (cs:=eP) aj tC tD akm ak Vl rfl ak)
 refine xv ?_
 refine cK ?_
 exact ⟨(by rw [ajZ h0_ h1_,huk];exact rfl),rfl,(bh 4 (bh _ (aI ak (aI (by refine dh ?_;rw [ajZ h0_ h1_,huk,hu];exact rfl) (aI kq (aI (fun h=>nomatch h) tI))))))⟩):G:=h
def ZI (h:G:=by
 refine aU ?_
 refine sS [0,3,4,5,6,5000] [0,3,4] ?_
 refine jp ?_
 refine iJ ?_
 refine HP ?_
 refine sc ?_ ?_<;>intro hbb
 have h0_:(dy c s).1=0:=Fu
 exact ZF
 have h0_:¬(dy c s).1=0:=Fu
 refine HP ?_
 refine sc ?_ ?_<;>intro hbc
 have h1_:(dy c s).1=1:=VS
 exact ZG
 have h1_:¬(dy c s).1=1:=VS
 exact ZH):G:=h
def ZJ (h:G:=by
 refine rS ?_
 refine nx (k+1) ab (e:=nu)):G:=h
def ZK (h:G:=by
 refine cK ?_
 exact (bh 2 (bh _ (aI ak (aI ak (aI dj (aI (fun h=>nomatch h) (aI ak tI)))))))):G:=h
def ZL (h:G:=by
 refine cK ?_
 exact ⟨(by first|(rw [aki hk0];exact rfl)|(rw [akj hk0 hk2];exact rfl)|(rw [akk hk0 hk2 hk3];exact rfl)|(rw [akl hk0 hk2 hk3];exact rfl)),rfl,(bh 4 (bh _ (aI ak (aI (by refine dh ?_;first|(rw [aki hk0];exact rfl)|(rw [akj hk0 hk2];exact rfl)|(rw [akk hk0 hk2 hk3];exact rfl)|(rw [akl hk0 hk2 hk3];exact rfl)) (aI iA (aI (fun h=>nomatch h) tI))))))⟩):G:=h
def ZM (h:G:=by
 refine Ad ?_
 exact ZL):G:=h
def ZN (h:G:=by
 refine rA ?_ (x:=cy (qs:=[(false,[val _]),(false,[val _])]) (cs:=cS) aj qg vu Te ak vW rfl ak)
 exact ZM):G:=h
def ZO (h:G:=by
 refine sc ?_ ?_<;>intro hbb
 have hk0:(dc c).1=0∨(dc c).1=1:=by first|assumption|exact .inr hbb|exact .inr jA
 refine Do ?_
 refine fL ?_
 refine jp ?_
 refine rA ?_ (x:=dP (bx:=0) (qs:=[(false,[val _])]) (as_:=[(false,[val _])]) aj ait rfl bS kb iC jZ (by exact (ai6 hbo)))
 refine Cf ?_
 refine aU ?_
 refine sO [(0,_),(3,_),(4,_),(5,_),(7,_),(5000,_)] [(0,_),(3,_),(4,_),(5,(25,bX))] ?_
 refine cC ?_
 refine Zea ?_
 refine pH ?_
 refine dA 0 ?_ (x:=cj (qs:=[(false,[val _]),(false,[val _]),(false,[val _]),(false,[val _])]) aj cn iP aj rfl rfl rfl rfl rfl az KI rfl)
 refine dA 6 ?_ (x:=dP (bx:=0) (qs:=[(false,[sl _ _])]) (as_:=[(false,[sl .v _])]) aj vo rfl bS qA iC sq Vo)
 refine dA 15 ?_ (x:=cy (qs:=[(false,[val _]),(true,bX),(false,[val _])]) (cs:=cS) aj qg vu Te ak Vz rfl ak)
 refine dA 31 ?_ (x:=bV (ag:=true) (vs:=cS) iA an ak az)
 exact ZL
 have hk0:¬((dc c).1=0∨(dc c).1=1):=by intro hc_;rcases hc_ with hc_|hc_<;>first|exact hk00 hc_|exact hbb hc_|(simp_all;done)
 refine Qf ?_
 refine sc ?_ ?_<;>intro hbc
 have hk2:(dc c).1=2:=hbc
 refine Do ?_
 refine jp ?_
 exact ZN
 have hk2:¬(dc c).1=2:=hbc
 refine Qf ?_
 refine sc ?_ ?_<;>intro hbd
 have hk3:(dc c).1=3:=hbd
 refine Do ?_
 refine jp ?_
 refine rA ?_ (x:=jF)
 exact ZN
 have hk3:¬(dc c).1=3:=hbd
 refine ba ?_
 refine Do ?_
 refine Pu ?_
 refine rA ?_ (x:=dP (bx:=0) (qs:=[(true,bW)]) (as_:=[(true,eh)]) aj RC rfl bS yj iC yi Vp)
 refine rA ?_ (x:=cy (qs:=[(false,[val _]),(true,eP)]) (cs:=cS) aj qg vu Te ak vW rfl ak)
 exact ZM):G:=h
def ZP (h:G:=by
 refine db ?_
 exact rb (by first|(simp_all [ry];done)|(simp_all [ry];rfl)|(simp_all [ry];omega)|(simp_all [ry];intros;omega))):G:=h
def ZQ (h:G:=by
 have hbad:xH e i=false:=by first|(simp_all [xH];done)|(simp_all [xH];omega)
 refine sS [1,2,4] [2] ?_
 exact oy):G:=h
def ZR (h:G:=by
 refine db ?_
 exact rb (by unfold xH;rw [hok.1,hok.2,←hgd];first|(simp_all [ry];done)|(simp_all [ry];omega))):G:=h
def ZS (h:G:=by
 refine sG [1,2,3,4] [1] ?_
 refine cB ?_
 refine nx (k+1) (by exact ⟨ab,fun _=>hok⟩) (e:=(by exact aI Uj (aI ak tI)))):G:=h
def ZT (h:G:=by
 have hc:kV e e.ax3[k]=false:=EZ
 refine ba ?_
 exact ZS):G:=h
def ZU (h:G:=by
 have hfin:(k=e.ax3.length∧bn e=true)∨(k=0∧(e.ax3.length=0∨bn e=false)):=by
  by_cases h0k:0 < k
  ·left
   have h1:=ha h0k
   refine ⟨?_,h1⟩
   by_cases hka:k=e.ax3.length
   ·exact hka
   ·exfalso
    have hlt_:k < e.ax3.length:=ab
    have hlt2_:(k:Int) < (e.ax3.length:Int):=ab
    first|omega|simp_all
  ·right
   refine ⟨ab,?_⟩
   by_cases hka:e.ax3.length=0
   ·exact .inl hka
   ·right
    have hlt_:k < e.ax3.length:=ab
    have hlt2_:(k:Int) < (e.ax3.length:Int):=ab
    rw [←Bool.not_eq_true];intro hc_;simp_all
 refine bI ?_
 refine sT [1,2,3,4] [1] ?_
 refine pD ?_
 exact (aI (by refine cz ?_;rw [aoX hfin]) tI)):G:=h
def ZV (h:G:=by
 refine sG [1,2,3,5,12,13,14] [1,5] ?_
 refine dI ?_
 refine nx (k+1) ab (e:=(by exact aI Uj (aI ak tI)))):G:=h
def ZW (h:G:=by
 have hc:kV e e.ax3[k]=false:=EZ
 refine ba ?_
 exact ZV):G:=h
def ZX (h:G:=by
 refine rM ?_
 refine db ?_
 exact (aI (by refine cX ?_;rw [Rq hlt ha hy]) tI)):G:=h
def ZY (h:G:=by
 refine ca ?_
 exact (aI (by refine cX ?_;rw [aoY ha]) tI)):G:=h
def ZZ (h:G:=by
 refine nx (k+1) ab (e:=(by exact aI (by first|exact cz (by rw [asH hlt hne,bK];rfl)|exact cz (by rw [asI hlt hne])) (aI ak tI)))):G:=h
def zti (h:G:=by
 refine sG [0,1,4,5,7,9,10,11] [] ?_
 refine dI ?_
 exact ZZ):G:=h
def ztj (h:G:=by
 refine sG [0,1,4,5,6] [] ?_
 refine cB ?_
 exact ZZ):G:=h
def ztk (h:G:=by
 refine sG [1,2,3,6,7,9,15,16,17] [3,9] ?_
 refine dI ?_
 refine nx (k+1) ab (e:=(by exact aI (by first|exact cz (by rw [Sn hlt hv,bK];rfl)|exact cz (by rw [ajI hlt hv])) (aI ak tI)))):G:=h
def ztm (h:G:=by
 refine nx (k+1) ab (e:=(by exact aI (by exact cz (by rw [hts,bK];rfl)) (aI ak tI)))):G:=h
def BI (h:G:=by
 have hno:jT e=false:=by first|(simp_all [jT];done)|(simp_all [jT];omega)|(rw [←Bool.not_eq_true];intro hc_;obtain ⟨h1_,h2_,h3_,h4_⟩:=DX hc_;first|omega|(simp_all;done)|(simp_all;omega))
 refine sS [1,2,3,4] [1,2,4] ?_
 refine uv ?_
 refine ca ?_
 exact (bh 2 (bh _ (aI ak (aI (by refine dh ?_;rw [ajD hno];exact rfl) (aI dj (aI (fun h=>nomatch h) (aI (by refine eG ?_;rw [hno]) tI)))))))):G:=h
def ztw (h:G:=by
 refine oF ?_
 refine cH ?_
 exact BI):G:=h
def ztx (h:G:=by
 refine th ?_
 refine cH ?_
 exact BI):G:=h
def zty (h:G:=by
 refine xe ?_
 exact BI):G:=h
def zue (h:G:=by
 refine sG [1,2,3,4,5,6,8,9,10,11,13,57,58,59,77,78,79,2900,6100] [1,2,4,6,10,13,900] ?_
 refine dI ?_
 refine nx (j+1) ab (e:=(by exact aI (by first|exact cX (by rw [ajE hjv hm,bJ];simp only [List.length_cons,List.length_nil];omega)|exact cX (by rw [ajF hjv hm])) (aI jj (aI ak tI)))) (f:=(by exact aI (by first|(rw [ajE hjv hm,←hz3];simp only [bK,bB];exact rfl)|(rw [ajF hjv hm];exact rfl)) tI))):G:=h
def Zhx (h:G:=by
 refine nx (m+1) ab (e:=(by exact aI (by first|exact cz (by rw [asD hm1 hep,hga,bK];exact rfl)|exact cz (by rw [asE hm1 hep])) (aI jj (aI ak tI)))) (f:=(by exact aI (by first|(rw [asF hm1 hep,hga];simp only [bK,bB];exact rfl)|(rw [asG hm1 hep];exact rfl)) tI))):G:=h
def Zhy (h:G:=by
 refine aY ?_
 refine dI ?_
 exact Zhx):G:=h
def Zhz (h:G:=by
 refine CA ?_
 refine oK ?_
 refine sc ?_ ?_<;>intro hbf
 have hep:fD (dr e (parts e).length)[m]=true:=by rw [hga];simpa [fD] using hbf
 refine QN ?_
 refine zph ?_
 refine rm ?_
 refine Qt ?_
 refine PM ?_
 refine HK ?_
 refine zuc ?_
 refine rA ?_ (x:=cy (qs:=[(true,bX),(false,[val _]),(false,[val _]),(false,[sl _ _])]) (cs:=lW) aj rJ JF aun ak vU rfl ak)
 refine zpi ?_
 refine zpj ?_
 refine sO [(1,_),(2,_),(3,_),(4,_),(5,_),(6,_),(14,_),(16,_),(57,_),(58,_),(59,_),(145,_),(146,_),(147,_),(6200,_)] [(1,_),(2,_),(4,(46,aW)),(6,_),(16,(102,du))] ?_
 exact Zhy
 have hep:fD (dr e (parts e).length)[m]=false:=by rw [hga];simpa [fD] using hbf
 refine QN ?_
 refine cb ?_
 refine GV ?_
 refine BY ?_
 refine Zi1 ?_
 exact Zhy):G:=h
def zuo (h:G:=by
 refine aY ?_
 refine GX ?_
 refine Hb ?_
 refine sO [(1,_),(2,_),(3,_),(4,_),(5,_),(6,_),(14,_),(16,_),(57,_),(58,_),(59,_),(145,_),(146,_),(147,_),(6200,_)] [(1,_),(2,_),(4,_),(6,_),(16,(102,nB))] ?_
 refine Mw (d:=16) (G:=6200) (e:=10) (f:=(bd aH ai ai aL ai)) (z:=za[m]) (zs:=(za.drop (m+1))) ak Um (fun _=>rfl) Lo ?_
 refine NT ?_
 refine aY ?_
 refine xt ?_
 refine sZ ?_
 refine xt ?_
 refine mN ?_
 refine NT ?_
 refine aY ?_
 refine HK ?_
 refine pM ?_
 refine Cs ?_
 refine rA ?_ (x:=lN gB)
 refine OZ ?_
 refine sc ?_ ?_<;>intro hbe
 have hga:(dr e (parts e).length)[m]=(⟨za[m].1.ax4,za[m].1.Time,za[m].1.ayc,za[m].1.Age+1,0,za[m].1.Cap,za[m].1.Rows⟩:ax3):=by rw [JL hm1 hm2,←hz3];exact ajG hbe
 refine QN ?_
 refine ON ?_
 refine NT ?_
 refine aY ?_
 exact Zhz
 have hga:(dr e (parts e).length)[m]=(⟨za[m].1.ax4,za[m].1.Time,za[m].1.ayc,za[m].1.Age+1,za[m].1.Sent,za[m].1.Cap,za[m].1.Rows⟩:ax3):=by rw [JL hm1 hm2,←hz3];exact ajH hbe
 refine ba ?_
 refine sS [1,2,3,4,5,6,14,16,57,58,59,145,146,147,6200] [1,2,4,6,16] ?_
 exact Zhz):G:=h
def zvt (h:G:=by
 refine cK ?_
 exact (bh 2 (bh _ (aI ak (aI (by refine dh ?_;rw [Se hok];exact rfl) (aI dj (aI (fun h=>nomatch h) (aI (by refine eG ?_;rw [hok]) tI)))))))):G:=h
def zup (h:G:=by
 refine aY ?_
 refine cb ?_
 refine yW ?_
 refine aU ?_
 refine Zi3 ?_
 refine rA ?_ (x:=lF oV)
 refine sZ ?_
 refine pM ?_
 refine Cs ?_
 refine rA ?_ (x:=lN gB)
 refine IE ?_
 refine rA ?_ (x:=lF oV)
 refine mN ?_
 refine Zi3 ?_
 refine rA ?_ (x:=lF ne)
 refine sZ ?_
 refine rA ?_ (x:=lF ne)
 refine mN ?_
 refine sO [(1,_),(2,_),(3,_),(4,_),(5,_),(6,_),(57,_),(58,_),(59,_),(146,_),(147,_)] [(1,_),(2,_),(4,(46,aW)),(6,_)] ?_
 refine wd ?_
 refine wA ?_ (x:=eN (ms:=aW) (qs:=[any,val _,val _,any,any,any,any,val _]) aj dj (fun h=>nomatch h) az ak KD bg)
 refine wO [(1,_),(2,_),(3,_),(4,_),(5,_),(6,_),(57,_),(58,_),(59,_),(146,_),(147,_),(202,_)] [(1,_),(2,_),(4,(46,[any,val _,val _,any,any,any,any,val _])),(6,_)] ?_
 refine Ml (L:=(Lw w0.heap.size)) (qs:=[(true,aW)]) (as_:=[(true,aW)]) aj RB gI bS aj bg (by exact (Tf (e:=jf e) ab)) (fun x hx=>hx) bg bg ?_
 refine wA ?_ (x:=bV (ag:=true) (vs:=aW) dj an ak az)
 refine wA ?_ (x:=kA)
 refine ur ?_
 exact zvt):G:=h
def MV (h:G:=by
 refine sG [0,1,5,6,7,8,9,10,11,12,13,14,15,2900,5000] [0,6,8,13,900] ?_
 refine cB ?_
 refine nx (j+1) ab (e:=(by exact aI (by first|exact cX (by rw [ajP hj2 hvv hmm,bJ];simp only [List.length_cons,List.length_nil];omega)|exact cX (by rw [JR hj2 (.inl hvv)])|exact cX (by rw [JR hj2 (.inr hmm)])) (aI jj tI))) (f:=(by exact aI (by first|(rw [ajP hj2 hvv hmm,←hz4];simp only [bK,bB];exact rfl)|(rw [JR hj2 (.inl hvv)];exact rfl)|(rw [JR hj2 (.inr hmm)];exact rfl)) tI))):G:=h
def GB (h:G:=by
 refine cB ?_
 exact Zhx):G:=h
def zvi (h:G:=by
 refine CA ?_
 refine oK ?_
 refine sc ?_ ?_<;>intro hbd
 have hep:fD (dr e (parts e).length)[m]=true:=EI
 refine sP [0,3,4,5,6,5000,6200] [0,6] ?_
 refine BD (d:=6) (G:=6300) ak ak (aD (aD (aV (aV (aD (aV (aD (aD (aD (aV aJ.nil)))))))))) bg fun us hRN=>?_
 obtain ⟨_,_,hRN⟩:=hRN
 obtain ⟨uA_0,uA_1,uA_2,uA_3,uA_4,uA_5,uA_6,uA_7,uA_8,uA_9,rfl⟩:=ahi hRN.len
 clear hRN
 refine sO [(0,_),(3,_),(4,_),(5,_),(6,_),(5000,_),(6200,_),(6300,_)] [(0,_),(6,(102,nB))] ?_
 refine Qo ?_
 refine Cr ?_
 refine Zi5 ?_
 refine Zi6 ?_
 refine Zi7 ?_
 refine Zi8 ?_
 refine Zi9 ?_
 refine Zia ?_
 refine Zib ?_
 refine Zic ?_
 refine sO [(0,_),(3,_),(4,_),(5,_),(6,_),(5000,_),(6200,_),(6300,_)] [(0,(46,aW)),(6,_)] ?_
 refine Zid ?_
 refine sG [0,3,4,5,6,5000,6200] [0,6] ?_
 exact GB
 have hep:fD (dr e (parts e).length)[m]=false:=EI
 refine sG [0,3,4,5,6,5000,6200] [0,6] ?_
 refine cb ?_
 refine GV ?_
 refine BY ?_
 refine Hl ?_
 exact GB):G:=h
def zvn (h:G:=by
 refine BA (bx:=0) (L:=LB) (qs:=[]) (as_:=[]) aj RE rfl ak ak an an aj an (by exact (Tg (e:=jf e) ab)) (fun x hx=>hx.elim) bg (by exact (aI (.inl rfl) tI)) ?_
 refine ur ?_
 exact ⟨ak,rfl,tI⟩):G:=h
def zvp (h:G:=by
 refine CA ?_
 refine oK ?_
 refine sc ?_ ?_<;>intro hbd
 have hep:fD (dr e (parts e).length)[m]=true:=EI
 refine sP [0,2,3,4,5,6,5000,6200] [0,6] ?_
 refine BD (d:=6) (G:=6300) ak ak (aD (aD (aV (aV (aD (aV (aD (aD (aD (aV aJ.nil)))))))))) bg fun us hRN=>?_
 obtain ⟨_,_,hRN⟩:=hRN
 obtain ⟨uA_0,uA_1,uA_2,uA_3,uA_4,uA_5,uA_6,uA_7,uA_8,uA_9,rfl⟩:=ahi hRN.len
 clear hRN
 refine sO [(0,_),(2,_),(3,_),(4,_),(5,_),(6,_),(5000,_),(6200,_),(6300,_)] [(0,_),(6,(102,nB))] ?_
 refine Qo ?_
 refine Cr ?_
 refine Zi5 ?_
 refine Zi6 ?_
 refine Zi7 ?_
 refine Zi8 ?_
 refine Zi9 ?_
 refine Zia ?_
 refine Zib ?_
 refine Zic ?_
 refine sO [(0,_),(2,_),(3,_),(4,_),(5,_),(6,_),(5000,_),(6200,_),(6300,_)] [(0,(46,aW)),(6,_)] ?_
 refine Zid ?_
 refine sG [0,2,3,4,5,6,5000,6200] [0,6] ?_
 exact GB
 have hep:fD (dr e (parts e).length)[m]=false:=EI
 refine sG [0,2,3,4,5,6,5000,6200] [0,6] ?_
 refine cb ?_
 refine GV ?_
 refine BY ?_
 refine Hi ?_
 exact GB):G:=h
def yO (h:G:=by
 have hno:ni e q l=false:=by first|(simp_all [ni];done)|(simp_all [ni];omega)|(rw [←Bool.not_eq_true];intro hc_;obtain ⟨h1_,h2_,h3_,h4_,h5_⟩:=AH hc_;first|omega|(simp_all;done)|(simp_all [aK];omega))
 refine sS [2,3,4,6,7,8] [3,4,6,8] ?_
 refine uv ?_
 refine ca ?_
 exact (bh 6 (bh _ (aI ak (aI (by refine dh ?_;rw [JV hno];exact rfl) (aI dj (aI (fun h=>nomatch h) (aI (by refine eG ?_;rw [JV hno]) tI)))))))):G:=h
def zvy (h:G:=by
 refine Is ?_
 refine cH ?_
 exact yO):G:=h
def zvz (h:G:=by
 refine zt g8 ?_
 refine rA ?_ (x:=bj g8)
 refine cH ?_
 exact yO):G:=h
def zw1 (h:G:=by
 refine Il ?_
 refine cH ?_
 exact yO):G:=h
def zw3 (h:G:=by
 refine Iu ?_
 refine cH ?_
 exact yO):G:=h
def zw8 (h:G:=by
 refine nx (k+1) ab (f:=(by exact aI (by rw [atr,bK];exact rfl) tI))):G:=h
def zwc (h:G:=by
 refine sG [2,3,4,6,7,8,9,11,13,54,55,67,68,69,6200,6300] [3,4,6,8,9,13] ?_
 refine dI ?_
 refine nx (m+1) ab (e:=(by exact aI (by first|exact cz (by rw [ats hmz hlz,bK];rfl)|exact cz (by rw [att hmz hlz])) (aI jj tI)))):G:=h
def zwg (h:G:=by
 refine tk ?_
 refine ca ?_
 exact (bh 6 (bh _ (aI ak (aI (by refine dh ?_;rw [SJ hok];exact rfl) (aI dj (aI (fun h=>nomatch h) (aI (by refine eG ?_;rw [SJ hok]) tI)))))))):G:=h
def MW (h:G:=by
 refine QF ?_
 refine cC ?_
 refine zp1 ?_
 refine ij ?_
 refine dA 12 ?_ (x:=aZ aj cQ an ak bE ak)
 refine dA 28 ?_ (x:=sz (qs:=Mm) aj lI (fun h=>nomatch h) az KH bg)
 refine dA 60 ?_ (x:=cj (qs:=[(true,nB)]) aj cQ mp aj rfl rfl rfl rfl rfl az bS rfl)
 refine dA 127 ?_ (x:=fc aj cQ mp rfl rfl aj rfl bq bq)
 refine dA 255 ?_ (x:=lF hP)
 refine dA 511 ?_ (x:=bV (ag:=false) (vs:=[sl _ _]) fi an ak az)
 refine zwl ?_
 refine cB ?_
 refine nx (m+1) ab (e:=(by exact aI (by exact eG (by first|(rw [decide_eq_decide];omega)|(rw [decide_eq_true (show (eK e.ax3 q.Id) < m+1 by omega)];done))) (aI jj tI))) (f:=(by exact aI (by first|(rw [aty hmz hpm];simp only [bK];exact rfl)|(rw [atx hmz hpm];simp only [bK];exact rfl)) tI))):G:=h
def zwo (h:G:=by
 refine eg (d:=8) ak (show _=[sl bH (e.Store.ax2.map (aO bc ai)),val (vI e.Store.Now),val (vI e.ax7),sl ai (e.Order.map ar),sl cm ((za.take (eK e.ax3 q.Id)++(eJ e q l,kNew)::za.drop (eK e.ax3 q.Id)).map gS),sl cf (e.Done.map (bw aH ai aL ai)),sl ck (e.ayf.map (bz ai ai ai)),val (vI e.Steps)] from by first|(rw [←atz hpl];first|done|exact rfl)|(rw [←atA hpl];simp only [bK];exact rfl)) ?_
 refine QF ?_
 refine zwe ?_
 refine sP [2,3,4,6,7,8,9,10,11,12,13,6300] [3,4,6,8,9] ?_
 refine zwf ?_
 refine sO [(2,_),(3,_),(4,_),(6,_),(7,_),(8,_),(9,_),(10,_),(11,_),(12,_),(13,_)] [(3,_),(4,_),(6,_),(8,(46,aW)),(9,_)] ?_
 exact zwg):G:=h
def MX (h:G:=by
 have hno:nj e id=false:=by first|(simp_all [nj];done)|(simp_all [nj];omega)|(rw [←Bool.not_eq_true];intro hc_;unfold nj at hc_;simp only [aX,decide_eq_true_eq] at hc_;obtain ⟨h1_,h2_⟩:=hc_;first|omega|(simp_all;done)|(simp_all;omega))
 refine sS [1,2,4,5,6,7] [2,4,6] ?_
 refine uv ?_
 refine ca ?_
 exact (bh 4 (bh _ (aI ak (aI (by refine dh ?_;rw [JW hno];exact rfl) (aI dj (aI (fun h=>nomatch h) (aI (by refine eG ?_;rw [JW hno]) tI)))))))):G:=h
def zwt (h:G:=by
 refine mb ?_
 exact MX):G:=h
def zww (h:G:=by
 refine cK ?_
 exact (bh 4 (bh _ (aI ak (aI (by refine dh ?_;rw [SK hok hf];exact rfl) (aI dj (aI (fun h=>nomatch h) (aI (by refine eG ?_;rw [SK hok hf]) tI)))))))):G:=h
def zx1 (h:G:=by
 refine nx (k+1) (by exact ⟨ab,xx ha hlt hlt2 (by simp_all [anQ])⟩)):G:=h
def GC (h:G:=by
 refine db ?_
 exact rb (by rw [Bool.eq_iff_iff];simp only [fZ,ahs];simp_all [fZ,QW])):G:=h
def GD (h:G:=by
 refine db ?_
 exact rb (by rw [Bool.eq_iff_iff];simp only [fZ,anR];simp_all [fZ,QW])):G:=h
def GF (h:G:=by
 refine sS [2,3,4] [2,3] ?_
 refine ca ?_
 exact rb (by exact (Ag (fun e=>by subst e;simp_all [Dq])).symm)):G:=h
def GG (h:G:=by
 refine db ?_
 exact rb (by first|(rw [Bool.eq_iff_iff];simp_all [nQ];done)|(rw [Bool.eq_iff_iff];simp_all [nQ];omega)|(simp_all [nQ];done)|(simp_all [nQ];rfl)|(simp_all [nQ];omega)|(simp_all [nQ];intros;omega))):G:=h
def BJ (h:G:=by
 refine db ?_
 exact rb (by first|(rw [Bool.eq_iff_iff];simp_all [nR];done)|(rw [Bool.eq_iff_iff];simp_all [nR];omega)|(simp_all [nR];done)|(simp_all [nR];rfl)|(simp_all [nR];omega)|(simp_all [nR];intros;omega))):G:=h
def zxl (h:G:=by
 refine cK ?_
 exact rb (by first|(simp_all [dE];done)|(simp_all [dE];rfl)|(simp_all [dE];omega)|(simp_all [dE];intros;omega))):G:=h
def lZ (h:G:=by
 refine rS ?_
 exact zxl):G:=h
def MY (h:G:=by
 refine rB gd ?_ (x:=lF DB)
 refine HL ?_
 refine rj ?_
 exact lZ):G:=h
def GH (h:G:=by
 refine zu ?_
 exact lZ):G:=h
def Zif (h:G:=by
 refine cK ?_
 exact rb (by first|(simp_all [dE,Dy,Dz];done)|(simp_all [dE,Dy,Dz];rfl)|(simp_all [dE,Dy,Dz];omega)|(simp_all [dE,Dy,Dz];intros;omega))):G:=h
def gZ (h:G:=by
 refine rS ?_
 exact Zif):G:=h
def zxs (h:G:=by
 refine rB gd ?_ (x:=sM)
 refine pA ?_
 refine cx 38 ?_ ?_<;>intro ge sge
 refine rB ge ?_ (x:=lF DB)
 refine rB ge ?_ (x:=lD [val _] bb)
 refine rB ge ?_ (x:=iZ)
 refine rA ?_ (x:=bj ge)
 exact gZ
 refine zf ge ?_
 refine rA ?_ (x:=aR ge)
 exact gZ):G:=h
def zxv (h:G:=by
 refine rB gd ?_ (x:=lF DB)
 refine HL ?_
 refine rj ?_
 exact gZ):G:=h
def zxz (h:G:=by
 refine ba ?_
 refine rn ?_
 refine rK ?_
 exact Zif):G:=h
def zy1 (h:G:=by
 have hend:k=rR n:=by unfold rR at hk ⊢;first|omega|(simp_all;omega)
 refine bI ?_
 refine sT [1,2,4,5,6] [2,4,5] ?_
 refine uv ?_
 refine cK ?_
 exact (bh 4 (bh _ (aI ak (aI (by refine dh ?_;unfold oa;rw [←hend];exact rfl) (aI dj (aI (fun h=>nomatch h) tI))))))):G:=h
def zya (h:G:=by
 refine uv ?_
 refine ca ?_
 exact (bh 4 (bh _ (aI ak (aI (by refine dh ?_;rw [SP hno];exact rfl) (aI dj (aI (fun h=>nomatch h) (aI (by refine eG ?_;rw [SP hno]) tI)))))))):G:=h
def MZ (h:G:=by
 have hno:(bn e&&(eI e.Store u).2)=false:=Ew
 refine sS [2,3,4,5,6,7,8] [2,3,4,6,7] ?_
 exact zya):G:=h
def zy9 (h:G:=by
 refine cK ?_
 exact (bh 4 (bh _ (aI ak (aI (by refine dh ?_;rw [SQ hok];exact rfl) (aI dj (aI (fun h=>nomatch h) (aI (by refine eG ?_;rw [SQ hok]) tI)))))))):G:=h
def zyc (h:G:=by
 have hno:(bn e&&dE x)=false:=Uo
 refine sS [2,3,4,5] [2,3,4] ?_
 refine Ha ?_
 refine Ab ?_
 refine ca ?_
 exact (bh 4 (bh _ (aI ak (aI (by refine dh ?_;rw [SS hno];exact rfl) (aI dj (aI (fun h=>nomatch h) (aI (by refine eG ?_;rw [SS hno]) tI)))))))):G:=h
def zyh (h:G:=by
 refine cK ?_
 exact (bh 4 (bh _ (aI ak (aI (by refine dh ?_;first|(rw [SU hok hk1];first|done|exact rfl)|(rw [SV hok hk2];first|done|exact rfl)|(rw [SX hok hk3];first|done|exact rfl)|(rw [SY hok hk1n hk2n hk3n];first|done|exact rfl)) (aI dj (aI (fun h=>nomatch h) (aI (by refine eG ?_;first|(rw [SU hok hk1];first|done|exact rfl)|(rw [SV hok hk2];first|done|exact rfl)|(rw [SX hok hk3];first|done|exact rfl)|(rw [SY hok hk1n hk2n hk3n];first|done|exact rfl)) tI)))))))):G:=h
def Na (h:G:=by
 refine Oo ?_
 refine rS ?_
 exact zyh):G:=h
def zym (h:G:=by
 refine sG [1,2,4,5,6,7,9,10,11,18,19,20] [2,4,6,9,10] ?_
 refine dI ?_
 refine nx (k+1) ab (e:=(by exact aI (by exact cX (by rw [AK hltl];unfold JX;dsimp only;first|(rw [if_pos hy];done)|(rw [if_neg hy];done)|(rw [if_pos hy];omega))) (aI jj tI))) (f:=(by exact aI (by rw [AK hltl];exact rfl) tI))):G:=h
def zyq (h:G:=by
 refine sS [0,2,3,5000] [0] ?_
 refine cb ?_
 refine dJ ?_
 refine amW (d:=0) [sl .v _,val _,val _] ak (by exact (ir.cons OTo.lo (ir.cons OTo.refl (ir.cons OTo.refl ir.nil)))) ?_
 refine cK ?_
 exact ⟨vY,rfl,(aI (by refine cz ?_;rw [hr];first|done|exact rfl) tI)⟩):G:=h
def Zig (h:G:=by
 refine sO [(0,_),(1,_),(4,_),(5,_),(6,_),(7,_),(8,_),(24,_),(5000,_)] [(0,_),(4,_),(5,_),(8,(46,aW))] ?_
 refine tk ?_
 refine sO [(0,_),(1,_),(4,_),(5,_),(6,_),(7,_),(8,_),(24,_),(5000,_)] [(0,_),(4,_),(5,(46,aW)),(8,(46,aW))] ?_
 refine aY ?_
 refine uD ?_
 refine rS ?_
 refine nx (k+1) ab (e:=nu) (f:=(by exact aI (by rw [co,hxn];exact rfl) (aI (by rw [co,hxn];exact rfl) tI)))):G:=h
def Nb (h:G:=by
 refine Bu (d:=8) (G:=2000) ak Up ak ?_
 exact Zig):G:=h
def zyz (h:G:=by
 obtain rfl:=fz hR1 (j:=0) rfl rfl
 obtain rfl:=eO.nil hU2
 clear hR0 hU0 hR1 hU1 hU2
 refine bO.stepC 511 gI an (cc.of rfl (wa (.inl rfl) aj)) fY ao iD ?_
 refine bO.stepC 1023 gI an (cc.of rfl (qP (cs:=wi) aj ak bg)) fY ao iD ?_
 refine bO.stepC 1023 gI an (cc.of rfl (qP (cs:=[val _]) aj ak lP)) fY ao iD ?_
 refine bO.stepC 2047 oi gI (cc.of rfl (bV (ag:=true) (vs:=wi) dj an ak az)) fY ao iD ?_
 exact Nb):G:=h
def zz2 (h:G:=by
 obtain rfl:=fz hR1 (j:=0) rfl rfl
 obtain rfl:=eO.nil hU2
 clear hR0 hU0 hR1 hU1 hU2
 refine Zii ?_
 refine bO.stepC 255 oi gI (cc.of rfl (bV (ag:=true) (vs:=wi) dj an ak az)) fY ao iD ?_
 exact Nb):G:=h
def zz5 (h:G:=by
 obtain rfl:=fz hR1 (j:=0) rfl rfl
 obtain rfl:=eO.nil hU2
 clear hR0 hU0 hR1 hU1 hU2
 refine bO.stepC 15 gI an (cc.of rfl (wa (.inl rfl) aj)) fY ao iD ?_
 refine bO.stepC 31 gI an (cc.of rfl (qP (cs:=wi) aj ak bg)) fY ao iD ?_
 refine bO.stepC 31 gI an (cc.of rfl (qP (cs:=[val _]) aj ak lP)) fY ao iD ?_
 refine bO.stepC 63 oi gI (cc.of rfl (bV (ag:=true) (vs:=wi) dj an ak az)) fY ao iD ?_
 exact Nb):G:=h
def zz6 (h:G:=by
 have hk3:¬(de (co (cq c most) k).c).1=3:=hbe
 have hxn:=auM (x:=(co (cq c most) k)) hk0 hk2 hk3
 refine sG [0,1,4,5,6,7,8,24,5000] [0,4,5,8] ?_
 refine tu ?_
 refine rA ?_ (x:=cL [(true,aW)] [(true,cO)] aqg (hs:=by exact (auu (e:=(co (cq c most) k).e) ab)))
 refine cb ?_
 refine Oo ?_
 exact Zig):G:=h
def zzd (h:G:=by
 refine uv ?_
 refine cK ?_
 exact ⟨vY,rfl,(bh 2 (bh _ (aI ak (aI (by refine dh ?_;rw [hr];exact rfl) (aI dj (aI (fun h=>nomatch h) tI))))))⟩):G:=h
def Nc (h:G:=by
 refine aU ?_
 refine sO [(0,_),(2,_),(3,_),(7,_),(5000,_)] [(0,_),(2,_),(3,(46,aW))] ?_
 refine aY ?_
 exact zzd):G:=h
def zz9 (h:G:=by
 refine uV ?_
 exact Nc):G:=h
def zzf (h:G:=by
 refine ca ?_
 exact (aI (by refine iL ?_;exact kT (by unfold fQ;rw [if_neg Bd])) tI)):G:=h
def zzh (h:G:=by
 refine dA 127 ?_ (x:=fA)
 refine dA 255 ?_ (x:=sA)
 refine cK ?_
 exact (aI (by refine iL ?_;exact kT (by unfold fQ;rw [if_pos hok])) tI)):G:=h
def Zij (h:G:=by
 refine rK ?_
 refine ca ?_
 exact (aI (by refine cX ?_;exact (avG hno).symm) (aI (by refine eG ?_;exact (avK hno).symm) tI))):G:=h
def GI (h:G:=by
 have hno:jV s=none:=avE gE
 refine sS [0,2,3,4,5,7000] [] ?_
 exact Zij):G:=h
def zzl (h:G:=by
 refine rM ?_
 refine rS ?_
 refine ca ?_
 exact (aI (by refine cX ?_;exact (avH hys).symm) (aI (by refine eG ?_;exact (avL hys).symm) tI))):G:=h
def zzn (h:G:=by
 refine sG [0,2,3,4,5,6] [] ?_
 refine cB ?_
 refine nx (k+1) (by exact ⟨ab,ab⟩) (e:=(by exact aI Vq (aI Vq (aI ak tI))))):G:=h
def zzo (h:G:=by
 have hb256:=s[k].toNat_lt
 have hsn:=ale hlt
 have hbg:=Kq s k ab
 have hdg:¬og s[k]=true:=by rw [Em];first|omega|(simp_all;omega)
 rw [if_neg hdg] at hsn
 refine ba ?_
 exact zzn):G:=h
def GJ (h:G:=by
 have hbad:=avM (s:=s) (by rw [hnv];first|omega|(simp_all;done)|(simp_all;omega))
 have hno:=au3 hbad
 refine sS [0,2,3,4,5,6] [] ?_
 exact Zij):G:=h
def wv (h:G:=by
 refine cH ?_
 exact GJ):G:=h
def Nd (h:G:=by
 refine Iu ?_
 exact wv):G:=h
def Nf (h:G:=by
 have hgd:=avN (s:=s) kc kc (by rw [hnv];simp_all)
 have hys:=au4 hgd
 rw [hnv] at hys
 refine ba ?_
 refine sS [0,2,3,4,5,6] [] ?_
 exact zzl):G:=h
def zzr (h:G:=by
 refine PP ?_
 refine wI ?_
 refine rM ?_
 refine cx 54 ?_ ?_<;>intro gd sgd
 exact Nd
 refine OK ?_
 refine HD ?_
 refine sc ?_ ?_<;>intro hbc
 exact GJ
 exact Nf):G:=h
def Ng (h:G:=by
 refine PP ?_
 refine wI ?_
 refine rM ?_
 refine cx 54 ?_ ?_<;>intro gd sgd
 exact Nd
 refine OK ?_
 refine HD ?_
 refine sc ?_ ?_<;>intro hbb
 exact GJ
 exact Nf):G:=h
def zzz (h:G:=by
 refine sG [0,1,4,5,6,7] [] ?_
 refine cB ?_
 refine nx (k+1) ab (e:=(by exact aI (by first|exact cz (by rw [hsy.1,bK];rfl)|exact cz (by rw [hsn.1])) (aI (by first|exact congrArg (fun z=>some (RV.sc (.string (B z)))) hsy.2.symm|exact congrArg (fun z=>some (RV.sc (.string (B z)))) hsn.2.symm) (aI ak tI))))):G:=h
def Nh (h:G:=by
 refine rA ?_ (x:=cy (qs:=[]) (cs:=ct) aj jJ mV TU ak an rfl ak)
 refine IR ?_
 refine ca ?_
 exact (bh 2 (bh _ (aI ak (aI (by refine dh ?_;rw [hno];exact rfl) (aI ju (aI (fun h=>nomatch h) (aI (by refine eG ?_;rw [hno];rfl) tI)))))))):G:=h
def GK (h:G:=by
 have hno:iU s=none:=avd (by unfold Kg;simp_all)
 refine sS [0,2,3,4,5,6,7,8,10,11,7000] [2,11] ?_
 exact Nh):G:=h
def Ni (h:G:=by
 refine zbn ?_
 refine ca ?_
 exact (bh 2 (bh _ (aI ak (aI (by refine dh ?_;rw [hys];exact rfl) (aI ju (aI (fun h=>nomatch h) (aI (by refine eG ?_;rw [hys];rfl) tI)))))))):G:=h
def Zag (h:G:=by
 refine tj ?_
 refine nx (k+1) ab (f:=(by exact aI (by rw [Dt hlt,bK];exact rfl) tI))):G:=h
def Zaj (h:G:=by
 have hno:iU s=none:=akW gE
 refine sS [0,2,3,4,5,6,7] [2,5] ?_
 exact Nh):G:=h
def Zao (h:G:=by
 have hno:iU s=none:=akW gE
 refine uU ?_
 exact Nh):G:=h
def Zaq (h:G:=by
 refine ca ?_
 exact (aI (by refine iL ?_;exact kT (by unfold eE;rw [if_neg Bd])) tI)):G:=h
def Zaw (h:G:=by
 refine ca ?_
 exact (aI (by refine iL ?_;exact kT (by unfold fF;rw [if_neg Bd])) tI)):G:=h
def Zaz (h:G:=by
 refine zp ?_
 exact (aI (by refine iL ?_;exact kT (by unfold fF;rw [if_pos hok,if_pos k1])) tI)):G:=h
def Zb1 (h:G:=by
 refine zp ?_
 exact (aI (by refine iL ?_;exact kT (by unfold fF;rw [if_pos hok,if_neg k1,if_pos k2])) tI)):G:=h
def Zb2 (h:G:=by
 refine dA 16383 ?_ (x:=fA)
 refine dA 32767 ?_ (x:=sA)
 refine cK ?_
 exact (aI (by refine iL ?_;exact kT (by unfold fF;rw [if_pos hok,if_neg k1,if_neg k2])) tI)):G:=h
def Zb5 (h:G:=by
 refine ca ?_
 exact (aI (by refine iL ?_;exact kT (by unfold eo;rw [if_neg Bd])) tI)):G:=h
def Zb7 (h:G:=by
 refine dA 255 ?_ (x:=fA)
 refine dA 511 ?_ (x:=sA)
 refine cK ?_
 exact (aI (by refine iL ?_;exact kT (by unfold eo;rw [if_pos hok,if_pos k1])) tI)):G:=h
def Zb8 (h:G:=by
 refine zp ?_
 exact (aI (by refine iL ?_;exact kT (by unfold eo;rw [if_pos hok,if_neg k1,if_pos k2])) tI)):G:=h
def Zb9 (h:G:=by
 refine db ?_
 exact (aI (by refine iL ?_;exact kT (by unfold eo;rw [if_pos hok,if_neg k1,if_neg k2,if_pos k3])) tI)):G:=h
def Zba (h:G:=by
 refine zp ?_
 exact (aI (by refine iL ?_;exact kT (by unfold eo;rw [if_pos hok,if_neg k1,if_neg k2,if_neg k3])) tI)):G:=h
def Zbb (h:G:=by
 refine rS ?_
 refine db ?_
 exact (aI (by refine cX ?_;exact rfl) (aI (by refine eG ?_;first|exact rfl|(simp_all;done)) tI))):G:=h
def Zbd (h:G:=by
 refine cK ?_
 exact (aI (by refine cX ?_;rw [hr]) tI)):G:=h
def Zbc (h:G:=by
 have hr:jX (u8 b) s = -100000:=avX uk
 refine pK ?_
 refine rK ?_
 exact Zbd):G:=h
def Zbf (h:G:=by
 refine cK ?_
 exact (aI (by refine cX ?_;rw [hr]) (aI (by refine cX ?_;rw [hr]) tI))):G:=h
def GL (h:G:=by
 refine rA ?_ (x:=cy (qs:=[]) (cs:=bX) aj nS ve TZ ak an rfl ak)
 refine Dm ?_
 refine ca ?_
 exact (bh 2 (bh _ (aI ak (aI (by refine dh ?_;rw [hno];exact rfl) (aI gO (aI (fun h=>nomatch h) (aI (by refine eG ?_;rw [hno];rfl) tI)))))))):G:=h
def Nj (h:G:=by
 have hno:fT s=none:=ak9 (Or.inl (by have hx_:¬(4≤(aq 32 s).length∧(aq 32 s).length%2=0∧(aq 32 s).length≤10):=(by rintro ⟨a_,b_,c_⟩;first|omega|(simp_all;omega)|(simp_all;done));unfold AS;rw [decide_eq_false hx_];rfl))
 refine sS [0,2,3,4,5,7000] [2] ?_
 exact GL):G:=h
def qV (h:G:=by
 refine rS ?_
 refine sG [0,2,3,4,5,6,7,8,9,11,12,13,14,15,16,17,18,19,20,21,22,23,7000] [2,12] ?_
 refine cB ?_
 refine nx (k+1) ab (e:=(by exact aI (by exact eG (by rw [avm];first|(simp_all [ye,sd,fv,io];done)|(simp_all [ye,sd];done)|(simp [ye,sd];simp_all;done))) (aI jj tI))) (f:=(by exact aI (by rw [avl,bK];exact rfl) tI))):G:=h
def Zc0 (h:G:=by
 refine rB gf ?_ (x:=sM)
 refine tq ?_
 refine rM ?_
 refine cx 124 ?_ ?_<;>intro gg sgg
 refine rB gg ?_ (x:=sM)
 refine rA ?_ (x:=bj gg)
 exact qV
 refine au.s0f gg ?_
 refine rA ?_ (x:=aR gg)
 exact qV):G:=h
def Zil (h:G:=by
 have hno:fT s=none:=ak9 (by unfold AS;simp_all)
 refine sS [0,2,3,4,5,6,7,8,9,11,12,13,14,7000] [2,12] ?_
 exact GL):G:=h
def BK (h:G:=by
 refine cH ?_
 exact Zil):G:=h
def Zcb (h:G:=by
 refine NF ?_
 refine ca ?_
 exact (bh 2 (bh _ (aI ak (aI (by refine dh ?_;rw [hys];exact rfl) (aI gO (aI (fun h=>nomatch h) (aI (by refine eG ?_;rw [hys];rfl) tI)))))))):G:=h
def Zc5 (h:G:=by
 refine sc ?_ ?_<;>intro hbc
 exact Zil
 have hys:=avv (s:=s) dO dO
 refine ba ?_
 refine sS [0,2,3,4,5,6,7,8,9,11,12,13,14,7000] [2,12] ?_
 exact Zcb):G:=h
def Zc4 (h:G:=by
 refine rB ge ?_ (x:=lD di gO)
 refine rB ge ?_ (x:=cL [(true,bX)] [(true,di)] Jc (hs:=UN))
 refine rB ge ?_ (x:=nT)
 refine ra ?_
 refine cx 134 ?_ ?_<;>intro gf sgf
 refine CK ?_
 exact BK
 refine rB gf ?_ (x:=lD di gO)
 refine rB gf ?_ (x:=gL [(true,bX)] [(true,di)] Rz (hs:=UJ))
 refine rB gf ?_ (x:=sM)
 refine rB gf ?_ (x:=qT)
 refine pL ?_
 exact Zc5):G:=h
def Zim (h:G:=by
 refine Zin ?_
 refine cK ?_
 exact (bh 2 (bh _ (aI ak (aI (by refine dh ?_;rw [hr];exact rfl) (aI kq (aI (fun h=>nomatch h) tI))))))):G:=h
def Zcj (h:G:=by
 refine aU ?_
 refine wC ?_
 exact Zim):G:=h
def Zio (h:G:=by
 refine uV ?_
 exact Zcj):G:=h
def Zcl (h:G:=by
 have hc1:(ws.getD 0 []=[100,101,108,101,116,101]∧ws.length=2):=gD
 have hr:=av4 hc0 hc1
 have h1w:1 < ws.length:=ab
 refine sS [0,2,3,7000] [2,3] ?_
 refine OP ?_
 refine wC ?_
 refine Zip ?_
 refine wH ?_
 refine ta ?_
 exact Zio):G:=h
def Nk (h:G:=by
 have hc2:(ws.getD 0 []=[115,101,116]∧ws.length=4):=gD
 have hr:=av5 hc0 hc1 hc2
 have h1w:1 < ws.length:=ab
 have h2w:2 < ws.length:=ab
 have h3w:3 < ws.length:=ab
 refine sS [0,2,3,7000] [2,3] ?_
 refine OP ?_
 refine aU ?_
 refine wC ?_
 refine Zip ?_
 refine wH ?_
 refine ta ?_
 refine mN ?_
 refine wC ?_
 refine dD ?_
 refine rA ?_ (x:=aZ (k:=2) aj eR (bi rfl) fU EF ak)
 refine pO ?_
 refine rA ?_ (x:=gL [(false,[val _]),(false,[val _])] [(false,[val _]),(false,[val _])] Jw (hs:=by exact (KA (l:=[102]) (hw 2))))
 refine wH ?_
 refine rA ?_ (x:=lF vb)
 refine uV ?_
 refine wC ?_
 refine dD ?_
 refine rA ?_ (x:=aZ (k:=3) aj eR (bi rfl) fU KP ak)
 refine pO ?_
 refine rA ?_ (x:=gL [(false,[val _])] [(false,[val _])] RJ (hs:=by exact (TV (hw 3))))
 refine wH ?_
 refine rA ?_ (x:=lF pT)
 exact Zio):G:=h
def GM (h:G:=by
 have hc2:¬(ws.getD 0 []=[115,101,116]∧ws.length=4):=gD
 have hr:=av6 hc0 hc1 hc2
 refine ba ?_
 refine sS [0,2,3,7000] [2,3] ?_
 exact Zim):G:=h
def Nl (h:G:=by
 refine oB ?_
 refine pG ?_
 exact GM):G:=h
def Zcs (h:G:=by
 have hc1:¬(ws.getD 0 []=[100,101,108,101,116,101]∧ws.length=2):=gD
 refine Cx ?_
 refine wD ?_
 refine cx 49 ?_ ?_<;>intro gc sgc
 refine Py ?_
 refine rB gc ?_ (x:=iZ)
 refine zA ?_
 refine sc ?_ ?_<;>intro hbb
 exact Nk
 exact GM
 exact Nl):G:=h
def Nn (h:G:=by
 refine Zir ?_
 refine xv ?_
 refine ca ?_
 exact (bh 2 (bh _ (aI ak (aI (by refine dh ?_;rw [hno];exact rfl) (aI kq (aI (fun h=>nomatch h) (aI (by refine eG ?_;rw [hno];rfl) tI)))))))):G:=h
def Zcu (h:G:=by
 have hno:fS s=none:=avj KX
 refine sS [0,2,3,4,7000] [2,4] ?_
 exact Nn):G:=h
def No (h:G:=by
 refine Zin ?_
 refine ca ?_
 exact (bh 2 (bh _ (aI ak (aI (by refine dh ?_;rw [hys];exact rfl) (aI kq (aI (fun h=>nomatch h) (aI (by refine eG ?_;rw [hys];rfl) tI)))))))):G:=h
def Zd0 (h:G:=by
 have hno:fS s=none:=akZ gE
 refine sS [0,2,3,4,5,6,7] [2,5,6] ?_
 exact Nn):G:=h
def GN (h:G:=by
 have hno:fS s=none:=akZ gE
 refine uU ?_
 exact Nn):G:=h
def Np (h:G:=by
 refine xd ?_
 exact GN):G:=h
def Nq (h:G:=by
 have hys:=ak0 (s:=s) gE gE
 refine Qp ?_
 exact No):G:=h
def Zdj (h:G:=by
 refine NZ ?_
 refine pC ?_
 refine cx 60 ?_ ?_<;>intro gb sgb
 exact Np
 refine Hc ?_
 refine CU ?_
 refine sc ?_ ?_<;>intro hbc
 exact GN
 exact Nq):G:=h
def Zd6 (h:G:=by
 refine OT ?_
 exact Zdj):G:=h
def Zde (h:G:=by
 refine NZ ?_
 refine pC ?_
 refine cx 60 ?_ ?_<;>intro gb sgb
 exact Np
 refine Hc ?_
 refine CU ?_
 refine sc ?_ ?_<;>intro hbd
 exact GN
 exact Nq):G:=h
def BL (h:G:=by
 refine Zit ?_
 refine Ad ?_
 refine ca ?_
 exact (bh 2 (bh _ (aI ak (aI (by refine dh ?_;rw [hno];exact rfl) (aI iA (aI (fun h=>nomatch h) (aI (by refine eG ?_;rw [hno];rfl) tI)))))))):G:=h
def Zdy (h:G:=by
 have hno:cr s=none:=alb dO
 refine QI ?_
 exact BL):G:=h
def BM (h:G:=by
 refine Ziu ?_
 refine ca ?_
 exact (bh 2 (bh _ (aI ak (aI (by refine dh ?_;rw [hys];exact rfl) (aI iA (aI (fun h=>nomatch h) (aI (by refine eG ?_;rw [hys];rfl) tI)))))))):G:=h
def Nr (h:G:=by
 have hno:cr s=none:=alb dO
 refine IU ?_
 exact BL):G:=h
def Ze2 (h:G:=by
 refine mb ?_
 exact Nr):G:=h
def Ze4 (h:G:=by
 have hys:=alc (s:=s) dO dO
 refine ba ?_
 refine IU ?_
 exact BM):G:=h
def Ze5 (h:G:=by
 refine dC ?_
 refine Ze1 ?_
 refine sG [0,2,3,4,5,6,7,18,7000] [2,7] ?_
 refine NI ?_
 refine fp ?_
 refine cx 68 ?_ ?_<;>intro ga sga
 exact Ze2
 refine NH ?_
 refine zw ?_
 refine sc ?_ ?_<;>intro hbd
 exact Nr
 exact Ze4):G:=h
def Zec (h:G:=by
 have hno:cr s=none:=Kp gE
 refine sS [0,2,3,4,5,6,7,8] [2,5,7] ?_
 exact BL):G:=h
def BN (h:G:=by
 have hno:cr s=none:=Kp gE
 refine uU ?_
 exact BL):G:=h
def Zeg (h:G:=by
 refine xe ?_
 exact BN):G:=h
def Ns (h:G:=by
 have hys:=TG (s:=s) gE gE
 refine Qp ?_
 exact BM):G:=h
def Zei (h:G:=by
 refine sc ?_ ?_<;>intro hbc
 exact BN
 exact Ns):G:=h
def Nt (h:G:=by
 refine Iu ?_
 refine cH ?_
 exact BN):G:=h
def BO (h:G:=by
 have hno:cr s=none:=Kp gE
 refine sS [0,2,3,4,5,9,10] [2,5,9] ?_
 exact BL):G:=h
def GO (h:G:=by
 refine Iu ?_
 refine cH ?_
 exact BO):G:=h
def GP (h:G:=by
 have hys:=TG (s:=s) gE gE
 refine ba ?_
 refine sS [0,2,3,4,5,9,10] [2,5,9] ?_
 exact BM):G:=h
def Zex (h:G:=by
 have hc2:¬((aq 32 s).length=2∧(aq 32 s).getD 0 []=[115,116,101,112]):=gD
 have hr:=Kt hc0 hc1 hc2
 refine Ia ?_
 refine Hy ?_
 refine BW ?_
 refine yT ?_
 refine rS ?_
 refine Hv ?_
 refine GW ?_
 refine pE ?_
 refine HQ ?_
 refine pC ?_
 refine cx 86 ?_ ?_<;>intro gd sgd
 exact GO
 refine xc ?_
 refine sc ?_ ?_<;>intro hbc
 exact BO
 exact GP):G:=h
def Zf0 (h:G:=by
 have hc2:¬((aq 32 s).length=2∧(aq 32 s).getD 0 []=[115,116,101,112]):=gD
 have hr:=Kt hc0 hc1 hc2
 refine Ia ?_
 refine Hy ?_
 refine BW ?_
 refine yT ?_
 refine rS ?_
 refine Hv ?_
 refine GW ?_
 refine pE ?_
 refine HQ ?_
 refine pC ?_
 refine cx 86 ?_ ?_<;>intro gd sgd
 exact GO
 refine xc ?_
 refine sc ?_ ?_<;>intro hbb
 exact BO
 exact GP):G:=h
def Zey (h:G:=by
 have hc1:¬((aq 32 s).length=2∧(aq 32 s).getD 0 []=[99,97,110,99,101,108]):=gD
 refine tc ?_
 refine iw ?_
 refine cx 73 ?_ ?_<;>intro gc sgc
 have h0w:0 < (aq 32 s).length:=Ls
 have sgc:=gc
 try simp only [qq] at sgc
 refine Ov ?_
 refine PH ?_
 refine zA ?_
 refine sc ?_ ?_<;>intro hbb
 have hc2:((aq 32 s).length=2∧(aq 32 s).getD 0 []=[115,116,101,112]):=gD
 have hr:=TL hc0 hc1 hc2
 have h1w:1 < (aq 32 s).length:=ab
 refine wJ ?_
 refine BX ?_
 refine pE ?_
 refine BT ?_
 refine zj ?_
 refine cx 86 ?_ ?_<;>intro gd sgd
 exact Nt
 refine xc ?_
 exact Zei
 exact Zex
 refine oB ?_
 refine pG ?_
 exact Zf0):G:=h
def Zez (h:G:=by
 refine sc ?_ ?_<;>intro hbb
 exact BN
 exact Ns):G:=h
def Zf3 (h:G:=by
 refine Ziu ?_
 refine cK ?_
 exact ⟨vY,rfl,(bh 4 (bh _ (aI ak (aI (by refine dh ?_;rw [hr];try exact rfl) (aI iA (aI (fun h=>nomatch h) tI))))))⟩):G:=h
def Nu (h:G:=by
 refine mN ?_
 refine sO [(0,_),(3,_),(4,_),(5,_),(10,_),(5000,_)] [(0,_),(3,_),(4,_),(5,(31,cS))] ?_
 refine aY ?_
 exact Zf3):G:=h
def Zf7 (h:G:=by
 refine Ad ?_
 refine cK ?_
 exact (bh 2 (bh _ (aI ak (aI ak (aI iA (aI (fun h=>nomatch h) tI))))))):G:=h
def Ziw (h:G:=by
 refine IS ?_
 refine wX ?_
 refine rA ?_ (x:=uu KC yh Lj)
 refine Zgu ?_
 refine rA ?_ (x:=fc aj pV DT rfl rfl aj rfl bq bq)
 refine dJ ?_
 refine IS ?_
 refine uD ?_
 refine rS ?_
 refine nx (k+1) ab (e:=(by exact aI (by exact cz (by rw [qx];simp only [TN,bK];unfold txV;first|(rw [if_pos h2c,if_pos h1c];rfl)|(rw [if_pos h2c,if_neg h1c];rfl)|(rw [if_neg h2c,if_pos h1c];rfl)|(rw [if_neg h2c,if_neg h1c];rfl))) (aI jj tI)))):G:=h
def Zfb (h:G:=by
 refine aU ?_
 refine sS [0,1,4,5,6,7,8,5000] [0] ?_
 refine zB ?_
 refine sc ?_ ?_<;>intro hbc
 have h2c:(lM c).1=2:=hbc
 refine IS ?_
 refine Zfa ?_
 refine wU ?_
 exact Ziw
 have h2c:¬(lM c).1=2:=hbc
 refine ba ?_
 exact Ziw):G:=h
def GQ (h:G:=by
 refine cK ?_
 exact ⟨vY,rfl,(aI (by refine iL ?_;rw [hr];try exact rfl) tI)⟩):G:=h
def Nv (h:G:=by
 refine db ?_
 exact (aI (by refine iL ?_;rw [hr];try exact rfl) tI)):G:=h
def BP (h:G:=by
 refine db ?_
 exact rb (by rw [Bool.eq_iff_iff];simp only [fZ,anT];first|(simp_all [fZ,Ja];done)|(simp_all [fZ,Ja,and_assoc];done))):G:=h
def ww (h:G:=by
 refine db ?_
 exact rb (by rw [Bool.eq_iff_iff];simp only [fZ,anU];first|(simp_all [fZ,Ja];done)|(simp_all [fZ,Ja,and_assoc];done))):G:=h
def BQ (h:G:=by
 refine ca ?_
 exact rb ((Ag hne).symm)):G:=h
def Zfn (h:G:=by
 have hne:¬x=y:=by intro e_;subst e_;simp_all
 refine sS [2,3,4] [2,3] ?_
 exact BQ):G:=h
def Zfo (h:G:=by
 have hne:¬x=y:=EG
 refine sS [2,3,5] [2,3] ?_
 exact BQ):G:=h
def Zfp (h:G:=by
 refine ba ?_
 refine sG [2,3,5] [2,3] ?_
 refine cB ?_
 refine nx (k+1) (by exact ⟨ab,xx ha0 hlt0 hlu0 heq⟩)):G:=h
def Zfs (h:G:=by
 have hne:¬x=y:=EG
 refine sS [2,3,4] [2,3] ?_
 exact BQ):G:=h
def yP (h:G:=by
 refine cH ?_
 exact Zfs):G:=h
def GR (h:G:=by
 have hne:¬x=y:=EG
 refine sS [2,3,5,6,7,8] [2,3,7,8] ?_
 exact BQ):G:=h
def Zfv (h:G:=by
 refine nJ ?_
 refine ca ?_
 exact (aI (by refine cX ?_;first|(simp_all;done)|rfl) tI)):G:=h
def Zfz (h:G:=by
 exact absurd gd vO):G:=h
def Zg1 (h:G:=by
 exact absurd hbb vO):G:=h
def Zgd (h:G:=by
 obtain rfl:=fz hR1 (j:=0) rfl rfl
 obtain rfl:=eO.nil hU2
 clear hR0 hU0 hR1 hU1 hU2
 refine Zii ?_
 refine bO.stepC 0 an an (cc.of rfl (fW aj xQ xT)) (sD (cV.wr (cV.app (cV.app (cV.app (cV.app (cV.app (cV.of_ rfl) rfl) rfl) rfl) rfl) rfl) rfl)) ao Uu ?_
 refine bO.stepC 767 oi gI (cc.of rfl (bV (ag:=true) (vs:=wi) dj an ak az)) fY ao iD ?_
 refine zv1 ?_
 refine Bu (d:=14) (G:=2000) ak Up ak ?_
 refine zv2 ?_
 refine sO [(0,_),(2,_),(3,_),(4,_),(5,_),(6,_),(7,_),(8,_),(9,_),(10,_),(11,_),(12,_),(13,_),(14,_),(15,_),(7000,_)] [(3,_),(5,_),(7,_),(9,_),(11,_),(14,(46,aW))] ?_
 refine tk ?_
 refine sO [(0,_),(2,_),(3,_),(4,_),(5,_),(6,_),(7,_),(8,_),(9,_),(10,_),(11,_),(12,_),(13,_),(14,_),(15,_),(7000,_)] [(3,_),(5,_),(7,_),(9,_),(11,(46,aW)),(14,(46,aW))] ?_
 refine aY ?_
 refine fB ?_
 refine rA ?_ (x:=cL [(false,[val _])] [(false,[val _])] aqM (hs:=by exact axd))
 refine wU ?_
 refine sG [0,2,3,4,5,6,7,8,9,10,11,12,13,14,15,7000] [3,5,7,9,11,14] ?_
 refine cB ?_
 refine nx (k+1) ab (e:=(by exact aI (by exact cX (by rw [AK hlt];unfold JX;dsimp only;split<;>simp_all)) (aI jj tI))) (f:=(by exact aI (by rw [AK hlt];exact rfl) tI))):G:=h
def GS (h:G:=by
 refine db ?_
 exact rb (by first|rfl|(simp;done)|(simp_all;done))):G:=h
def Zgl (h:G:=by
 exact absurd gf vO):G:=h
def Zgm (h:G:=by
 exact absurd ge vO):G:=h
def uv (w:ae G H:=by
 intro z
 refine QG ?_
 exact Ab z.g):=ah w h
def jp (w:ae G H:=by
 intro z
 refine fL ?_
 exact rA z.g (x:=dP (bx:=0) (qs:=[(false,[val _])]) (as_:=[(false,[val _])]) aj vp rfl nt kb iC jZ Bi)):=ah w h
def Nw (w:ae G H:=by
 intro z
 refine rA ?_ (x:=cj (qs:=[(false,[val _])]) aj cn iP aj rfl rfl rfl rfl rfl az bS rfl)
 exact rA z.g (x:=fc aj cn iP rfl rfl aj rfl bq bq)):=ah w h
def Nx (w:ae G H:=by
 intro z
 refine pN ?_
 exact pN z.g):=ah w h
def lu (w:ae G H:=by
 intro z
 refine Dp ?_
 exact Ab z.g):=ah w h
def dp (w:ae G H:=by
 intro z
 refine ba ?_
 exact aU z.g):=ah w h
def BR (w:ae G H:=by
 intro z
 refine Ziz ?_
 exact pN z.g):=ah w h
def GT (w:ae G H:=by
 intro z
 refine IM ?_
 exact Dg z.g):=ah w h
def BS (w:ae G H:=by
 intro z
 refine rA ?_ (x:=uo (cs:=cS) (qs:=ej) aj ak KE bg)
 exact pN z.g):=ah w h
def BT (w:ae G H:=by
 intro z
 refine Ze8 ?_
 exact QJ z.g):=ah w h
def bv (w:ae G H:=by
 intro z
 refine dp ?_
 exact iJ z.g):=ah w h
def yQ (w:ae G H:=by
 intro z
 refine rA ?_ (x:=aZ aj cn an ak bE ak)
 exact rA z.g (x:=lE [val _] bb)):=ah w h
def GU (w:ae G H:=by
 intro z
 refine rA ?_ (x:=jB (qs:=Mm) aj lI (fun h=>nomatch h) az KH bg)
 exact rA z.g (x:=cj (qs:=[(true,nB)]) aj cQ mp aj rfl rfl rfl rfl rfl az bS rfl)):=ah w h
def Ny (w:ae G H:=by
 intro z
 refine Ad ?_
 exact aU z.g):=ah w h
def wx (w:ae G H:=by
 intro z
 refine Da ?_
 exact rS z.g):=ah w h
def GV (w:ae G H:=by
 intro z
 refine Qw ?_
 exact rA z.g (x:=cj (qs:=[(true,du)]) aj cQ mp aj rfl rfl rfl rfl rfl az bS rfl)):=ah w h
def nE (w:ae G H:=by
 intro z
 refine sR ?_
 exact Zfq z.g):=ah w h
def BU (w:ae G H:=by
 intro z
 refine Zj0 ?_
 exact xq z.g):=ah w h
def GW (w:ae G H:=by
 intro z
 refine Zj1 ?_
 exact rA z.g (x:=cy (qs:=[(false,[val _]),(true,eP)]) (cs:=cS) aj qg vu KB ak vW rfl ak)):=ah w h
def GX (w:ae G H:=by
 intro z
 refine QO ?_
 exact rA z.g (x:=sz (qs:=Mm) aj lI (fun h=>nomatch h) az KH bg)):=ah w h
def lv (w:ae G H:=by
 intro z
 refine rM ?_
 exact rA z.g (x:=jF)):=ah w h
def ij (w:ae G H:=by
 intro z
 refine uT ?_
 exact dS z.g):=ah w h
def oz (w:ae G H:=by
 intro z
 refine Df ?_
 exact Dg z.g):=ah w h
def BV (w:ae G H:=by
 intro z
 refine rA ?_ (x:=cj (qs:=[(true,ct)]) aj mi jJ aj rfl rfl rfl rfl rfl az bS rfl)
 exact rA z.g (x:=fc aj mi jJ rfl rfl aj rfl bq bq)):=ah w h
def BW (w:ae G H:=by
 intro z
 refine rA ?_ (x:=uo (cs:=eP) (qs:=gK) aj ak UF bg)
 exact pN z.g):=ah w h
def iu (w:ae G H:=by
 intro z
 refine oK ?_
 exact rS z.g):=ah w h
def zum (w:ae G H:=by
 intro z
 refine sP [1,2,3,4,5,6,14,57,58,59,145,146,147,6200] [1,2,4,6] ?_
 exact sL [1,2,3,4,5,6,57,58,59,145,146] [1,2,6] (fun m:Nat=>m≤e.ax3.length) (fun m:Nat=>[(14,RV.slc cm ((mw e (parts e).length m).map (bd aH ai ai aL ai))),(147,RV.int (m:Int)),(6200,RV.gh (br 10 (za.drop m)) (bY (bd aH ai ai aL ai) (za.drop m)))]) (fun m:Nat=>[(4,(46,[sl bH (e.Store.ax2.map (aO bc ai)),val (vI e.Store.Now),val (vI e.ax7),sl ai (e.Order.map ar),sl .v (za.map gS),sl cf ((e.Done++jy e (parts e).length m).map (bw aH ai aL ai)),sl ck ((jz e (parts e).length).map (bz ai ai ai)),val (vI e.Steps)]))]) (fun m:Nat=>e.ax3.length - m) 0 ab ui (by exact aI (by show _=some (46,[sl bH (e.Store.ax2.map (aO bc ai)),val (vI e.Store.Now),val (vI e.ax7),sl ai (e.Order.map ar),sl .v (za.map gS),sl cf ((e.Done++jy e (parts e).length 0).map (bw aH ai aL ai)),sl ck ((jz e (parts e).length).map (bz ai ai ai)),val (vI e.Steps)]);rw [show jy e (parts e).length 0=[] from rfl,fV];first|(rw [hled];simp only [bK];exact rfl)|(rw [hled];exact rfl)) tI) z.g):=ah w h
def BX (w:ae G H:=by
 intro z
 refine QH ?_
 exact rA z.g (x:=cy (qs:=[(false,[val _]),(false,[val _])]) (cs:=cS) aj qg vu KB ak vW rfl ak)):=ah w h
def Nz (w:ae G H:=by
 intro z
 refine sP [0,2,3,4,5,6,7,8,9,11,12,13,14,7000] [2,12] ?_
 exact sL [0,2,3,4,5,6,7,8,9,11,12,7000] [2] (fun k:Nat=>k≤(((aq 32 s).length - 4) / 2)) (fun k:Nat=>[(13,RV.bool (vL (aq 32 s) k)),(14,RV.int (2+2 * (k:Int)))]) (fun k:Nat=>[(12,(25,[val (vI (sb 113 ((aq 32 s).getD 0 []))),val (vI (sb 116 ((aq 32 s).getD 1 []))),sl aH ((vK (aq 32 s) k).map bF),sl ai ((ub ((aq 32 s).getD ((aq 32 s).length - 1) [])).map ar)]))]) (fun k:Nat=>(((aq 32 s).length - 4) / 2) - k) 0 ab (by exact aI (by exact eG (by first|(simp_all [vL,Kl,sd];done)|(simp [vL,Kl,sd];simp_all;done))) (aI ak tI)) bp z.g):=ah w h
def mM (w:ae G H:=by
 intro z
 refine dD ?_
 exact rA z.g (x:=lN cn)):=ah w h
def mN (w:ae G H:=by
 intro z
 refine uV ?_
 exact aU z.g):=ah w h
def kN (w:ae G H:=by
 intro z
 refine sR ?_
 exact rX z.g (x:=(kG (ag:=true) (cs:=bW) aj an))):=ah w h
def GY (w:ae G H:=by
 intro z
 refine rA ?_ (x:=lE [sl .v _] cW)
 exact Qz z.g):=ah w h
def uw (w:ae G H:=by
 intro z
 refine aY ?_
 exact QD z.g):=ah w h
def sV (w:ae G H:=by
 intro z
 refine rA ?_ (x:=lF rG)
 exact rA z.g (x:=lD [sl .v _] mo)):=ah w h
def zkm (w:ae G H:=by
 intro z
 refine zV ?_
 exact dJ z.g):=ah w h
def Zg8 (w:ae G H:=by
 intro z
 refine sP [0,2,3,4,5,6,7,8,9,10,11,12,13,7000] [3,5,7,9,11] ?_
 exact sL [0,2,3,4,5,6,7,8,9,10,11,7000] [3,5,7,9] (fun k:Nat=>k≤(fx (aS code hb)).length) (fun k:Nat=>[(12,RV.int (dM (bR (aS code hb)).1 (fx (aS code hb)) k).2),(13,RV.int (k:Int))]) (fun k:Nat=>[(11,(46,[sl bH ((dM (bR (aS code hb)).1 (fx (aS code hb)) k).1.Store.ax2.map (aO bc ai)),val (vI (dM (bR (aS code hb)).1 (fx (aS code hb)) k).1.Store.Now),val (vI (dM (bR (aS code hb)).1 (fx (aS code hb)) k).1.ax7),sl ai ((dM (bR (aS code hb)).1 (fx (aS code hb)) k).1.Order.map ar),sl cm ((dM (bR (aS code hb)).1 (fx (aS code hb)) k).1.ax3.map (bd aH ai ai aL ai)),sl cf ((dM (bR (aS code hb)).1 (fx (aS code hb)) k).1.Done.map (bw aH ai aL ai)),sl ck ((dM (bR (aS code hb)).1 (fx (aS code hb)) k).1.ayf.map (bz ai ai ai)),val (vI (dM (bR (aS code hb)).1 (fx (aS code hb)) k).1.Steps)]))]) (fun k:Nat=>(fx (aS code hb)).length - k) 0 ab gp bp z.g):=ah w h
def cl (w:ae G H:=by
 intro z
 refine rK ?_
 exact iJ z.g):=ah w h
def iv (w:ae G H:=by
 intro z
 refine rK ?_
 exact aU z.g):=ah w h
def px (w:ae G H:=by
 intro z
 refine rA ?_ (x:=lF hP)
 exact rA z.g (x:=lD [sl .v _] fi)):=ah w h
def zf1 (w:ae G H:=by
 intro z
 refine ff ?_
 exact IG z.g):=ah w h
def Zgo (w:ae G H:=by
 intro z
 refine rA ?_ (x:=cj (qs:=[(true,iY)]) aj il nU aj rfl rfl rfl rfl rfl az bS rfl)
 exact rA z.g (x:=fc aj il nU rfl rfl aj rfl bq bq)):=ah w h
def fK (w:ae G H:=by
 intro z
 refine rA ?_ (x:=kM)
 exact iJ z.g):=ah w h
def py (w:ae G H:=by
 intro z
 refine sR ?_
 exact QP z.g):=ah w h
def yR (w:ae G H:=by
 intro z
 refine xr ?_
 exact Ad z.g):=ah w h
def mO (w:ae G H:=by
 intro z
 refine zf ga ?_
 exact lz z.g):=ah w h
def Zga (w:ae G H:=by
 intro z
 refine yC (c:=5) (AI:=[(9,⟨[],[],[(14,some (RV.ptr 14 0))],[(14,some (46,[sl bH [],val (.int .i64 0),val (.int .i64 0),sl ai [],sl cm [],sl cf [],sl ck [],val (.int .i64 0)]))],some 14⟩)]) xA rfl rfl rfl rfl ao (fun j L h o ho=>by have h:=kF h;simp only [kz,List.not_mem_nil,or_false,Prod.mk.injEq] at h;obtain ⟨rfl,rfl⟩:=h;(· cases (show some ⟨some 14,.alloc 46,_,_,_,none⟩=some o from ho);apply cc.of rfl;exact fW (d:=14) aj xQ xT)) (fun j L h d hd=>by have h:=kF h;simp only [kz,List.not_mem_nil,or_false,Prod.mk.injEq] at h;obtain ⟨rfl,rfl⟩:=h;(· cases (show some _=some d from hd);exact cV.of_ rfl)) ?_
 exact Zj0 z.g):=ah w h
def ca (w:ae G H:=by
 intro z
 refine rK ?_
 exact cK z.g):=ah w h
def cP (w:ae G H:=by
 intro z
 refine aU ?_
 refine sR ?_
 exact rM z.g):=ah w h
def dC (w:ae G H:=by
 intro z
 refine aU ?_
 exact aU z.g):=ah w h
def yS (w:ae G H:=by
 intro z
 refine De ?_
 exact Qx z.g):=ah w h
def yT (w:ae G H:=by
 intro z
 refine rX ?_ (x:=(fW aj tC tD))
 exact xv z.g):=ah w h
def yU (w:ae G H:=by
 intro z
 refine QO ?_
 exact zt3 z.g):=ah w h
def BY (w:ae G H:=by
 intro z
 refine Zj4 ?_
 exact dJ z.g):=ah w h
def NA (w:ae G H:=by
 intro z
 refine eg (d:=920) ak (po (s.ax2[i].set k (ml (s.Now+1) s.ax2[i][k])) hi ak) ?_
 exact sI (d:=6) (D:=920) (G:=2920) (e:=1) (A:=[]) (B:=[val _]) (es:=((s.ax2).set i (s.ax2[i].set k (ml (s.Now+1) s.ax2[i][k]))).map (aO bc ai)) ak ak ak rfl qz oq (by rw [bf];exact hjk920) z.g):=ah w h
def yV (w:ae G H:=by
 intro z
 refine zhs ?_
 exact rA z.g (x:=lE [sl .v _] jS)):=ah w h
def sW (w:ae G H:=by
 intro z
 refine pI ?_
 exact rM z.g):=ah w h
def iM (w:ae G H:=by
 intro z
 refine kO ?_
 exact rM z.g):=ah w h
def GZ (w:ae G H:=by
 intro z
 refine zt ga ?_
 exact jq z.g):=ah w h
def dI (w:ae G H:=by
 intro z
 refine rA ?_ (x:=jF)
 exact rM z.g):=ah w h
def NB (w:ae G H:=by
 intro z
 refine eg (d:=921) ak (po (ml (s.Now+1) s.ax2[i][k]) hk ak) ?_
 exact sI (d:=920) (D:=921) (G:=2921) (e:=4) (A:=_) (B:=[]++_) (es:=((s.ax2[i]).set k (ml (s.Now+1) s.ax2[i][k])).map (gG ai)) ak ak ak rfl qz oq (by rw [bf];exact hjk921) z.g):=ah w h
def yW (w:ae G H:=by
 intro z
 refine rA ?_ (x:=lF hP)
 exact rA z.g (x:=bV (ag:=false) (vs:=[sl _ _]) fi an ak az)):=ah w h
def NC (w:ae G H:=by
 intro z
 refine aY ?_
 exact QG z.g):=ah w h
def Ha (w:ae G H:=by
 intro z
 refine tu ?_
 exact rA z.g (x:=cL [(true,aW)] [(true,cO)] aip (hs:=by exact (ajx ab)))):=ah w h
def qW (w:ae G H:=by
 intro z
 refine dD ?_
 exact rA z.g (x:=lN eR)):=ah w h
def ND (w:ae G H:=by
 intro z
 refine Di ?_
 exact Di z.g):=ah w h
def Hb (w:ae G H:=by
 intro z
 refine De ?_
 exact rA z.g (x:=bV (ag:=true) (vs:=nB) lI an ak az)):=ah w h
def zpx (w:ae G H:=by
 intro z
 refine rA ?_ (x:=cj (qs:=[]) aj dq iT aj rfl rfl rfl rfl rfl az an rfl)
 exact dJ z.g):=ah w h
def oA (w:ae G H:=by
 intro z
 refine fL ?_
 exact xh z.g):=ah w h
def cB (w:ae G H:=by
 intro z
 refine lv ?_
 exact rS z.g):=ah w h
def NE (w:ae G H:=by
 intro z
 refine fL ?_
 exact rA z.g (x:=dP (bx:=0) (qs:=[(false,[val _])]) (as_:=[(false,[val _])]) aj vp rfl nt kb lh jZ VE)):=ah w h
def NF (w:ae G H:=by
 intro z
 refine Qt ?_
 exact Dm z.g):=ah w h
def BZ (w:ae G H:=by
 intro z
 refine sR ?_
 exact rX z.g (x:=(kG (ag:=true) (cs:=[sl (.lo _) _,val _,val _,sl (.lo _) _,sl (.lo _) _,sl (.lo _) _,sl (.lo _) _,val _]) aj an))):=ah w h
def Ziu (w:ae G H:=by
 intro z
 refine rA ?_ (x:=eN (ms:=cS) (qs:=ej) aj iA (fun h=>nomatch h) az ak KE bg)
 exact Ad z.g):=ah w h
def NG (w:ae G H:=by
 intro z
 refine rA ?_ (x:=cj (qs:=[(false,[val _])]) aj eR vt aj rfl rfl rfl rfl rfl az bS rfl)
 exact Zar z.g):=ah w h
def yX (w:ae G H:=by
 intro z
 refine Dj ?_
 exact IR z.g):=ah w h
def NH (w:ae G H:=by
 intro z
 refine zyd ?_
 exact rB ga z.g (x:=gL [(true,cS)] [(true,ej)] DM (hs:=by exact (alz (x:=eM s))))):=ah w h
def db (w:ae G H:=by
 intro z
 refine rS ?_
 exact cK z.g):=ah w h
def NI (w:ae G H:=by
 intro z
 refine Dk ?_
 exact rA z.g (x:=cL [(true,cS)] [(true,ej)] DO (hs:=by exact (aks (x:=eM s))))):=ah w h
def pz (w:ae G H:=by
 intro z
 refine dD ?_
 exact rM z.g):=ah w h
def ux (w:ae G H:=by
 intro z
 refine rA ?_ (x:=lF Re)
 exact ff z.g):=ah w h
def zyx (w:ae G H:=by
 intro z
 refine dX 4 ?_ (x:=(dP (bx:=0) (qs:=[(false,[val _])]) (as_:=[(false,[val _])]) aj vp rfl nt kb iC jZ Bi))
 exact dX 14 z.g (x:=(dP (bx:=0) (qs:=[(false,[val _])]) (as_:=[(false,[val _])]) aj ait rfl bS kb iC jZ (by exact (ai6 hbo))))):=ah w h
def Ca (w:ae G H:=by
 intro z
 refine kg ?_
 exact Qq z.g):=ah w h
def qX (w:ae G H:=by
 intro z
 refine dD ?_
 exact rA z.g (x:=lN dq)):=ah w h
def Cb (w:ae G H:=by
 intro z
 refine ri ?_
 exact rA z.g (x:=cL [(true,bX)] [(true,di)] Jc (hs:=by exact RX))):=ah w h
def NJ (w:ae G H:=by
 intro z
 refine rA ?_ (x:=cy (qs:=[(false,[val _]),(true,ct)]) (cs:=eP) aj tC tD Ub ak vW rfl ak)
 exact xv z.g):=ah w h
def zz1 (w:ae G H:=by
 intro z
 refine dX 4 ?_ (x:=(jB (qs:=eh) aj hR (fun h=>nomatch h) az EJ Ey))
 exact dX 14 z.g (x:=(dP (bx:=0) (qs:=[(true,bW)]) (as_:=[(true,eh)]) aj RC rfl bS yj iC yi (by exact (akn (s:=(co (cq c most) k).e.Store) hbo (vE hso)))))):=ah w h
def Cc (w:ae G H:=by
 intro z
 refine ff ?_
 exact IF z.g):=ah w h
def fp (w:ae G H:=by
 intro z
 refine gx ?_
 exact rM z.g):=ah w h
def NK (w:ae G H:=by
 intro z
 refine Zj5 ?_
 exact sO [(0,_),(2,_),(3,_),(4,_),(5,_),(6,_),(7,_),(8,_),(9,_),(11,_),(12,_),(13,_),(14,_),(15,_),(16,_),(17,_),(18,_),(19,_),(20,_),(21,_),(22,_),(23,_),(7000,_)] [(2,_),(12,(25,bX))] z.g):=ah w h
def eB (w:ae G H:=by
 intro z
 refine bv ?_
 exact aU z.g):=ah w h
def Cd (w:ae G H:=by
 intro z
 refine rB ga ?_ (x:=cL [(false,[val _]),(false,[val _]),(false,[val _])] [(false,[val _]),(false,[val _]),(false,[val _])] rq (hs:=qC))
 exact rB ga z.g (x:=nT)):=ah w h
def Ce (w:ae G H:=by
 intro z
 refine IL ?_
 exact Qy z.g):=ah w h
def NL (w:ae G H:=by
 intro z
 refine Zj6 ?_
 exact rA z.g (x:=amG (f:=rC) (e:=1) (k:=i) (qs:=[sl .v _]) (fun _=>rfl) rfl ab aj jS (fun _=>rfl) iE ib)):=ah w h
def Cf (w:ae G H:=by
 intro z
 refine IJ ?_
 exact Dm z.g):=ah w h
def zyy (w:ae G H:=by
 intro z
 refine dX 0 ?_ (x:=(cj (qs:=[(false,[val _]),(false,[val _]),(false,[val _]),(false,[val _])]) aj cn iP aj rfl rfl rfl rfl rfl az KI rfl))
 exact dX 126 z.g (x:=(dP (bx:=0) (qs:=[(false,[sl _ _])]) (as_:=[(false,[sl .v _])]) aj vo rfl bS qA iC sq Vo))):=ah w h
def NM (w:ae G H:=by
 intro z
 refine dA 7 ?_ (x:=kI (k:=i) (G:=2920) aj gB an ab (by first|(rw [bf];exact hi)|exact hi))
 exact dA 15 z.g (x:=we (o:=0) (qs:=[val _]) ab aj jS (fun _=>rfl) az ug lP)):=ah w h
def wy (w:ae G H:=by
 intro z
 refine uO ?_
 exact rA z.g (x:=lN cn)):=ah w h
def Hc (w:ae G H:=by
 intro z
 refine rB gb ?_ (x:=lD gK kq)
 exact rB gb z.g (x:=cL [(true,eP)] [(true,gK)] aio (hs:=by exact (aly (u:=iB s))))):=ah w h
def Ze1 (w:ae G H:=by
 intro z
 refine Zj7 ?_
 exact Zdw z.g):=ah w h
def He (w:ae G H:=by
 intro z
 refine xp ?_
 exact rA z.g (x:=eN (ms:=[sl _ _]) (qs:=[sl .v _]) aj kp (fun _=>rfl) az ak iE ib)):=ah w h
def fq (w:ae G H:=by
 intro z
 refine bI ?_
 exact aU z.g):=ah w h
def Zia (w:ae G H:=by
 intro z
 refine dA 8160 ?_ (x:=cy (qs:=[(true,[nv _ (val _),nv _ (val _),nv _ (sl _ _),nv _ (sl _ _)]),(false,[val _]),(false,[val _]),(false,[nv _ (sl _ _)])]) (cs:=WP) aj rJ JF aus ak vU rfl ak)
 exact dA 16352 z.g (x:=cj (qs:=[(true,WP)]) aj nf rJ aj rfl rfl rfl rfl rfl az bS rfl)):=ah w h
def Zgc (w:ae G H:=by
 intro z
 refine dX 6 ?_ (x:=(aZ aj rI an ak bE ak))
 exact dX 14 z.g (x:=(sz (qs:=ej) aj iA (fun h=>nomatch h) az KE bg))):=ah w h
def wz (w:ae G H:=by
 intro z
 refine sR ?_
 exact IH z.g):=ah w h
def wB (w:ae G H:=by
 intro z
 refine rB ga ?_ (x:=iZ)
 exact jq z.g):=ah w h
def zu8 (w:ae G H:=by
 intro z
 refine sO [(1,_),(2,_),(3,_),(4,_),(5,_),(6,_),(8,_),(9,_),(10,_),(11,_),(57,_),(58,_),(59,_),(77,_),(78,_),(79,_),(2900,_),(6100,_)] [(1,(46,[sl (.lo _) _,val _,val _,sl (.lo _) _,sl (.lo _) _,sl (.lo _) _,sl (.lo _) _,val _])),(2,(46,aW)),(4,(46,BC)),(6,(149,fk)),(10,(102,du)),(900,(102,_++(du++_)))] ?_
 exact aY z.g):=ah w h
def oB (w:ae G H:=by
 intro z
 refine zf gc ?_
 exact to z.g):=ah w h
def zbc (w:ae G H:=by
 intro z
 refine Di ?_
 exact rA z.g (x:=dP (bx:=0) (qs:=[(false,[sl _ _])]) (as_:=[(false,[sl .v _])]) aj vo rfl bS qA iC sq (by exact (xU (l:=[3,6,100]) hbo aj aj)))):=ah w h
def wC (w:ae G H:=by
 intro z
 refine sO [(0,_),(2,_),(3,_),(7000,_)] [(2,_),(3,(29,eP))] ?_
 exact aY z.g):=ah w h
def lx (w:ae G H:=by
 intro z
 refine rh ?_
 exact rM z.g):=ah w h
def cY (w:ae G H:=by
 intro z
 refine sR ?_
 refine dQ ?_
 exact aU z.g):=ah w h
def eU (w:ae G H:=by
 intro z
 refine rS ?_
 exact aU z.g):=ah w h
def sY (w:ae G H:=by
 intro z
 refine sR ?_
 exact IK z.g):=ah w h
def Hf (w:ae G H:=by
 intro z
 refine Zj7 ?_
 exact aY z.g):=ah w h
def Cg (w:ae G H:=by
 intro z
 refine dA 3 ?_ (x:=aZ aj cn an ak bE ak)
 exact dA 7 z.g (x:=lE [val _] bb)):=ah w h
def NN (w:ae G H:=by
 intro z
 refine tu ?_
 exact rA z.g (x:=cL [(true,aW)] [(true,cO)] aiK (hs:=by exact (ajs ab)))):=ah w h
def uy (w:ae G H:=by
 intro z
 refine dD ?_
 exact rA z.g (x:=lN mi)):=ah w h
def Zg3 (w:ae G H:=by
 intro z
 refine Ziz ?_
 exact Zj8 z.g):=ah w h
def Ch (w:ae G H:=by
 intro z
 refine zwj ?_
 exact dJ z.g):=ah w h
def wD (w:ae G H:=by
 intro z
 refine rA ?_ (x:=qS)
 exact rM z.g):=ah w h
def yY (w:ae G H:=by
 intro z
 refine sR ?_
 exact zx5 z.g):=ah w h
def Hg (w:ae G H:=by
 intro z
 refine nK ?_
 exact zw0 z.g):=ah w h
def NO (w:ae G H:=by
 intro z
 refine rA ?_ (x:=kI (k:=u.Field.toNat) (G:=2930) aj cn an ab (by first|(rw [bf];exact hfl)|exact hfl))
 exact zyp z.g):=ah w h
def zw9 (w:ae G H:=by
 intro z
 refine sO [(2,_),(3,_),(4,_),(6,_),(7,_),(8,_),(9,_),(11,_),(54,_),(55,_),(67,_),(68,_),(69,_),(6200,_),(6300,_)] [(3,(46,aW)),(4,(25,bX)),(6,(46,aW)),(8,(46,aW)),(9,(102,nB))] ?_
 exact aY z.g):=ah w h
def NP (w:ae G H:=by
 intro z
 refine fL ?_
 exact rA z.g (x:=cj (qs:=[(false,[val _]),(false,[val _]),(false,[val _]),(false,[val _])]) aj cn iP aj rfl rfl rfl rfl rfl az KI rfl)):=ah w h
def Hh (w:ae G H:=by
 intro z
 refine ri ?_
 exact rA z.g (x:=cL [(true,bX)] [(true,di)] Rc (hs:=by exact RW))):=ah w h
def zq8 (w:ae G H:=by
 intro z
 refine eg (d:=900) ak (congrArg (fun z_=>bU (aO bc ai) z_ jk900) (show (kr zss keep i).map (List.map Prod.fst)=s.ax2.map (tP keep) from by rw [hend,ah3];exact ao8 hzss)) ?_
 exact sI (d:=6) (D:=900) (G:=2900) (e:=1) (A:=[]) (B:=[val _]) (es:=((s.ax2.map (tP keep))).map (aO bc ai)) ak ak ak rfl aM oq vQ z.g):=ah w h
def NQ (w:ae G H:=by
 intro z
 refine rA ?_ (x:=fc aj dq iT rfl rfl aj rfl bq bq)
 exact dJ z.g):=ah w h
def zwk (w:ae G H:=by
 intro z
 refine dC ?_
 exact sO [(2,_),(3,_),(4,_),(6,_),(7,_),(8,_),(9,_),(10,_),(11,_),(12,_),(13,_),(6200,_),(6300,_)] [(3,(46,aW)),(4,(25,bX)),(6,(46,aW)),(8,(46,aW)),(9,(102,nB))] z.g):=ah w h
def Hi (w:ae G H:=by
 intro z
 refine sO [(0,_),(2,_),(3,_),(4,_),(5,_),(6,_),(5000,_),(6200,_)] [(0,_),(6,(102,du))] ?_
 exact aY z.g):=ah w h
def iw (w:ae G H:=by
 intro z
 refine oK ?_
 exact rM z.g):=ah w h
def Ci (w:ae G H:=by
 intro z
 refine sR ?_
 exact Zj9 z.g):=ah w h
def NR (w:ae G H:=by
 intro z
 refine rA ?_ (x:=cy (qs:=[(false,[val _]),(false,[val _]),(false,[val _])]) (cs:=iY) aj nU DD alA ak qD rfl ak)
 exact Zgo z.g):=ah w h
def NS (w:ae G H:=by
 intro z
 refine sP [0,1,4,5] [] ?_
 exact sL [0,1] [] (fun k:Nat=>k≤x.length∧x.take k=y.take k) (fun k:Nat=>[(5,RV.int (k:Int))]) (fun k:Nat=>[]) (fun k:Nat=>x.length - k) 0 iG bp an z.g):=ah w h
def NT (w:ae G H:=by
 intro z
 refine aU ?_
 exact Zi1 z.g):=ah w h
def mP (w:ae G H:=by
 intro z
 refine sV ?_
 exact rA z.g (x:=lN gB)):=ah w h
def Hj (w:ae G H:=by
 intro z
 refine Qq ?_
 exact rB ga z.g (x:=nT)):=ah w h
def NU (w:ae G H:=by
 intro z
 refine Zj4 ?_
 exact yW z.g):=ah w h
def wE (w:ae G H:=by
 intro z
 refine sO [(0,_),(1,_),(4,_),(5000,_)] [(0,(176,[sl o _,val _,val _]))] ?_
 exact aY z.g):=ah w h
def Hk (w:ae G H:=by
 intro z
 refine QA ?_
 exact Qr z.g):=ah w h
def Hl (w:ae G H:=by
 intro z
 refine sO [(0,_),(3,_),(4,_),(5,_),(6,_),(5000,_),(6200,_)] [(0,_),(6,(102,du))] ?_
 exact aY z.g):=ah w h
def Hm (w:ae G H:=by
 intro z
 refine rA ?_ (x:=aZ (k:=(3+2 * k)) aj eR an ab KP ak)
 exact pO z.g):=ah w h
def Hn (w:ae G H:=by
 intro z
 refine sR ?_
 exact zyb z.g):=ah w h
def zrx (w:ae G H:=by
 intro z
 refine dA 48 ?_ (x:=lD [sl (.lo _) _] cW)
 exact dA 120 z.g (x:=lU aj cn iP rfl rfl aj oo sk bq bq)):=ah w h
def zkq (w:ae G H:=by
 intro z
 refine dA 512 ?_ (x:=lD [sl .v _] cW)
 exact dA 2032 z.g (x:=lU aj cn iP rfl rfl aj oo sk bq bq)):=ah w h
def Ho (w:ae G H:=by
 intro z
 refine sO [(1,_),(2,_),(3,_),(4,_),(5,_)] [(1,_),(2,_),(3,_),(5,(102,du))] ?_
 exact aY z.g):=ah w h
def NV (w:ae G H:=by
 intro z
 refine uw ?_
 exact rA z.g (x:=cL [(true,[sl (.lo _) _,val _,val _,sl (.lo _) _,sl (.lo _) _,sl (.lo _) _,sl (.lo _) _,val _])] [(true,cO)] aip (hs:=by exact (ajx ab)))):=ah w h
def NW (w:ae G H:=by
 intro z
 refine dD ?_
 exact rX z.g (x:=(amV (qs:=[(false,[sl _ _])]) (as_:=[(false,[sl .v _])]) aj aqW bS qA (by exact (ara hb hb2))))):=ah w h
def NX (w:ae G H:=by
 intro z
 refine rA ?_ (x:=cL [(true,[sl (.lo _) _,val _,val _,sl (.lo _) _,sl (.lo _) _,sl (.lo _) _,sl (.lo _) _,val _])] [(true,cO)] aiK (hs:=by exact (ajs ab)))
 exact fp z.g):=ah w h
def yZ (w:ae G H:=by
 intro z
 refine rA ?_ (x:=lF Al)
 exact IQ z.g):=ah w h
def NY (w:ae G H:=by
 intro z
 refine uw ?_
 exact rA z.g (x:=cL [(true,[sl (.lo _) _,val _,val _,sl (.lo _) _,sl (.lo _) _,sl (.lo _) _,sl (.lo _) _,val _])] [(true,cO)] aiE (hs:=by exact (ajy ab)))):=ah w h
def zq3 (w:ae G H:=by
 intro z
 refine zq2 ?_
 exact rA z.g (x:=cj (qs:=[(true,wj)]) aj dq iT aj rfl rfl rfl rfl rfl az bS rfl)):=ah w h
def zug (w:ae G H:=by
 intro z
 refine sO [(1,_),(2,_),(3,_),(4,_),(5,_),(6,_),(8,_),(9,_),(10,_),(11,_),(57,_),(58,_),(59,_),(77,_),(78,_),(79,_),(6100,_)] [(1,_),(2,_),(4,_),(6,(149,fk)),(10,_)] ?_
 exact aY z.g):=ah w h
def Hp (w:ae G H:=by
 intro z
 refine dC ?_
 exact Zja z.g):=ah w h
def ly (w:ae G H:=by
 intro z
 refine lz ?_
 exact rM z.g):=ah w h
def NZ (w:ae G H:=by
 intro z
 refine Zcz ?_
 exact sG [0,2,3,4,5] [2,5] z.g):=ah w h
def wF (w:ae G H:=by
 intro z
 refine nK ?_
 exact rB gb z.g (x:=iZ)):=ah w h
def Cj (w:ae G H:=by
 intro z
 refine xj ?_
 exact aU z.g):=ah w h
def Zin (w:ae G H:=by
 intro z
 refine Zj1 ?_
 exact xv z.g):=ah w h
def sZ (w:ae G H:=by
 intro z
 refine ff ?_
 exact rA z.g (x:=jF)):=ah w h
def Hq (w:ae G H:=by
 intro z
 refine zu9 ?_
 exact rA z.g (x:=lE fJ ju)):=ah w h
def Ck (w:ae G H:=by
 intro z
 refine sR ?_
 exact Zfi z.g):=ah w h
def Zdc (w:ae G H:=by
 intro z
 refine dA 8191 ?_ (x:=cy (qs:=[(false,[val _]),(true,ct),(false,[val _]),(false,[val _])]) (cs:=eP) aj tC tD Ub ak Vl rfl ak)
 exact dA 16383 z.g (x:=bV (ag:=true) (vs:=eP) kq an ak az)):=ah w h
def zpi (w:ae G H:=by
 intro z
 refine rA ?_ (x:=cj (qs:=[(true,lW)]) aj nf rJ aj rfl rfl rfl rfl rfl az bS rfl)
 exact rA z.g (x:=fc aj nf rJ rfl rfl aj rfl bq bq)):=ah w h
def zb (w:ae G H:=by
 intro z
 refine zt g2 ?_
 exact rA z.g (x:=bj g2)):=ah w h
def Oa (w:ae G H:=by
 intro z
 refine rA ?_ (x:=lF hP)
 exact rA z.g (x:=eN (ms:=[sl _ _]) (qs:=[sl .v _]) aj fi (fun _=>rfl) az ak iE ib)):=ah w h
def zxo (w:ae G H:=by
 intro z
 refine rA ?_ (x:=cy (qs:=[]) (cs:=eP) aj tC tD aod ak an rfl ak)
 exact rA z.g (x:=cL [(true,eP),(true,eP)] [(true,gK),(true,gK)] an1 (hs:=by exact (auD (x:=x.ax6) (y:=⟨0,⟨0,[]⟩,0,0⟩))))):=ah w h
def Cl (w:ae G H:=by
 intro z
 refine rA ?_ (x:=lF qd)
 exact rA z.g (x:=lD [sl .v _] qf)):=ah w h
def Zhm (w:ae G H:=by
 intro z
 refine eg (d:=930) ak (po u.Value hfl ak) ?_
 exact sI (d:=10) (D:=930) (G:=2930) (e:=1) (A:=[val _]) (B:=lr) (es:=(((gA s u)).set u.Field.toNat u.Value).map ar) ak ak ak rfl qz oq UO z.g):=ah w h
def Hr (w:ae G H:=by
 intro z
 refine rA ?_ (x:=cj (qs:=[]) aj mi jJ aj rfl rfl rfl rfl rfl az an rfl)
 exact dJ z.g):=ah w h
def Cm (w:ae G H:=by
 intro z
 refine rB ga ?_ (x:=lF va)
 exact rB ga z.g (x:=lD [sl .v _] cW)):=ah w h
def Ob (w:ae G H:=by
 intro z
 refine rB gc ?_ (x:=lD gK kq)
 exact rB gc z.g (x:=cL [(true,eP)] [(true,gK)] anY (hs:=by exact auG))):=ah w h
def Hs (w:ae G H:=by
 intro z
 refine aY ?_
 exact Dh z.g):=ah w h
def Zaf (w:ae G H:=by
 intro z
 refine dA 124 ?_ (x:=cj (qs:=[(false,[val _])]) aj cn iP aj rfl rfl rfl rfl rfl az bS rfl)
 exact dA 255 z.g (x:=fc aj cn iP rfl rfl aj rfl bq bq)):=ah w h
def zos (w:ae G H:=by
 intro z
 refine rA ?_ (x:=cj (qs:=[(false,[sl _ _])]) aj gB JB aj rfl rfl rfl rfl rfl az bS rfl)
 exact rA z.g (x:=fc aj gB JB rfl rfl aj rfl bq bq)):=ah w h
def Ht (w:ae G H:=by
 intro z
 refine zT ?_
 exact zif z.g):=ah w h
def Hu (w:ae G H:=by
 intro z
 refine pM ?_
 exact Dg z.g):=ah w h
def Hv (w:ae G H:=by
 intro z
 refine sO [(0,_),(2,_),(3,_),(4,_),(5,_),(9,_),(10,_)] [(2,_),(5,_),(9,(29,eP))] ?_
 exact aY z.g):=ah w h
def zc6 (w:ae G H:=by
 intro z
 refine fL ?_
 exact rA z.g (x:=dP (bx:=0) (qs:=[(false,[val _])]) (as_:=[(false,[val _])]) aj RA rfl nt kb iC jZ (by exact (RR hbo ab)))):=ah w h
def Zeh (w:ae G H:=by
 intro z
 refine rB gc ?_ (x:=lD ej iA)
 exact rB gc z.g (x:=cL [(true,cS)] [(true,ej)] DN (hs:=KR))):=ah w h
def zim (w:ae G H:=by
 intro z
 refine sP [1,3,5,7,23,24,25,32,33,34,66,67,68] [1,7] ?_
 exact sL [1,3,5,7,23,24,25,32,33,34,66,67] [1,7] (fun m:Nat=>m≤(ek s k).length+j∧iq (bu s) ((ek s k).length+j) m=true) (fun m:Nat=>[(68,RV.int (m:Int))]) (fun m:Nat=>[]) (fun m:Nat=>(ek s k).length+j - m) 0 gF bp an z.g):=ah w h
def Cn (w:ae G H:=by
 intro z
 refine dD ?_
 refine rA ?_ (x:=aZ (k:=1) aj eR (bi rfl) fU KQ ak)
 exact pO z.g):=ah w h
def zb6 (w:ae G H:=by
 intro z
 refine rM ?_
 exact Da z.g):=ah w h
def zz4 (w:ae G H:=by
 intro z
 refine BU ?_
 exact dX 2 z.g (x:=(dP (bx:=0) (qs:=[(false,[val _])]) (as_:=[(false,[val _])]) aj vp rfl nt kb iC jZ Bi))):=ah w h
def Oc (w:ae G H:=by
 intro z
 refine kg ?_
 exact wB z.g):=ah w h
def zu2 (w:ae G H:=by
 intro z
 refine sO [(1,_),(2,_),(3,_),(4,_),(5,_),(6,_),(57,_),(58,_),(59,_)] [(1,(46,[sl (.lo _) _,val _,val _,sl (.lo _) _,sl (.lo _) _,sl (.lo _) _,sl (.lo _) _,val _])),(2,(46,aW)),(4,(46,aW)),(6,(149,fk))] ?_
 exact aY z.g):=ah w h
def fB (w:ae G H:=by
 intro z
 refine rM ?_
 exact rM z.g):=ah w h
def zbn (w:ae G H:=by
 intro z
 refine QE ?_
 exact IR z.g):=ah w h
def Co (w:ae G H:=by
 intro z
 refine Dp ?_
 exact iv z.g):=ah w h
def Od (w:ae G H:=by
 intro z
 refine oL ?_
 exact rB gc z.g (x:=cL [(false,[val _]),(false,[val _]),(false,[val _])] [(false,[val _]),(false,[val _]),(false,[val _])] rq (hs:=qC))):=ah w h
def Oe (w:ae G H:=by
 intro z
 refine uQ ?_
 exact rB gd z.g (x:=cL [(false,[val _]),(false,[val _]),(false,[val _])] [(false,[val _]),(false,[val _]),(false,[val _])] rq (hs:=qC))):=ah w h
def Hw (w:ae G H:=by
 intro z
 refine pz ?_
 exact rA z.g (x:=aZ aj qe an ak bE ak)):=ah w h
def Of (w:ae G H:=by
 intro z
 refine uQ ?_
 exact rB gd z.g (x:=cL [(false,[val _]),(false,[val _]),(false,[val _])] [(false,[val _]),(false,[val _]),(false,[val _])] mh (hs:=lO))):=ah w h
def wG (w:ae G H:=by
 intro z
 refine pH ?_
 exact dA 32 z.g (x:=pq aj)):=ah w h
def ta (w:ae G H:=by
 intro z
 refine uP ?_
 exact rA z.g (x:=lF mU)):=ah w h
def Og (w:ae G H:=by
 intro z
 refine rX ?_ (x:=(fW aj mq xS))
 exact zoa z.g):=ah w h
def Oh (w:ae G H:=by
 intro z
 refine dS ?_
 exact dA 992 z.g (x:=kI (k:=i) (G:=2900) aj cQ an yq vP)):=ah w h
def Oi (w:ae G H:=by
 intro z
 refine ri ?_
 exact rA z.g (x:=cL [(true,bX)] [(true,di)] anZ (hs:=by exact auF))):=ah w h
def Zhp (w:ae G H:=by
 intro z
 refine rA ?_ (x:=cy (qs:=[(false,[val _]),(true,ct)]) (cs:=eP) aj tC tD akm ak vW rfl ak)
 exact xv z.g):=ah w h
def qY (w:ae G H:=by
 intro z
 refine sR ?_
 exact iv z.g):=ah w h
def uz (w:ae G H:=by
 intro z
 refine rA ?_ (x:=lF xO)
 exact ff z.g):=ah w h
def Cq (w:ae G H:=by
 intro z
 refine oL ?_
 exact rB gc z.g (x:=iZ)):=ah w h
def ix (w:ae G H:=by
 intro z
 refine zf gb ?_
 exact sW z.g):=ah w h
def Zdu (w:ae G H:=by
 intro z
 refine rA ?_ (x:=uo (cs:=bX) (qs:=di) aj ak KO bg)
 exact pN z.g):=ah w h
def Oj (w:ae G H:=by
 intro z
 refine rB gb ?_ (x:=lF tB)
 exact rB gb z.g (x:=lD [sl .v _] kp)):=ah w h
def Ok (w:ae G H:=by
 intro z
 refine rA ?_ (x:=aZ aj jR an ak bE ak)
 exact rA z.g (x:=lE nC nW)):=ah w h
def uA (w:ae G H:=by
 intro z
 refine rA ?_ (x:=lF kQ)
 exact ff z.g):=ah w h
def Ol (w:ae G H:=by
 intro z
 refine dA 64 ?_ (x:=lD [val _] bb)
 exact dA 255 z.g (x:=kI (k:=k) (G:=2921) aj dq an ab (by first|(rw [bf];exact hk)|exact hk))):=ah w h
def Om (w:ae G H:=by
 intro z
 refine pO ?_
 exact rA z.g (x:=gL [(false,[val _]),(false,[val _])] [(false,[val _]),(false,[val _])] Jw (hs:=by exact (KA (l:=[102]) ab)))):=ah w h
def Hx (w:ae G H:=by
 intro z
 refine sS [2,3,4,5,17] [2,3,4] ?_
 exact tu z.g):=ah w h
def Hy (w:ae G H:=by
 intro z
 refine rA ?_ (x:=cL [(false,[val _])] [(false,[val _])] aqS (hs:=by exact (awX ab)))
 exact cb z.g):=ah w h
def On (w:ae G H:=by
 intro z
 refine rA ?_ (x:=aZ (k:=k) aj dq an ab (by exact fX hk rfl) ak)
 exact rA z.g (x:=cR aj oU az)):=ah w h
def oC (w:ae G H:=by
 intro z
 refine aY ?_
 exact fL z.g):=ah w h
def Zg5 (w:ae G H:=by
 intro z
 refine dD ?_
 exact rA z.g (x:=cL [(true,aW),(false,[sl _ _])] [(true,cO),(false,[sl .v _])] aqP (hs:=by exact (auL (e:=(bR (aS code hb)).1) (l:=(fx (aS code hb))) ab ab)))):=ah w h
def ma (w:ae G H:=by
 intro z
 refine iv ?_
 exact sT [1,2] [1] z.g):=ah w h
def zvc (w:ae G H:=by
 intro z
 refine Mw (d:=6) (G:=6200) (e:=10) (f:=(bd aH ai ai aL ai)) (z:=za[m]) (zs:=(za.drop (m+1))) ak Um (fun _=>rfl) Lo ?_
 exact aU z.g):=ah w h
def zq6 (w:ae G H:=by
 intro z
 refine Zj6 ?_
 exact rA z.g (x:=amH (f:=rC) (e:=1) (k:=i) (ag:=false) (vs:=[sl _ _]) _ (fun _=>rfl) rfl (by first|omega|(simp only [List.length_set];omega)) jS an ak)):=ah w h
def Zch (w:ae G H:=by
 intro z
 refine rA ?_ (x:=uo (cs:=ct) (qs:=fJ) aj ak KU KL)
 exact pN z.g):=ah w h
def Oo (w:ae G H:=by
 intro z
 refine BR ?_
 exact Ab z.g):=ah w h
def Zgj (w:ae G H:=by
 intro z
 refine sO [(0,_),(2,_),(3,_),(4,_),(5,_),(6,_),(7,_),(8,_),(9,_),(10,_),(11,_),(12,_),(13,_),(16,_),(17,_),(18,_),(19,_),(20,_),(7000,_)] [(3,_),(5,_),(7,_),(9,_),(11,_),(17,_),(19,(31,cS))] ?_
 exact aY z.g):=ah w h
def Oq (w:ae G H:=by
 intro z
 refine zwi ?_
 exact iM z.g):=ah w h
def oD (w:ae G H:=by
 intro z
 refine dJ ?_
 exact aU z.g):=ah w h
def Ot (w:ae G H:=by
 intro z
 refine zW ?_
 exact zkf z.g):=ah w h
def zq0 (w:ae G H:=by
 intro z
 refine rA ?_ (x:=sz (qs:=Mn) aj mn (fun h=>nomatch h) az EE bg)
 exact IL z.g):=ah w h
def Ou (w:ae G H:=by
 intro z
 refine rA ?_ (x:=gL [(false,[val _]),(false,[val _])] [(false,[val _]),(false,[val _])] RI (hs:=by exact (TT (sep:=[46,46]) ab)))
 exact cb z.g):=ah w h
def Ov (w:ae G H:=by
 intro z
 refine rB gc ?_ (x:=vM false [sl .v _])
 exact rB gc z.g (x:=aZ (k:=0) aj eR (bi rfl) fU AY ak)):=ah w h
def Ow (w:ae G H:=by
 intro z
 refine rA ?_ (x:=aZ aj il an ak bE ak)
 exact rA z.g (x:=lE iY vd)):=ah w h
def Ox (w:ae G H:=by
 intro z
 refine uT ?_
 exact dA 1 z.g (x:=aZ (k:=1) aj eR (bi rfl) fU KQ ak)):=ah w h
def Oy (w:ae G H:=by
 intro z
 refine dA 511 ?_ (x:=lF ku)
 exact dA 1023 z.g (x:=qM (o:=3) (ag:=false) (vs:=[val _]) ab bb an ak az)):=ah w h
def uB (w:ae G H:=by
 intro z
 refine dS ?_
 exact dS z.g):=ah w h
def tb (w:ae G H:=by
 intro z
 refine cP ?_
 exact dD z.g):=ah w h
def zc (w:ae G H:=by
 intro z
 refine dB 1023 gb ?_ (x:=vM false [sl .v _])
 exact dB 1023 gb z.g (x:=sM)):=ah w h
def oE (w:ae G H:=by
 intro z
 refine zf gb ?_
 exact pI z.g):=ah w h
def oF (w:ae G H:=by
 intro z
 refine zt g3 ?_
 exact rA z.g (x:=bj g3)):=ah w h
def zy7 (w:ae G H:=by
 intro z
 refine sS [2,3,4,5,6,7,8] [2,3,4,6,7] ?_
 exact rA z.g (x:=eN (ms:=bW) (qs:=[any,val _]) aj hR (fun h=>nomatch h) az ak (by exact (aJ.cons PV.to_any (aD aJ.nil))) (by exact (aF.cons (bor_any) (aF.cons (bor_val _) aF.nil))))):=ah w h
def Hz (w:ae G H:=by
 intro z
 refine sQ [1,2] [1,2] ?_
 exact cC z.g):=ah w h
def zd (w:ae G H:=by
 intro z
 refine pM ?_
 exact Aa z.g):=ah w h
def Zi6 (w:ae G H:=by
 intro z
 refine dA 0 ?_ (x:=lF nb)
 exact dA 32 z.g (x:=jB (qs:=[nv _ (val _),nv _ (val _),nv _ (sl .v _),nv _ (sl .v _)]) aj gO (fun h=>nomatch h) az EE bg)):=ah w h
def Zgh (w:ae G H:=by
 intro z
 refine sO [(0,_),(2,_),(3,_),(4,_),(5,_),(6,_),(7,_),(8,_),(9,_),(10,_),(11,_),(12,_),(13,_),(16,_),(17,_),(18,_),(7000,_)] [(3,_),(5,_),(7,_),(9,_),(11,_),(17,(31,cS))] ?_
 exact aY z.g):=ah w h
def nF (w:ae G H:=by
 intro z
 refine rA ?_ (x:=bj ge)
 exact rM z.g):=ah w h
def wH (w:ae G H:=by
 intro z
 refine cb ?_
 exact Nx z.g):=ah w h
def ze (w:ae G H:=by
 intro z
 refine rB gc ?_ (x:=lF rr)
 exact rB gc z.g (x:=lD [sl .v _] cW)):=ah w h
def Oz (w:ae G H:=by
 intro z
 refine Qu ?_
 exact rK z.g):=ah w h
def OA (w:ae G H:=by
 intro z
 refine sO [(1,_),(2,_),(3,_),(4,_),(6,_),(7,_)] [(1,_),(2,_),(3,_),(7,(56,lW))] ?_
 exact aY z.g):=ah w h
def OB (w:ae G H:=by
 intro z
 refine pz ?_
 exact rA z.g (x:=aZ (k:=(2+2 * k)) aj eR an ab EF ak)):=ah w h
def Zib (w:ae G H:=by
 intro z
 refine dA 32766 ?_ (x:=fc aj nf rJ rfl rfl aj rfl bq bq)
 exact dA 65535 z.g (x:=pq aj)):=ah w h
def zuf (w:ae G H:=by
 intro z
 refine sO [(1,_),(2,_),(3,_),(4,_),(5,_),(6,_),(8,_),(9,_),(10,_),(11,_),(57,_),(58,_),(59,_),(77,_),(78,_),(79,_),(2900,_),(6100,_)] [(1,_),(2,_),(4,_),(6,_),(10,(102,du)),(900,_)] ?_
 exact aY z.g):=ah w h
def OC (w:ae G H:=by
 intro z
 refine sR ?_
 exact rX z.g (x:=(kG (ag:=true) (cs:=[sl (.lo _) _,val _]) aj an))):=ah w h
def zt1 (w:ae G H:=by
 intro z
 refine tu ?_
 exact rA z.g (x:=cL [(true,aW)] [(true,cO)] RK (hs:=Lv))):=ah w h
def zwh (w:ae G H:=by
 intro z
 refine tu ?_
 exact rA z.g (x:=cL [(true,aW)] [(true,cO)] aiE (hs:=by exact (ajy ab)))):=ah w h
def uC (w:ae G H:=by
 intro z
 refine tn ?_
 exact rM z.g):=ah w h
def OD (w:ae G H:=by
 intro z
 refine xk ?_
 exact dA 3 z.g (x:=gL [(false,[val _])] [(false,[val _])] rD (hs:=qE))):=ah w h
def OE (w:ae G H:=by
 intro z
 refine xk ?_
 exact dA 3 z.g (x:=cL [(false,[val _])] [(false,[val _])] rE (hs:=qF))):=ah w h
def OF (w:ae G H:=by
 intro z
 refine aU ?_
 exact sO [(1,_),(2,_),(4,_),(5,_),(6,_)] [(2,_),(4,_),(6,(46,aW))] z.g):=ah w h
def tc (w:ae G H:=by
 intro z
 refine uU ?_
 exact qW z.g):=ah w h
def Zg7 (w:ae G H:=by
 intro z
 refine aU ?_
 exact sO [(0,_),(2,_),(3,_),(4,_),(5,_),(6,_),(7,_),(8,_),(9,_),(10,_),(11,_),(7000,_)] [(3,_),(5,_),(7,(46,aW)),(9,_),(11,(46,aW))] z.g):=ah w h
def OG (w:ae G H:=by
 intro z
 refine ff ?_
 exact zl7 z.g):=ah w h
def OH (w:ae G H:=by
 intro z
 refine ff ?_
 exact Zgv z.g):=ah w h
def td (w:ae G H:=by
 intro z
 refine rS ?_
 exact rS z.g):=ah w h
def zjq (w:ae G H:=by
 intro z
 refine sP [0,1,4,12,13] [] ?_
 exact sL [0,1,12] [] (fun k:Nat=>k≤x.length∧x.take k=y.take k) (fun k:Nat=>[(13,RV.int (k:Int))]) (fun k:Nat=>[]) (fun k:Nat=>x.length - k) 0 iG bp an z.g):=ah w h
def Za5 (w:ae G H:=by
 intro z
 refine Zj8 ?_
 exact pN z.g):=ah w h
def Zd8 (w:ae G H:=by
 intro z
 refine Ze9 ?_
 exact dA 15 z.g (x:=cy (qs:=[(false,[val _])]) (cs:=ct) aj jJ mV alC ak bS rfl ak)):=ah w h
def OI (w:ae G H:=by
 intro z
 refine dS ?_
 exact dA 7 z.g (x:=aZ aj il an ak bE ak)):=ah w h
def zy3 (w:ae G H:=by
 intro z
 refine Co ?_
 exact sO [(2,_),(3,_),(4,_),(5,_)] [(2,(46,[sl (.lo _) _,val _,val _,sl (.lo _) _,sl (.lo _) _,sl (.lo _) _,sl (.lo _) _,val _])),(3,(29,[val _,val _,sl (.lo _) _,val _,val _])),(4,(46,aW))] z.g):=ah w h
def jb (w:ae G H:=by
 intro z
 refine mO ?_
 exact rM z.g):=ah w h
def OJ (w:ae G H:=by
 intro z
 refine rM ?_
 exact rA z.g (x:=cL [(false,[val _]),(false,[val _])] [(false,[val _]),(false,[val _])] RH (hs:=by exact (awK ab)))):=ah w h
def Zd5 (w:ae G H:=by
 intro z
 refine QH ?_
 exact rA z.g (x:=cy (qs:=[(false,[val _])]) (cs:=ct) aj jJ mV alC ak bS rfl ak)):=ah w h
def zps (w:ae G H:=by
 intro z
 refine eg (d:=900) ak (show _=bU (aO bc ai) (s.ax2) jk900 from rfl) ?_
 exact sO [(1,_),(2,_),(4,_),(5,_),(6,_),(2900,_)] [(2,_),(4,_),(6,(41,lr)),(900,(114,bU (aO bc ai) _ _))] z.g):=ah w h
def zu4 (w:ae G H:=by
 intro z
 refine rA ?_ (x:=cL [(true,[sl (.lo _) _,val _,val _,sl (.lo _) _,sl (.lo _) _,sl (.lo _) _,sl (.lo _) _,val _]),(false,[val _])] [(true,cO),(false,[val _])] aiw (hs:=by exact akq))
 exact eU z.g):=ah w h
def Zfl (w:ae G H:=by
 intro z
 refine ri ?_
 exact rA z.g (x:=cL [(true,bX),(true,bX)] [(true,di),(true,di)] apH (hs:=by exact auE))):=ah w h
def zpy (w:ae G H:=by
 intro z
 refine sO [(1,_),(2,_),(4,_),(5,_),(6,_),(7,_),(8,_),(9,_),(19,_),(20,_),(21,_),(27,_),(28,_),(29,_),(2900,_),(6000,_)] [(2,(41,[sl (.lo _) _,val _])),(4,(41,bW)),(6,(41,lr)),(900,(114,bU rC _ _))] ?_
 exact aY z.g):=ah w h
def OK (w:ae G H:=by
 intro z
 refine rB gd ?_ (x:=sM)
 exact rB gd z.g (x:=cL [(false,[val _])] [(false,[val _])] rE (hs:=qF))):=ah w h
def zir (w:ae G H:=by
 intro z
 refine Qs ?_
 exact rB ge z.g (x:=cL [(true,fe),(true,fe)] [(true,jD),(true,jD)] ap1 (hs:=by exact arv))):=ah w h
def HA (w:ae G H:=by
 intro z
 refine rA ?_ (x:=cR aj kQ az)
 exact rA z.g (x:=lE [val _] bb)):=ah w h
def HB (w:ae G H:=by
 intro z
 refine sS [0,2,3,4,5,6] [] ?_
 exact rM z.g):=ah w h
def OL (w:ae G H:=by
 intro z
 refine uB ?_
 exact dA 3 z.g (x:=Sb (fw c s).1.toNat qy (u:=(s.take (fw c s).1.toNat)) ab ab Lb)):=ah w h
def Zdm (w:ae G H:=by
 intro z
 refine Zit ?_
 exact xr z.g):=ah w h
def zg (w:ae G H:=by
 intro z
 refine rA ?_ (x:=lF rG)
 exact rA z.g (x:=lD [val _] mo)):=ah w h
def OM (w:ae G H:=by
 intro z
 refine Hs ?_
 exact rA z.g (x:=cL [(true,[sl (.lo _) _,val _])] [(true,eh)] aiv (hs:=by exact (ajw ab)))):=ah w h
def zs2 (w:ae G H:=by
 intro z
 refine xj ?_
 exact Zja z.g):=ah w h
def zh (w:ae G H:=by
 intro z
 refine rA ?_ (x:=lF oV)
 exact ff z.g):=ah w h
def HC (w:ae G H:=by
 intro z
 refine zt gc ?_
 exact rh z.g):=ah w h
def pA (w:ae G H:=by
 intro z
 refine rj ?_
 exact rM z.g):=ah w h
def pB (w:ae G H:=by
 intro z
 refine rA ?_ (x:=aR gd)
 exact rM z.g):=ah w h
def ON (w:ae G H:=by
 intro z
 refine rA ?_ (x:=lF qb)
 exact IP z.g):=ah w h
def OO (w:ae G H:=by
 intro z
 refine rM ?_
 exact QO z.g):=ah w h
def OP (w:ae G H:=by
 intro z
 refine rA ?_ (x:=lF Re)
 exact IP z.g):=ah w h
def Zhi (w:ae G H:=by
 intro z
 refine eg (d:=10) ak (show _=[val (vI u.Row.Id),sl ai ((jQ s u).map ar),val (vI (s.Now+1)),val (vI (-1))] from by first|(rw [hv2];done)|(rw [hv2];exact rfl)) ?_
 exact QM z.g):=ah w h
def oG (w:ae G H:=by
 intro z
 refine cC ?_
 exact ij z.g):=ah w h
def Cr (w:ae G H:=by
 intro z
 refine pH ?_
 exact dA 2 z.g (x:=pq aj)):=ah w h
def jH (w:ae G H:=by
 intro z
 refine GZ ?_
 exact rM z.g):=ah w h
def wI (w:ae G H:=by
 intro z
 refine rB gc ?_ (x:=jE)
 exact to z.g):=ah w h
def zvr (w:ae G H:=by
 intro z
 refine uw ?_
 exact zwx z.g):=ah w h
def zs4 (w:ae G H:=by
 intro z
 refine sO [(2,_),(3,_),(4,_),(5,_),(6,_),(7,_),(8,_),(9,_),(10,_),(2920,_),(2921,_)] [(2,_),(3,_),(4,_),(6,_),(10,_),(920,(114,_++([val _]++_))),(921,(116,_++(fe++_)))] ?_
 exact cC z.g):=ah w h
def uD (w:ae G H:=by
 intro z
 refine rM ?_
 exact rA z.g (x:=jo)):=ah w h
def tf (w:ae G H:=by
 intro z
 refine zf g10 ?_
 exact rA z.g (x:=aR g10)):=ah w h
def OQ (w:ae G H:=by
 intro z
 refine rM ?_
 exact rA z.g (x:=aZ (k:=i) aj gB an ab (by exact fX hi rfl) ak)):=ah w h
def uE (w:ae G H:=by
 intro z
 refine rn ?_
 exact iu z.g):=ah w h
def Cs (w:ae G H:=by
 intro z
 refine rA ?_ (x:=lF rG)
 exact rA z.g (x:=lD [sl (.lo _) _] mo)):=ah w h
def HD (w:ae G H:=by
 intro z
 refine rB gd ?_ (x:=sM)
 refine rB gd ?_ (x:=qT)
 exact rA z.g (x:=aR gd)):=ah w h
def OR (w:ae G H:=by
 intro z
 refine rA ?_ (x:=gL [(false,[val _])] [(false,[val _])] apv (hs:=by exact (awY ab)))
 exact cb z.g):=ah w h
def zi (w:ae G H:=by
 intro z
 refine qY ?_
 exact nJ z.g):=ah w h
def zwl (w:ae G H:=by
 intro z
 refine zwn ?_
 exact aY z.g):=ah w h
def Zi5 (w:ae G H:=by
 intro z
 refine dA 6 ?_ (x:=lF qd)
 exact dA 14 z.g (x:=eN (ms:=[sl _ _]) (qs:=[sl .v _]) aj qf (fun _=>rfl) az ak iE ib)):=ah w h
def Ct (w:ae G H:=by
 intro z
 refine rB ga ?_ (x:=lF oV)
 exact kg z.g):=ah w h
def zp1 (w:ae G H:=by
 intro z
 refine uR ?_
 exact dA 1 z.g (x:=eN (ms:=[sl _ _]) (qs:=[sl .v _]) aj fi (fun _=>rfl) az ak iE ib)):=ah w h
def zp3 (w:ae G H:=by
 intro z
 refine dA 0 ?_ (x:=lF lH)
 exact dA 1 z.g (x:=eN (ms:=[sl _ _]) (qs:=[sl .v _]) aj lJ (fun _=>rfl) az ak iE ib)):=ah w h
def Cu (w:ae G H:=by
 intro z
 refine sS [0,1,4,5,6,7,8,24,5000] [0,4,5,8] ?_
 exact iu z.g):=ah w h
def qZ (w:ae G H:=by
 intro z
 refine jq ?_
 exact rM z.g):=ah w h
def ra (w:ae G H:=by
 intro z
 refine rA ?_ (x:=aR ge)
 exact rM z.g):=ah w h
def zuc (w:ae G H:=by
 intro z
 refine rA ?_ (x:=lF tU)
 exact rA z.g (x:=eN (ms:=[sl _ _]) (qs:=[sl .v _]) aj nX (fun _=>rfl) az ak iE ib)):=ah w h
def tg (w:ae G H:=by
 intro z
 refine zf g9 ?_
 exact rA z.g (x:=aR g9)):=ah w h
def th (w:ae G H:=by
 intro z
 refine zt g6 ?_
 exact rA z.g (x:=bj g6)):=ah w h
def zor (w:ae G H:=by
 intro z
 refine rA ?_ (x:=lF rG)
 exact rA z.g (x:=eN (ms:=[sl _ _]) (qs:=[sl .v _]) aj mo (fun _=>rfl) az ak iE ib)):=ah w h
def zph (w:ae G H:=by
 intro z
 refine rA ?_ (x:=lF qd)
 exact rA z.g (x:=eN (ms:=[sl _ _]) (qs:=[sl .v _]) aj qf (fun _=>rfl) az ak iE ib)):=ah w h
def Zi3 (w:ae G H:=by
 intro z
 refine sO [(1,_),(2,_),(3,_),(4,_),(5,_),(6,_),(57,_),(58,_),(59,_),(145,_),(146,_),(147,_),(6200,_)] [(1,_),(2,_),(4,(46,aW)),(6,_)] ?_
 exact aY z.g):=ah w h
def zqh (w:ae G H:=by
 intro z
 refine sO [(1,_),(2,_),(4,_),(5,_),(6,_),(7,_),(8,_),(9,_),(10,_),(2900,_),(6000,_)] [(2,(41,[sl (.lo _) _,val _])),(4,(41,bW)),(6,(41,lr)),(900,(114,bU rC _ _))] ?_
 exact aY z.g):=ah w h
def Zi9 (w:ae G H:=by
 intro z
 refine dA 0 ?_ (x:=lF tU)
 exact dA 2048 z.g (x:=jB (qs:=BB) aj nX (fun _=>rfl) az ug KM)):=ah w h
def OS (w:ae G H:=by
 intro z
 refine Zf8 ?_
 exact aY z.g):=ah w h
def zwq (w:ae G H:=by
 intro z
 refine Co ?_
 exact sO [(1,_),(2,_),(4,_),(5,_)] [(2,(46,[sl (.lo _) _,val _,val _,sl (.lo _) _,sl (.lo _) _,sl (.lo _) _,sl (.lo _) _,val _])),(4,(46,aW))] z.g):=ah w h
def OT (w:ae G H:=by
 intro z
 refine dC ?_
 exact Zcw z.g):=ah w h
def Cv (w:ae G H:=by
 intro z
 refine nE ?_
 exact Dp z.g):=ah w h
def OU (w:ae G H:=by
 intro z
 refine Df ?_
 exact iv z.g):=ah w h
def Zgb (w:ae G H:=by
 intro z
 refine dX 0 ?_ (x:=(lS (r':=RV.sv false [sl .v _]) (.inl rfl) aj (by exact Cp.sv (aV aJ.nil) (aF.cons (bor_sl _) aF.nil))))
 exact dX 0 z.g (x:=(lS (.inl rfl) aj Fg))):=ah w h
def OV (w:ae G H:=by
 intro z
 refine dD ?_
 refine rA ?_ (x:=aZ (k:=0) aj eR (bi rfl) fU AY ak)
 exact pO z.g):=ah w h
def wJ (w:ae G H:=by
 intro z
 refine sG [0,2,3,4,5] [2,5] ?_
 exact Cn z.g):=ah w h
def Zi7 (w:ae G H:=by
 intro z
 refine dA 0 ?_ (x:=lF vq)
 exact dA 128 z.g (x:=jB (qs:=[val _]) aj bb (fun _=>rfl) az EB lP)):=ah w h
def Zi8 (w:ae G H:=by
 intro z
 refine dA 0 ?_ (x:=lF Ay)
 exact dA 512 z.g (x:=jB (qs:=[val _]) aj bb (fun _=>rfl) az EB lP)):=ah w h
def ztq (w:ae G H:=by
 intro z
 refine Co ?_
 exact sO [(1,_),(2,_),(3,_)] [(1,(46,[sl (.lo _) _,val _,val _,sl (.lo _) _,sl (.lo _) _,sl (.lo _) _,sl (.lo _) _,val _])),(2,(46,aW))] z.g):=ah w h
def Zad (w:ae G H:=by
 intro z
 refine zuu ?_
 exact ij z.g):=ah w h
def Zii (w:ae G H:=by
 intro z
 refine bO.stepC 63 gI an (cc.of rfl (wa (.inl rfl) aj)) fY ao iD ?_
 refine bO.stepC 127 gI an (cc.of rfl (qP (cs:=wi) aj ak bg)) fY ao iD ?_
 exact bO.stepC 127 gI an (cc.of rfl (qP (cs:=[val _]) aj ak lP)) fY ao iD z.g):=ah w h
def ti (w:ae G H:=by
 intro z
 refine qY ?_
 exact pK z.g):=ah w h
def rc (w:ae G H:=by
 intro z
 refine Nw ?_
 exact dJ z.g):=ah w h
def OW (w:ae G H:=by
 intro z
 refine td ?_
 exact sS [0,2,3,4,5,6,7,8,9,11,12,13,14,15,16,17,18,19,20,21,22,23,7000] [2,12] z.g):=ah w h
def zul (w:ae G H:=by
 intro z
 refine sO [(1,_),(2,_),(3,_),(4,_),(5,_),(6,_),(14,_),(57,_),(58,_),(59,_),(6200,_)] [(1,_),(2,_),(4,(46,aW)),(6,_)] ?_
 exact aY z.g):=ah w h
def mb (w:ae G H:=by
 intro z
 refine GZ ?_
 exact cH z.g):=ah w h
def pC (w:ae G H:=by
 intro z
 refine rM ?_
 exact wD z.g):=ah w h
def Zhl (w:ae G H:=by
 intro z
 refine sO [(2,_),(3,_),(4,_),(5,_),(6,_),(7,_),(8,_),(9,_),(10,_),(2930,_)] [(2,_),(3,_),(4,_),(6,_),(10,(116,[val _,val _,val _,val _])),(930,(3,_++([val _]++_)))] ?_
 exact aY z.g):=ah w h
def zca (w:ae G H:=by
 intro z
 refine sO [(0,_),(1,_),(4,_),(5,_),(6,_),(7,_),(10,_),(5000,_)] [(0,(176,[sl o _,val _,val _])),(4,(25,bX)),(5,(25,bX))] ?_
 exact aY z.g):=ah w h
def zod (w:ae G H:=by
 intro z
 refine dA 1 ?_ (x:=lD di gO)
 exact dA 3 z.g (x:=cL [(true,bX)] [(true,di)] aix (hs:=by exact ajt ab))):=ah w h
def zoo (w:ae G H:=by
 intro z
 refine ff ?_
 exact rA z.g (x:=cy (qs:=[(false,[val _])]) (cs:=bW) aj DS DU asi ak bS rfl ak)):=ah w h
def OX (w:ae G H:=by
 intro z
 refine sS [0,2,3,4,5,6,7,8,9,11,12,13,14,15,16,7000] [2,12] ?_
 exact dD z.g):=ah w h
def Zhj (w:ae G H:=by
 intro z
 refine Zh8 ?_
 refine Dn ?_
 exact eg (d:=10) ak (show _=[val (vI u.Row.Id),sl ai ((gA s u).map ar),val (vI (s.Now+1)),val (vI (-1))] from by first|(rw [hu2];done)|(rw [hu2];exact rfl)) z.g):=ah w h
def Zg6 (w:ae G H:=by
 intro z
 refine eU ?_
 exact sO [(0,_),(2,_),(3,_),(4,_),(5,_),(6,_),(7,_),(8,_),(9,_),(10,_),(7000,_)] [(3,_),(5,_),(7,_),(9,(46,aW))] z.g):=ah w h
def nG (w:ae G H:=by
 intro z
 refine zt gb ?_
 exact iM z.g):=ah w h
def uF (w:ae G H:=by
 intro z
 refine zf g6 ?_
 exact rA z.g (x:=aR g6)):=ah w h
def zi3 (w:ae G H:=by
 intro z
 refine dA 3 ?_ (x:=aZ (k:=i) aj dq an fU (by exact fX hlt2 (by rw [kl (d:=v0) hlt2])) ak)
 exact dA 7 z.g (x:=lE jD mn)):=ah w h
def zp6 (w:ae G H:=by
 intro z
 refine ri ?_
 exact zkt z.g):=ah w h
def OY (w:ae G H:=by
 intro z
 refine td ?_
 exact sS [0,2,3,4,5,6,7,8,9,11,12,13,14,15,16,17,18,19,20,21,7000] [2,12] z.g):=ah w h
def zc5 (w:ae G H:=by
 intro z
 refine sO [(0,_),(1,_),(4,_),(5,_),(6,_),(7,_),(5000,_)] [(0,(176,[sl o _,val _,val _])),(4,(25,bX)),(5,(25,bX))] ?_
 exact aY z.g):=ah w h
def zip (w:ae G H:=by
 intro z
 refine aU ?_
 exact sO [(1,_),(3,_),(5,_),(7,_),(9,_),(23,_),(24,_),(25,_),(32,_),(33,_),(34,_),(66,_),(67,_),(68,_)] [(1,_),(7,_),(9,(116,fe))] z.g):=ah w h
def OZ (w:ae G H:=by
 intro z
 refine IE ?_
 exact oK z.g):=ah w h
def zy8 (w:ae G H:=by
 intro z
 refine sO [(2,_),(3,_),(4,_),(5,_),(6,_),(7,_),(8,_)] [(2,_),(3,_),(4,_),(6,(46,aW)),(7,(41,[any,val _]))] ?_
 exact wd z.g):=ah w h
def Pa (w:ae G H:=by
 intro z
 refine aY ?_
 exact tu z.g):=ah w h
def zin (w:ae G H:=by
 intro z
 refine sT [1,3,5,7,23,24,25,32,33,34,66,67,68] [1,7] ?_
 exact rA z.g (x:=aZ (k:=m) aj dq an fU (by exact fX ab (by rw [hsg])) ak)):=ah w h
def uG (w:ae G H:=by
 intro z
 refine sS [0,2,3,4] [] ?_
 exact rM z.g):=ah w h
def zmg (w:ae G H:=by
 intro z
 refine rB ga ?_ (x:=lD di gO)
 exact rB ga z.g (x:=cL [(true,bX)] [(true,di)] Jc (hs:=by exact RX))):=ah w h
def zie (w:ae G H:=by
 intro z
 refine Db ?_
 exact rA z.g (x:=cL [(true,fe)] [(true,jD)] aqY (hs:=by exact aru ab))):=ah w h
def zw6 (w:ae G H:=by
 intro z
 refine sO [(2,_),(3,_),(4,_),(6,_),(7,_),(8,_),(9,_)] [(3,_),(4,_),(6,_),(8,_),(9,(102,du))] ?_
 exact aY z.g):=ah w h
def zgx (w:ae G H:=by
 intro z
 refine oL ?_
 exact Zjc z.g):=ah w h
def zm4 (w:ae G H:=by
 intro z
 refine rB ge ?_ (x:=lD [val _] bb)
 exact rB ge z.g (x:=cL [(false,[val _]),(false,[val _]),(false,[val _])] [(false,[val _]),(false,[val _]),(false,[val _])] mh (hs:=lO))):=ah w h
def nH (w:ae G H:=by
 intro z
 refine aY ?_
 exact rM z.g):=ah w h
def Zbk (w:ae G H:=by
 intro z
 refine rA ?_ (x:=aZ (k:=((aq 32 s).length - 1)) aj eR an ab (by exact fX hlw (by rw [←AW hlw])) ak)
 exact pO z.g):=ah w h
def zll (w:ae G H:=by
 intro z
 refine dA 7 ?_ (x:=aZ (k:=k) aj cn an fU Lp ak)
 exact dA 15 z.g (x:=lE [val _] bb)):=ah w h
def HE (w:ae G H:=by
 intro z
 refine rB gf ?_ (x:=lF tU)
 exact rB gf z.g (x:=lD [sl .v _] nX)):=ah w h
def uH (w:ae G H:=by
 intro z
 refine px ?_
 refine rA ?_ (x:=lN cQ)
 exact dQ z.g):=ah w h
def zuy (w:ae G H:=by
 intro z
 refine dA 3 ?_ (x:=aZ aj dq an ak bE ak)
 exact dA 7 z.g (x:=cR aj xO az)):=ah w h
def zw5 (w:ae G H:=by
 intro z
 refine dA 63 ?_ (x:=cy (qs:=[(true,bX),(false,[val _]),(false,[val _])]) (cs:=du) aj mp RP auw ak qD rfl ak)
 refine bO.step 0 an an (cc.of rfl (fW aj mp RP)) (sD (cV.of_ rfl)) ao ?_
 exact dA 255 z.g (x:=bV (ag:=true) (vs:=du) lI an ak az)):=ah w h
def zuv (w:ae G H:=by
 intro z
 refine rA ?_ (x:=lS (r':=RV.sv false [sl .v _]) (.inl rfl) aj KG)
 exact rA z.g (x:=lN dq)):=ah w h
def znb (w:ae G H:=by
 intro z
 refine Qx ?_
 exact aU z.g):=ah w h
def wK (w:ae G H:=by
 intro z
 refine zf g17 ?_
 exact rA z.g (x:=aR g17)):=ah w h
def HF (w:ae G H:=by
 intro z
 refine aU ?_
 exact Dn z.g):=ah w h
def zux (w:ae G H:=by
 intro z
 refine zur ?_
 exact dS z.g):=ah w h
def zj (w:ae G H:=by
 intro z
 refine sG [0,2,3,4,5] [2,5] ?_
 exact pC z.g):=ah w h
def Zhq (w:ae G H:=by
 intro z
 refine rM ?_
 exact rA z.g (x:=cy (qs:=[(false,[val _])]) (cs:=ct) aj jJ mV at7 ak bS rfl ak)):=ah w h
def uI (w:ae G H:=by
 intro z
 refine rK ?_
 exact sT [1,2] [1] z.g):=ah w h
def zs1 (w:ae G H:=by
 intro z
 refine sS [2,3,4,5,6,7,8,9,10] [2,3,4,6,10] ?_
 exact zV z.g):=ah w h
def Zg4 (w:ae G H:=by
 intro z
 refine oD ?_
 exact sO [(0,_),(2,_),(3,_),(4,_),(5,_),(6,_),(7,_),(8,_),(7000,_)] [(3,_),(5,_),(7,(46,aW))] z.g):=ah w h
def pD (w:ae G H:=by
 intro z
 refine cb ?_
 refine dJ ?_
 exact cK z.g):=ah w h
def HG (w:ae G H:=by
 intro z
 refine xp ?_
 refine rA ?_ (x:=lD [sl .v _] kp)
 exact rA z.g (x:=lN il)):=ah w h
def HH (w:ae G H:=by
 intro z
 refine rB gc ?_ (x:=lF ku)
 exact oL z.g):=ah w h
def zhm (w:ae G H:=by
 intro z
 refine nL ?_
 exact Zjc z.g):=ah w h
def zj4 (w:ae G H:=by
 intro z
 refine dA 15 ?_ (x:=cL [(false,[val _]),(false,[val _]),(false,[val _])] [(false,[val _]),(false,[val _]),(false,[val _])] mh (hs:=lO))
 exact dA 31 z.g (x:=nT)):=ah w h
def Pb (w:ae G H:=by
 intro z
 refine rS ?_
 exact sS [0,2,3,4,5,6,7,8,9,11,12,13,14,15,16,17,18,19,7000] [2,12] z.g):=ah w h
def pE (w:ae G H:=by
 intro z
 refine Ny ?_
 exact aU z.g):=ah w h
def HI (w:ae G H:=by
 intro z
 refine rB ga ?_ (x:=lF tz)
 exact kg z.g):=ah w h
def zpl (w:ae G H:=by
 intro z
 refine rM ?_
 exact zh6 z.g):=ah w h
def oH (w:ae G H:=by
 intro z
 refine cP ?_
 refine mM ?_
 exact dQ z.g):=ah w h
def Zda (w:ae G H:=by
 intro z
 refine dA 239 ?_ (x:=cL [(false,[val _]),(false,[val _])] [(false,[val _]),(false,[val _])] Jv (hs:=by exact (alB ab)))
 exact uT z.g):=ah w h
def uJ (w:ae G H:=by
 intro z
 refine rM ?_
 exact dQ z.g):=ah w h
def HJ (w:ae G H:=by
 intro z
 refine Dj ?_
 exact aU z.g):=ah w h
def zdc (w:ae G H:=by
 intro z
 refine IF ?_
 exact gx z.g):=ah w h
def wL (w:ae G H:=by
 intro z
 refine zf g5 ?_
 exact rA z.g (x:=aR g5)):=ah w h
def wM (w:ae G H:=by
 intro z
 refine rK ?_
 exact sT [2,3,4] [2,3] z.g):=ah w h
def wN (w:ae G H:=by
 intro z
 refine zf g7 ?_
 exact rA z.g (x:=aR g7)):=ah w h
def Zcd (w:ae G H:=by
 intro z
 refine Zir ?_
 exact yT z.g):=ah w h
def Pc (w:ae G H:=by
 intro z
 refine sG [1,2,4,5,6,7,8,9,10,11,12,13,2900,6000] [2,4,6,11,900] ?_
 exact cB z.g):=ah w h
def zfm (w:ae G H:=by
 intro z
 refine rX ?_ (x:=(fW aj nU DD))
 exact zfe z.g):=ah w h
def pF (w:ae G H:=by
 intro z
 refine zt gc ?_
 exact lx z.g):=ah w h
def zq1 (w:ae G H:=by
 intro z
 refine rA ?_ (x:=bV (ag:=true) (vs:=wj) mn an ak az)
 exact aU z.g):=ah w h
def zkw (w:ae G H:=by
 intro z
 refine rX ?_ (x:=(fW aj JC JE))
 exact Zjd z.g):=ah w h
def zss (w:ae G H:=by
 intro z
 refine Ab ?_
 exact rK z.g):=ah w h
def zyv (w:ae G H:=by
 intro z
 refine sP [0,1,4,5,6,7,8,24,5000] [0,4,5,8] ?_
 exact yC (c:=8) (AI:=[]) xA rfl rfl rfl rfl ao (fun j L h=>nomatch h) (fun j L h=>nomatch h) z.g):=ah w h
def zz0 (w:ae G H:=by
 intro z
 refine sP [0,1,4,5,6,7,8,24,5000] [0,4,5,8] ?_
 exact yC (c:=5) (AI:=[]) xA rfl rfl rfl rfl ao (fun j L h=>nomatch h) (fun j L h=>nomatch h) z.g):=ah w h
def zz3 (w:ae G H:=by
 intro z
 refine sP [0,1,4,5,6,7,8,24,5000] [0,4,5,8] ?_
 exact yC (c:=3) (AI:=[]) xA rfl rfl rfl rfl ao (fun j L h=>nomatch h) (fun j L h=>nomatch h) z.g):=ah w h
def wP (w:ae G H:=by
 intro z
 refine sS [1,2,4] [1] ?_
 exact iu z.g):=ah w h
def zi7 (w:ae G H:=by
 intro z
 refine IG ?_
 exact fp z.g):=ah w h
def nI (w:ae G H:=by
 intro z
 refine oB ?_
 exact rM z.g):=ah w h
def zsd (w:ae G H:=by
 intro z
 refine sS [0,1,4,5] [4] ?_
 exact rA z.g (x:=cy (qs:=[]) (cs:=bW) aj DS DU at8 ak an rfl ak)):=ah w h
def Zak (w:ae G H:=by
 intro z
 refine II ?_
 exact rB ga z.g (x:=cL [(true,ct)] [(true,fJ)] aiH (hs:=by exact (alu (r:=lL s))))):=ah w h
def Zcx (w:ae G H:=by
 intro z
 refine zR ?_
 exact rB ga z.g (x:=aZ (k:=0) aj eR (bi rfl) fU AY ak)):=ah w h
def Zed (w:ae G H:=by
 intro z
 refine xm ?_
 exact rB gb z.g (x:=aZ (k:=0) aj eR (bi rfl) fU AY ak)):=ah w h
def zcd (w:ae G H:=by
 intro z
 refine rM ?_
 exact IG z.g):=ah w h
def Zca (w:ae G H:=by
 intro z
 refine uT ?_
 exact dA 16 z.g (x:=aZ (k:=1) aj eR (bi rfl) fU KQ ak)):=ah w h
def Zd9 (w:ae G H:=by
 intro z
 refine uT ?_
 exact dA 32 z.g (x:=aZ (k:=2) aj eR (bi rfl) fU EF ak)):=ah w h
def zk (w:ae G H:=by
 intro z
 refine cC ?_
 exact dS z.g):=ah w h
def zqy (w:ae G H:=by
 intro z
 refine OU ?_
 exact sO [(2,_),(3,_),(4,_),(5,_)] [(2,(41,[sl (.lo _) _,val _])),(3,(29,[val _,val _,sl (.lo _) _,val _,val _])),(4,(41,bW))] z.g):=ah w h
def Zc8 (w:ae G H:=by
 intro z
 refine uT ?_
 exact dA 1 z.g (x:=aZ (k:=0) aj eR (bi rfl) fU AY ak)):=ah w h
def Cw (w:ae G H:=by
 intro z
 refine gN ?_
 exact rB ga z.g (x:=yG)):=ah w h
def zjx (w:ae G H:=by
 intro z
 refine dA 3 ?_ (x:=aZ aj mi an ak bE ak)
 exact dA 7 z.g (x:=lE fJ ju)):=ah w h
def zvx (w:ae G H:=by
 intro z
 refine sO [(2,_),(3,_),(4,_),(6,_),(7,_),(8,_)] [(3,_),(4,_),(6,_),(8,(46,aW))] ?_
 exact aY z.g):=ah w h
def Zdl (w:ae G H:=by
 intro z
 refine rA ?_ (x:=gL [(false,[val _]),(false,[val _])] [(false,[val _]),(false,[val _])] RI (hs:=by exact (TT (sep:=[32]) ab)))
 exact cb z.g):=ah w h
def wQ (w:ae G H:=by
 intro z
 refine sS [0,2,3] [] ?_
 refine cl ?_
 exact sP [0,2,3,4] [] z.g):=ah w h
def wR (w:ae G H:=by
 intro z
 refine ba ?_
 exact sG [0,3] [] z.g):=ah w h
def wS (w:ae G H:=by
 intro z
 refine bI ?_
 exact sS [0,3] [] z.g):=ah w h
def wT (w:ae G H:=by
 intro z
 refine rB gb ?_ (x:=nT)
 exact sW z.g):=ah w h
def re (w:ae G H:=by
 intro z
 refine zkm ?_
 exact aU z.g):=ah w h
def HK (w:ae G H:=by
 intro z
 refine xt ?_
 exact ff z.g):=ah w h
def HL (w:ae G H:=by
 intro z
 refine uQ ?_
 exact rB gd z.g (x:=iZ)):=ah w h
def HM (w:ae G H:=by
 intro z
 refine sR ?_
 exact xr z.g):=ah w h
def uK (w:ae G H:=by
 intro z
 refine cC ?_
 refine pH ?_
 exact dA 1 z.g (x:=pq aj)):=ah w h
def Pd (w:ae G H:=by
 intro z
 refine sR ?_
 exact rA z.g (x:=nw (.inr rfl) aj (pk (t:=27) (e:=2)))):=ah w h
def zl (w:ae G H:=by
 intro z
 refine sS [1,2,3,16] [1] ?_
 exact iu z.g):=ah w h
def HN (w:ae G H:=by
 intro z
 refine rA ?_ (x:=lF mU)
 exact ff z.g):=ah w h
def HO (w:ae G H:=by
 intro z
 refine IU ?_
 refine rA ?_ (x:=lF Rf)
 exact IP z.g):=ah w h
def zjm (w:ae G H:=by
 intro z
 refine dA 48 ?_ (x:=aZ aj cn an ak bE ak)
 exact dA 112 z.g (x:=lE [val _] bb)):=ah w h
def zrw (w:ae G H:=by
 intro z
 refine tm ?_
 exact dA 0 z.g (x:=lF Aj)):=ah w h
def zwv (w:ae G H:=by
 intro z
 refine zwz ?_
 exact wd z.g):=ah w h
def uL (w:ae G H:=by
 intro z
 refine sR ?_
 exact rK z.g):=ah w h
def zxx (w:ae G H:=by
 intro z
 refine yZ ?_
 exact Zav z.g):=ah w h
def zm (w:ae G H:=by
 intro z
 refine zf g19 ?_
 exact rA z.g (x:=aR g19)):=ah w h
def zoc (w:ae G H:=by
 intro z
 refine sR ?_
 exact Qu z.g):=ah w h
def Zgf (w:ae G H:=by
 intro z
 refine dD ?_
 exact rA z.g (x:=cL [(false,[sl _ _])] [(false,[sl .v _])] aqQ (hs:=by exact (aw6 ab ab)))):=ah w h
def oI (w:ae G H:=by
 intro z
 refine zb ?_
 exact rM z.g):=ah w h
def oJ (w:ae G H:=by
 intro z
 refine rM ?_
 refine rA ?_ (x:=gL [(false,[val _])] [(false,[val _])] RJ (hs:=by exact (TV ab)))
 refine cb ?_
 exact Nx z.g):=ah w h
def Zg2 (w:ae G H:=by
 intro z
 refine dD ?_
 exact rA z.g (x:=cL [(false,[sl _ _])] [(false,[sl .v _])] aqO (hs:=by exact (aw7 ab ab)))):=ah w h
def zhz (w:ae G H:=by
 intro z
 refine Aa ?_
 exact rA z.g (x:=cL [(true,bW)] [(true,eh)] apZ (hs:=by exact ary ab))):=ah w h
def zvu (w:ae G H:=by
 intro z
 refine QP ?_
 exact Dp z.g):=ah w h
def wU (w:ae G H:=by
 intro z
 refine rA ?_ (x:=jF)
 exact rS z.g):=ah w h
def zo (w:ae G H:=by
 intro z
 refine ba ?_
 exact sG [0,1,5] [] z.g):=ah w h
def wV (w:ae G H:=by
 intro z
 refine dp ?_
 exact sS [1,2] [1] z.g):=ah w h
def zp (w:ae G H:=by
 intro z
 refine rA ?_ (x:=fA)
 exact db z.g):=ah w h
def zs5 (w:ae G H:=by
 intro z
 refine dC ?_
 exact sO [(2,_),(3,_),(4,_),(5,_),(6,_),(7,_),(8,_),(9,_),(10,_)] [(2,_),(3,_),(4,_),(6,(41,bW)),(10,_)] z.g):=ah w h
def HP (w:ae G H:=by
 intro z
 refine IT ?_
 exact iu z.g):=ah w h
def zws (w:ae G H:=by
 intro z
 refine sS [1,2,4,5,6,7] [2,4,6] ?_
 exact QD z.g):=ah w h
def Zic (w:ae G H:=by
 intro z
 refine dA 131071 ?_ (x:=lF qd)
 exact dA 262143 z.g (x:=bV (ag:=false) (vs:=[sl _ _]) qf an ak az)):=ah w h
def Cx (w:ae G H:=by
 intro z
 refine sS [0,2,3,7000] [2,3] ?_
 exact OV z.g):=ah w h
def zq (w:ae G H:=by
 intro z
 refine zf g4 ?_
 exact rA z.g (x:=aR g4)):=ah w h
def zu (w:ae G H:=by
 intro z
 refine zf gd ?_
 exact rA z.g (x:=aR gd)):=ah w h
def zrz (w:ae G H:=by
 intro z
 refine dA 1023 ?_ (x:=cy (qs:=[(false,[val _]),(false,[sl _ _]),(false,[val _]),(false,[val _])]) (cs:=fe) aj iT xR ajA ak Vk rfl ak)
 refine bO.step 0 an an (cc.of rfl (fW aj iT xR)) (sD (cV.of_ rfl)) ao ?_
 exact dA 4095 z.g (x:=bV (ag:=true) (vs:=fe) mn an ak az)):=ah w h
def wW (w:ae G H:=by
 intro z
 refine uL ?_
 exact nJ z.g):=ah w h
def tj (w:ae G H:=by
 intro z
 refine aY ?_
 exact cB z.g):=ah w h
def tk (w:ae G H:=by
 intro z
 refine aY ?_
 exact uv z.g):=ah w h
def Zbg (w:ae G H:=by
 intro z
 refine rM ?_
 exact rA z.g (x:=gL [(false,[val _]),(false,[val _])] [(false,[val _]),(false,[val _])] aiU (hs:=by exact (als 32 ab)))):=ah w h
def Pe (w:ae G H:=by
 intro z
 refine bv ?_
 exact sT [0,2,3,4,5,6,7,8,9,11,12,13,14,7000] [2,12] z.g):=ah w h
def Pf (w:ae G H:=by
 intro z
 refine fq ?_
 exact sT [0,2,3,4,5,6,7,8,9,11,12,13,14,7000] [2,12] z.g):=ah w h
def zdx (w:ae G H:=by
 intro z
 refine dA 4 ?_ (x:=lD [sl .v _] cW)
 exact dA 12 z.g (x:=cL [(false,[sl _ _])] [(false,[sl .v _])] uZ (hs:=uj))):=ah w h
def zo6 (w:ae G H:=by
 intro z
 refine dA 8 ?_ (x:=lD [sl .v _] cW)
 exact dA 31 z.g (x:=cL [(false,[sl _ _])] [(false,[sl .v _])] uZ (hs:=uj))):=ah w h
def zp7 (w:ae G H:=by
 intro z
 refine Dm ?_
 exact aU z.g):=ah w h
def zgt (w:ae G H:=by
 intro z
 refine zT ?_
 exact zdq z.g):=ah w h
def zsy (w:ae G H:=by
 intro z
 refine sO [(0,_),(2,_),(4,_),(6,_),(7,_),(8,_),(5000,_)] [(0,(176,[sl o _,val _,val _])),(4,(41,bW))] ?_
 exact aY z.g):=ah w h
def HQ (w:ae G H:=by
 intro z
 refine sO [(0,_),(2,_),(3,_),(4,_),(5,_),(9,_),(10,_)] [(2,_),(5,(31,cS)),(9,(29,eP))] ?_
 refine QJ ?_
 exact sG [0,2,3,4,5,9,10] [2,5,9] z.g):=ah w h
def zv (w:ae G H:=by
 intro z
 refine dF 1023 gb ?_
 exact dF 1023 gb z.g):=ah w h
def zw (w:ae G H:=by
 intro z
 refine gN ?_
 refine rB ga ?_ (x:=qT)
 exact lz z.g):=ah w h
def zks (w:ae G H:=by
 intro z
 refine rA ?_ (x:=cj (qs:=[]) aj qe nS aj rfl rfl rfl rfl rfl az an rfl)
 exact oD z.g):=ah w h
def zru (w:ae G H:=by
 intro z
 refine zrn ?_
 exact cC z.g):=ah w h
def ztt (w:ae G H:=by
 intro z
 refine dC ?_
 exact zvs z.g):=ah w h
def zcv (w:ae G H:=by
 intro z
 refine zV ?_
 refine dD ?_
 exact Qz z.g):=ah w h
def zpb (w:ae G H:=by
 intro z
 refine rA ?_ (x:=lF tU)
 exact zpg z.g):=ah w h
def Pg (w:ae G H:=by
 intro z
 refine pM ?_
 exact Dh z.g):=ah w h
def zw7 (w:ae G H:=by
 intro z
 refine uS ?_
 exact xj z.g):=ah w h
def Cy (w:ae G H:=by
 intro z
 refine Ac ?_
 exact iu z.g):=ah w h
def Ph (w:ae G H:=by
 intro z
 refine eU ?_
 exact sS [0,2,3,4,5,6,7,8,9,11,12,13,7000] [2,12] z.g):=ah w h
def rf (w:ae G H:=by
 intro z
 refine mO ?_
 exact gv z.g):=ah w h
def zx (w:ae G H:=by
 intro z
 refine cP ?_
 exact tn z.g):=ah w h
def HR (w:ae G H:=by
 intro z
 refine dT 4194303 ga ?_
 exact dA 8388607 z.g (x:=bj ga)):=ah w h
def zo2 (w:ae G H:=by
 intro z
 refine xp ?_
 exact Zj5 z.g):=ah w h
def zot (w:ae G H:=by
 intro z
 refine rA ?_ (x:=lF rG)
 exact rA z.g (x:=bV (ag:=false) (vs:=[sl _ _]) mo an ak az)):=ah w h
def zpa (w:ae G H:=by
 intro z
 refine rA ?_ (x:=lD [sl .v _] nX)
 exact rA z.g (x:=cL [(false,[sl _ _])] [(false,[sl .v _])] aqw (hs:=by exact arm ab))):=ah w h
def zpj (w:ae G H:=by
 intro z
 refine rA ?_ (x:=lF qd)
 exact rA z.g (x:=bV (ag:=false) (vs:=[sl _ _]) qf an ak az)):=ah w h
def zy (w:ae G H:=by
 intro z
 refine kh ?_
 exact iM z.g):=ah w h
def Pi (w:ae G H:=by
 intro z
 refine dA 0 ?_ (x:=lF nd)
 exact dA 1 z.g (x:=lD eh hR)):=ah w h
def Pj (w:ae G H:=by
 intro z
 refine IU ?_
 exact rA z.g (x:=qS)):=ah w h
def zpt (w:ae G H:=by
 intro z
 refine sO [(1,_),(2,_),(4,_),(5,_),(6,_),(2900,_),(6000,_)] [(2,_),(4,_),(6,_),(900,(114,bU rC _ _))] ?_
 exact aY z.g):=ah w h
def zvl (w:ae G H:=by
 intro z
 refine rA ?_ (x:=lF oV)
 exact uV z.g):=ah w h
def zvm (w:ae G H:=by
 intro z
 refine rA ?_ (x:=lF ne)
 exact uV z.g):=ah w h
def Cz (w:ae G H:=by
 intro z
 refine Oj ?_
 exact rB gb z.g (x:=lN il)):=ah w h
def wX (w:ae G H:=by
 intro z
 refine cb ?_
 exact rM z.g):=ah w h
def CA (w:ae G H:=by
 intro z
 refine uS ?_
 exact wy z.g):=ah w h
def CB (w:ae G H:=by
 intro z
 refine cC ?_
 exact dA 0 z.g (x:=tM)):=ah w h
def zoz (w:ae G H:=by
 intro z
 refine sO [(1,_),(2,_),(3,_)] [(1,_),(2,_),(3,(46,aW))] ?_
 exact aY z.g):=ah w h
def HS (w:ae G H:=by
 intro z
 refine sS [1,2,4] [1] ?_
 exact rA z.g (x:=lF Ak)):=ah w h
def zy5 (w:ae G H:=by
 intro z
 refine dC ?_
 exact sO [(2,_),(3,_),(4,_),(5,_),(6,_),(7,_),(8,_)] [(2,_),(3,_),(4,_),(6,_),(7,(41,bW))] z.g):=ah w h
def zqc (w:ae G H:=by
 intro z
 refine Hs ?_
 exact rA z.g (x:=cL [(true,[sl (.lo _) _,val _])] [(true,eh)] RD (hs:=Lx))):=ah w h
def zz (w:ae G H:=by
 intro z
 refine to ?_
 exact rM z.g):=ah w h
def zA (w:ae G H:=by
 intro z
 refine rh ?_
 exact rS z.g):=ah w h
def pG (w:ae G H:=by
 intro z
 refine rS ?_
 exact gv z.g):=ah w h
def zkv (w:ae G H:=by
 intro z
 refine Zjd ?_
 exact cK z.g):=ah w h
def zpq (w:ae G H:=by
 intro z
 refine Hs ?_
 exact rA z.g (x:=cL [(true,[sl (.lo _) _,val _])] [(true,eh)] aiN (hs:=by exact ajg ab))):=ah w h
def zqd (w:ae G H:=by
 intro z
 refine Hs ?_
 exact rA z.g (x:=cL [(true,[sl (.lo _) _,val _])] [(true,eh)] aiP (hs:=by exact ajf ab))):=ah w h
def HT (w:ae G H:=by
 intro z
 refine sS [0,2,3,7,5000] [0,2,3] ?_
 exact iu z.g):=ah w h
def zo9 (w:ae G H:=by
 intro z
 refine dA 16383 ?_ (x:=bV (ag:=false) (vs:=[sl _ _]) cW an ak az)
 exact aU z.g):=ah w h
def HU (w:ae G H:=by
 intro z
 refine rA ?_ (x:=lN qe)
 exact dQ z.g):=ah w h
def Pk (w:ae G H:=by
 intro z
 refine rB gc ?_ (x:=lF tV)
 exact rB gc z.g (x:=lD [sl .v _] cW)):=ah w h
def Pm (w:ae G H:=by
 intro z
 refine rB gd ?_ (x:=lF qc)
 exact rB gd z.g (x:=lD [sl .v _] cW)):=ah w h
def Pn (w:ae G H:=by
 intro z
 refine rB gb ?_ (x:=lF tT)
 exact zW z.g):=ah w h
def zB (w:ae G H:=by
 intro z
 refine rM ?_
 exact oK z.g):=ah w h
def zqx (w:ae G H:=by
 intro z
 refine OC ?_
 exact Zje z.g):=ah w h
def zy2 (w:ae G H:=by
 intro z
 refine BZ ?_
 exact Zje z.g):=ah w h
def Zh4 (w:ae G H:=by
 intro z
 refine Dg ?_
 exact ca z.g):=ah w h
def CC (w:ae G H:=by
 intro z
 refine fL ?_
 exact oA z.g):=ah w h
def CD (w:ae G H:=by
 intro z
 refine zf g11 ?_
 exact rA z.g (x:=aR g11)):=ah w h
def CE (w:ae G H:=by
 intro z
 refine iv ?_
 exact sT [2,3,4] [2,3] z.g):=ah w h
def CF (w:ae G H:=by
 intro z
 refine zf g20 ?_
 exact rA z.g (x:=aR g20)):=ah w h
def CG (w:ae G H:=by
 intro z
 refine zf g18 ?_
 exact rA z.g (x:=aR g18)):=ah w h
def Po (w:ae G H:=by
 intro z
 refine rB ga ?_ (x:=lF rG)
 exact rB ga z.g (x:=lD [sl .v _] mo)):=ah w h
def Pp (w:ae G H:=by
 intro z
 refine rB gb ?_ (x:=lF AA)
 exact zW z.g):=ah w h
def Pq (w:ae G H:=by
 intro z
 refine rB gd ?_ (x:=lF qd)
 exact rB gd z.g (x:=lD [sl .v _] qf)):=ah w h
def Pr (w:ae G H:=by
 intro z
 refine rB ge ?_ (x:=lF lH)
 exact rB ge z.g (x:=lD [sl .v _] lJ)):=ah w h
def Ps (w:ae G H:=by
 intro z
 refine rB gc ?_ (x:=lF hP)
 exact rB gc z.g (x:=lD [sl .v _] fi)):=ah w h
def Pt (w:ae G H:=by
 intro z
 refine rB gi ?_ (x:=lF AB)
 exact rB gi z.g (x:=lD [sl .v _] nX)):=ah w h
def Pu (w:ae G H:=by
 intro z
 refine fL ?_
 exact Aa z.g):=ah w h
def Za4 (w:ae G H:=by
 intro z
 refine rA ?_ (x:=gL [(false,[val _])] [(false,[val _])] apO (hs:=by exact (awN ab)))
 exact cb z.g):=ah w h
def HV (w:ae G H:=by
 intro z
 refine kh ?_
 exact rB gb z.g (x:=jE)):=ah w h
def Pv (w:ae G H:=by
 intro z
 refine dB 2097151 gb ?_ (x:=kf)
 exact dB 4194303 ga z.g (x:=bj gb)):=ah w h
def Pw (w:ae G H:=by
 intro z
 refine dA 96 ?_ (x:=lF hP)
 exact dA 224 z.g (x:=lD [val _] fi)):=ah w h
def zC (w:ae G H:=by
 intro z
 refine sS [0,3] [] ?_
 exact ca z.g):=ah w h
def Px (w:ae G H:=by
 intro z
 refine rB ge ?_ (x:=lF Az)
 exact rB ge z.g (x:=lD [val _] bb)):=ah w h
def CH (w:ae G H:=by
 intro z
 refine Cl ?_
 exact rA z.g (x:=lN nf)):=ah w h
def CI (w:ae G H:=by
 intro z
 refine rA ?_ (x:=lF lH)
 refine rA ?_ (x:=lD [sl .v _] lJ)
 exact rA z.g (x:=lN jR)):=ah w h
def Py (w:ae G H:=by
 intro z
 refine rB gc ?_ (x:=vM false [sl .v _])
 exact rB gc z.g (x:=lN eR)):=ah w h
def Zgi (w:ae G H:=by
 intro z
 refine rA ?_ (x:=cL [(false,[val _])] [(false,[val _])] c_9 (hs:=by exact (awZ ab)))
 exact cb z.g):=ah w h
def zuj (w:ae G H:=by
 intro z
 refine xj ?_
 exact zug z.g):=ah w h
def zw2 (w:ae G H:=by
 intro z
 refine rB gc ?_ (x:=lD cO dj)
 exact rB gc z.g (x:=lF kQ)):=ah w h
def Pz (w:ae G H:=by
 intro z
 refine rB ga ?_ (x:=lF DC)
 exact kg z.g):=ah w h
def PA (w:ae G H:=by
 intro z
 refine rB gb ?_ (x:=lF vb)
 exact nK z.g):=ah w h
def PB (w:ae G H:=by
 intro z
 refine rB ga ?_ (x:=lF lG)
 exact kg z.g):=ah w h
def PC (w:ae G H:=by
 intro z
 refine dB 4194303 ga ?_ (x:=aR gb)
 exact dA 8388607 z.g (x:=aR ga)):=ah w h
def PD (w:ae G H:=by
 intro z
 refine rB gg ?_ (x:=lF aiY)
 exact rB gg z.g (x:=lD [val _] bb)):=ah w h
def PE (w:ae G H:=by
 intro z
 refine rB gh ?_ (x:=lF aiZ)
 exact rB gh z.g (x:=lD [val _] bb)):=ah w h
def PF (w:ae G H:=by
 intro z
 refine dA 0 ?_ (x:=lF lG)
 exact dA 256 z.g (x:=lD [val _] bb)):=ah w h
def HW (w:ae G H:=by
 intro z
 refine rB ga ?_ (x:=nT)
 exact lz z.g):=ah w h
def zv2 (w:ae G H:=by
 intro z
 refine FU (s:=15) (G:=2001) ak KY rfl aj ak ?_
 exact aU z.g):=ah w h
def HX (w:ae G H:=by
 intro z
 refine aU ?_
 exact sP [0,2,3,4,5] [2,5] z.g):=ah w h
def CJ (w:ae G H:=by
 intro z
 refine fL ?_
 exact rM z.g):=ah w h
def CK (w:ae G H:=by
 intro z
 refine zt gf ?_
 exact tq z.g):=ah w h
def CL (w:ae G H:=by
 intro z
 refine zf g8 ?_
 exact rA z.g (x:=aR g8)):=ah w h
def PG (w:ae G H:=by
 intro z
 refine dA 3 ?_ (x:=lF hP)
 exact dA 7 z.g (x:=lD [val _] fi)):=ah w h
def zvk (w:ae G H:=by
 intro z
 refine IE ?_
 exact xh z.g):=ah w h
def zD (w:ae G H:=by
 intro z
 refine au.s0f gb ?_
 exact sW z.g):=ah w h
def PH (w:ae G H:=by
 intro z
 refine rB gc ?_ (x:=lE [val _] ng)
 exact rB gc z.g (x:=qS)):=ah w h
def zx2 (w:ae G H:=by
 intro z
 refine py ?_
 exact QP z.g):=ah w h
def Zdb (w:ae G H:=by
 intro z
 refine dA 512 ?_ (x:=aZ (k:=3) aj eR (bi rfl) fU KP ak)
 refine dA 1536 ?_ (x:=lE [val _] ng)
 exact dA 4079 z.g (x:=cL [(false,[val _])] [(false,[val _])] xN (hs:=Ft))):=ah w h
def CM (w:ae G H:=by
 intro z
 refine cl ?_
 exact sP [1,2,3] [1] z.g):=ah w h
def CN (w:ae G H:=by
 intro z
 refine ba ?_
 exact sG [1,3] [1] z.g):=ah w h
def tl (w:ae G H:=by
 intro z
 refine Oc ?_
 exact rM z.g):=ah w h
def zh3 (w:ae G H:=by
 intro z
 refine Ci ?_
 exact Zj9 z.g):=ah w h
def uM (w:ae G H:=by
 intro z
 refine px ?_
 refine rA ?_ (x:=lN cQ)
 exact fK z.g):=ah w h
def PI (w:ae G H:=by
 intro z
 refine rA ?_ (x:=lF rr)
 exact uO z.g):=ah w h
def uN (w:ae G H:=by
 intro z
 refine wH ?_
 exact td z.g):=ah w h
def CO (w:ae G H:=by
 intro z
 refine sS [1,2,7] [1] ?_
 exact iu z.g):=ah w h
def Zae (w:ae G H:=by
 intro z
 refine dA 12 ?_ (x:=aZ aj eR an ak bE ak)
 refine dA 28 ?_ (x:=lE [val _] ng)
 exact dA 60 z.g (x:=cL [(false,[val _])] [(false,[val _])] xN (hs:=Ft))):=ah w h
def PJ (w:ae G H:=by
 intro z
 refine dD ?_
 exact fL z.g):=ah w h
def zE (w:ae G H:=by
 intro z
 refine dU 1023 ?_
 exact dU 1023 z.g):=ah w h
def zpn (w:ae G H:=by
 intro z
 refine OU ?_
 exact sO [(1,_),(2,_),(4,_),(5,_)] [(2,(41,[sl (.lo _) _,val _])),(4,(41,bW))] z.g):=ah w h
def PK (w:ae G H:=by
 intro z
 refine sR ?_
 exact IJ z.g):=ah w h
def CP (w:ae G H:=by
 intro z
 refine uy ?_
 exact dQ z.g):=ah w h
def PL (w:ae G H:=by
 intro z
 refine nK ?_
 exact rB gb z.g (x:=kf)):=ah w h
def CQ (w:ae G H:=by
 intro z
 refine dp ?_
 exact pK z.g):=ah w h
def CR (w:ae G H:=by
 intro z
 refine eB ?_
 exact sP [0,1,5] [] z.g):=ah w h
def wY (w:ae G H:=by
 intro z
 refine aU ?_
 exact Hz z.g):=ah w h
def zqz (w:ae G H:=by
 intro z
 refine dC ?_
 exact sO [(2,_),(3,_),(4,_),(5,_),(6,_)] [(2,_),(3,_),(4,_),(6,(41,bW))] z.g):=ah w h
def CS (w:ae G H:=by
 intro z
 refine rB ga ?_ (x:=nT)
 exact ly z.g):=ah w h
def CT (w:ae G H:=by
 intro z
 refine ux ?_
 exact oK z.g):=ah w h
def PM (w:ae G H:=by
 intro z
 refine rA ?_ (x:=lF vq)
 exact ff z.g):=ah w h
def PN (w:ae G H:=by
 intro z
 refine dD ?_
 exact rA z.g (x:=lN il)):=ah w h
def PO (w:ae G H:=by
 intro z
 refine sR ?_
 exact Dp z.g):=ah w h
def PP (w:ae G H:=by
 intro z
 refine nL ?_
 exact rB gc z.g (x:=pt pg)):=ah w h
def PQ (w:ae G H:=by
 intro z
 refine sR ?_
 exact rX z.g (x:=(fW aj tC tD))):=ah w h
def CU (w:ae G H:=by
 intro z
 refine kh ?_
 refine rB gb ?_ (x:=qT)
 exact pI z.g):=ah w h
def Zip (w:ae G H:=by
 intro z
 refine Cn ?_
 exact rA z.g (x:=gL [(false,[val _])] [(false,[val _])] RJ (hs:=by exact (TV (hw 1))))):=ah w h
def zns (w:ae G H:=by
 intro z
 refine cC ?_
 exact dA 0 z.g (x:=lD cO dj)):=ah w h
def PR (w:ae G H:=by
 intro z
 refine dA 511 ?_ (x:=fA)
 exact dA 1023 z.g (x:=fA)):=ah w h
def PS (w:ae G H:=by
 intro z
 refine rA ?_ (x:=lF vb)
 exact ff z.g):=ah w h
def PT (w:ae G H:=by
 intro z
 refine rA ?_ (x:=lF pT)
 exact ff z.g):=ah w h
def HY (w:ae G H:=by
 intro z
 refine rB gb ?_ (x:=lF vb)
 exact wF z.g):=ah w h
def HZ (w:ae G H:=by
 intro z
 refine rB gc ?_ (x:=lF pU)
 exact Cq z.g):=ah w h
def Ia (w:ae G H:=by
 intro z
 refine uU ?_
 exact rM z.g):=ah w h
def ze6 (w:ae G H:=by
 intro z
 refine rX ?_ (x:=(kG (ag:=true) (cs:=iY) aj an))
 exact uI z.g):=ah w h
def CV (w:ae G H:=by
 intro z
 refine zX ?_
 refine dA 1 ?_ (x:=lD [val _] mo)
 exact dS z.g):=ah w h
def Ib (w:ae G H:=by
 intro z
 refine dA 0 ?_ (x:=lF Aj)
 refine dA 1 ?_ (x:=lF mU)
 exact dA 3 z.g (x:=lD [val _] bb)):=ah w h
def zpp (w:ae G H:=by
 intro z
 refine dC ?_
 exact sO [(1,_),(2,_),(4,_),(5,_),(6,_)] [(2,_),(4,_),(6,(41,bW))] z.g):=ah w h
def zwd (w:ae G H:=by
 intro z
 refine sS [2,3,4,6,7,8,9,11,14,54,55,67,68,69,6200,6300] [3,4,6,8,9] ?_
 exact cb z.g):=ah w h
def zF (w:ae G H:=by
 intro z
 refine rA ?_ (x:=lF Rf)
 refine ff ?_
 exact iJ z.g):=ah w h
def PU (w:ae G H:=by
 intro z
 refine sS [0,3,4,5,10,5000] [0,3,4,5] ?_
 exact iu z.g):=ah w h
def Ic (w:ae G H:=by
 intro z
 refine Cm ?_
 exact rB ga z.g (x:=lN cn)):=ah w h
def Ie (w:ae G H:=by
 intro z
 refine rA ?_ (x:=lF rF)
 exact wy z.g):=ah w h
def PW (w:ae G H:=by
 intro z
 refine dB 127 ga ?_ (x:=sM)
 exact dB 255 ga z.g (x:=jE)):=ah w h
def zjt (w:ae G H:=by
 intro z
 refine wz ?_
 exact IH z.g):=ah w h
def PX (w:ae G H:=by
 intro z
 refine dA 7 ?_ (x:=fA)
 exact dA 15 z.g (x:=fA)):=ah w h
def wZ (w:ae G H:=by
 intro z
 refine zuh ?_
 refine rM ?_
 exact Nw z.g):=ah w h
def xb (w:ae G H:=by
 intro z
 refine pz ?_
 exact yQ z.g):=ah w h
def If (w:ae G H:=by
 intro z
 refine sS [1,2,3,16] [1] ?_
 exact fB z.g):=ah w h
def CW (w:ae G H:=by
 intro z
 refine cb ?_
 refine rA ?_ (x:=uo (cs:=bW) (qs:=eh) aj ak EJ Ey)
 exact pN z.g):=ah w h
def Ig (w:ae G H:=by
 intro z
 refine rK ?_
 exact sT [0,2,3,7000] [2] z.g):=ah w h
def xc (w:ae G H:=by
 intro z
 refine rB gd ?_ (x:=lD ej iA)
 refine rB gd ?_ (x:=cL [(true,cS)] [(true,ej)] DN (hs:=KR))
 exact HD z.g):=ah w h
def PY (w:ae G H:=by
 intro z
 refine sP [0,1,4,5,16,5000] [0] ?_
 exact cC z.g):=ah w h
def Ih (w:ae G H:=by
 intro z
 refine zf g12 ?_
 exact rA z.g (x:=aR g12)):=ah w h
def Ii (w:ae G H:=by
 intro z
 refine dp ?_
 exact sS [2,3,4] [2,3] z.g):=ah w h
def Ij (w:ae G H:=by
 intro z
 refine zf g13 ?_
 exact rA z.g (x:=aR g13)):=ah w h
def Ik (w:ae G H:=by
 intro z
 refine zf g16 ?_
 exact rA z.g (x:=aR g16)):=ah w h
def Il (w:ae G H:=by
 intro z
 refine zt g11 ?_
 exact rA z.g (x:=bj g11)):=ah w h
def Im (w:ae G H:=by
 intro z
 refine zt g12 ?_
 exact rA z.g (x:=bj g12)):=ah w h
def In (w:ae G H:=by
 intro z
 refine zt g15 ?_
 exact rA z.g (x:=bj g15)):=ah w h
def Io (w:ae G H:=by
 intro z
 refine zt g17 ?_
 exact rA z.g (x:=bj g17)):=ah w h
def Ip (w:ae G H:=by
 intro z
 refine zf g21 ?_
 exact rA z.g (x:=aR g21)):=ah w h
def Iq (w:ae G H:=by
 intro z
 refine iv ?_
 exact sT [1,2,7000] [1] z.g):=ah w h
def zqv (w:ae G H:=by
 intro z
 refine rA ?_ (x:=cR aj xO az)
 exact rA z.g (x:=lE [val _] bb)):=ah w h
def PZ (w:ae G H:=by
 intro z
 refine ba ?_
 exact sS [2,3,4,5,6] [2,3,4,6] z.g):=ah w h
def Ir (w:ae G H:=by
 intro z
 refine bI ?_
 exact sS [0,1,5] [] z.g):=ah w h
def xd (w:ae G H:=by
 intro z
 refine zt gb ?_
 refine kO ?_
 exact cH z.g):=ah w h
def zG (w:ae G H:=by
 intro z
 refine zpx ?_
 exact aU z.g):=ah w h
def xe (w:ae G H:=by
 intro z
 refine HC ?_
 exact cH z.g):=ah w h
def zt5 (w:ae G H:=by
 intro z
 refine IK ?_
 exact sT [1,2] [1] z.g):=ah w h
def Qa (w:ae G H:=by
 intro z
 refine rB gc ?_ (x:=qT)
 exact to z.g):=ah w h
def Qb (w:ae G H:=by
 intro z
 refine sZ ?_
 exact xh z.g):=ah w h
def CX (w:ae G H:=by
 intro z
 refine dU 4095 ?_
 exact dU 8191 z.g):=ah w h
def Qc (w:ae G H:=by
 intro z
 refine dS ?_
 exact dA 0 z.g (x:=lF lG)):=ah w h
def CY (w:ae G H:=by
 intro z
 refine iJ ?_
 exact aU z.g):=ah w h
def Is (w:ae G H:=by
 intro z
 refine zt g4 ?_
 exact rA z.g (x:=bj g4)):=ah w h
def It (w:ae G H:=by
 intro z
 refine zt g9 ?_
 exact rA z.g (x:=bj g9)):=ah w h
def Iu (w:ae G H:=by
 intro z
 refine zt gd ?_
 exact rj z.g):=ah w h
def Qd (w:ae G H:=by
 intro z
 refine rB gc ?_ (x:=bj gd)
 exact to z.g):=ah w h
def Qe (w:ae G H:=by
 intro z
 refine rB gc ?_ (x:=aR gd)
 exact to z.g):=ah w h
def zoq (w:ae G H:=by
 intro z
 refine sO [(1,_),(2,_),(3,_)] [(1,_),(2,_),(3,(41,bW))] ?_
 exact aY z.g):=ah w h
def Qf (w:ae G H:=by
 intro z
 refine Do ?_
 exact iu z.g):=ah w h
def zo3 (w:ae G H:=by
 intro z
 refine sO [(1,_),(2,_)] [(1,(25,bX)),(2,_)] ?_
 exact aY z.g):=ah w h
def xf (w:ae G H:=by
 intro z
 refine yQ ?_
 exact rS z.g):=ah w h
def xg (w:ae G H:=by
 intro z
 refine zf1 ?_
 exact rM z.g):=ah w h
def Iv (w:ae G H:=by
 intro z
 refine bI ?_
 exact sT [1,3] [1] z.g):=ah w h
def Qg (w:ae G H:=by
 intro z
 refine cC ?_
 refine xo ?_
 exact dA 1 z.g (x:=lD [sl .v _] kp)):=ah w h
def Iw (w:ae G H:=by
 intro z
 refine eU ?_
 exact pJ z.g):=ah w h
def Ix (w:ae G H:=by
 intro z
 refine pJ ?_
 refine cl ?_
 exact sP [1,2,3,4] [1] z.g):=ah w h
def Iy (w:ae G H:=by
 intro z
 refine rA ?_ (x:=fA)
 exact rS z.g):=ah w h
def Qh (w:ae G H:=by
 intro z
 refine cC ?_
 exact dA 0 z.g (x:=lF tV)):=ah w h
def Iz (w:ae G H:=by
 intro z
 refine iv ?_
 exact sT [1,2,4] [2] z.g):=ah w h
def Qi (w:ae G H:=by
 intro z
 refine rA ?_ (x:=lN dq)
 exact dQ z.g):=ah w h
def Zb6 (w:ae G H:=by
 intro z
 refine dA 0 ?_ (x:=lF Ak)
 exact dA 32 z.g (x:=lD di gO)):=ah w h
def Zge (w:ae G H:=by
 intro z
 refine bI ?_
 exact sT [0,2,3,4,5,6,7,8,9,10,11,12,13,7000] [3,5,7,9,11] z.g):=ah w h
def Zgg (w:ae G H:=by
 intro z
 refine rS ?_
 exact sS [0,2,3,4,5,6,7,8,9,10,11,12,13,16,7000] [3,5,7,9,11] z.g):=ah w h
def Qj (w:ae G H:=by
 intro z
 refine rB gc ?_ (x:=ig)
 exact nL z.g):=ah w h
def Qk (w:ae G H:=by
 intro z
 refine sS [2,3,4,5,17] [2,3,4] ?_
 exact iu z.g):=ah w h
def Ql (w:ae G H:=by
 intro z
 refine sS [0,1,4,5,16,5000] [0] ?_
 exact iu z.g):=ah w h
def IA (w:ae G H:=by
 intro z
 refine cP ?_
 exact dQ z.g):=ah w h
def IB (w:ae G H:=by
 intro z
 refine HG ?_
 exact dQ z.g):=ah w h
def IC (w:ae G H:=by
 intro z
 refine rA ?_ (x:=aR g14)
 exact rM z.g):=ah w h
def ID (w:ae G H:=by
 intro z
 refine uD ?_
 exact dQ z.g):=ah w h
def Zg9 (w:ae G H:=by
 intro z
 refine eB ?_
 exact sQ [0,2,3,4,5,6,7,8,9,10,11,12,13,7000] [3,5,7,9,11] z.g):=ah w h
def zH (w:ae G H:=by
 intro z
 refine mM ?_
 exact fK z.g):=ah w h
def zI (w:ae G H:=by
 intro z
 refine zi ?_
 refine cl ?_
 exact sP [0,2,3] [] z.g):=ah w h
def CZ (w:ae G H:=by
 intro z
 refine ux ?_
 exact iJ z.g):=ah w h
def zJ (w:ae G H:=by
 intro z
 refine cP ?_
 refine mP ?_
 exact dQ z.g):=ah w h
def Qm (w:ae G H:=by
 intro z
 refine yV ?_
 exact rA z.g (x:=vA false [sl .v _])):=ah w h
def zK (w:ae G H:=by
 intro z
 refine qX ?_
 exact fK z.g):=ah w h
def Qn (w:ae G H:=by
 intro z
 refine aY ?_
 exact rA z.g (x:=vM false [val _])):=ah w h
def zL (w:ae G H:=by
 intro z
 refine rA ?_ (x:=aZ aj nf an ak bE ak)
 refine rA ?_ (x:=lE Gc DR)
 refine rX ?_ (x:=(fW aj rJ JF))
 exact zoi z.g):=ah w h
def zM (w:ae G H:=by
 intro z
 refine GT ?_
 exact ca z.g):=ah w h
def zub (w:ae G H:=by
 intro z
 refine rm ?_
 exact ri z.g):=ah w h
def Qo (w:ae G H:=by
 intro z
 refine cC ?_
 exact pH z.g):=ah w h
def zN (w:ae G H:=by
 intro z
 refine lu ?_
 exact dC z.g):=ah w h
def zO (w:ae G H:=by
 intro z
 refine HB ?_
 exact uC z.g):=ah w h
def zQ (w:ae G H:=by
 intro z
 refine Nx ?_
 refine pN ?_
 exact td z.g):=ah w h
def Qp (w:ae G H:=by
 intro z
 refine ba ?_
 exact uU z.g):=ah w h
def Zfa (w:ae G H:=by
 intro z
 refine rM ?_
 exact rA z.g (x:=FZ aj an (bi rfl) ab)):=ah w h
def Zfh (w:ae G H:=by
 intro z
 refine dB 274877906943 gc ?_ (x:=vM false [sl .v _])
 exact dB 274877906943 gc z.g (x:=sM)):=ah w h
def zxm (w:ae G H:=by
 intro z
 refine rA ?_ (x:=lF Ak)
 exact ri z.g):=ah w h
def dD (w:ae G H:=by
 intro z
 exact rA z.g (x:=vM false [sl .v _])):=ah w h
def dQ (w:ae G H:=by
 intro z
 exact rA z.g (x:=yG)):=ah w h
def jq (w:ae G H:=by
 intro z
 exact rA z.g (x:=bj ga)):=ah w h
def rg (w:ae G H:=by
 intro z
 exact sG [0,2,3,4] [] z.g):=ah w h
def ff (w:ae G H:=by
 intro z
 exact rA z.g (x:=lD [val _] bb)):=ah w h
def xh (w:ae G H:=by
 intro z
 exact rA z.g (x:=pq aj)):=ah w h
def pH (w:ae G H:=by
 intro z
 exact dA 0 z.g (x:=cM Cp.ptr)):=ah w h
def aU (w:ae G H:=by
 intro z
 exact FQ z.g):=ah w h
def aY (w:ae G H:=by
 intro z
 exact yw z.g):=ah w h
def ba (w:ae G H:=by
 intro z
 exact aml z.g):=ah w h
def fL (w:ae G H:=by
 intro z
 exact rA z.g (x:=cM Cp.ptr)):=ah w h
def zb0 (w:ae G H:=by
 intro z
 exact rA z.g (x:=dP (bx:=0) (qs:=[]) (as_:=[]) aj ais rfl an an iC yn (by exact (ai5 hbo)))):=ah w h
def IE (w:ae G H:=by
 intro z
 exact rA z.g (x:=FZ aj an an ab)):=ah w h
def Da (w:ae G H:=by
 intro z
 exact rA z.g (x:=dP (bx:=0) (qs:=[(false,[val _])]) (as_:=[(false,[val _])]) aj vp rfl bS kb iC jZ Bi)):=ah w h
def oK (w:ae G H:=by
 intro z
 exact rA z.g (x:=iZ)):=ah w h
def zbg (w:ae G H:=by
 intro z
 exact sO [(0,_),(1,_),(4,_),(5,_),(6,_),(7,_),(5000,_)] [(0,(176,[sl o _,val _,val _])),(4,(27,ct)),(5,(27,ct))] z.g):=ah w h
def xi (w:ae G H:=by
 intro z
 exact rA z.g (x:=lF va)):=ah w h
def xj (w:ae G H:=by
 intro z
 exact rA z.g (x:=bV (ag:=false) (vs:=[sl _ _]) cW an ak az)):=ah w h
def cK (w:ae G H:=by
 intro z
 exact amn z.g):=ah w h
def cb (w:ae G H:=by
 intro z
 exact rA z.g (x:=tM)):=ah w h
def zbx (w:ae G H:=by
 intro z
 exact rA z.g (x:=dP (bx:=0) (qs:=[(false,[val _])]) (as_:=[(false,[val _])]) aj aqj rfl bS kb iC jZ (by exact (arb hbo)))):=ah w h
def dJ (w:ae G H:=by
 intro z
 exact rA z.g (x:=tA)):=ah w h
def bI (w:ae G H:=by
 intro z
 exact amm z.g):=ah w h
def nJ (w:ae G H:=by
 intro z
 exact sS [0,2] [] z.g):=ah w h
def gx (w:ae G H:=by
 intro z
 exact rA z.g (x:=nT)):=ah w h
def uO (w:ae G H:=by
 intro z
 exact rA z.g (x:=lD [sl .v _] cW)):=ah w h
def zR (w:ae G H:=by
 intro z
 exact rB ga z.g (x:=vM false [sl .v _])):=ah w h
def zdq (w:ae G H:=by
 intro z
 exact rA z.g (x:=cL [(true,ct)] [(true,fJ)] Rd (hs:=by exact RU))):=ah w h
def xk (w:ae G H:=by
 intro z
 exact dA 1 z.g (x:=lD [val _] bb)):=ah w h
def zS (w:ae G H:=by
 intro z
 exact dA 0 z.g (x:=lF va)):=ah w h
def tm (w:ae G H:=by
 intro z
 exact dA 0 z.g (x:=cj (qs:=[]) aj cn iP aj rfl rfl rfl rfl rfl az an rfl)):=ah w h
def zT (w:ae G H:=by
 intro z
 exact rA z.g (x:=lD fJ ju)):=ah w h
def nK (w:ae G H:=by
 intro z
 exact rB gb z.g (x:=lD [val _] bb)):=ah w h
def oL (w:ae G H:=by
 intro z
 exact rB gc z.g (x:=lD [val _] bb)):=ah w h
def rh (w:ae G H:=by
 intro z
 exact rA z.g (x:=bj gc)):=ah w h
def kO (w:ae G H:=by
 intro z
 exact rA z.g (x:=bj gb)):=ah w h
def IF (w:ae G H:=by
 intro z
 exact rA z.g (x:=cL [(false,[val _]),(false,[val _]),(false,[val _])] [(false,[val _]),(false,[val _]),(false,[val _])] mh (hs:=lO))):=ah w h
def pI (w:ae G H:=by
 intro z
 exact rA z.g (x:=aR gb)):=ah w h
def zfe (w:ae G H:=by
 intro z
 exact rA z.g (x:=bV (ag:=true) (vs:=iY) vd an ak az)):=ah w h
def cC (w:ae G H:=by
 intro z
 exact amk xA z.g):=ah w h
def IG (w:ae G H:=by
 intro z
 exact rA z.g (x:=cL [(false,[val _]),(false,[val _]),(false,[val _])] [(false,[val _]),(false,[val _]),(false,[val _])] rq (hs:=qC))):=ah w h
def gN (w:ae G H:=by
 intro z
 exact rB ga z.g (x:=sM)):=ah w h
def kg (w:ae G H:=by
 intro z
 exact rB ga z.g (x:=lD [val _] bb)):=ah w h
def IH (w:ae G H:=by
 intro z
 exact rX z.g (x:=(kG (ag:=true) (cs:=ct) aj an))):=ah w h
def II (w:ae G H:=by
 intro z
 exact rB ga z.g (x:=lD fJ ju)):=ah w h
def ri (w:ae G H:=by
 intro z
 exact rA z.g (x:=lD di gO)):=ah w h
def zU (w:ae G H:=by
 intro z
 exact rB ga z.g (x:=lF Aj)):=ah w h
def uP (w:ae G H:=by
 intro z
 exact rA z.g (x:=lF Aj)):=ah w h
def Db (w:ae G H:=by
 intro z
 exact rA z.g (x:=lD jD mn)):=ah w h
def zh6 (w:ae G H:=by
 intro z
 exact rA z.g (x:=cL [(true,fe),(false,[val _])] [(true,jD),(false,[val _])] aiC (hs:=by exact ajd))):=ah w h
def lz (w:ae G H:=by
 intro z
 exact rA z.g (x:=aR ga)):=ah w h
def mQ (w:ae G H:=by
 intro z
 exact rA z.g (x:=ig)):=ah w h
def uQ (w:ae G H:=by
 intro z
 exact rB gd z.g (x:=lD [val _] bb)):=ah w h
def Qq (w:ae G H:=by
 intro z
 exact rB ga z.g (x:=cL [(false,[val _]),(false,[val _]),(false,[val _])] [(false,[val _]),(false,[val _]),(false,[val _])] mh (hs:=lO))):=ah w h
def kh (w:ae G H:=by
 intro z
 exact rB gb z.g (x:=sM)):=ah w h
def zhs (w:ae G H:=by
 intro z
 exact rA z.g (x:=aZ aj gB an ak bE ak)):=ah w h
def tn (w:ae G H:=by
 intro z
 exact rA z.g (x:=jE)):=ah w h
def pJ (w:ae G H:=by
 intro z
 exact sS [1,2,3] [1] z.g):=ah w h
def zif (w:ae G H:=by
 intro z
 exact rA z.g (x:=cL [(true,ct)] [(true,fJ)] QZ (hs:=by exact RT))):=ah w h
def Qr (w:ae G H:=by
 intro z
 exact rA z.g (x:=lE jD mn)):=ah w h
def Qs (w:ae G H:=by
 intro z
 exact rB ge z.g (x:=lD jD mn)):=ah w h
def nL (w:ae G H:=by
 intro z
 exact rB gc z.g (x:=sM)):=ah w h
def xl (w:ae G H:=by
 intro z
 exact dB 511 ga z.g (x:=sM)):=ah w h
def pK (w:ae G H:=by
 intro z
 exact sS [0,1,4] [] z.g):=ah w h
def xm (w:ae G H:=by
 intro z
 exact rB gb z.g (x:=vM false [sl .v _])):=ah w h
def xn (w:ae G H:=by
 intro z
 exact sS [0,1,4,5,6] [] z.g):=ah w h
def dS (w:ae G H:=by
 intro z
 exact dA 0 z.g (x:=sM)):=ah w h
def Dc (w:ae G H:=by
 intro z
 exact rA z.g (x:=vM false [sl (.lo _) _])):=ah w h
def zkf (w:ae G H:=by
 intro z
 exact rB gb z.g (x:=cL [(false,[sl _ _]),(false,[sl _ _])] [(false,[sl .v _]),(false,[sl .v _])] DA (hs:=Bb))):=ah w h
def zV (w:ae G H:=by
 intro z
 exact rA z.g (x:=cj (qs:=[]) aj cn iP aj rfl rfl rfl rfl rfl az an rfl)):=ah w h
def IJ (w:ae G H:=by
 intro z
 exact rX z.g (x:=(fW aj nS ve))):=ah w h
def xo (w:ae G H:=by
 intro z
 exact dA 0 z.g (x:=lF tB)):=ah w h
def zkt (w:ae G H:=by
 intro z
 exact rA z.g (x:=cL [(true,bX)] [(true,di)] aiF (hs:=by exact ajj ab))):=ah w h
def Qt (w:ae G H:=by
 intro z
 exact rA z.g (x:=eN (ms:=bX) (qs:=di) aj gO (fun h=>nomatch h) az ak KO bg)):=ah w h
def IK (w:ae G H:=by
 intro z
 exact rA z.g (x:=nw (.inr rfl) aj (pk (t:=3) (e:=1)))):=ah w h
def zl5 (w:ae G H:=by
 intro z
 exact rA z.g (x:=cj (qs:=[]) aj eR vt aj rfl rfl rfl rfl rfl az an rfl)):=ah w h
def zl7 (w:ae G H:=by
 intro z
 exact rA z.g (x:=gL [(false,[val _])] [(false,[val _])] rD (hs:=qE))):=ah w h
def zW (w:ae G H:=by
 intro z
 exact rB gb z.g (x:=lD [sl .v _] cW)):=ah w h
def to (w:ae G H:=by
 intro z
 exact rA z.g (x:=aR gc)):=ah w h
def rj (w:ae G H:=by
 intro z
 exact rA z.g (x:=bj gd)):=ah w h
def Dd (w:ae G H:=by
 intro z
 exact rB gf z.g (x:=lD [val _] bb)):=ah w h
def pL (w:ae G H:=by
 intro z
 exact rA z.g (x:=aR gf)):=ah w h
def Qu (w:ae G H:=by
 intro z
 exact rX z.g (x:=(kG (ag:=true) (cs:=du) aj an))):=ah w h
def tq (w:ae G H:=by
 intro z
 exact rA z.g (x:=bj gf)):=ah w h
def rm (w:ae G H:=by
 intro z
 exact rA z.g (x:=lF nb)):=ah w h
def De (w:ae G H:=by
 intro z
 exact rX z.g (x:=(fW aj mp RP))):=ah w h
def znd (w:ae G H:=by
 intro z
 exact dA 0 z.g (x:=lD mI lI)):=ah w h
def zno (w:ae G H:=by
 intro z
 exact rA z.g (x:=cL [(true,bW)] [(true,eh)] aiP (hs:=by exact ajf ab))):=ah w h
def uR (w:ae G H:=by
 intro z
 exact dA 0 z.g (x:=lF hP)):=ah w h
def xp (w:ae G H:=by
 intro z
 exact rA z.g (x:=lF tB)):=ah w h
def Qv (w:ae G H:=by
 intro z
 exact dA 1023 z.g (x:=bV (ag:=false) (vs:=[sl _ _]) cW an ak az)):=ah w h
def zo8 (w:ae G H:=by
 intro z
 exact dA 4095 z.g (x:=bV (ag:=false) (vs:=[sl _ _]) cW an ak az)):=ah w h
def zoa (w:ae G H:=by
 intro z
 exact rA z.g (x:=bV (ag:=true) (vs:=fk) nW an ak az)):=ah w h
def zoe (w:ae G H:=by
 intro z
 exact dA 1023 z.g (x:=bV (ag:=true) (vs:=bX) gO an ak az)):=ah w h
def Qw (w:ae G H:=by
 intro z
 exact rA z.g (x:=eN (ms:=du) (qs:=mI) aj lI (fun h=>nomatch h) az ak Uq bg)):=ah w h
def Qx (w:ae G H:=by
 intro z
 exact rA z.g (x:=bV (ag:=true) (vs:=du) lI an ak az)):=ah w h
def zoh (w:ae G H:=by
 intro z
 exact rA z.g (x:=eN (ms:=lW) (qs:=Gc) aj DR (fun h=>nomatch h) az ak (by exact (aD (aD (aV (aV (aD (aD (aV aJ.nil)))))))) bg)):=ah w h
def zoi (w:ae G H:=by
 intro z
 exact rA z.g (x:=bV (ag:=true) (vs:=lW) DR an ak az)):=ah w h
def IL (w:ae G H:=by
 intro z
 exact rX z.g (x:=(fW aj iT xR))):=ah w h
def Qy (w:ae G H:=by
 intro z
 exact rA z.g (x:=bV (ag:=true) (vs:=fe) mn an ak az)):=ah w h
def Df (w:ae G H:=by
 intro z
 exact rX z.g (x:=(fW aj DS DU))):=ah w h
def tt (w:ae G H:=by
 intro z
 exact rA z.g (x:=lF lG)):=ah w h
def zX (w:ae G H:=by
 intro z
 exact dA 0 z.g (x:=lF rG)):=ah w h
def zoy (w:ae G H:=by
 intro z
 exact bO.step 0 an an (cc.of rfl (fW aj xQ xT)) (sD (cV.of_ rfl)) ao z.g):=ah w h
def uS (w:ae G H:=by
 intro z
 exact rA z.g (x:=lF tT)):=ah w h
def Qz (w:ae G H:=by
 intro z
 exact rA z.g (x:=lU aj cn iP rfl rfl aj oo sk bq bq)):=ah w h
def zpg (w:ae G H:=by
 intro z
 exact rA z.g (x:=bV (ag:=false) (vs:=[sl _ _]) nX an ak az)):=ah w h
def zpv (w:ae G H:=by
 intro z
 exact sO [(1,_),(2,_),(4,_),(5,_),(6,_),(19,_),(20,_),(21,_),(2900,_),(6000,_)] [(2,(41,[sl (.lo _) _,val _])),(4,(41,bW)),(6,(41,lr)),(900,(114,bU rC _ _))] z.g):=ah w h
def QA (w:ae G H:=by
 intro z
 exact rA z.g (x:=aZ aj dq an ak bE ak)):=ah w h
def zq2 (w:ae G H:=by
 intro z
 exact rA z.g (x:=jB (qs:=Mn) aj mn (fun h=>nomatch h) az EE bg)):=ah w h
def zq7 (w:ae G H:=by
 intro z
 exact anf (d:=900) (t:=116) (e:=4) (G:=6000) (f:=(gG ai)) (g:=(fun v:be=>[val (vI v.Id),sl .v (v.Values.map ar),val (vI v.ayh),val (vI v.ayd)])) (fN:=vn) (zss:=(kr zss keep i)) ak ak (fun _ _=>rfl) (fun _=>rfl) (fun _=>rfl) (by rw [hend,ah3];exact ao7) z.g):=ah w h
def zq9 (w:ae G H:=by
 intro z
 exact sO [(1,_),(2,_),(4,_),(5,_),(6,_),(19,_),(20,_),(21,_)] [(2,_),(4,_),(6,(41,bW))] z.g):=ah w h
def zqa (w:ae G H:=by
 intro z
 exact eg (d:=6) ak (show _=[sl bH ((hO s keep).ax2.map (aO bc ai)),val (vI (hO s keep).Now)] from by first|(rw [hst];done)|(rw [hst];exact rfl)) z.g):=ah w h
def zqb (w:ae G H:=by
 intro z
 exact dA 0 z.g (x:=jB (qs:=[nv _ (sl .v _),nv _ (val _)]) aj hR (fun h=>nomatch h) az KV Ur)):=ah w h
def zqf (w:ae G H:=by
 intro z
 exact sO [(1,_),(2,_),(4,_),(5,_),(6,_),(7,_),(8,_),(2900,_),(6000,_)] [(2,(41,[sl (.lo _) _,val _])),(4,(41,bW)),(6,(41,lr)),(900,(114,bU rC _ _))] z.g):=ah w h
def zqi (w:ae G H:=by
 intro z
 exact rA z.g (x:=jB (qs:=[val _]) aj bb (fun _=>rfl) az EB lP)):=ah w h
def zqj (w:ae G H:=by
 intro z
 exact sO [(1,_),(2,_),(4,_),(5,_),(6,_),(7,_),(8,_),(9,_),(10,_),(11,_),(12,_),(13,_),(2900,_),(6000,_)] [(2,(41,[sl (.lo _) _,val _])),(4,(41,bW)),(6,(41,lr)),(11,(116,wj)),(900,(114,bU rC _ _))] z.g):=ah w h
def zqn (w:ae G H:=by
 intro z
 exact sO [(1,_),(2,_),(4,_),(5,_),(6,_),(7,_),(8,_)] [(2,_),(4,_),(6,(41,bW))] z.g):=ah w h
def IM (w:ae G H:=by
 intro z
 exact rA z.g (x:=eN (ms:=bW) (qs:=eh) aj hR (fun h=>nomatch h) az ak EJ Ey)):=ah w h
def Dg (w:ae G H:=by
 intro z
 exact rA z.g (x:=bV (ag:=true) (vs:=bW) hR an ak az)):=ah w h
def Dh (w:ae G H:=by
 intro z
 exact rA z.g (x:=lD [sl (.lo _) _,val _] hR)):=ah w h
def IN (w:ae G H:=by
 intro z
 exact sS [2,3,4,5,6,7,8] [2,3,4,6] z.g):=ah w h
def zrb (w:ae G H:=by
 intro z
 exact rA z.g (x:=cL [(false,[sl (.lo _) _])] [(false,[sl .v _])] uZ (hs:=uj))):=ah w h
def zY (w:ae G H:=by
 intro z
 exact sS [2,3,4,5,6,7,8,9] [2,3,4,6] z.g):=ah w h
def zZ (w:ae G H:=by
 intro z
 exact sP [2,3,4,5,6,7,8,9] [2,3,4,6] z.g):=ah w h
def QB (w:ae G H:=by
 intro z
 exact eg (d:=920) ak (ox (k:=i) hi) z.g):=ah w h
def QC (w:ae G H:=by
 intro z
 exact eg (d:=921) ak (ox (k:=k) hk) z.g):=ah w h
def zrn (w:ae G H:=by
 intro z
 exact sO [(2,_),(3,_),(4,_),(5,_),(6,_),(7,_),(8,_),(9,_)] [(2,_),(3,_),(4,_),(6,(41,bW))] z.g):=ah w h
def zs3 (w:ae G H:=by
 intro z
 exact sO [(2,_),(3,_),(4,_),(5,_),(6,_),(7,_),(8,_),(9,_),(10,_),(2920,_)] [(2,_),(3,_),(4,_),(6,(41,lr)),(10,_),(920,(114,_++([sl _ _]++_)))] z.g):=ah w h
def zsk (w:ae G H:=by
 intro z
 exact sO [(0,_),(2,_),(3,_),(4,_),(5,_),(5000,_)] [(0,(176,[sl o _,val _,val _])),(2,(41,bW)),(3,(41,bW))] z.g):=ah w h
def zsl (w:ae G H:=by
 intro z
 exact dX 0 z.g (x:=(jB (qs:=eh) aj hR (fun h=>nomatch h) az EJ Ey))):=ah w h
def xq (w:ae G H:=by
 intro z
 exact dX 0 z.g (x:=(lS (.inl rfl) aj (by exact Cp.ptr)))):=ah w h
def Aa (w:ae G H:=by
 intro z
 exact rA z.g (x:=lD eh hR)):=ah w h
def Di (w:ae G H:=by
 intro z
 exact rA z.g (x:=cj (qs:=[(false,[val _]),(false,[val _]),(false,[val _])]) aj cn iP aj rfl rfl rfl rfl rfl az (by exact (aI (bi rfl) (aI (bi rfl) (aI (bi rfl) tI)))) rfl)):=ah w h
def xr (w:ae G H:=by
 intro z
 exact rX z.g (x:=(fW aj qg vu))):=ah w h
def zt3 (w:ae G H:=by
 intro z
 exact rA z.g (x:=lE mI lI)):=ah w h
def pM (w:ae G H:=by
 intro z
 exact rA z.g (x:=lF nd)):=ah w h
def QD (w:ae G H:=by
 intro z
 exact rA z.g (x:=lD [sl (.lo _) _,val _,val _,sl (.lo _) _,sl (.lo _) _,sl (.lo _) _,sl (.lo _) _,val _] dj)):=ah w h
def zu5 (w:ae G H:=by
 intro z
 exact eg (d:=900) ak (congrArg (fun z_=>((((cw e k)).take i).map (bd aH ai ai aL ai)).flatten++((bd aH ai ai aL ai) z_++(((((cw e k)).drop (i+1)).map (bd aH ai ai aL ai)).flatten++jk900.map val))) (asA hoe hlt hi hid hil)) z.g):=ah w h
def zu6 (w:ae G H:=by
 intro z
 exact rA z.g (x:=kI (k:=i) (G:=2900) aj cQ an ab vP)):=ah w h
def zu9 (w:ae G H:=by
 intro z
 exact rA z.g (x:=aZ aj mi an ak bE ak)):=ah w h
def Dj (w:ae G H:=by
 intro z
 exact rX z.g (x:=(fW aj jJ mV))):=ah w h
def QE (w:ae G H:=by
 intro z
 exact rA z.g (x:=eN (ms:=ct) (qs:=fJ) aj ju (fun h=>nomatch h) az ak KU KL)):=ah w h
def zuh (w:ae G H:=by
 intro z
 exact rA z.g (x:=eN (ms:=[sl _ _]) (qs:=[sl .v _]) aj cW (fun _=>rfl) az ak iE ib)):=ah w h
def zun (w:ae G H:=by
 intro z
 exact sO [(1,_),(2,_),(3,_),(4,_),(5,_),(6,_),(14,_),(57,_),(58,_),(59,_),(145,_),(146,_),(147,_),(6200,_)] [(1,(46,[sl (.lo _) _,val _,val _,sl (.lo _) _,sl (.lo _) _,sl (.lo _) _,sl (.lo _) _,val _])),(2,(46,aW)),(4,(46,aW)),(6,(149,[val _,val _,any,any,any]))] z.g):=ah w h
def zuq (w:ae G H:=by
 intro z
 exact sO [(1,_),(2,_),(3,_),(4,_),(5,_),(6,_),(14,_),(57,_),(58,_),(59,_),(145,_),(146,_),(147,_),(6200,_)] [(1,(46,[sl (.lo _) _,val _,val _,sl (.lo _) _,sl (.lo _) _,sl (.lo _) _,sl (.lo _) _,val _])),(2,(46,aW)),(4,(46,aW)),(6,(149,fk))] z.g):=ah w h
def zur (w:ae G H:=by
 intro z
 exact dA 0 z.g (x:=lS (r':=RV.sv false [sl .v _]) (.inl rfl) aj KG)):=ah w h
def uT (w:ae G H:=by
 intro z
 exact dA 0 z.g (x:=vM false [sl .v _])):=ah w h
def zut (w:ae G H:=by
 intro z
 exact WY (s:=7) [val zP.2] ak (by exact (aJ.cons PV.nv_val aJ.nil)) lP z.g):=ah w h
def zuu (w:ae G H:=by
 intro z
 exact dA 1 z.g (x:=eN (ms:=[sl _ _]) (qs:=[sl .v _]) aj cW (fun _=>rfl) az ak iE ib)):=ah w h
def zuw (w:ae G H:=by
 intro z
 exact sO [(0,_),(1,_),(5,_),(6,_),(7,_),(8,_),(9,_),(10,_),(11,_),(12,_),(2900,_),(5000,_)] [(0,(46,BC)),(6,(260,qQ)),(8,(149,fk)),(900,(102,_++(du++_)))] z.g):=ah w h
def zuz (w:ae G H:=by
 intro z
 exact dA 96 z.g (x:=aZ aj dq an ak bE ak)):=ah w h
def zv0 (w:ae G H:=by
 intro z
 exact bO.stepC 255 gI an (cc.of rfl (qP (cs:=[val _]) aj ak lP)) fY ao iD z.g):=ah w h
def zv1 (w:ae G H:=by
 intro z
 exact bO.stepC 2047 gI an (cc.of rfl (lS (.inr rfl) aj Fg)) fY ao iD z.g):=ah w h
def tu (w:ae G H:=by
 intro z
 exact rA z.g (x:=lD cO dj)):=ah w h
def zv9 (w:ae G H:=by
 intro z
 exact eg (d:=0) ak (show _=[sl bH (e.Store.ax2.map (aO bc ai)),val (vI e.Store.Now),val (vI e.ax7),sl ai (e.Order.map ar),sl cm ((cw e (parts e).length).map (bd aH ai ai aL ai)),sl cf (e.Done.map (bw aH ai aL ai)),sl ck ((jz e (parts e).length).map (bz ai ai ai)),val (vI e.Steps)] from by first|(rw [hled];done)|(rw [hled];exact rfl)|(rw [hled,hsv];done)|(rw [hled,hsv];exact rfl)) z.g):=ah w h
def xt (w:ae G H:=by
 intro z
 exact rA z.g (x:=lF Ay)):=ah w h
def zvs (w:ae G H:=by
 intro z
 exact sO [(1,_),(2,_),(3,_),(4,_)] [(1,_),(2,_),(4,(46,aW))] z.g):=ah w h
def zw0 (w:ae G H:=by
 intro z
 exact rB gb z.g (x:=cL [(false,[val _]),(false,[val _]),(false,[val _])] [(false,[val _]),(false,[val _]),(false,[val _])] rq (hs:=qC))):=ah w h
def zwe (w:ae G H:=by
 intro z
 exact ana (G:=6300) (H:=6200) (e:=10) (f:=(bd aH ai ai aL ai)) ak ak ak z.g):=ah w h
def zwf (w:ae G H:=by
 intro z
 exact XB (d:=8) (t:=102) (e:=10) (G:=6300) (A:=mJ) (B:=mK) (f:=(bd aH ai ai aL ai)) (g:=(fun z:ax3=>[val (vI z.ax4.Id),val (vI z.ax4.ax8),sl .v (z.ax4.ax5.map bF),sl .v (z.ax4.Out.map ar),val (vI z.Time),sl .v (z.ayc.map ar),val (vI z.Age),val (vI z.Sent),val (vI z.Cap),sl .v (z.Rows.map (cD ai))])) (fN:=gS) (ys:=(za.take (eK e.ax3 q.Id)++(eJ e q l,kNew)::za.drop (eK e.ax3 q.Id))) [] (nh e q l) ak ak (fun _ _=>rfl) (fun _=>rfl) (fun _=>rfl) (atB) (atC hoe hza) z.g):=ah w h
def zwi (w:ae G H:=by
 intro z
 exact rB gb z.g (x:=cL [(false,[val _]),(false,[val _]),(false,[val _])] [(false,[val _]),(false,[val _]),(false,[val _])] mh (hs:=lO))):=ah w h
def zwj (w:ae G H:=by
 intro z
 exact rA z.g (x:=cj (qs:=[]) aj cQ mp aj rfl rfl rfl rfl rfl az an rfl)):=ah w h
def zwn (w:ae G H:=by
 intro z
 exact sO [(2,_),(3,_),(4,_),(6,_),(7,_),(8,_),(9,_),(10,_),(11,_),(12,_),(13,_),(6200,_),(6300,_)] [(3,_),(4,_),(6,_),(8,(46,aW)),(9,_)] z.g):=ah w h
def QF (w:ae G H:=by
 intro z
 exact sP [2,3,4,6,7,8,9,10,11,12,13,6200,6300] [3,4,6,8,9] z.g):=ah w h
def zwx (w:ae G H:=by
 intro z
 exact rA z.g (x:=cL [(true,[sl (.lo _) _,val _,val _,sl (.lo _) _,sl (.lo _) _,sl (.lo _) _,sl (.lo _) _,val _])] [(true,cO)] RK (hs:=Lv))):=ah w h
def zwy (w:ae G H:=by
 intro z
 exact sO [(1,_),(2,_),(4,_),(5,_),(6,_),(7,_),(6200,_)] [(2,_),(4,_),(6,(46,aW))] z.g):=ah w h
def zwz (w:ae G H:=by
 intro z
 exact sO [(1,_),(2,_),(4,_),(5,_),(6,_),(7,_)] [(2,_),(4,_),(6,(46,aW))] z.g):=ah w h
def zx5 (w:ae G H:=by
 intro z
 exact rX z.g (x:=(kG (ag:=true) (cs:=eP) aj an))):=ah w h
def zx9 (w:ae G H:=by
 intro z
 exact rB gc z.g (x:=cL [(false,[sl _ _]),(false,[sl _ _])] [(false,[sl .v _]),(false,[sl .v _])] DA (hs:=Bb))):=ah w h
def rn (w:ae G H:=by
 intro z
 exact sS [1,2,3,4,19] [1] z.g):=ah w h
def xu (w:ae G H:=by
 intro z
 exact rA z.g (x:=lF DB)):=ah w h
def zy4 (w:ae G H:=by
 intro z
 exact sO [(2,_),(3,_),(4,_),(5,_),(6,_)] [(2,_),(3,_),(4,_),(6,(46,aW))] z.g):=ah w h
def zyb (w:ae G H:=by
 intro z
 exact rX z.g (x:=(kG (ag:=true) (cs:=cS) aj an))):=ah w h
def zyd (w:ae G H:=by
 intro z
 exact rB ga z.g (x:=lD ej iA)):=ah w h
def Dk (w:ae G H:=by
 intro z
 exact rA z.g (x:=lD ej iA)):=ah w h
def QG (w:ae G H:=by
 intro z
 exact rA z.g (x:=eN (ms:=aW) (qs:=cO) aj dj (fun h=>nomatch h) az ak KJ bg)):=ah w h
def Ab (w:ae G H:=by
 intro z
 exact rA z.g (x:=bV (ag:=true) (vs:=aW) dj an ak az)):=ah w h
def zyp (w:ae G H:=by
 intro z
 exact rA z.g (x:=qM (o:=0) (ag:=false) (vs:=[val _]) ab bb an ak az)):=ah w h
def zys (w:ae G H:=by
 intro z
 exact sO [(0,_),(1,_),(4,_),(5,_),(6,_),(7,_),(5000,_)] [(0,(176,[sl o _,val _,val _])),(4,(46,aW)),(5,(46,aW))] z.g):=ah w h
def IP (w:ae G H:=by
 intro z
 exact rA z.g (x:=bV (ag:=false) (vs:=[val _]) bb (bi rfl) ak az)):=ah w h
def pN (w:ae G H:=by
 intro z
 exact rA z.g (x:=qP (cs:=[val _]) aj ak lP)):=ah w h
def pO (w:ae G H:=by
 intro z
 exact rA z.g (x:=lE [val _] ng)):=ah w h
def QH (w:ae G H:=by
 intro z
 exact rA z.g (x:=cL [(false,[val _])] [(false,[val _])] xN (hs:=Ft))):=ah w h
def uU (w:ae G H:=by
 intro z
 exact sS [0,2,3,4,5] [2,5] z.g):=ah w h
def Zac (w:ae G H:=by
 intro z
 exact rA z.g (x:=cL [(false,[val _]),(false,[val _])] [(false,[val _]),(false,[val _])] RH (hs:=by exact (awL ab)))):=ah w h
def Zah (w:ae G H:=by
 intro z
 exact eg (d:=5) ak (show _=[val (vI (lL s).Id),sl ai ((lL s).Values.map ar)] from by rw [hrs]<;>rfl) z.g):=ah w h
def Zar (w:ae G H:=by
 intro z
 exact rA z.g (x:=fc aj eR vt rfl rfl aj rfl bq bq)):=ah w h
def IQ (w:ae G H:=by
 intro z
 exact rA z.g (x:=lD gK kq)):=ah w h
def Zav (w:ae G H:=by
 intro z
 exact rA z.g (x:=cL [(true,eP)] [(true,gK)] QY (hs:=by exact RY))):=ah w h
def Ac (w:ae G H:=by
 intro z
 exact sS [1,2,7,7000] [1] z.g):=ah w h
def Dl (w:ae G H:=by
 intro z
 exact dA 3 z.g (x:=lE [val _] ng)):=ah w h
def IR (w:ae G H:=by
 intro z
 exact rA z.g (x:=bV (ag:=true) (vs:=ct) ju an ak az)):=ah w h
def Zcw (w:ae G H:=by
 intro z
 exact sO [(0,_),(2,_),(3,_),(4,_),(5,_)] [(2,_),(5,(29,eP))] z.g):=ah w h
def Zcz (w:ae G H:=by
 intro z
 exact eg (d:=5) ak (show _=[val (vI (iB s).Kind),val (vI (iB s).Row.Id),sl ai ((iB s).Row.Values.map ar),val (vI (iB s).Field),val (vI (iB s).Value)] from by rw [hr]<;>rfl) z.g):=ah w h
def QI (w:ae G H:=by
 intro z
 exact sS [0,2,3,4,5,6,7,8,9,10,18,7000] [2,7] z.g):=ah w h
def uV (w:ae G H:=by
 intro z
 exact rA z.g (x:=bV (ag:=false) (vs:=[val _]) bb an ak az)):=ah w h
def Zdt (w:ae G H:=by
 intro z
 exact sO [(0,_),(2,_),(3,_),(4,_),(5,_),(6,_),(7,_),(8,_),(9,_),(10,_),(18,_),(7000,_)] [(2,_),(7,(31,cS))] z.g):=ah w h
def Dm (w:ae G H:=by
 intro z
 exact rA z.g (x:=bV (ag:=true) (vs:=bX) gO an ak az)):=ah w h
def Zdw (w:ae G H:=by
 intro z
 exact eg (d:=7) ak (show _=[val (vI (eM s).Kind),val (vI (eM s).ax4.Id),val (vI (eM s).ax4.ax8),sl aH ((eM s).ax4.ax5.map bF),sl ai ((eM s).ax4.Out.map ar),val (vI (eM s).Limit),val (vI (eM s).Id),val (vI (eM s).ax6.Kind),val (vI (eM s).ax6.Row.Id),sl ai ((eM s).ax6.Row.Values.map ar),val (vI (eM s).ax6.Field),val (vI (eM s).ax6.Value),val (vI (eM s).Steps)] from by rw [hr]<;>rfl) z.g):=ah w h
def xv (w:ae G H:=by
 intro z
 exact rA z.g (x:=bV (ag:=true) (vs:=eP) kq an ak az)):=ah w h
def Ze8 (w:ae G H:=by
 intro z
 exact sO [(0,_),(2,_),(3,_),(4,_),(5,_)] [(2,_),(5,(31,cS))] z.g):=ah w h
def Ze9 (w:ae G H:=by
 intro z
 exact dA 7 z.g (x:=cL [(false,[val _])] [(false,[val _])] xN (hs:=Ft))):=ah w h
def Zea (w:ae G H:=by
 intro z
 exact dA 0 z.g (x:=eN (ms:=bX) (qs:=di) aj gO (fun h=>nomatch h) az ak KO bg)):=ah w h
def QJ (w:ae G H:=by
 intro z
 exact eg (d:=5) ak (show _=[val (vI (fG s).Kind),val (vI (fG s).ax4.Id),val (vI (fG s).ax4.ax8),sl aH ((fG s).ax4.ax5.map bF),sl ai ((fG s).ax4.Out.map ar),val (vI (fG s).Limit),val (vI (fG s).Id),val (vI (fG s).ax6.Kind),val (vI (fG s).ax6.Row.Id),sl ai ((fG s).ax6.Row.Values.map ar),val (vI (fG s).ax6.Field),val (vI (fG s).ax6.Value),val (vI (fG s).Steps)] from by rw [hr]<;>rfl) z.g):=ah w h
def Zf5 (w:ae G H:=by
 intro z
 exact rA z.g (x:=dP (bx:=6) (qs:=[]) (as_:=[]) aj aiq rfl an an lh yn (by exact (ako (fun es=>bor_sl es))))):=ah w h
def Zf6 (w:ae G H:=by
 intro z
 exact rA z.g (x:=dP (bx:=6) (qs:=[(true,bW)]) (as_:=[(true,eh)]) aj apC rfl bS yj lh yi (by exact (aw0 Lz)))):=ah w h
def Zf8 (w:ae G H:=by
 intro z
 exact sO [(0,_),(1,_),(4,_),(5,_),(6,_),(7,_),(5000,_)] [(0,(176,[sl o _,val _,val _]))] z.g):=ah w h
def IS (w:ae G H:=by
 intro z
 exact sG [0,1,4,5,6,7,8,5000] [0] z.g):=ah w h
def Zfi (w:ae G H:=by
 intro z
 exact rX z.g (x:=(kG (ag:=true) (cs:=fk) aj an))):=ah w h
def Zfq (w:ae G H:=by
 intro z
 exact rX z.g (x:=(kG (ag:=true) (cs:=aW) aj an))):=ah w h
def Zg0 (w:ae G H:=by
 intro z
 exact dB 1048575 gd z.g (x:=lD ej iA)):=ah w h
def Zgn (w:ae G H:=by
 intro z
 exact dB 1048575 g13 z.g (x:=lD ej iA)):=ah w h
def Zgu (w:ae G H:=by
 intro z
 exact rA z.g (x:=cj (qs:=[(false,[val _])]) aj pV DT aj rfl rfl rfl rfl rfl az bS rfl)):=ah w h
def Zgv (w:ae G H:=by
 intro z
 exact rA z.g (x:=cL [(false,[val _])] [(false,[val _])] rE (hs:=qF))):=ah w h
def Zh6 (w:ae G H:=by
 intro z
 exact sO [(2,_),(3,_),(4,_),(6,_),(7,_),(8,_),(9,_),(87,_),(88,_),(89,_),(2910,_)] [(2,(41,[sl (.lo _) _,val _])),(3,(29,[val _,val _,sl (.lo _) _,val _,val _])),(4,(41,bW)),(6,(41,lr)),(910,(114,bU (aO bc ai) _ _))] z.g):=ah w h
def QK (w:ae G H:=by
 intro z
 exact sP [2,3,4,6,7,8,9,10,11,87,88,89,2910] [2,3,4,6,910] z.g):=ah w h
def Zh8 (w:ae G H:=by
 intro z
 exact eg (d:=6) ak (show _=[sl bH ((dG s u).map (aO bc ai)),val (vI (s.Now+1))] from by first|(rw [hu1];done)|(rw [hu1];exact rfl)) z.g):=ah w h
def QL (w:ae G H:=by
 intro z
 exact eg (d:=930) ak (ox (k:=u.Field.toNat) hfl) z.g):=ah w h
def Dn (w:ae G H:=by
 intro z
 exact sP [2,3,4,5,6,7,8,9,10] [2,3,4,6,10] z.g):=ah w h
def QM (w:ae G H:=by
 intro z
 exact sG [2,3,4,5,6,7,8,9,10] [2,3,4,6,10] z.g):=ah w h
def IT (w:ae G H:=by
 intro z
 exact sS [0,3,4,5,6,29,5000] [0,3,4] z.g):=ah w h
def Ad (w:ae G H:=by
 intro z
 exact rA z.g (x:=bV (ag:=true) (vs:=cS) iA an ak az)):=ah w h
def Do (w:ae G H:=by
 intro z
 exact sS [0,3,4,7,5000] [0,3,4] z.g):=ah w h
def QN (w:ae G H:=by
 intro z
 exact sG [1,2,3,4,5,6,14,16,57,58,59,145,146,147,6200] [1,2,4,6,16] z.g):=ah w h
def Zi1 (w:ae G H:=by
 intro z
 exact sO [(1,_),(2,_),(3,_),(4,_),(5,_),(6,_),(14,_),(16,_),(57,_),(58,_),(59,_),(145,_),(146,_),(147,_),(6200,_)] [(1,_),(2,_),(4,_),(6,_),(16,(102,du))] z.g):=ah w h
def Zid (w:ae G H:=by
 intro z
 exact Xq (d:=0) (G:=6300) (A:=[sl _ _,val _,val _,sl _ _,sl _ _]) (B:=bW) (p:=sl cf (((e.Done++jy e (parts e).length m).map (bw aH ai aL ai))++[[val (vI (⟨za[m].1.ax4,za[m].1.Time,za[m].1.Age+1,za[m].1.Rows⟩:jI).ax4.Id),val (vI (⟨za[m].1.ax4,za[m].1.Time,za[m].1.Age+1,za[m].1.Rows⟩:jI).ax4.ax8),sl aH ((⟨za[m].1.ax4,za[m].1.Time,za[m].1.Age+1,za[m].1.Rows⟩:jI).ax4.ax5.map bF),sl ai ((⟨za[m].1.ax4,za[m].1.Time,za[m].1.Age+1,za[m].1.Rows⟩:jI).ax4.Out.map ar),val (vI (⟨za[m].1.ax4,za[m].1.Time,za[m].1.Age+1,za[m].1.Rows⟩:jI).Time),val (vI (⟨za[m].1.ax4,za[m].1.Time,za[m].1.Age+1,za[m].1.Rows⟩:jI).Steps),sl aL ((⟨za[m].1.ax4,za[m].1.Time,za[m].1.Age+1,za[m].1.Rows⟩:jI).Rows.map (cD ai))]])) ak ak (fun z k_=>ann (by exact (Nm.nv (Nm.nv (Nm.nv (Nm.nv (Nm.val (Nm.val (Nm.nv Nm.nil)))))))) (by exact (gY.keep (gY.keep (gY.keep (gY.keep (gY.lit rfl (gY.lit rfl (gY.drop (gY.drop (gY.drop (gY.drop (gY.drop (gY.keep gY.nil))))))))))))) z k_) z.g):=ah w h
def Zir (w:ae G H:=by
 intro z
 exact rA z.g (x:=cy (qs:=[]) (cs:=eP) aj tC tD Ub ak an rfl ak)):=ah w h
def Zit (w:ae G H:=by
 intro z
 exact rA z.g (x:=cy (qs:=[]) (cs:=cS) aj qg vu KB ak an rfl ak)):=ah w h
def IU (w:ae G H:=by
 intro z
 exact sS [0,2,3,4,5,6,7,18,7000] [2,7] z.g):=ah w h
def Dp (w:ae G H:=by
 intro z
 exact rX z.g (x:=(fW aj xQ xT))):=ah w h
def Ziz (w:ae G H:=by
 intro z
 exact rA z.g (x:=uo (cs:=aW) (qs:=cO) aj ak KJ bg)):=ah w h
def Zj0 (w:ae G H:=by
 intro z
 exact dX 0 z.g (x:=(jB (qs:=cO) aj dj (fun h=>nomatch h) az KJ bg))):=ah w h
def Zj1 (w:ae G H:=by
 intro z
 exact rA z.g (x:=eN (ms:=eP) (qs:=gK) aj kq (fun h=>nomatch h) az ak UF bg)):=ah w h
def QO (w:ae G H:=by
 intro z
 exact rA z.g (x:=aZ aj cQ an ak bE ak)):=ah w h
def QP (w:ae G H:=by
 intro z
 exact rX z.g (x:=(kG (ag:=true) (cs:=bX) aj an))):=ah w h
def Zj4 (w:ae G H:=by
 intro z
 exact rA z.g (x:=fc aj cQ mp rfl rfl aj rfl bq bq)):=ah w h
def Zj5 (w:ae G H:=by
 intro z
 exact rA z.g (x:=bV (ag:=false) (vs:=[sl _ _]) kp an ak az)):=ah w h
def Zj6 (w:ae G H:=by
 intro z
 exact rA z.g (x:=kI (k:=i) (G:=2900) aj gB an (by first|rfl|omega) (by simp only [bf];omega))):=ah w h
def Zj7 (w:ae G H:=by
 intro z
 exact sO [(0,_),(2,_),(3,_),(4,_),(5,_),(6,_),(7,_),(18,_),(7000,_)] [(2,_),(7,(31,cS))] z.g):=ah w h
def Zj8 (w:ae G H:=by
 intro z
 exact rA z.g (x:=uo (cs:=[sl _ _]) (qs:=[sl .v _]) aj ak iE ib)):=ah w h
def Zj9 (w:ae G H:=by
 intro z
 exact rX z.g (x:=(kG (ag:=true) (cs:=fe) aj an))):=ah w h
def Zja (w:ae G H:=by
 intro z
 exact sO [(2,_),(3,_),(4,_),(5,_),(6,_),(7,_),(8,_),(9,_),(10,_)] [(2,_),(3,_),(4,_),(6,_),(10,(116,fe))] z.g):=ah w h
def Zjc (w:ae G H:=by
 intro z
 exact rB gc z.g (x:=cL [(false,[val _]),(false,[val _]),(false,[val _])] [(false,[val _]),(false,[val _]),(false,[val _])] mh (hs:=lO))):=ah w h
def Zjd (w:ae G H:=by
 intro z
 exact rA z.g (x:=bV (ag:=true) (vs:=qQ) DQ an ak az)):=ah w h
def Zje (w:ae G H:=by
 intro z
 exact rX z.g (x:=(kG (ag:=true) (cs:=[val _,val _,sl (.lo _) _,val _,val _]) aj an))):=ah w h
end Go.Proofs.YtmekkgdboplbjaaGreatDoor.M
