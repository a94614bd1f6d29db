/- Short names for what the printed proofs say often. No condition. -/
import Derived.Test.YtmekkgdboplbjaaGreatDoorPC0
set_option linter.all false
namespace Go.Proofs.YtmekkgdboplbjaaGreatDoor.M
open Go Go.RowKit
variable{G H:Prop}(h:H)
def zab (h:G:=by have hend:k=min code.length 4000:=ab;refine Mf ?_;refine iC ?_;refine rA ?_ (x:=bZ (qs:=gK) (cs:=[sl _ _,val _,val _]) ai aAf aAi aAj ak iQ rfl ak);refine rX ?_ (x:=(lm (ag:=true) (cs:=[sl _ _,val _,val _]) ai aq));refine rA ?_ (x:=cA Cp.ptr);refine cg ?_;exact ⟨31,ak,by subst hend;exact rfl⟩):G:=h
def zar (h:G:=by refine vn ?_;exact ⟨Ja,rfl,(aI (by refine cy ?_;rw [hr];rfl) tI)⟩):G:=h
def zax (h:G:=by refine cg ?_;exact ⟨Ja,rfl,(aI (by refine cy ?_;rw [hr];try rfl) tI)⟩):G:=h
def zb8 (h:G:=by refine di ?_;exact ⟨ak,rfl,(aI ak tI)⟩):G:=h
def zc6 (h:G:=by refine bJ ?_;refine nx (k+1) ab (e:=lT) (f:=(by exact aI (by rw [kU,hcn];rfl) (aI (by rw [kU,hcn];try first|exact rfl|(simp only [bj];exact rfl)) tI)))):G:=h
def zc5 (h:G:=by refine sG [0,1,4,5,6,7,8,9,5000] [0,4,5] ?_;refine TO ?_;refine fA ?_;refine rM ?_;refine rA ?_ (x:=bZ (qs:=cJ) (cs:=tw) ai pS Hj aAp ak sZ rfl ak);refine Zmj ?_;refine TT ?_;refine sW [0,1,4,5,6,7,8,9,5000] [0,4] [5] ?_;exact zc6):G:=h
def RA (h:G:=by refine di ?_;exact rb (by simp [aE, *])):G:=h
def zcb (h:G:=by refine mV ?_;refine sS [0,1,2,6] [] ?_;refine fA ?_;refine rA ?_ (x:=jP);refine rM ?_;refine cx 10 ?_ ?_<;>intro ga sga;refine eY ?_;refine eY ?_;refine rB ga ?_ (x:=lZ);refine iW ?_;exact RA;refine mb ?_;exact RA):G:=h
def zci (h:G:=by refine cz ?_;exact rb ((Ah (P:=fun y=>y==x) hlt (by simpa using ‹_=x›)).symm)):G:=h
def zck (h:G:=by refine nx (k+1) (by exact ⟨ab,CT ha ‹_› (by simpa using ‹¬_›)⟩)):G:=h
def zcm (h:G:=by refine cz ?_;exact rb (by exact (ao1 (by rw [show xs.length=k by omega];exact ha)).symm)):G:=h
def Ka (h:G:=by refine cg ?_;exact (aI ak tI)):G:=h
def Bw (h:G:=by refine rS ?_;exact Ka):G:=h
def zd3 (h:G:=by refine cz ?_;exact rb (by simp [bw,ao5,qE (P:=nJ) hlt hno])):G:=h
def Zmk (h:G:=by refine nx (k+1) (by exact ⟨ab,MY ha hlt hyes⟩)):G:=h
def EB (h:G:=by refine cf ?_;exact Zmk):G:=h
def RB (h:G:=by refine di ?_;exact rb (by simp [bw,ao5,hall, *])):G:=h
def zd6 (h:G:=by refine Me ?_;refine uV ?_;exact RB):G:=h
def zi (h:G:=by refine bJ ?_;exact Zmk):G:=h
def zdu (h:G:=by refine di ?_;exact rb (by simp [jj, *])):G:=h
def ze8 (h:G:=by refine cg ?_;exact (bc 2 (bc _ (aI ak (aI ak (aI jA (aI (fun h=>nomatch h) tI))))))):G:=h
def ze5 (h:G:=by refine dA 63 ?_ (x:=bO (ag:=true) (vs:=iA) jA aq ak ax);exact ze8):G:=h
def Zml (h:G:=by refine nx (k+1) ab (e:=(by exact aI (by exact bC (by rw [xZ hlt,bj];rfl)) (aI ak tI)))):G:=h
def zed (h:G:=by refine dG ?_;refine sG [0,2,3,5,7,8,9] [5] ?_;refine cf ?_;exact Zml):G:=h
def Bx (h:G:=by refine kt ?_;exact (aI (by refine bC ?_;rw [hend,bF]) tI)):G:=h
def zee (h:G:=by have hend:k=x.length:=ab;refine be ?_;refine sS [0,2,3,7,8,9] [] ?_;exact Bx):G:=h
def RC (h:G:=by refine bJ ?_;exact Zml):G:=h
def zm5 (h:G:=by refine Mf ?_;exact Bx):G:=h
def RD (h:G:=by have hend:k=x.length:=ab;exact zm5):G:=h
def By (h:G:=by refine di ?_;exact rb (by first|(simp_all [pN,aE];done)|(simp_all [pN,aE];omega))):G:=h
def zes (h:G:=by refine rM ?_;refine rN 18 ?_;refine dO ?_;exact By):G:=h
def zf3 (h:G:=by
 have hbad:fq ⟨0,0,0⟩ pN tT x.aJu=false:=vO hlt (Bool.eq_false_iff.2 fun hx=>by
  have hx:=mY.1 hx;rw [hgk] at hx;obtain ⟨hx1,hx2⟩:=hx;first
  | (simp_all;done)
  | (simp only [decide_eq_true_eq,tT] at *;by_cases h0:k=0<;>(try rw [hgp ab] at hx2)<;>omega))
 refine sS [1,3] [1] ?_;refine cz ?_;exact rb (by simp [bq,pO,hbad])):G:=h
def Zmm (h:G:=by refine nx (k+1) (by exact ⟨ab,by rw [GZ,ha,Bool.true_and];refine mY.2 ⟨DU,?_⟩;rcases Nat.eq_zero_or_pos k with h0|h0;(· exact .inl h0);(· right;rw [hgk,hgp h0];first|(simp only [decide_eq_true_eq,tT] at *;omega)|(simp_all;done))⟩)):G:=h
def zf4 (h:G:=by refine Cn ?_;refine bJ ?_;exact Zmm):G:=h
def RE (h:G:=by refine di ?_;exact rb (by first|(simp_all [bq,pO];done)|(simp_all [bq,pO];rfl)|(simp_all [bq,pO];omega)|(simp_all [bq,pO];intros;omega))):G:=h
def zf8 (h:G:=by refine rM ?_;refine rN 52 ?_;refine dO ?_;exact RE):G:=h
def Kb (h:G:=by refine cg ?_;exact rb (by first|exact hbad0.symm|(simp [bq,pO,hbad];done)|(simp [bq,pP,hn3];done)|(simp_all [bq,pO,pP];done)|(simp_all [bq,pO,pP];rfl)|(simp_all [bq,pO,pP];omega)|(simp_all [bq,pO,pP];intros;omega))):G:=h
def RF (h:G:=by
 have hbad0:bq x=false:=by first|(simp_all [bq];done)|(simp_all [bq];rfl)|(simp_all [bq];omega)|(simp_all [bq];intros;omega)
 refine pI ?_;refine rK ?_;exact Kb):G:=h
def zfn (h:G:=by
 have hbad:fq ⟨0,0,0⟩ pN tT x.aJu=false:=vO hlt (Bool.eq_false_iff.2 fun hx=>by
  have hx:=mY.1 hx;rw [hgk] at hx;obtain ⟨hx1,hx2⟩:=hx;first
  | (simp_all;done)
  | (simp only [decide_eq_true_eq,tT] at *;by_cases h0:k=0<;>(try rw [hgp ab] at hx2)<;>omega))
 refine sS [1,3,4,24,25,26] [1,4] ?_;refine rK ?_;exact Kb):G:=h
def zfo (h:G:=by refine aF ?_;refine sG [1,3,4,24,25,26] [1,4] ?_;refine cf ?_;exact Zmm):G:=h
def zfu (h:G:=by refine cz ?_;exact rb (by simp [mh,qE (P:=(nL f v)) hlt hno])):G:=h
def zfv (h:G:=by have hyes:nL f v q.aJu[k]=true:=Ji;refine aF ?_;refine sG [1,2,3,8,10,11,12] [3,8] ?_;exact EB):G:=h
def zfw (h:G:=by refine cz ?_;exact rb (by simp [mh,hall, *])):G:=h
def rx (h:G:=by refine cz ?_;exact rb (hbad.symm)):G:=h
def zg0 (h:G:=by
 have hbad:iI q r=false:=by simp_all [iI]
 refine sS [2,3,4] [2,3] ?_;exact rx):G:=h
def RG (h:G:=by refine cg ?_;exact rb (by first|(simp_all [ez,rL];done)|(simp_all [ez,rL];rfl)|(simp_all [ez,rL];omega)|(simp_all [ez,rL];intros;omega))):G:=h
def EC (h:G:=by refine rS ?_;exact RG):G:=h
def RH (h:G:=by refine rI ?_;exact EC):G:=h
def RI (h:G:=by refine rB gc ?_ (x:=lF rO);refine qB ?_;refine rB gc ?_ (x:=lu);exact RH):G:=h
def ED (h:G:=by refine kR ?_;exact EC):G:=h
def tx (h:G:=by refine dO ?_;exact EC):G:=h
def zgf (h:G:=by refine sS [1,2,3,16] [1] ?_;refine zR ?_;refine KZ ?_;refine rM ?_;refine cx 22 ?_ ?_<;>intro gb sgb;refine LW ?_;refine iD ?_;refine cx 27 ?_ ?_<;>intro gc sgc;exact RI;exact ED;refine it ?_;refine rM ?_;refine rN 27 ?_;exact tx):G:=h
def zgo (h:G:=by refine aF ?_;refine sS [1,2,3,16] [1] ?_;refine rK ?_;exact RG):G:=h
def RJ (h:G:=by refine di ?_;exact rb (by first|(simp_all [gX];done)|(simp_all [gX];rfl)|(simp_all [gX];omega)|(simp_all [gX];intros;omega))):G:=h
def zh0 (h:G:=by refine sn 0 1 fun hl0_1=>?_;refine Fy ?_;refine Gt ?_;refine rA ?_ (x:=lF oO);refine eS ?_;refine Gy ?_;refine rM ?_;refine cx 9 ?_ ?_<;>intro ga sga;refine rB ga ?_ (x:=lF mq);refine mX ?_;refine rB ga ?_ (x:=lu);refine eY ?_;refine cx 13 ?_ ?_<;>intro gb sgb;refine zt gb ?_;refine rB ga ?_ (x:=ce gb);refine iW ?_;exact RJ;refine rB gb ?_ (x:=lF mq);refine pF ?_;refine VC ?_;refine rB ga ?_ (x:=bE gb);refine iW ?_;exact RJ;refine mb ?_;exact RJ):G:=h
def zh7 (h:G:=by refine di ?_;exact rb (by first|(simp_all [Aj];done)|(simp_all [Aj];rfl)|(simp_all [Aj];omega)|(simp_all [Aj];intros;omega))):G:=h
def Bz (h:G:=by refine di ?_;exact rb (by first|(simp_all [hP];done)|(simp_all [hP];omega)|(rw [Bool.eq_iff_iff];simp_all [hP];done)|(rw [Bool.eq_iff_iff];simp_all [hP];omega))):G:=h
def Kc (h:G:=by refine di ?_;exact rb (by first|(simp_all [fb];done)|(simp_all [fb];rfl)|(simp_all [fb];omega)|(simp_all [fb];intros;omega))):G:=h
def Kd (h:G:=by refine pI ?_;exact rx):G:=h
def RK (h:G:=by
 have hbad:cv s=false:=by first|(simp_all [cv,tX];done)|(simp_all [cv,tX];omega)
 exact Kd):G:=h
def zhz (h:G:=by refine ie ?_;exact RK):G:=h
def zid (h:G:=by refine nx (m+1) (by refine ⟨ab,?_⟩;rw [axe,hfr,Bool.true_and];exact hap)):G:=h
def RL (h:G:=by have hvo:fb s.Now s.aJr[k][j]=false:=PU;have hbad:=Nn hag.1 (apw (by rw [hag.2];exact hvo));refine sS [1,3,5,7,23,24,25,32,33,34] [1,7] ?_;exact rx):G:=h
def zix (h:G:=by
 have hap:hP ((bA s).getD ((eU s k).length+j) v0) ((bA s).getD m v0)=false:=by
  rw [hag.2] at hma ⊢;by_cases hid:s.aJr[k][j].Id=((bA s).getD m v0).Id;·rw [beq_iff_eq.2 hid,Bool.true_and] at hma;simp_all
  ·simp_all
 have hbad:=Nn hag.1 (apx hlt3 hap);refine sS [1,3,5,7,9,23,24,25,32,33,34,66,67,68] [1,7,9] ?_;exact rx):G:=h
def RM (h:G:=by
 have hap:hP ((bA s).getD ((eU s k).length+j) v0) ((bA s).getD m v0)=true:=by
  rw [hag.2] at hma ⊢;by_cases hid:s.aJr[k][j].Id=((bA s).getD m v0).Id;·rw [beq_iff_eq.2 hid,Bool.true_and] at hma;simp_all
  ·rw [beq_false_of_ne hid,Bool.false_and] at hma;simpa using hma.symm
 refine aF ?_;refine sG [1,3,5,7,9,23,24,25,32,33,34,66,67,68] [1,7,9] ?_;refine cf ?_;exact zid):G:=h
def ziz (h:G:=by refine Cl ?_;refine fY ?_;exact RM):G:=h
def zj0 (h:G:=by have hend3:m=(eU s k).length+j:=ab;refine be ?_;refine sH [1,3,5,7,23,24,25,32,33,34,66,67,68] [1,7] ?_;refine bN ?_;refine GI ?_;refine rA ?_ (x:=cl (qs:=xd) ai fO jF ai rfl rfl rfl rfl rfl ax bP rfl);refine TI ?_;refine sG [1,3,5,7,23,24,25,32,33,34,66,67,68] [1,7] ?_;refine cf ?_;refine nx (j+1) (by refine ⟨ab,?_⟩;rw [←Nat.add_assoc,apv,hg,Bool.true_and];unfold qF;rw [hag.2,hvo,Bool.true_and,←hend3];rw [hend3] at hfr ⊢;exact hfr) (e:=(by exact aI (by exact bC (by rw [cI hlt2];simp only [bj,bn];rfl)) (aI ak tI)))):G:=h
def Ke (h:G:=by refine cz ?_;exact rb (by exact (awC hlt (Bool.eq_false_iff.2 fun hx=>by have hx:=Na.1 hx;rw [hgk] at hx;(try simp only [aE,Bool.and_eq_false_iff,decide_eq_false_iff_not] at *);omega)).symm)):G:=h
def zj1 (h:G:=by refine gw ?_;refine sS [0,3,4,5,6,7] [] ?_;exact Ke):G:=h
def Zmp (h:G:=by refine nx (k+1) (by exact ⟨ab,by rw [awB,ha,Bool.true_and];exact Na.2 (by rw [hgk];(try simp only [aE,aR,decide_eq_true_eq] at *);omega)⟩)):G:=h
def zj7 (h:G:=by refine aF ?_;refine sG [0,3,4,5,6,7] [] ?_;refine cf ?_;exact Zmp):G:=h
def zj8 (h:G:=by refine cz ?_;exact rb (by subst hend;exact ha.symm)):G:=h
def zjf (h:G:=by refine zC ?_;refine bJ ?_;exact Zmp):G:=h
def zjk (h:G:=by refine Ch ?_;refine nx (k+1) ab (e:=(by exact aI (by exact bC (by rw [ao8];simp [hc,ar])) (aI ak tI)))):G:=h
def zjp (h:G:=by refine cg ?_;exact (aI (by refine bC ?_;simp [rJ, *]) tI)):G:=h
def zjo (h:G:=by refine sS [2,3,4] [2,3] ?_;refine tR ?_;exact zjp):G:=h
def zjx (h:G:=by refine sG [0,1,4,5,6] [] ?_;refine bJ ?_;refine nx (k+1) (by exact ⟨ab,fun _=>hok2⟩) (e:=(by exact aI (by exact bC (by rw [xZ hlt,ic,bj];simp [hc,ar])) (aI ak tI)))):G:=h
def RN (h:G:=by
 have hfin:(k=a.length∧(fC a&&fC b)=true)∨(k=0∧(a.length=0∨(fC a&&fC b)=false)):=by
  by_cases h0k:0 < k
  ·left
   have:=ha h0k;refine ⟨?_,this⟩;rw [aR] at this;by_cases hka:k=a.length;·exact hka
   ·have:k < a.length:=by omega
    simp_all
  ·right
   refine ⟨ab,?_⟩;by_cases hka:a.length=0;·exact .inl hka
   ·right
    have:k < a.length:=ab;cases h1:fC a<;>cases h2:fC b<;>simp_all
 refine LV ?_;refine kt ?_;exact (aI (by refine bC ?_;rw [awF ha hfin]) tI)):G:=h
def EE (h:G:=by refine nG ?_;refine cz ?_;exact rb (by exact (Wx (fun e=>by subst e;simp at *)).symm)):G:=h
def EF (h:G:=by refine cz ?_;exact rb (by exact (Wx (awq hlt hlt2 (by intro e;simp [e,awu] at *))).symm)):G:=h
def Kf (h:G:=by refine sS [0,1,5] [] ?_;exact EF):G:=h
def zk6 (h:G:=by refine nx (k+1) (by exact ⟨ab,Ww ha hlt hlt2 da⟩)):G:=h
def Kg (h:G:=by refine cz ?_;exact rb (by exact (MZ (awr hl IS)).symm)):G:=h
def zka (h:G:=by refine be ?_;refine sS [0,1,12,13] [] ?_;exact Kg):G:=h
def zkc (h:G:=by refine di ?_;exact rb (by rw [Bool.eq_iff_iff];simp only [pL,awA];simp_all [pL])):G:=h
def Zmq (h:G:=by refine cz ?_;exact rb (by simp [eA,hbad])):G:=h
def zkf (h:G:=by
 have hbad:fq rR bq rT l=false:=vO hlt (Bool.eq_false_iff.2 fun hx=>by
  have hx:=mY.1 hx;rw [hgk] at hx;obtain ⟨hx1,hx2⟩:=hx;first
  | (simp_all;done)
  | (simp only [decide_eq_true_eq,rT] at *;by_cases h0:k=0<;>(try rw [hgp ab] at hx2)<;>omega))
 refine sS [0,3] [] ?_;exact Zmq):G:=h
def Zmr (h:G:=by refine nx (k+1) (by exact ⟨ab,by rw [GZ,ha,Bool.true_and];refine mY.2 ⟨DU,?_⟩;rcases Nat.eq_zero_or_pos k with h0|h0;(· exact .inl h0);(· right;rw [hgk,hgp h0];first|(simp only [decide_eq_true_eq,rT] at *;omega)|(simp_all;done))⟩)):G:=h
def zkh (h:G:=by refine zC ?_;refine bJ ?_;exact Zmr):G:=h
def zkj (h:G:=by refine Lv ?_;refine rA ?_ (x:=lZ);refine di ?_;exact rb (by simp [eA,hall])):G:=h
def zkl (h:G:=by have hyes:nL f v q.aJu[k]=true:=Ji;refine aF ?_;refine sG [1,2,3,7] [3] ?_;exact zi):G:=h
def zkp (h:G:=by refine sG [0,1,2,6,7,8] [] ?_;refine bJ ?_;refine nx (k+1) AW (e:=(by exact aI aas (aI ak tI)))):G:=h
def RO (h:G:=by
 have hfin:(k=l.length∧(eA l&&(aE f 0 2&&aE v 0 99))=true)∨(k=0∧(l.length=0∨(eA l&&(aE f 0 2&&aE v 0 99))=false)):=by
  by_cases h0k:0 < k
  ·left
   have h1:=ha h0k;refine ⟨?_,h1⟩;by_cases hka:k=l.length;·exact hka
   ·exfalso
    have hlt_:k < l.length:=ab;have hlt2_:(k:Int) < (l.length:Int):=ab;first|omega|simp_all
  ·right
   refine ⟨ab,?_⟩;by_cases hka:l.length=0;·exact .inl hka
   ·right
    have hlt_:k < l.length:=ab;have hlt2_:(k:Int) < (l.length:Int):=ab;rw [←Bool.not_eq_true];intro hc_;simp_all
 refine be ?_;refine sS [0,1,2,6,7,8] [] ?_;refine kt ?_;exact (aI (by refine bC ?_;rw [axj hfin]) tI)):G:=h
def zkr (h:G:=by refine rM ?_;refine rN 22 ?_;refine dO ?_;refine fY ?_;exact RO):G:=h
def RP (h:G:=by have hok:(eA l&&aE f 0 2)=false:=da;refine sS [0,1,4,5] [] ?_;refine kt ?_;exact (aI (by refine bC ?_;unfold gY;rw [if_neg qj];rfl) tI)):G:=h
def zku (h:G:=by refine ie ?_;exact RP):G:=h
def zl6 (h:G:=by refine bJ ?_;refine nx (k+1) ab (e:=(by exact aI (by first|exact bC (by rw [dk,apC hls,bj,←hse];exact rfl)|exact bC (by rw [dk,apB hls])) (aI ak tI)))):G:=h
def zl7 (h:G:=by
 have hls:nN (dk l f k) (ij l f (k:Int))=false:=by
  by_cases h0:(dk l f k).length=0;·simp [nN,h0]
  ·simp_all [nN]
 refine zU ?_;refine bN ?_;refine fA ?_;refine bN ?_;refine rA ?_ (x:=bZ (qs:=JG) (cs:=Ew) ai Av NL aAS ak sZ rfl ak);refine Zms ?_;refine dG ?_;refine sG [0,1,4,5,6,8] [] ?_;exact zl6):G:=h
def zl8 (h:G:=by have hend:k=100:=ab;refine LV ?_;refine kt ?_;exact (aI (by refine bC ?_;unfold gY;rw [if_pos hok,hend]) tI)):G:=h
def RQ (h:G:=by refine nx (k+1) (by exact ⟨ab,CT ha hlt hno⟩)):G:=h
def zld (h:G:=by refine bJ ?_;exact RQ):G:=h
def zlf (h:G:=by refine cg ?_;exact (aI (by refine bC ?_;rw [axk ha];exact rfl) tI)):G:=h
def zlg (h:G:=by refine nx (k+1) (by exact ⟨ab,Ww ha hlt hlt2 (by rw [awM];simp_all [pL])⟩)):G:=h
def zlk (h:G:=by refine cg ?_;exact (bc 2 (bc _ (aI ak (aI ak (aI gW (aI (fun h=>nomatch h) tI))))))):G:=h
def zls (h:G:=by refine Zmt ?_;exact (bc 2 (bc _ (aI ak (aI (by refine dp ?_;rw [axs hok];exact rfl) (aI wn (aI (fun h=>nomatch h) tI))))))):G:=h
def zlw (h:G:=by refine dA 28 ?_ (x:=cl (qs:=bV) ai wm aqL ai rfl rfl rfl rfl rfl ax bP rfl);refine dA 63 ?_ (x:=fe ai wm aqL rfl rfl ai rfl bo bo);refine dA 127 ?_ (x:=lF Do);refine dA 255 ?_ (x:=bO (ag:=false) (vs:=[sl _ _]) Dr aq ak ax);refine sW [0,2,3,4] [2] [3] ?_;refine bJ ?_;refine nx (k+1) ab (e:=lT) (f:=(by exact aI (by simp only [axq];show _=some (260,(Wy oo aG aj yW rh aj) (eb.mk l (yj l k++[gY l (k:Int)])));simp only [Wy,bj];exact rfl) tI))):G:=h
def zlx (h:G:=by have hend:k=3:=ab;refine be ?_;refine sT [0,2,3,4] [2,3] ?_;refine rA ?_ (x:=fp (ms:=px) (qs:=xf) ai wn (fun h=>nomatch h) ax ak PE aJ);refine Zmt ?_;exact (bc 2 (bc _ (aI ak (aI (by refine dp ?_;subst hend;rw [axr hok];exact rfl) (aI wn (aI (fun h=>nomatch h) tI))))))):G:=h
def RR (h:G:=by
 have hbad:fD x=false:=by first|(simp_all [fD];done)|(simp_all [fD];omega)
 exact Kd):G:=h
def zm0 (h:G:=by refine ie ?_;exact RR):G:=h
def zm3 (h:G:=by refine nx (k+1) (by exact ⟨ab,by rw [axl,ha,hd];rfl⟩)):G:=h
def zm4 (h:G:=by refine cz ?_;exact rb (by unfold fD;rw [hpr,ha];rfl)):G:=h
def zm6 (h:G:=by
 have hno:(aE (o.getD k 0) 0 2&&!cn (o.take k) (o.getD k 0))=false:=by rw [←hgk];simp_all
 refine GA ?_;exact rb ((axo hl3 ab hno).symm)):G:=h
def RS (h:G:=by refine xA ?_;refine dG ?_;refine di ?_;exact (aI (by refine bC ?_;rw [hpe]) (aI (by refine cy ?_;rw [hpe]) tI))):G:=h
def zm8 (h:G:=by
 have hfin:k=o.length∨(gZ x r o k).1=[]:=by
  by_cases hka:k=o.length;·exact .inl hka
  ·right
   have hlt_:k < o.length:=ab;have hlt2_:(k:Int) < (o.length:Int):=ab;first|omega|(rw [←List.length_eq_zero_iff];first|omega|(simp_all;done))
 have hpe:=Ns (x:=x) (r:=r) hfin;refine be ?_;refine sT [2,3,4,6,7,8,9,10] [3,4] ?_;exact RS):G:=h
def zmb (h:G:=by refine sS [0,2,3,4,5] [] ?_;refine mS ?_;refine rA ?_ (x:=xj aBp arh abb);refine rA ?_ (x:=cl (qs:=aH) ai vQ XE ai rfl rfl rfl rfl rfl ax bP rfl);refine rA ?_ (x:=Rw aBr arh aBq);refine tD ?_;refine rS ?_;refine sG [0,2,3,4,5] [] ?_;refine rM ?_;refine rA ?_ (x:=Rx);refine rS ?_;refine nx (q.1.tdiv 10,kr [48+((q.1.natAbs%10:Nat):Int)]++q.2) (by exact ⟨by have:=Dk q.1;unfold dN;omega,axv hto hq0 rfl⟩) (b:=(by have:=Dk q.1;dsimp only;omega)) (e:=(by exact aI ak (aI (by exact congrArg (fun z=>some (RV.sc (.string (B (kr [48+z]++q.2))))) hd_) tI)))):G:=h
def zmh (h:G:=by refine sG [0,2,3,4] [] ?_;refine rM ?_;refine zG ?_;refine Fw ?_;refine rS ?_;refine Ch ?_;refine nx (k+1) ab (e:=(by exact aI (by first|exact congrArg (fun z=>some (RV.sc (.string (B z)))) (by rw [hsc,if_neg hk0])|exact congrArg (fun z=>some (RV.sc (.string (B z)))) (by rw [hsc,if_pos hk0];subst hk0;rfl)) (aI ak tI)))):G:=h
def EG (h:G:=by
 have hbad:dI x=false:=by first|(simp_all [dI,pU,aE];done)|(simp_all [dI,pU,aE];rfl)|(simp_all [dI,pU,aE];omega)|(simp_all [dI,pU,aE];intros;omega)
 refine nE ?_;exact rx):G:=h
def Kh (h:G:=by refine me ?_;exact EG):G:=h
def Zmu (h:G:=by refine cz ?_;exact rb ((axA hlt hno).symm)):G:=h
def zms (h:G:=by have hno:tZ x k=false:=Jf;refine sS [1,3,4,33,34] [1] ?_;exact Zmu):G:=h
def zmt (h:G:=by refine nx (k+1) (by exact ⟨ab,by rw [axz,ha,hyes];rfl⟩)):G:=h
def zmv (h:G:=by refine di ?_;exact rb (by simp_all [dI])):G:=h
def zn1 (h:G:=by refine rM ?_;refine rY 34 ?_;refine xI ?_;refine rY 40 ?_;exact Kh):G:=h
def zmy (h:G:=by refine rM ?_;refine rY 27 ?_;refine mT ?_;exact zn1):G:=h
def zmx (h:G:=by refine rM ?_;refine rY 20 ?_;refine mT ?_;exact zmy):G:=h
def zn7 (h:G:=by have hno:tZ x k=false:=Jf;refine sS [1,3,4] [1] ?_;exact Zmu):G:=h
def zn9 (h:G:=by have hok:dI x=false:=cZ;refine pI ?_;refine cz ?_;exact (aI (by refine cy ?_;unfold ub;rw [if_neg qj]) tI)):G:=h
def znc (h:G:=by refine nx (k+1) ab (e:=(by exact aI (by exact cy (by rw [Nu,←Int.add_assoc];unfold Am;rw [←dH hlt])) (aI ak tI)))):G:=h
def znd (h:G:=by refine vn ?_;exact (aI (by refine cy ?_;unfold ub;rw [if_pos hok,hend]) tI)):G:=h
def znj (h:G:=by refine nx (k+1) ab (e:=(by exact aI (by exact cy (by rw [apN hlt])) (aI ak tI)))):G:=h
def Ki (h:G:=by refine vn ?_;exact (aI (by refine cy ?_;rw [hend,bF];rfl) tI)):G:=h
def zno (h:G:=by refine sG [1,2,3,4,5,6,7,17,18,19] [1] ?_;refine CB ?_;refine sG [1,2,3,4,5,6,7,17,18,19] [1] ?_;refine cf ?_;refine nx (k+1) ab (e:=(by exact aI (by first|exact bC (by rw [List.range_succ,bj,bj];simp only [List.map_cons,List.map_nil];unfold nP;rw [←dH hrl,if_pos hc];rfl)|exact bC (by rw [List.range_succ,bj,bj];simp only [List.map_cons,List.map_nil];unfold nP;rw [←dH hrl,if_neg hc];rfl)|exact bC (by rw [List.range_succ,bj,bj];simp only [List.map_cons,List.map_nil];unfold nP;rw [←dH hrl,if_neg hc,Int.add_zero];rfl)) (aI ak tI)))):G:=h
def znp (h:G:=by refine sG [1,2,3,4,5,6] [1] ?_;refine CB ?_;refine sG [1,2,3,4,5,6] [1] ?_;refine bJ ?_;refine nx (k+1) AW (e:=(by exact aI (by first|exact bC (by rw [List.range_succ,bj,bj];simp only [List.map_cons,List.map_nil];unfold nP;rw [←dH hrl,if_pos hc];rw [Int.add_comm (x.Base.tdiv _)];rfl)|exact bC (by rw [List.range_succ,bj,bj];simp only [List.map_cons,List.map_nil];unfold nP;rw [←dH hrl,if_neg hc];rw [Int.add_comm (x.Base.tdiv _)];rfl)|exact bC (by rw [List.range_succ,bj,bj];simp only [List.map_cons,List.map_nil];unfold nP;rw [←dH hrl,if_neg hc,Int.add_zero];rw [Int.add_comm (x.Base.tdiv _)];rfl)) (aI ak tI)))):G:=h
def znq (h:G:=by
 have hfin:(k=x.Ids.length∧dI x=true)∨(k=0∧(x.Ids.length=0∨dI x=false)):=by
  by_cases h0k:0 < k
  ·left
   have h1:=ha h0k;refine ⟨?_,h1⟩;by_cases hka:k=x.Ids.length;·exact hka
   ·exfalso
    have:k < x.Ids.length:=ab;simp_all
  ·right
   refine ⟨ab,?_⟩;by_cases hka:x.Ids.length=0;·exact .inl hka
   ·right
    have:k < x.Ids.length:=ab;cases h1:dI x<;>simp_all
 refine be ?_;refine sT [1,2,3,4,5] [1] ?_;refine kt ?_;exact (aI (by refine bC ?_;rw [axC hfin]) tI)):G:=h
def Zmv (h:G:=by refine nx (k2+1) ab (e:=(by exact aI (by first|exact cy (by rw [Nu,←Int.add_assoc];congr 1;unfold rV;rw [←dH htl,if_pos hc,←dH hlt2])|exact cy (by rw [Nu];unfold rV;rw [←dH htl,if_neg hc,Int.add_zero])) (aI ak tI)))):G:=h
def zns (h:G:=by refine sG [0,1,4,5,7,8,9,10,11,12,17,18,19] [7] ?_;refine cf ?_;exact Zmv):G:=h
def znt (h:G:=by refine nx (k+1) ab (e:=(by exact aI (by exact cy (by rw [apN hlt,hend2];rfl)) (aI ak tI)))):G:=h
def znv (h:G:=by refine zU ?_;refine bJ ?_;exact Zmv):G:=h
def zo1 (h:G:=by
 have hbad:fq 0 (oL s.aJr.length) oM a.aJB=false:=vO hlt (Bool.eq_false_iff.2 fun hx=>by
  have hx:=mY.1 hx;rw [hgk] at hx;obtain ⟨hx1,hx2⟩:=hx;first
  | (simp_all;done)
  | (simp only [decide_eq_true_eq,oM,oL,aE,aR,Bool.and_eq_false_iff,decide_eq_false_iff_not] at *;by_cases h0:k=0<;>(try rw [hgp ab] at hx2)<;>omega))
 refine sS [2,3,5,6,8,9,10] [2,3] ?_;refine cz ?_;exact rb (by simp [gM,oN,hbad])):G:=h
def Zmw (h:G:=by refine nx (k+1) (by exact ⟨ab,by rw [GZ,ha,Bool.true_and];refine mY.2 ⟨DU,?_⟩;rcases Nat.eq_zero_or_pos k with h0|h0;(· exact .inl h0);(· right;rw [hgk,hgp h0];first|(simp only [decide_eq_true_eq,oM,oL,aE,aR,Bool.and_eq_false_iff,decide_eq_false_iff_not] at *;omega)|(simp_all;done))⟩)):G:=h
def zo2 (h:G:=by refine aF ?_;refine sG [2,3,5,6,8,9,10] [2,3] ?_;refine cf ?_;exact Zmw):G:=h
def RT (h:G:=by refine di ?_;exact rb (by first|(simp_all [gM,oN];done)|(simp_all [gM,oN];rfl)|(simp_all [gM,oN];omega)|(simp_all [gM,oN];intros;omega))):G:=h
def zo7 (h:G:=by refine rM ?_;refine rN 68 ?_;refine dO ?_;exact RT):G:=h
def zo8 (h:G:=by refine rM ?_;refine rN 63 ?_;refine dO ?_;exact zo7):G:=h
def zo9 (h:G:=by refine rM ?_;refine rN 58 ?_;refine dO ?_;exact zo8):G:=h
def zoa (h:G:=by refine rM ?_;refine rN 53 ?_;refine dO ?_;exact zo9):G:=h
def zob (h:G:=by
 have hbad:fq 0 (oL n) oM l=false:=vO hlt (Bool.eq_false_iff.2 fun hx=>by
  have hx:=mY.1 hx;rw [hgk] at hx;obtain ⟨hx1,hx2⟩:=hx;first
  | (simp_all;done)
  | (simp only [decide_eq_true_eq,oM,oL,aE,aR,Bool.and_eq_false_iff,decide_eq_false_iff_not] at *;by_cases h0:k=0<;>(try rw [hgp ab] at hx2)<;>omega))
 refine sS [0,1,5] [] ?_;refine cz ?_;exact rb (by simp [oN,hbad])):G:=h
def zoc (h:G:=by refine Gg ?_;refine bJ ?_;exact Zmw):G:=h
def RU (h:G:=by refine di ?_;exact rb (by first|(simp_all [gM];done)|(simp_all [gM];rfl)|(simp_all [gM];omega)|(simp_all [gM];intros;omega))):G:=h
def zoj (h:G:=by refine rM ?_;refine rN 40 ?_;refine dO ?_;exact RU):G:=h
def zok (h:G:=by refine rM ?_;refine rN 35 ?_;refine dO ?_;exact zoj):G:=h
def zol (h:G:=by refine rM ?_;refine rN 30 ?_;refine dO ?_;exact zok):G:=h
def zom (h:G:=by refine rM ?_;refine rN 25 ?_;refine dO ?_;exact zol):G:=h
def EH (h:G:=by
 have hpr:nc e=false:=by first|(simp_all [nc];done)|(simp_all [nc];omega)|(rw [←Bool.not_eq_true];intro hc_;simp [nc] at hc_;simp_all;done)|(rw [←Bool.not_eq_true];intro hc_;simp [nc] at hc_;omega)
 have hbad:=apP hpr;exact Kd):G:=h
def Kj (h:G:=by refine me ?_;exact EH):G:=h
def RW (h:G:=by have hpr:nc e=false:=abX;have hbad:=apP hpr;exact Kd):G:=h
def BA (h:G:=by refine cz ?_;exact rb (hbad2.symm)):G:=h
def zp1 (h:G:=by
 have hbad:fq kV (gM e.Store) pV e.aJs=false:=vO hlt (Bool.eq_false_iff.2 fun hx=>by
  have hx:=mY.1 hx;rw [hgk] at hx;obtain ⟨hx1,hx2⟩:=hx;first
  | (simp_all;done)
  | (simp only [decide_eq_true_eq,pV] at *;by_cases h0:k=0<;>(try rw [hgp ab] at hx2)<;>omega))
 have hbad2:=apQ hbad;refine sS [1,3,4,53,54,55] [1,4] ?_;exact BA):G:=h
def Zmx (h:G:=by refine nx (k+1) (by exact ⟨ab,by rw [GZ,ha,Bool.true_and];refine mY.2 ⟨DU,?_⟩;rcases Nat.eq_zero_or_pos k with h0|h0;(· exact .inl h0);(· right;rw [hgk,hgp h0];first|(simp only [decide_eq_true_eq,pV] at *;omega)|(simp_all;done))⟩)):G:=h
def zp2 (h:G:=by refine aF ?_;refine sG [1,3,4,53,54,55] [1,4] ?_;refine cf ?_;exact Zmx):G:=h
def RX (h:G:=by have hno:(mn e.Store.Now) e.Done[k]=false:=IN;have hbad2:=apR (qE hlt hno);refine sS [1,6,53,54,55,85,86,87] [1,6] ?_;exact BA):G:=h
def zp6 (h:G:=by refine rM ?_;refine rY 110 ?_;refine me ?_;exact RX):G:=h
def zpa (h:G:=by refine cz ?_;exact rb ((apT hpr hall hfa hla).symm)):G:=h
def zph (h:G:=by refine rM ?_;refine rY 40 ?_;refine xI ?_;refine rY 46 ?_;exact Kj):G:=h
def zpf (h:G:=by refine rM ?_;refine rY 34 ?_;refine mT ?_;exact zph):G:=h
def zpc (h:G:=by refine rM ?_;refine rY 28 ?_;refine mT ?_;exact zpf):G:=h
def zpl (h:G:=by
 have hbad:fq kV (gM e.Store) pV e.aJs=false:=vO hlt (Bool.eq_false_iff.2 fun hx=>by
  have hx:=mY.1 hx;rw [hgk] at hx;obtain ⟨hx1,hx2⟩:=hx;first
  | (simp_all;done)
  | (simp only [decide_eq_true_eq,pV] at *;by_cases h0:k=0<;>(try rw [hgp ab] at hx2)<;>omega))
 have hbad2:=apQ hbad;refine sS [1,3] [1] ?_;exact BA):G:=h
def zpm (h:G:=by refine Cn ?_;refine bJ ?_;exact Zmx):G:=h
def RY (h:G:=by have hno:(mn e.Store.Now) e.Done[k]=false:=IN;have hbad2:=apR (qE hlt hno);refine sS [1,3,4,5] [1,5] ?_;exact BA):G:=h
def zpo (h:G:=by refine rM ?_;refine rY 120 ?_;refine me ?_;exact RY):G:=h
def zpu (h:G:=by
 have hbad:fq rR bq rT l=false:=vO hlt (Bool.eq_false_iff.2 fun hx=>by
  have hx:=mY.1 hx;rw [hgk] at hx;obtain ⟨hx1,hx2⟩:=hx;first
  | (simp_all;done)
  | (simp only [decide_eq_true_eq,rT] at *;by_cases h0:k=0<;>(try rw [hgp ab] at hx2)<;>omega))
 refine sS [0,3,4,5,6,7] [4] ?_;exact Zmq):G:=h
def zpv (h:G:=by refine aF ?_;refine sG [0,3,4,5,6,7] [4] ?_;refine cf ?_;exact Zmr):G:=h
def zpx (h:G:=by refine sG [0,1,2,6,7,9,11,12,13] [9] ?_;refine cf ?_;refine nx (k+1) ab (e:=(by exact aI aas (aI ak tI)))):G:=h
def zpz (h:G:=by refine bJ ?_;refine nx (k+1) ab (e:=(by exact aI (by first|exact bC (by rw [dk,apC hls,bj];exact rfl)|exact bC (by rw [dk,apB hls])) (aI ak tI)))):G:=h
def zq0 (h:G:=by
 have hls:nN (dk l f k) (ij l f (k:Int))=false:=by
  by_cases h0:(dk l f k).length=0;·simp [nN,h0]
  ·simp_all [nN]
 refine zU ?_;refine bN ?_;refine fA ?_;refine bN ?_;refine rA ?_ (x:=bZ (qs:=JG) (cs:=Ew) ai Av NL aBH ak sZ rfl ak);refine Zms ?_;refine dG ?_;refine sG [0,1,4,5,6,8] [] ?_;exact zpz):G:=h
def zq6 (h:G:=by refine gw ?_;refine sS [0,1,5,6,12,13,14] [6] ?_;exact EF):G:=h
def zqg (h:G:=by refine cg ?_;exact (bc 2 (bc _ (aI ak (aI ak (aI qP (aI (fun h=>nomatch h) tI))))))):G:=h
def zr2 (h:G:=by refine KD ?_;refine cg ?_;exact (bc 2 (bc _ (aI ak (aI (by refine dp ?_;rw [hend,bF];exact rfl) (aI iv (aI (fun h=>nomatch h) tI))))))):G:=h
def Zmy (h:G:=by refine nx (k+1) ab (f:=(by exact aI (by rw [xZ hlt];simp only [bj];exact rfl) tI))):G:=h
def Kk (h:G:=by refine bJ ?_;exact Zmy):G:=h
def RZ (h:G:=by refine cf ?_;exact Zmy):G:=h
def zre (h:G:=by refine qw ?_;refine cg ?_;exact (bc 2 (bc _ (aI ak (aI (by refine dp ?_;rw [hend2,bF];exact rfl) (aI du (aI (fun h=>nomatch h) tI))))))):G:=h
def zrw (h:G:=by refine cz ?_;exact (aI (by refine ff ?_;exact hR (by unfold qL;rw [if_neg qj])) tI)):G:=h
def zs1 (h:G:=by refine cg ?_;exact (aI (by refine ff ?_;exact hR (by unfold qL;rw [if_pos hok];try first|rfl|(simp [ud,cQ,Lib.join_cons,Lib.joinTail,bn];done))) tI)):G:=h
def zsv (h:G:=by refine sG [1,2,4,5,6,7,8,9,11,19,20,21,27,28,29,2900,6000] [2,4,6,11,900] ?_;refine cf ?_;refine nx (j+1) ab (e:=(by exact aI aa8 (aI lh tI)))):G:=h
def zt8 (h:G:=by refine dA 511 ?_ (x:=sA);refine UD ?_;refine nx (m+1) ab (e:=(by exact aI (by exact er (by rw [axT hlm,hg];rfl)) (aI lh tI)))):G:=h
def zt9 (h:G:=by refine UD ?_;refine nx (j+1) ab (e:=(by exact aI (by first|exact cy (by rw [ax2 hls hlj2 hnd])|exact cy (by rw [ax3 hls hlj2 hnd];omega)) (aI aa8 (aI lh tI))))):G:=h
def zte (h:G:=by refine fA ?_;refine rS ?_;refine di ?_;exact (aI (by refine cy ?_;rw [hfa.1]) (aI (by refine cy ?_;rw [hfa.2]) tI))):G:=h
def Zmz (h:G:=by refine nx (j+1) (by exact ⟨ab,CT hc hlt2 hno2⟩) (e:=lT)):G:=h
def ztf (h:G:=by have hno2:mw id s.aJr[i][j]=false:=IM;refine aF ?_;refine sG [1,2,6,7,8,9,11,12,13,18,19,20] [2,9] ?_;refine cf ?_;exact Zmz):G:=h
def ztg (h:G:=by refine nx (i+1) abO (e:=lT)):G:=h
def zth (h:G:=by refine rK ?_;refine cz ?_;exact (aI (by refine cy ?_;rw [hfn.1]) (aI (by refine cy ?_;rw [hfn.2]) tI))):G:=h
def ztj (h:G:=by have hno2:mw id s.aJr[i][j]=false:=IM;refine aF ?_;refine sG [1,2,6,7] [2] ?_;refine bJ ?_;exact Zmz):G:=h
def Zn0 (h:G:=by refine Zn1 ?_;exact (bc 4 (bc _ (aI ak (aI (by refine dp ?_;rw [HE hno];exact rfl) (aI iv (aI (fun h=>nomatch h) (aI (by refine er ?_;rw [HE hno]) tI)))))))):G:=h
def Sa (h:G:=by refine GN ?_;exact Zn0):G:=h
def Kl (h:G:=by have hno:lM s u=false:=aa7;refine sS [2,3,4,5,6] [2,3,4,6] ?_;exact Sa):G:=h
def ztn (h:G:=by refine me ?_;exact Kl):G:=h
def zto (h:G:=by refine tK ?_;exact Kl):G:=h
def Zn2 (h:G:=by
 refine oB ?_;refine CP ?_;refine aq9 (s:=9) ak (show _=RV.slc aj ((le s u).map ar) from by first|(rw [hv2];done)|(rw [hv2];exact rfl)) ?_;refine sG [2,3,4,5,6,7,8,9] [2,3,4,6] ?_;refine Gr ?_;refine sc ?_ ?_<;>intro hbe;have hk2:u.Kind=2:=Jl;have hok:=NU hos hou hnw hkd (.inl hk2);refine CO ?_;refine zI ?_;exact (bc 4 (bc _ (aI ak (aI (by refine dp ?_;rw [AB hok hk2];exact rfl) (aI iv (aI (fun h=>nomatch h) (aI (by refine er ?_;rw [AB hok hk2]) tI)))))));have hk2:¬u.Kind=2:=Jl;have hu0:0 < (en s u).length:=ab;refine cm ?_;refine bd ?_;refine CP ?_;refine nC (d:=6) (t:=41) (D:=910) (G:=2910) (E:=114) (e:=1) (L:=(Lw w0.heap.size)) (A:=[]) (B:=[val _]) (es:=((en s u)).map (aQ ba aj)) ak (lp hu0) ak ak rfl ak (fun x hx=>hx) aJ aJ yO lR (aw.map fun x=>(aw.cons (lcl_own (aw.map fun x=>(aw.cons lcl_val (aw.cons (lcl_own (aw.map fun x=>(aw.cons lcl_val aw.nil))) (aw.cons lcl_val (aw.cons lcl_val aw.nil)))))) aw.nil)) fun uu910 cp910 jk910 hlD910 hcp910 hjk910=>?_;rw [aU] at hlD910 hcp910 hjk910;refine eX (d:=910) ak (show _=bX (aQ ba aj) ((en s u)) jk910 from rfl) ?_;refine sO [(2,_),(3,_),(4,_),(5,_),(6,_),(7,_),(8,_),(9,_),(2910,_)] [(2,_),(3,_),(4,_),(6,(41,mO)),(910,(114,bX (aQ ba aj) _ _))] ?_;refine fV ?_;refine BZ ?_;refine rA ?_ (x:=acV (G:=2910) ai hY);refine ek ?_;refine sP [2,3,4,5,6,7,8,9,87,88,89,2910] [2,3,4,6,910] ?_;refine aX [2,3,4,6,7,8,9,87,88,2910] [2,3,4,6,910] (fun m=>m≤s.aJr.length∧(s.aJr.take m).any kz=false) (fun m=>[(89,RV.int (m:Int))]) s.aJr.length gH bp ?_;rintro m ⟨hm,ha⟩;refine bQ ?_;refine sc ?_ ?_<;>intro hbf;try simp only [aU] at hbf
 have hlt:m < s.aJr.length:=ab;have hum:m < (en s u).length:=ab;have hua:=NR s u hum hlt;have hs4m:=hs4 _ (List.getElem_mem hlt);refine fH ?_;refine Zn3 ?_;refine eX (d:=910) ak (qt (f:=(aQ ba aj)) (xs:=(en s u)) (k:=m) hum) ?_;have hA910:=mK (f:=(aQ ba aj)) (e:=1) (xs:=(en s u)) (k:=m) (fun _=>rfl) (Nat.le_of_lt hum);refine sO [(2,_),(3,_),(4,_),(6,_),(7,_),(8,_),(9,_),(87,_),(88,_),(89,_),(2910,_)] [(2,_),(3,_),(4,_),(6,_),(910,(114,_++([sl _ _]++_)))] ?_;refine aA4 (d:=910) (A:=_) (B:=[]++_) ak fun vN=>?_;refine sO [(2,_),(3,_),(4,_),(6,_),(7,_),(8,_),(9,_),(87,_),(88,_),(89,_),(2910,_)] [(2,_),(3,_),(4,_),(6,_),(910,(114,_++([nv _ (sl _ _)]++_)))] ?_;refine fV ?_;refine rM ?_;refine rA ?_ (x:=mL (k:=m) (G:=2910) ai hY aq ab aaI);refine rA ?_ (x:=yX (o:=0) (qs:=Ex) ab ai oR (fun _=>rfl) ax wK Pw);refine rS ?_;refine rA ?_ (x:=lW (r':=RV.sv false Ex) (.inr rfl) ai aaA);refine sS [2,3,4,6,7,8,9,10,11,87,88,89,2910] [2,3,4,6,910] ?_;refine Zgz ?_;refine sc ?_ ?_<;>intro hbg;have hsm:kz s.aJr[m]=true:=by unfold kz;rw [decide_eq_true_eq];omega
 have hrm:=arv hlt ha hsm;have hok:=NU hos hou hnw hkd (.inr ab);have hpv:=AD (v:=nY s u) hum;refine bd ?_;refine Wk ?_;refine aA6 (d:=910) (G:=6400) (A:=_) (B:=[]++_) ak ak xc (bor_sl _) ?_;refine sO [(2,_),(3,_),(4,_),(6,_),(7,_),(8,_),(9,_),(10,_),(11,_),(87,_),(88,_),(89,_),(2910,_),(6400,_)] [(2,_),(3,_),(4,_),(6,_),(910,(114,_++([sl _ _]++_)))] ?_;refine yY (s:=11) (G:=6400) ak (by exact (Nm.nv Nm.nil)) rfl ai ak ?_;refine Wk ?_;refine cK ?_;refine Gv ?_;refine dA 0 ?_ (x:=tM);refine dA 0 ?_ (x:=lF Db);refine dA 16 ?_ (x:=lF mi);refine dA 48 ?_ (x:=lD [val _] aT);refine dA 0 ?_ (x:=tM);refine UT ?_;refine dA 1008 ?_ (x:=bZ (qs:=Es) (cs:=ro) ai jF Ax asd ak abl rfl ak);refine dA 2032 ?_ (x:=cl (qs:=xd) ai fO jF ai rfl rfl rfl rfl rfl ax bP rfl);refine dA 4088 ?_ (x:=fe ai fO jF rfl rfl ai rfl bo bo);refine dA 8191 ?_ (x:=mL (k:=m) (G:=2910) ai hY aq ab aaI);refine dA 16383 ?_ (x:=to (o:=0) (ag:=false) (vs:=[sl _ _]) ab oR aq ak ax);refine eX (d:=910) ak (tt ((en s u)[m]++[nY s u]) hum abx) ?_;refine uL (d:=6) (D:=910) (G:=2910) (e:=1) (A:=[]) (B:=[val _]) (es:=(((en s u)).set m ((en s u)[m]++[nY s u])).map (aQ ba aj)) ak ak ak rfl uw ra (by rw [aU];exact hjk910) ?_;refine sV [2,3,4,6,7,8,10,87,88,89] [2,3,4] [6] ?_;refine zI ?_;exact (bc 4 (bc _ (aI ak (aI (by refine dp ?_;rw [Du hok hk2 hrm,hpv];exact rfl) (aI iv (aI (fun h=>nomatch h) (aI (by refine er ?_;rw [Du hok hk2 hrm]) tI)))))));have hns:kz s.aJr[m]=false:=by unfold kz;rw [decide_eq_false_iff_not];omega
 refine aF ?_;refine Wk ?_;refine aA5 (d:=910) (A:=_) (B:=[]++_) ak ?_;refine sO [(2,_),(3,_),(4,_),(6,_),(7,_),(8,_),(9,_),(10,_),(11,_),(87,_),(88,_),(89,_),(2910,_)] [(2,_),(3,_),(4,_),(6,_),(910,(114,_++([sl _ _]++_)))] ?_;refine eX (d:=910) ak (show _=bX (aQ ba aj) (en s u) jk910 from (qt (f:=(aQ ba aj)) (xs:=(en s u)) (k:=m) hum).symm) ?_;refine sO [(2,_),(3,_),(4,_),(6,_),(7,_),(8,_),(9,_),(10,_),(11,_),(87,_),(88,_),(89,_),(2910,_)] [(2,_),(3,_),(4,_),(6,_),(910,(114,bX (aQ ba aj) _ _))] ?_;refine fV ?_;refine cf ?_;refine nx (m+1) (by exact ⟨ab,CT ha hlt hns⟩) (e:=lT);try simp only [aU] at hbf
 have hend:m=s.aJr.length:=ab;have hrn:=arw Is;have hno:lM s u=false:=aa7;refine fG ?_;refine Zn3 ?_;refine fV ?_;refine Ud ?_;exact Zn0):G:=h
def zub (h:G:=by refine oB ?_;refine CP ?_;refine Zn5 ?_;refine CP ?_;refine aq9 (s:=9) ak (show _=RV.slc aj ((hZ s u).map ar) from by first|(rw [hu2];done)|(rw [hu2];exact rfl)) ?_;refine sG [2,3,4,5,6,7,8,9] [2,3,4,6] ?_;refine Gr ?_;refine sc ?_ ?_<;>intro hbd;have hk3:u.Kind=3:=tb;have hge3:0≤cW s u.Row.Id:=ab;have hv3:=NT (u:=u) hos hge3;have hf3:=XZ hou hk3;have hfl:u.Field.toNat < (hZ s u).length:=ab;have hv2:le s u=(hZ s u).set u.Field.toNat u.Value:=if_pos hk3;refine CP ?_;refine QV (s:=9) (D:=930) (G:=2930) (E:=3) (e:=1) (L:=(Lw w0.heap.size)) (es:=((hZ s u)).map ar) ak (lp hfl) ak ak rfl ak (fun x hx=>hx) aJ aJ (aw.map fun x=>(aw.cons lcl_val aw.nil)) fun uu930 cp930 jk930 hlD930 hcp930 hjk930=>?_;rw [aU] at hlD930 hcp930 hjk930;refine Wl ?_;have hA930:=mK (f:=ar) (e:=1) (xs:=(hZ s u)) (k:=u.Field.toNat) (fun _=>rfl) (Nat.le_of_lt hfl);refine sO [(2,_),(3,_),(4,_),(5,_),(6,_),(7,_),(8,_),(9,_),(2930,_)] [(2,_),(3,_),(4,_),(6,_),(930,(3,_++([val _]++_)))] ?_;refine fV ?_;refine rA ?_ (x:=vM false [val _]);refine Vn ?_;refine Vo ?_;refine TG ?_;refine eX (d:=930) ak (tt u.Value hfl ak) ?_;refine acU (s:=9) (D:=930) (G:=2930) (e:=1) (es:=(((hZ s u)).set u.Field.toNat u.Value).map ar) ak ak ak rfl ai uw ra aaY ?_;exact Zn2;have hk3n:¬u.Kind=3:=tb;have hv2:le s u=hZ s u:=if_neg hk3n;refine aF ?_;exact Zn2):G:=h
def zue (h:G:=by
 have hno:lM s u=false:=by rw [←Bool.not_eq_true];intro hc_;obtain ⟨h1_,h2_,h3_,h4_,h5_⟩:=AC hc_;by_cases h1:0≤cW s u.Row.Id<;>by_cases h2:u.Kind=1<;>by_cases h3:u.Kind=2<;>by_cases h4:0≤lb s.aJr<;>by_cases h6:cW s u.Row.Id < 0<;>(first|omega|(simp_all;done)|(simp_all;omega))
 refine CO ?_;exact Sa):G:=h
def Zna (h:G:=by refine zI ?_;exact (bc 4 (bc _ (aI ak (aI (by refine dp ?_;first|(rw [Du hok hk2 hrm,hpv];exact rfl)|(rw [AB hok hk2];exact rfl)) (aI iv (aI (fun h=>nomatch h) (aI (by refine er ?_;first|(rw [Du hok hk2 hrm];done)|(rw [AB hok hk2];done)) tI)))))))):G:=h
def Znb (h:G:=by obtain ⟨r,hr,hrm,hr4⟩:=XW (hrr.resolve_left hk2);have hru:r < (en s u).length:=ab;have hua:=NR s u hru hr;have hpv:=AD (v:=nY s u) hru;refine GW ?_;refine nC (d:=6) (t:=41) (D:=940) (G:=2940) (E:=114) (e:=1) (L:=(Lw w0.heap.size)) (A:=[]) (B:=[val _]) (es:=((en s u)).map (aQ ba aj)) ak (lp hru) ak ak rfl ak (fun x hx=>hx) aJ aJ yO lR (aw.map fun x=>(aw.cons (lcl_own (aw.map fun x=>(aw.cons lcl_val (aw.cons (lcl_own (aw.map fun x=>(aw.cons lcl_val aw.nil))) (aw.cons lcl_val (aw.cons lcl_val aw.nil)))))) aw.nil)) fun uu940 cp940 jk940 hlD940 hcp940 hjk940=>?_;rw [aU] at hlD940 hcp940 hjk940;refine eX (d:=940) ak (qt (k:=r) hru) ?_;have hA940:=mK (f:=(aQ ba aj)) (e:=1) (xs:=(en s u)) (k:=r) (fun _=>rfl) (Nat.le_of_lt hru);refine sO [(2,_),(3,_),(4,_),(5,_),(6,_),(7,_),(8,_),(9,_),(10,_),(2940,_)] [(2,_),(3,_),(4,_),(6,(41,mO)),(10,_),(940,(114,_++([sl _ _]++_)))] ?_;refine cK ?_;refine Gv ?_;refine dA 0 ?_ (x:=lF nQ);refine dA 8 ?_ (x:=lD [val _] nU);refine dP ?_;refine dA 56 ?_ (x:=mL (k:=r) (G:=2940) ai hY aq ab aaJ);refine dA 120 ?_ (x:=QW (o:=0) (ms:=[sl _ _]) (qs:=[sl .v _]) ab ai oR (fun _=>rfl) ax ak io fR);refine dA 0 ?_ (x:=fp (ms:=ro) (qs:=qu) ai nh (fun h=>nomatch h) ax ak (by exact (aA (bg (aA (aA az.nil))))) aJ);refine dA 256 ?_ (x:=cl (qs:=xd) ai fO jF ai rfl rfl rfl rfl rfl ax bP rfl);refine dA 1016 ?_ (x:=fe ai fO jF rfl rfl ai rfl bo bo);refine dA 2047 ?_ (x:=mL (k:=r) (G:=2940) ai hY aq ab aaJ);refine dA 4095 ?_ (x:=to (o:=0) (ag:=false) (vs:=[sl _ _]) ab oR aq ak ax);refine eX (d:=940) ak (tt ((en s u)[r]++[nY s u]) hru abx) ?_;refine uL (d:=6) (D:=940) (G:=2940) (e:=1) (A:=[]) (B:=[val _]) (es:=(((en s u)).set r ((en s u)[r]++[nY s u])).map (aQ ba aj)) ak ak ak rfl uw ra (by rw [aU];exact hjk940) ?_;refine sV [2,3,4,5,6,7,8,9,10] [2,3,4] [6,10] ?_;exact Zna):G:=h
def Znd (h:G:=by refine aF ?_;refine sS [2,3,4,5,6,7,8,9,10] [2,3,4,6,10] ?_;exact Zna):G:=h
def Zne (h:G:=by refine Znf ?_;refine xr ?_;refine oD ?_;refine sc ?_ ?_<;>intro hbe;have hk2:¬u.Kind=2:=Jl;exact Znb;have hk2:u.Kind=2:=Jl;exact Znd):G:=h
def zus (h:G:=by refine Zng ?_;refine Wm ?_;refine Gr ?_;refine sc ?_ ?_<;>intro hbd;have hk3:u.Kind=3:=tb;have hge3:0≤cW s u.Row.Id:=ab;have hv3:=NT (u:=u) hos hge3;have hf3:=XZ hou hk3;have hfl:u.Field.toNat < (hZ s u).length:=ab;have hv2:le s u=(hZ s u).set u.Field.toNat u.Value:=if_pos hk3;refine GW ?_;refine nC (d:=10) (t:=116) (D:=930) (G:=2930) (E:=3) (e:=1) (L:=(Lw w0.heap.size)) (A:=[val _]) (B:=mO) (es:=((hZ s u)).map ar) ak (lp hfl) ak ak rfl ak (fun x hx=>hx) aJ aJ lR lR (aw.map fun x=>(aw.cons lcl_val aw.nil)) fun uu930 cp930 jk930 hlD930 hcp930 hjk930=>?_;rw [aU] at hlD930 hcp930 hjk930;refine Wl ?_;have hA930:=mK (f:=ar) (e:=1) (xs:=(hZ s u)) (k:=u.Field.toNat) (fun _=>rfl) (Nat.le_of_lt hfl);refine Zni ?_;refine rA ?_ (x:=lF sa);refine rA ?_ (x:=lD [val _] ca);refine Vn ?_;refine Vo ?_;refine TG ?_;refine Znj ?_;refine oB ?_;refine Wn ?_;exact Zne;have hk3n:¬u.Kind=3:=tb;have hv2:le s u=hZ s u:=if_neg hk3n;refine cm ?_;refine Ls ?_;exact Zne):G:=h
def Znl (h:G:=by refine Znf ?_;refine xr ?_;refine oD ?_;refine sc ?_ ?_<;>intro hbd;have hk2:¬u.Kind=2:=tb;exact Znb;have hk2:u.Kind=2:=tb;exact Znd):G:=h
def zuu (h:G:=by refine Zng ?_;refine Wm ?_;refine Gr ?_;refine sc ?_ ?_<;>intro hbc;have hk3:u.Kind=3:=wR;have hge3:0≤cW s u.Row.Id:=ab;have hv3:=NT (u:=u) hos hge3;have hf3:=XZ hou hk3;have hfl:u.Field.toNat < (hZ s u).length:=ab;have hv2:le s u=(hZ s u).set u.Field.toNat u.Value:=if_pos hk3;refine GW ?_;refine nC (d:=10) (t:=116) (D:=930) (G:=2930) (E:=3) (e:=1) (L:=(Lw w0.heap.size)) (A:=[val _]) (B:=mO) (es:=((hZ s u)).map ar) ak (lp hfl) ak ak rfl ak (fun x hx=>hx) aJ aJ lR lR (aw.map fun x=>(aw.cons lcl_val aw.nil)) fun uu930 cp930 jk930 hlD930 hcp930 hjk930=>?_;rw [aU] at hlD930 hcp930 hjk930;refine Wl ?_;have hA930:=mK (f:=ar) (e:=1) (xs:=(hZ s u)) (k:=u.Field.toNat) (fun _=>rfl) (Nat.le_of_lt hfl);refine Zni ?_;refine rA ?_ (x:=lF sa);refine rA ?_ (x:=lD [val _] ca);refine Vn ?_;refine Vo ?_;refine TG ?_;refine Znj ?_;refine oB ?_;refine Wn ?_;exact Znl;have hk3n:¬u.Kind=3:=wR;have hv2:le s u=hZ s u:=if_neg hk3n;refine cm ?_;refine Ls ?_;exact Znl):G:=h
def zuv (h:G:=by
 have hbad:fq yA bw yB l=false:=vO hlt (Bool.eq_false_iff.2 fun hx=>by
  have hx:=mY.1 hx;rw [hgk] at hx;obtain ⟨hx1,hx2⟩:=hx;first
  | (simp_all;done)
  | (simp only [decide_eq_true_eq,yB] at *;by_cases h0:k=0<;>(try rw [hgp ab] at hx2)<;>omega))
 refine GA ?_;exact rb (by simp [kE,hbad])):G:=h
def zuw (h:G:=by refine zC ?_;refine bJ ?_;refine nx (k+1) (by exact ⟨ab,by rw [GZ,ha,Bool.true_and];refine mY.2 ⟨DU,?_⟩;rcases Nat.eq_zero_or_pos k with h0|h0;(· exact .inl h0);(· right;rw [hgk,hgp h0];first|(simp only [decide_eq_true_eq,yB] at *;omega)|(simp_all;done))⟩)):G:=h
def Znm (h:G:=by refine Zn1 ?_;exact (bc 4 (bc _ (aI ak (aI (by refine dp ?_;rw [Yy hno];exact rfl) (aI iv (aI (fun h=>nomatch h) (aI (by refine er ?_;rw [Yy hno]) tI)))))))):G:=h
def Sb (h:G:=by
 have hno:ni rows n=false:=by rw [←Bool.not_eq_true];intro hc_;obtain ⟨h1_,h2_,h3_⟩:=Oh hc_;have h4_:aE n 1 8=true:=(by simp [aE];omega);(first|omega|(simp_all;done)|(simp_all;omega))
 refine zuz ?_;exact Znm):G:=h
def zv3 (h:G:=by refine MV ?_;refine iF ?_;refine mR ?_;refine zbv ?_;refine Zno ?_;refine cg ?_;exact ⟨(by rw [ar0 h0_,huk];exact rfl),rfl,(bc 4 (bc _ (aI ak (aI (by refine dp ?_;rw [ar0 h0_,huk];exact rfl) (aI lB (aI (fun h=>nomatch h) tI))))))⟩):G:=h
def zv4 (h:G:=by refine MV ?_;refine Znp ?_;refine Zno ?_;refine cg ?_;exact ⟨(by rw [ar1 h0_ h1_,huk];exact rfl),rfl,(bc 4 (bc _ (aI ak (aI (by refine dp ?_;rw [ar1 h0_ h1_,hu];exact rfl) (aI lB (aI (fun h=>nomatch h) tI))))))⟩):G:=h
def zv5 (h:G:=by refine aF ?_;refine MV ?_;refine mR ?_;refine rS ?_;refine sS [0,3,4,5,6,7,29,5000] [0,3,4] ?_;refine Znp ?_;refine rM ?_;refine mR ?_;refine rA ?_ (x:=bZ (qs:=ac1) (cs:=ot) ai vR vS att ak abm rfl ak);refine Ad ?_;refine cg ?_;exact ⟨(by rw [ar2 h0_ h1_,huk];exact rfl),rfl,(bc 4 (bc _ (aI ak (aI (by refine dp ?_;rw [ar2 h0_ h1_,huk,hu];exact rfl) (aI lB (aI (fun h=>nomatch h) tI))))))⟩):G:=h
def zv0 (h:G:=by refine bd ?_;refine sS [0,3,4,5,6,5000] [0,3,4] ?_;refine GF ?_;refine LD ?_;refine sc ?_ ?_<;>intro hbb;have h0_:(eg c s).1=0:=Jn;exact zv3;have h0_:¬(eg c s).1=0:=Jn;refine LD ?_;refine sc ?_ ?_<;>intro hbc;have h1_:(eg c s).1=1:=ab9;exact zv4;have h1_:¬(eg c s).1=1:=ab9;exact zv5):G:=h
def Sc (h:G:=by refine rS ?_;refine nx (k+1) ab (e:=lT)):G:=h
def Znq (h:G:=by refine cg ?_;exact ⟨(by first|(rw [asl hk0];exact rfl)|(rw [asm hk0 hk2];exact rfl)|(rw [asn hk0 hk2 hk3];exact rfl)|(rw [aso hk0 hk2 hk3];exact rfl)),rfl,(bc 4 (bc _ (aI ak (aI (by refine dp ?_;first|(rw [asl hk0];exact rfl)|(rw [asm hk0 hk2];exact rfl)|(rw [asn hk0 hk2 hk3];exact rfl)|(rw [aso hk0 hk2 hk3];exact rfl)) (aI qQ (aI (fun h=>nomatch h) tI))))))⟩):G:=h
def Znr (h:G:=by refine MW ?_;exact Znq):G:=h
def Znt (h:G:=by refine rA ?_ (x:=bZ (qs:=dh) (cs:=py) ai yt yu Zz ak yS rfl ak);exact Znr):G:=h
def zvh (h:G:=by
 refine sc ?_ ?_<;>intro hbb;have hk0:(eh c).1=0∨(eh c).1=1:=by first|assumption|exact .inr hbb|exact .inr gt
 refine GX ?_;refine iF ?_;refine mR ?_;refine rA ?_ (x:=iS (bx:=0) (qs:=aH) (as_:=aH) ai ayu rfl bP pn kI aJ (by exact (aAq hbo)));refine xm ?_;refine bd ?_;refine sU [0,3,4,5,7,5000] [0,3,4] [5] ?_;refine cK ?_;refine Zc3 ?_;refine tN ?_;refine dA 0 ?_ (x:=cl (qs:=[(false,[val _]),(false,[val _]),(false,[val _]),(false,[val _])]) ai bW jV ai rfl rfl rfl rfl rfl ax (by exact (aI (aY rfl) (aI (aY rfl) (aI (aY rfl) (aI (aY rfl) tI))))) rfl);refine dA 6 ?_ (x:=iS (bx:=0) (qs:=bV) (as_:=cd) ai aqb rfl bP AR kI aJ (by exact (aqP (l:=[0,0,1,2]) hbo ai ai)));refine dA 15 ?_ (x:=bZ (qs:=[(false,[val _]),(true,jN),(false,[val _])]) (cs:=py) ai yt yu Zz ak abC rfl ak);refine dA 31 ?_ (x:=bO (ag:=true) (vs:=py) qQ aq ak ax);exact Znq;have hk0:¬((eh c).1=0∨(eh c).1=1):=by intro hc_;rcases hc_ with hc_|hc_<;>first|exact hk00 hc_|exact hbb hc_|(simp_all;done)
 refine Vx ?_;refine sc ?_ ?_<;>intro hbc;have hk2:(eh c).1=2:=hbc;refine GX ?_;refine mR ?_;exact Znt;have hk2:¬(eh c).1=2:=hbc;refine Vx ?_;refine sc ?_ ?_<;>intro hbd;have hk3:(eh c).1=3:=hbd;refine GX ?_;refine mR ?_;refine qA ?_;exact Znt;have hk3:¬(eh c).1=3:=hbd;refine aF ?_;refine GX ?_;refine iF ?_;refine vG ?_;refine rA ?_ (x:=iS (bx:=0) (qs:=pu) (as_:=ko) ai aql rfl bP It kI aJ abr);refine rA ?_ (x:=bZ (qs:=ac2) (cs:=py) ai yt yu Zz ak yS rfl ak);exact Znr):G:=h
def zvi (h:G:=by refine cz ?_;exact (aI (by refine ff ?_;exact hR (by unfold fP;rw [if_neg qj])) tI)):G:=h
def zvj (h:G:=by refine dA 127 ?_ (x:=cP);refine dA 255 ?_ (x:=sA);refine cg ?_;exact (aI (by refine ff ?_;exact hR (by unfold fP;rw [if_pos hok])) tI)):G:=h
def Znv (h:G:=by refine rK ?_;refine cz ?_;exact (aI (by refine cy ?_;exact (aED hno).symm) (aI (by refine er ?_;exact (aEH hno).symm) tI))):G:=h
def Sd (h:G:=by have hno:iO s=none:=aEB ia;refine sS [0,2,3,4,5,7000] [] ?_;exact Znv):G:=h
def zvl (h:G:=by refine rM ?_;refine rY 23 ?_;refine me ?_;exact Sd):G:=h
def zvn (h:G:=by refine vp ?_;refine cz ?_;exact (aI (by refine cy ?_;exact (aEE hys).symm) (aI (by refine er ?_;exact (aEI hys).symm) tI))):G:=h
def zvq (h:G:=by refine sG [0,2,3,4,5,6] [] ?_;refine bJ ?_;refine nx (k+1) (by exact ⟨ab,ab⟩) (e:=(by exact aI abt (aI abt (aI ak tI))))):G:=h
def zvr (h:G:=by
 have hb256:=s[k].toNat_lt;have hsn:=as8 hlt;have hbg:=OG s k ab;have hdg:¬qc s[k]=true:=by rw [HU];first|omega|(simp_all;omega)
 rw [if_neg hdg] at hsn;refine aF ?_;exact zvq):G:=h
def EI (h:G:=by have hbad:=aEJ (s:=s) (by rw [hnv];first|omega|(simp_all;done)|(simp_all;omega));have hno:=aD0 hbad;refine sS [0,2,3,4,5,6] [] ?_;exact Znv):G:=h
def Se (h:G:=by refine zq ?_;refine rM ?_;refine rY 54 ?_;refine me ?_;exact EI):G:=h
def Sf (h:G:=by refine xD ?_;refine gw ?_;exact EI):G:=h
def Sg (h:G:=by have hgd:=aEK (s:=s) lj lj (by rw [hnv];simp_all);have hys:=aD1 hgd;rw [hnv] at hys;refine aF ?_;refine sS [0,2,3,4,5,6] [] ?_;exact zvn):G:=h
def zvt (h:G:=by refine bd ?_;refine Ga ?_;refine pE ?_;refine cx 49 ?_ ?_<;>intro gc sgc;exact Se;refine Ve ?_;refine zv ?_;refine rM ?_;refine cx 54 ?_ ?_<;>intro gd sgd;exact Sf;refine Us ?_;refine Lp ?_;refine sc ?_ ?_<;>intro hbc;exact EI;exact Sg):G:=h
def Sh (h:G:=by refine bd ?_;refine Ga ?_;refine pE ?_;refine cx 49 ?_ ?_<;>intro gc sgc;exact Se;refine Ve ?_;refine zv ?_;refine rM ?_;refine cx 54 ?_ ?_<;>intro gd sgd;exact Sf;refine Us ?_;refine Lp ?_;refine sc ?_ ?_<;>intro hbb;exact EI;exact Sg):G:=h
def zw5 (h:G:=by refine sG [0,1,4,5,6,7] [] ?_;refine bJ ?_;refine nx (k+1) ab (e:=(by exact aI (by first|exact bC (by rw [hsy.1,bj];rfl)|exact bC (by rw [hsn.1])) (aI (by first|exact congrArg (fun z=>some (RV.sc (.string (B z)))) hsy.2.symm|exact congrArg (fun z=>some (RV.sc (.string (B z)))) hsn.2.symm) (aI ak tI))))):G:=h
def Si (h:G:=by refine rA ?_ (x:=bZ (qs:=[]) (cs:=iA) ai jl nb ZE ak aq rfl ak);refine MK ?_;refine cz ?_;exact (bc 2 (bc _ (aI ak (aI (by refine dp ?_;rw [hno];exact rfl) (aI jA (aI (fun h=>nomatch h) (aI (by refine er ?_;rw [hno];rfl) tI)))))))):G:=h
def Sj (h:G:=by have hno:jH s=none:=aEa (by unfold Ox;simp_all);refine sS [0,2,3,4,5,6,7,8,10,11,7000] [2,11] ?_;exact Si):G:=h
def zwe (h:G:=by refine rM ?_;refine rY 42 ?_;refine me ?_;exact Sj):G:=h
def Sk (h:G:=by refine zbm ?_;refine cz ?_;exact (bc 2 (bc _ (aI ak (aI (by refine dp ?_;rw [hys];exact rfl) (aI jA (aI (fun h=>nomatch h) (aI (by refine er ?_;rw [hys];rfl) tI)))))))):G:=h
def zwr (h:G:=by refine bJ ?_;refine nx (k+1) ab (f:=(by exact aI (by rw [oG hlt,bj];exact rfl) tI))):G:=h
def zwu (h:G:=by have hno:jH s=none:=asQ ia;refine sS [0,2,3,4,5,6,7] [2,5] ?_;exact Si):G:=h
def zwz (h:G:=by have hno:jH s=none:=asQ ia;refine xV ?_;exact Si):G:=h
def Sl (h:G:=by refine di ?_;exact rb (by rw [Bool.eq_iff_iff];simp only [pL,awK];simp_all [pL,apf])):G:=h
def zx4 (h:G:=by refine rM ?_;refine rN 24 ?_;refine dO ?_;exact Sl):G:=h
def Sm (h:G:=by refine di ?_;exact rb (by rw [Bool.eq_iff_iff];simp only [pL,awL];simp_all [pL,apf])):G:=h
def zx9 (h:G:=by refine rM ?_;refine rN 24 ?_;refine dO ?_;exact Sm):G:=h
def Sn (h:G:=by refine di ?_;exact rb (by first|(rw [Bool.eq_iff_iff];simp_all [pQ];done)|(rw [Bool.eq_iff_iff];simp_all [pQ];omega)|(simp_all [pQ];done)|(simp_all [pQ];rfl)|(simp_all [pQ];omega)|(simp_all [pQ];intros;omega))):G:=h
def zxc (h:G:=by refine rM ?_;refine rN 17 ?_;refine dO ?_;exact Sn):G:=h
def So (h:G:=by refine di ?_;exact rb (by first|(rw [Bool.eq_iff_iff];simp_all [pR];done)|(rw [Bool.eq_iff_iff];simp_all [pR];omega)|(simp_all [pR];done)|(simp_all [pR];rfl)|(simp_all [pR];omega)|(simp_all [pR];intros;omega))):G:=h
def zxf (h:G:=by refine rM ?_;refine rN 24 ?_;refine dO ?_;exact So):G:=h
def zxg (h:G:=by refine rM ?_;refine rN 19 ?_;refine dO ?_;exact zxf):G:=h
def EJ (h:G:=by refine cg ?_;exact rb (by first|(simp_all [eC];done)|(simp_all [eC];rfl)|(simp_all [eC];omega)|(simp_all [eC];intros;omega))):G:=h
def Sp (h:G:=by refine rB gd ?_ (x:=lF Hh);refine Vg ?_;refine qD ?_;refine rS ?_;exact EJ):G:=h
def Km (h:G:=by refine vf ?_;refine rS ?_;exact EJ):G:=h
def xk (h:G:=by refine dO ?_;refine rS ?_;exact EJ):G:=h
def zxn (h:G:=by refine rM ?_;refine rN 20 ?_;refine vl ?_;refine rN 25 ?_;exact xk):G:=h
def zxq (h:G:=by refine rM ?_;refine rN 45 ?_;refine vl ?_;refine rN 50 ?_;exact xk):G:=h
def zxr (h:G:=by refine rM ?_;refine rN 70 ?_;refine vl ?_;refine rN 75 ?_;exact xk):G:=h
def zxt (h:G:=by refine rM ?_;refine rN 95 ?_;refine vl ?_;refine rN 100 ?_;exact xk):G:=h
def Znx (h:G:=by refine cg ?_;exact rb (by first|(simp_all [eC,Hc,He];done)|(simp_all [eC,Hc,He];rfl)|(simp_all [eC,Hc,He];omega)|(simp_all [eC,Hc,He];intros;omega))):G:=h
def uR (h:G:=by refine rS ?_;exact Znx):G:=h
def BB (h:G:=by refine dO ?_;exact uR):G:=h
def Zny (h:G:=by refine rM ?_;refine rN 35 ?_;refine Cc ?_;refine rM ?_;refine rN 38 ?_;exact BB):G:=h
def zxy (h:G:=by refine vH ?_;refine rA ?_ (x:=lF Hg);refine BJ ?_;refine rM ?_;refine cx 25 ?_ ?_<;>intro gb sgb;refine rB gb ?_ (x:=lF yd);refine TW ?_;refine iD ?_;refine cx 30 ?_ ?_<;>intro gc sgc;refine rB gc ?_ (x:=lF ye);refine FT ?_;refine rM ?_;refine cx 35 ?_ ?_<;>intro gd sgd;refine LR ?_;refine rM ?_;refine cx 38 ?_ ?_<;>intro ge sge;refine rB ge ?_ (x:=lF Hh);refine rB ge ?_ (x:=lD [val _] aT);refine rB ge ?_ (x:=lu);refine rA ?_ (x:=ce ge);exact uR;refine Cl ?_;exact uR;refine LZ ?_;refine rM ?_;refine rN 38 ?_;exact BB;refine kR ?_;exact Zny;refine it ?_;refine rM ?_;refine rN 30 ?_;refine dO ?_;exact Zny):G:=h
def zy1 (h:G:=by refine rB gd ?_ (x:=lF Hh);refine Vg ?_;refine qD ?_;exact uR):G:=h
def zye (h:G:=by refine rM ?_;refine rN 51 ?_;refine Cc ?_;refine rM ?_;refine rN 54 ?_;exact BB):G:=h
def zy4 (h:G:=by refine Mb ?_;exact zye):G:=h
def zyf (h:G:=by refine rM ?_;refine rN 67 ?_;refine vl ?_;refine rN 72 ?_;exact BB):G:=h
def zy6 (h:G:=by refine Mb ?_;exact zyf):G:=h
def zya (h:G:=by refine rM ?_;refine rN 90 ?_;refine Cc ?_;exact uR):G:=h
def zyg (h:G:=by refine rM ?_;refine rN 85 ?_;refine dO ?_;exact zya):G:=h
def zyb (h:G:=by refine Mb ?_;exact zyg):G:=h
def zyc (h:G:=by refine aF ?_;refine vH ?_;refine rK ?_;exact Znx):G:=h
def zyh (h:G:=by refine cz ?_;exact (aI (by refine ff ?_;exact hR (by unfold fc;rw [if_neg qj])) tI)):G:=h
def zyq (h:G:=by refine cz ?_;exact (aI (by refine ff ?_;exact hR (by unfold gA;rw [if_neg qj])) tI)):G:=h
def zyt (h:G:=by refine Gj ?_;exact (aI (by refine ff ?_;exact hR (by unfold gA;rw [if_pos hok,if_pos k1])) tI)):G:=h
def zyv (h:G:=by refine Gj ?_;exact (aI (by refine ff ?_;exact hR (by unfold gA;rw [if_pos hok,if_neg k1,if_pos k2])) tI)):G:=h
def zyx (h:G:=by refine dA 16383 ?_ (x:=cP);refine dA 32767 ?_ (x:=sA);refine cg ?_;exact (aI (by refine ff ?_;exact hR (by unfold gA;rw [if_pos hok,if_neg k1,if_neg k2])) tI)):G:=h
def zz2 (h:G:=by refine cz ?_;exact (aI (by refine ff ?_;exact hR (by unfold gB;rw [if_neg qj])) tI)):G:=h
def zz4 (h:G:=by refine dA 255 ?_ (x:=cP);refine dA 511 ?_ (x:=sA);refine cg ?_;exact (aI (by refine ff ?_;exact hR (by unfold gB;rw [if_pos hok,if_pos k1])) tI)):G:=h
def zz5 (h:G:=by refine Gj ?_;exact (aI (by refine ff ?_;exact hR (by unfold gB;rw [if_pos hok,if_neg k1,if_pos k2])) tI)):G:=h
def zz6 (h:G:=by refine di ?_;exact (aI (by refine ff ?_;exact hR (by unfold gB;rw [if_pos hok,if_neg k1,if_neg k2,if_pos k3])) tI)):G:=h
def zz7 (h:G:=by refine Gj ?_;exact (aI (by refine ff ?_;exact hR (by unfold gB;rw [if_pos hok,if_neg k1,if_neg k2,if_neg k3])) tI)):G:=h
def zz8 (h:G:=by refine rS ?_;refine di ?_;exact (aI (by refine cy ?_;exact rfl) (aI (by refine er ?_;first|exact rfl|(simp_all;done)) tI))):G:=h
def zza (h:G:=by refine cg ?_;exact (aI (by refine cy ?_;rw [hr]) tI)):G:=h
def zz9 (h:G:=by have hr:lf (u8 b) s = -100000:=aES kf;refine nG ?_;refine rK ?_;exact zza):G:=h
def zzc (h:G:=by refine cg ?_;exact (aI (by refine cy ?_;rw [hr]) (aI (by refine cy ?_;rw [hr]) tI))):G:=h
def Kn (h:G:=by refine rA ?_ (x:=bZ (qs:=[]) (cs:=jN) ai mj yg ZH ak aq rfl ak);refine zV ?_;refine cz ?_;exact (bc 2 (bc _ (aI ak (aI (by refine dp ?_;rw [hno];exact rfl) (aI gW (aI (fun h=>nomatch h) (aI (by refine er ?_;rw [hno];rfl) tI)))))))):G:=h
def Sq (h:G:=by have hno:gP s=none:=as4 (Or.inl (by have hx_:¬(4≤(an 32 s).length∧(an 32 s).length%2=0∧(an 32 s).length≤10):=(by rintro ⟨a_,b_,c_⟩;first|omega|(simp_all;omega)|(simp_all;done));unfold DG;rw [decide_eq_false hx_];rfl));refine sS [0,2,3,4,5,7000] [2] ?_;exact Kn):G:=h
def EK (h:G:=by refine rS ?_;refine sG [0,2,3,4,5,6,7,8,9,11,12,13,14,15,16,17,18,19,20,21,22,23,7000] [2,12] ?_;refine bJ ?_;refine nx (k+1) ab (e:=(by exact aI (by exact er (by rw [aEj];first|(simp_all [AH,un,gn,jb];done)|(simp_all [AH,un];done)|(simp [AH,un];simp_all;done))) (aI lh tI))) (f:=(by exact aI (by rw [aEi,bj];exact rfl) tI))):G:=h
def Sr (h:G:=by refine rM ?_;refine rN 124 ?_;refine Cc ?_;exact EK):G:=h
def zzz (h:G:=by refine rM ?_;refine rN 121 ?_;refine Cc ?_;exact Sr):G:=h
def Ko (h:G:=by have hno:gP s=none:=as4 (by unfold DG;simp_all);refine sS [0,2,3,4,5,6,7,8,9,11,12,13,14,7000] [2,12] ?_;exact Kn):G:=h
def Za0 (h:G:=by refine rM ?_;refine rY 134 ?_;refine me ?_;exact Ko):G:=h
def Za8 (h:G:=by refine Tw ?_;refine cz ?_;exact (bc 2 (bc _ (aI ak (aI (by refine dp ?_;rw [hys];exact rfl) (aI gW (aI (fun h=>nomatch h) (aI (by refine er ?_;rw [hys];rfl) tI)))))))):G:=h
def Za2 (h:G:=by refine sc ?_ ?_<;>intro hbc;exact Ko;have hys:=aEs (s:=s) da da;refine aF ?_;refine sS [0,2,3,4,5,6,7,8,9,11,12,13,14,7000] [2,12] ?_;exact Za8):G:=h
def zzj (h:G:=by refine cV ?_;refine sS [0,2,3,4,5,6,7,8,9,11,12,13,7000] [2,12] ?_;refine ck ?_;refine zzl ?_;rintro k hk;refine cq ?_;refine rD ?_;refine eK ?_;refine sc ?_ ?_<;>intro hbb;have hlt:k < (((an 32 s).length - 4) / 2):=ab;have h2w:2+2 * k < (an 32 s).length:=ab;have h3w:3+2 * k < (an 32 s).length:=ab;have hcl:=asV (an 32 s) k;have hw2:=iP 32 s (2+2 * k);have hw3:=iP 32 s (3+2 * k);have hca:=Ib ((an 32 s).getD (3+2 * k) []) [46,46];have hcz:=Ic ((an 32 s).getD (3+2 * k) []) [46,46];refine aW ?_;refine MJ ?_;refine zzn ?_;refine zzo ?_;refine zJ ?_;refine zzp ?_;refine mS ?_;refine Uc ?_;refine zzr ?_;refine FF ?_;refine pD ?_;refine rS ?_;refine zzs ?_;refine zzt ?_;refine TO ?_;refine fA ?_;refine rM ?_;refine zzv ?_;refine zzw ?_;refine fA ?_;refine cx 118 ?_ ?_<;>intro ge sge;refine rB ge ?_ (x:=sM);refine Cu ?_;refine cx 121 ?_ ?_<;>intro gf sgf;refine rB gf ?_ (x:=sM);refine rA ?_ (x:=ce gf);refine rM ?_;refine cx 124 ?_ ?_<;>intro gg sgg;refine rB gg ?_ (x:=sM);refine rA ?_ (x:=ce gg);exact EK;refine bR.s0f gg ?_;refine rA ?_ (x:=bE gg);exact EK;refine bR.s0f gf ?_;refine rA ?_ (x:=bE gf);exact Sr;refine bR.s0f ge ?_;refine rA ?_ (x:=bE ge);exact zzz;have hend:k=(((an 32 s).length - 4) / 2):=ab;subst hend;refine fG ?_;refine MJ ?_;refine rM ?_;refine dE ?_;refine cx 129 ?_ ?_<;>intro ge sge;refine zt ge ?_;refine rA ?_ (x:=ce ge);exact Za0;refine rB ge ?_ (x:=lD jg gW);refine rB ge ?_ (x:=cL iR kp Hf (hs:=aaV));refine rB ge ?_ (x:=nT);refine rA ?_ (x:=bE ge);refine rM ?_;refine cx 134 ?_ ?_<;>intro gf sgf;refine Mn ?_;refine gw ?_;exact Ko;refine rB gf ?_ (x:=lD jg gW);refine rB gf ?_ (x:=gL iR kp Xf (hs:=aaR));refine rB gf ?_ (x:=sM);refine rB gf ?_ (x:=uQ);refine rA ?_ (x:=bE gf);exact Za2):G:=h
def Ss (h:G:=by refine Zo0 ?_;refine cg ?_;exact (bc 2 (bc _ (aI ak (aI (by refine dp ?_;rw [hr];exact rfl) (aI lB (aI (fun h=>nomatch h) tI))))))):G:=h
def Zo1 (h:G:=by refine Zo2 ?_;exact Ss):G:=h
def Zaj (h:G:=by have hc1:(ws.getD 0 []=[100,101,108,101,116,101]∧ws.length=2):=fk;have hr:=aEZ hc0 hc1;have h1w:1 < ws.length:=ab;refine sS [0,2,3,7000] [2,3] ?_;refine Ux ?_;refine sW [0,2,3,7000] [2] [3] ?_;refine Zo3 ?_;refine zu ?_;refine va ?_;exact Zo1):G:=h
def Su (h:G:=by have hc2:(ws.getD 0 []=[115,101,116]∧ws.length=4):=fk;have hr:=aE0 hc0 hc1 hc2;have h1w:1 < ws.length:=ab;have h2w:2 < ws.length:=ab;have h3w:3 < ws.length:=ab;refine sS [0,2,3,7000] [2,3] ?_;refine Ux ?_;refine sV [0,2,3,7000] [2] [3] ?_;refine Zo3 ?_;refine zu ?_;refine va ?_;refine Zo2 ?_;refine cB ?_;refine rA ?_ (x:=aP (k:=2) ai dc (aY rfl) ej Iv ak);refine pK ?_;refine rA ?_ (x:=gL dh dh ND (hs:=by exact (OP (l:=[102]) (hw 2))));refine zu ?_;refine rA ?_ (x:=lF yc);refine tO ?_;refine sW [0,2,3,7000] [2] [3] ?_;refine cB ?_;refine rA ?_ (x:=aP (k:=3) ai dc (aY rfl) ej Pz ak);refine pK ?_;refine rA ?_ (x:=gL aH aH Xt (hs:=by exact (ZF (hw 3))));refine zu ?_;refine rA ?_ (x:=lF rO);exact Zo1):G:=h
def Kp (h:G:=by have hc2:¬(ws.getD 0 []=[115,101,116]∧ws.length=4):=fk;have hr:=aE1 hc0 hc1 hc2;refine aF ?_;refine sS [0,2,3,7000] [2,3] ?_;exact Ss):G:=h
def Sv (h:G:=by refine CF ?_;exact Kp):G:=h
def Zap (h:G:=by have hc1:¬(ws.getD 0 []=[100,101,108,101,116,101]∧ws.length=2):=fk;refine FX ?_;refine vo ?_;refine cx 49 ?_ ?_<;>intro gc sgc;refine UO ?_;refine FH ?_;refine rS ?_;refine sc ?_ ?_<;>intro hbb;exact Su;exact Kp;exact Sv):G:=h
def Sw (h:G:=by refine Zo5 ?_;refine Ad ?_;refine cz ?_;exact (bc 2 (bc _ (aI ak (aI (by refine dp ?_;rw [hno];exact rfl) (aI lB (aI (fun h=>nomatch h) (aI (by refine er ?_;rw [hno];rfl) tI)))))))):G:=h
def Zas (h:G:=by have hno:gO s=none:=aEg Qk;refine sS [0,2,3,4,7000] [2,4] ?_;exact Sw):G:=h
def Sx (h:G:=by refine Zo0 ?_;refine cz ?_;exact (bc 2 (bc _ (aI ak (aI (by refine dp ?_;rw [hys];exact rfl) (aI lB (aI (fun h=>nomatch h) (aI (by refine er ?_;rw [hys];rfl) tI)))))))):G:=h
def Zaz (h:G:=by have hno:gO s=none:=asT ia;refine sS [0,2,3,4,5,6,7] [2,5,6] ?_;exact Sw):G:=h
def Kq (h:G:=by have hno:gO s=none:=asT ia;refine xV ?_;exact Sw):G:=h
def Sy (h:G:=by refine tK ?_;exact Kq):G:=h
def Sz (h:G:=by have hys:=asU (s:=s) ia ia;refine VJ ?_;exact Sx):G:=h
def Zbh (h:G:=by refine TM ?_;refine rG ?_;refine cx 60 ?_ ?_<;>intro gb sgb;exact Sy;refine KN ?_;refine Gs ?_;refine sc ?_ ?_<;>intro hbc;exact Kq;exact Sz):G:=h
def Zb5 (h:G:=by refine oB ?_;refine sU [0,2,3,4,5] [2] [5] ?_;exact Zbh):G:=h
def Zbc (h:G:=by refine TM ?_;refine rG ?_;refine cx 60 ?_ ?_<;>intro gb sgb;exact Sy;refine KN ?_;refine Gs ?_;refine sc ?_ ?_<;>intro hbd;exact Kq;exact Sz):G:=h
def EL (h:G:=by refine Zo7 ?_;refine Zo8 ?_;exact (bc 2 (bc _ (aI ak (aI (by refine dp ?_;rw [hno];exact rfl) (aI qQ (aI (fun h=>nomatch h) (aI (by refine er ?_;rw [hno];rfl) tI)))))))):G:=h
def Zbr (h:G:=by have hno:bH s=none:=as5 da;refine Wd ?_;exact EL):G:=h
def EM (h:G:=by refine rA ?_ (x:=fp (ms:=py) (qs:=zc) ai qQ (fun h=>nomatch h) ax ak aau aJ);refine Zo8 ?_;exact (bc 2 (bc _ (aI ak (aI (by refine dp ?_;rw [hys];exact rfl) (aI qQ (aI (fun h=>nomatch h) (aI (by refine er ?_;rw [hys];rfl) tI)))))))):G:=h
def SA (h:G:=by have hno:bH s=none:=as5 da;refine MX ?_;exact EL):G:=h
def Zbw (h:G:=by refine ie ?_;exact SA):G:=h
def Zby (h:G:=by have hys:=as6 (s:=s) da da;refine aF ?_;refine MX ?_;exact EM):G:=h
def Zbz (h:G:=by refine oB ?_;refine Zbv ?_;refine sG [0,2,3,4,5,6,7,18,7000] [2,7] ?_;refine Ty ?_;refine dE ?_;refine cx 68 ?_ ?_<;>intro ga sga;exact Zbw;refine Tx ?_;refine Cq ?_;refine sc ?_ ?_<;>intro hbd;exact SA;exact Zby):G:=h
def Zc5 (h:G:=by have hno:bH s=none:=Zo ia;refine sS [0,2,3,4,5,6,7,8] [2,5,7] ?_;exact EL):G:=h
def EN (h:G:=by have hno:bH s=none:=Zo ia;refine xV ?_;exact EL):G:=h
def Zcb (h:G:=by refine zip ?_;exact EN):G:=h
def SB (h:G:=by have hys:=Zp (s:=s) ia ia;refine VJ ?_;exact EM):G:=h
def Zcd (h:G:=by refine sc ?_ ?_<;>intro hbc;exact EN;exact SB):G:=h
def SC (h:G:=by refine xD ?_;refine gw ?_;exact EN):G:=h
def EO (h:G:=by have hno:bH s=none:=Zo ia;refine sS [0,2,3,4,5,9,10] [2,5,9] ?_;exact EL):G:=h
def Kr (h:G:=by refine xD ?_;refine gw ?_;exact EO):G:=h
def Ks (h:G:=by have hys:=Zp (s:=s) ia ia;refine aF ?_;refine sS [0,2,3,4,5,9,10] [2,5,9] ?_;exact EM):G:=h
def Zcs (h:G:=by have hc2:¬((an 32 s).length=2∧(an 32 s).getD 0 []=[115,116,101,112]):=fk;have hr:=OK hc0 hc1 hc2;refine Ma ?_;refine Lh ?_;refine EY ?_;refine BH ?_;refine rS ?_;refine LG ?_;refine vi ?_;refine LI ?_;refine rG ?_;refine cx 86 ?_ ?_<;>intro gd sgd;exact Kr;refine zK ?_;refine sc ?_ ?_<;>intro hbc;exact EO;exact Ks):G:=h
def Zcv (h:G:=by have hc2:¬((an 32 s).length=2∧(an 32 s).getD 0 []=[115,116,101,112]):=fk;have hr:=OK hc0 hc1 hc2;refine Ma ?_;refine Lh ?_;refine EY ?_;refine BH ?_;refine rS ?_;refine LG ?_;refine vi ?_;refine LI ?_;refine rG ?_;refine cx 86 ?_ ?_<;>intro gd sgd;exact Kr;refine zK ?_;refine sc ?_ ?_<;>intro hbb;exact EO;exact Ks):G:=h
def Zct (h:G:=by
 have hc1:¬((an 32 s).length=2∧(an 32 s).getD 0 []=[99,97,110,99,101,108]):=fk;refine ve ?_;refine hO ?_;refine cx 73 ?_ ?_<;>intro gc sgc;have h0w:0 < (an 32 s).length:=Qc;have sgc:=gc;try simp only [qq] at sgc
 refine KS ?_;refine Mr ?_;refine rS ?_;refine sc ?_ ?_<;>intro hbb;have hc2:((an 32 s).length=2∧(an 32 s).getD 0 []=[115,116,101,112]):=fk;have hr:=Zt hc0 hc1 hc2;have h1w:1 < (an 32 s).length:=ab;refine zw ?_;refine EZ ?_;refine vi ?_;refine EX ?_;refine Cb ?_;refine cx 86 ?_ ?_<;>intro gd sgd;exact SC;refine zK ?_;exact Zcd;exact Zcs;refine CF ?_;exact Zcv):G:=h
def Zcu (h:G:=by refine sc ?_ ?_<;>intro hbb;exact EN;exact SB):G:=h
def SD (h:G:=by refine cg ?_;exact ⟨Ja,rfl,(aI (by refine ff ?_;rw [hr];try exact rfl) tI)⟩):G:=h
def EP (h:G:=by refine rS ?_;exact SD):G:=h
def SE (h:G:=by have hr:=aGR (s:=s) hk4;refine Lx ?_;refine vG ?_;refine rA ?_ (x:=iS (bx:=0) (qs:=pu) (as_:=ko) ai ayJ rfl bP It kI aJ (by exact (aFu hbo (by first|assumption|omega))));refine rA ?_ (x:=cL tu tv NE (hs:=by exact (atA (x:=(Im c s).1))));exact EP):G:=h
def SF (h:G:=by refine Lx ?_;refine rA ?_ (x:=cl (qs:=dh) ai dc oU ai rfl rfl rfl rfl rfl ax (by exact (aI (aY rfl) (aI (aY rfl) tI))) rfl);refine rA ?_ (x:=iS (bx:=0) (qs:=bV) (as_:=cd) ai Xg rfl bP AR kI aJ (by exact (aam (l:=PA) hbo ai ai)));refine mR ?_;refine ML ?_;refine rA ?_ (x:=cP (h:=ab));exact EP):G:=h
def SG (h:G:=by refine Lx ?_;refine rA ?_ (x:=cl (qs:=[(false,[val _]),(false,[val _]),(false,[val _]),(false,[val _]),(false,[val _])]) ai dc oU ai rfl rfl rfl rfl rfl ax (by exact (aI (aY rfl) (aI (aY rfl) (aI (aY rfl) (aI (aY rfl) (aI (aY rfl) tI)))))) rfl);refine rA ?_ (x:=iS (bx:=0) (qs:=bV) (as_:=cd) ai Xg rfl bP AR kI aJ (by exact (aam (l:=PB) hbo ai ai)));exact EP):G:=h
def SH (h:G:=by refine aF ?_;refine Lx ?_;refine rA ?_ (x:=cl (qs:=[(false,[val _]),(false,[val _]),(false,[val _]),(false,[val _]),(false,[val _]),(false,[val _]),(false,[val _]),(false,[val _]),(false,[val _]),(false,[val _])]) ai dc oU ai rfl rfl rfl rfl rfl ax (by exact (aI (aY rfl) (aI (aY rfl) (aI (aY rfl) (aI (aY rfl) (aI (aY rfl) (aI (aY rfl) (aI (aY rfl) (aI (aY rfl) (aI (aY rfl) (aI (aY rfl) tI))))))))))) rfl);refine rA ?_ (x:=iS (bx:=0) (qs:=bV) (as_:=cd) ai Xg rfl bP AR kI aJ (by exact (aam (l:=PC) hbo ai ai)));exact EP):G:=h
def Zd7 (h:G:=by
 refine sc ?_ ?_<;>intro hbd;have hk4:(eE c).1 < 4:=by first|omega|(have hx_:(eE c).1=3:=hbd;omega)
 exact SE;have hk4:¬(eE c).1 < 4:=by first|exact absurd h0y hbd|exact absurd h1y hbd|exact absurd h2y hbd|(have hx_:¬(eE c).1=3:=hbd;have hy_:0≤(eE c).1:=eM c 8;omega)
 refine vc ?_;refine sc ?_ ?_<;>intro hbe;have hr:=aaf (s:=s) hk4 hbe;exact SF;have h4_:¬(eE c).1=4:=hbe;refine vc ?_;refine sc ?_ ?_<;>intro hbf;have hr:=aag (s:=s) hk4 h4_ hbf;exact SG;have hr:=aah (s:=s) hk4 h4_ hbf;exact SH):G:=h
def EQ (h:G:=by refine cg ?_;exact (aI (by refine ff ?_;rw [hr];try exact rfl) tI)):G:=h
def SI (h:G:=by refine vp ?_;exact EQ):G:=h
def Zde (h:G:=by refine di ?_;exact rb (by first|(simp_all [mo];done)|(simp_all [mo];rfl)|(simp_all [mo];omega)|(simp_all [mo];intros;omega))):G:=h
def Zdg (h:G:=by
 have hbad:Ao e i=false:=by first|(simp_all [Ao];done)|(simp_all [Ao];omega)
 refine sS [1,2,4] [2] ?_;exact rx):G:=h
def Zdj (h:G:=by refine di ?_;exact rb (by unfold Ao;rw [hok.1,hok.2,←hgd];first|(simp_all [mo];done)|(simp_all [mo];omega))):G:=h
def Zdm (h:G:=by refine sG [1,2,3,5,6,13,14,15,7000] [1,5] ?_;refine xA ?_;refine Cv ?_;refine sG [1,2,3,5,6,13,14,15,7000] [1,5] ?_;refine cf ?_;refine nx (k+1) ab (e:=(by exact aI aaz (aI ak tI)))):G:=h
def Zdp (h:G:=by refine sG [1,2,3,4,5,6] [1,5] ?_;refine xA ?_;refine Cv ?_;refine sG [1,2,3,4,5,6] [1,5] ?_;refine bJ ?_;refine nx (k+1) AW (e:=(by exact aI aaz (aI ak tI)))):G:=h
def Zdq (h:G:=by
 have hfin:(k=e.aJs.length∧aV e=true)∨(k=0∧(e.aJs.length=0∨aV e=false)):=by
  by_cases h0k:0 < k
  ·left
   have h1:=ha h0k;refine ⟨?_,h1⟩;by_cases hka:k=e.aJs.length;·exact hka
   ·exfalso
    have hlt_:k < e.aJs.length:=ab;have hlt2_:(k:Int) < (e.aJs.length:Int):=ab;first|omega|simp_all
  ·right
   refine ⟨ab,?_⟩;by_cases hka:e.aJs.length=0;·exact .inl hka
   ·right
    have hlt_:k < e.aJs.length:=ab;have hlt2_:(k:Int) < (e.aJs.length:Int):=ab;rw [←Bool.not_eq_true];intro hc_;simp_all
 refine FZ ?_;refine kt ?_;exact (aI (by refine bC ?_;rw [aFi hfin]) tI)):G:=h
def Zdt (h:G:=by refine Ge ?_;refine nx (k+1) AW (e:=(by exact aI aaq (aI ak tI)))):G:=h
def Zdu (h:G:=by have hc:kW e e.aJs[k]=false:=Jg;refine aF ?_;exact Zdt):G:=h
def Zdv (h:G:=by
 have hfin:(k=e.aJs.length∧aV e=true)∨(k=0∧(e.aJs.length=0∨aV e=false)):=by
  by_cases h0k:0 < k
  ·left
   have h1:=ha h0k;refine ⟨?_,h1⟩;by_cases hka:k=e.aJs.length;·exact hka
   ·exfalso
    have hlt_:k < e.aJs.length:=ab;have hlt2_:(k:Int) < (e.aJs.length:Int):=ab;first|omega|simp_all
  ·right
   refine ⟨ab,?_⟩;by_cases hka:e.aJs.length=0;·exact .inl hka
   ·right
    have hlt_:k < e.aJs.length:=ab;have hlt2_:(k:Int) < (e.aJs.length:Int):=ab;rw [←Bool.not_eq_true];intro hc_;simp_all
 refine FZ ?_;refine kt ?_;exact (aI (by refine bC ?_;rw [axH hfin]) tI)):G:=h
def Zdw (h:G:=by refine sG [1,2,3,5,12,13,14] [1,5] ?_;refine cf ?_;refine nx (k+1) ab (e:=(by exact aI aaq (aI ak tI)))):G:=h
def Zdx (h:G:=by have hc:kW e e.aJs[k]=false:=Jg;refine aF ?_;exact Zdw):G:=h
def Zdy (h:G:=by refine vn ?_;exact (aI (by refine cy ?_;rw [WW hlt ha hy]) tI)):G:=h
def Zdz (h:G:=by refine cz ?_;exact (aI (by refine cy ?_;rw [axI ha]) tI)):G:=h
def Ze3 (h:G:=by refine nx (k+1) ab (e:=(by exact aI (by exact bC (by unfold lG;rw [oG hlt,bj];rfl)) (aI ak tI)))):G:=h
def SJ (h:G:=by refine nx (k+1) ab (e:=(by exact aI aaB (aI ak tI)))):G:=h
def Ze7 (h:G:=by refine bN ?_;refine Wo ?_;refine dG ?_;refine cg ?_;exact (bc 2 (bc _ (aI ak (aI ak (aI wn (aI (fun h=>nomatch h) (aI ak tI)))))))):G:=h
def Zea (h:G:=by refine bJ ?_;exact Ze3):G:=h
def Zed (h:G:=by
 have hbad:(fD x&&ci o)=false:=by first|(simp_all;done)
 refine sS [1,2,3,6,7] [3] ?_;refine vn ?_;exact (aI (by refine cy ?_;unfold kX;rw [if_neg (by rw [hbad];simp)]) tI)):G:=h
def Zeg (h:G:=by refine cf ?_;refine nx (k+1) ab (e:=abg)):G:=h
def Zem (h:G:=by refine bJ ?_;refine nx (k+1) (by exact ⟨ab,fun _=>hxo⟩) (e:=abg)):G:=h
def SK (h:G:=by
 have hfin:(k=l.length∧(fD x&&ci o)=true)∨(k=0∧(l.length=0∨(fD x&&ci o)=false)):=by
  by_cases h0k:0 < k
  ·left
   have h1:=ha h0k;refine ⟨?_,h1⟩;by_cases hka:k=l.length;·exact hka
   ·exfalso
    have hlt_:k < l.length:=ab;have hlt2_:(k:Int) < (l.length:Int):=ab;first|omega|simp_all
  ·right
   refine ⟨ab,?_⟩;by_cases hka:l.length=0;·exact .inl hka
   ·right
    have hlt_:k < l.length:=ab;have hlt2_:(k:Int) < (l.length:Int):=ab;rw [←Bool.not_eq_true];intro hc_;simp_all
 refine be ?_;refine sT [1,2,3,6,7,8] [3] ?_;refine vn ?_;exact (aI (by refine cy ?_;rw [axK hfin]) tI)):G:=h
def Zoc (h:G:=by refine nx (k+1) ab (e:=(by exact aI (by first|exact bC (by rw [aCq hlt hne,bj];rfl)|exact bC (by rw [aCr hlt hne])) (aI ak tI)))):G:=h
def Zeo (h:G:=by refine sG [0,1,4,5,7,9,10,11] [] ?_;refine cf ?_;exact Zoc):G:=h
def Zep (h:G:=by refine sG [0,1,4,5,6] [] ?_;refine bJ ?_;exact Zoc):G:=h
def Zer (h:G:=by refine sG [1,2,3,6,7,9,15,16,17] [3,9] ?_;refine cf ?_;refine nx (k+1) ab (e:=(by exact aI (by first|exact bC (by rw [Yl hlt hv,bj];rfl)|exact bC (by rw [arL hlt hv])) (aI ak tI)))):G:=h
def Zet (h:G:=by refine nx (k+1) ab (e:=(by exact aI (by exact bC (by rw [hts,bj];rfl)) (aI ak tI)))):G:=h
def Zew (h:G:=by refine qw ?_;refine cg ?_;exact (bc 2 (bc _ (aI ak (aI ak (aI du (aI (fun h=>nomatch h) tI))))))):G:=h
def Kt (h:G:=by
 have hno:oY e q l=false:=by first|(simp_all [oY];done)|(simp_all [oY];omega)|(rw [←Bool.not_eq_true];intro hc_;obtain ⟨h1_,h2_,h3_,h4_,h5_⟩:=Dz hc_;first|omega|(simp_all;done)|(simp_all [aE];omega))
 refine sS [2,3,4,6,7,8] [3,4,6,8] ?_;refine CG ?_;exact (bc 6 (bc _ (aI ak (aI (by refine dp ?_;rw [Oj hno];exact rfl) (aI du (aI (fun h=>nomatch h) (aI (by refine er ?_;rw [Oj hno]) tI)))))))):G:=h
def Ku (h:G:=by refine me ?_;exact Kt):G:=h
def Zf3 (h:G:=by refine rM ?_;refine rY 30 ?_;refine xI ?_;refine rY 37 ?_;exact Ku):G:=h
def Zf7 (h:G:=by refine xD ?_;refine gw ?_;exact Kt):G:=h
def Zfc (h:G:=by refine nx (k+1) ab (f:=(by exact aI (by rw [aDb,bj];exact rfl) tI))):G:=h
def Zfj (h:G:=by refine sG [2,3,4,6,7,8,9,11,13,54,55,67,68,69,6200,6300] [3,4,6,8,9,13] ?_;refine cf ?_;refine nx (m+1) ab (e:=(by exact aI (by first|exact bC (by rw [aDc hmz hlz,bj];rfl)|exact bC (by rw [aDd hmz hlz])) (aI lh tI)))):G:=h
def Zfo (h:G:=by refine CG ?_;exact (bc 6 (bc _ (aI ak (aI (by refine dp ?_;rw [YF hok];exact rfl) (aI du (aI (fun h=>nomatch h) (aI (by refine er ?_;rw [YF hok]) tI)))))))):G:=h
def Zfq (h:G:=by refine rM ?_;refine rY 29 ?_;refine xI ?_;refine rY 36 ?_;exact Ku):G:=h
def SL (h:G:=by refine Wg ?_;refine cK ?_;refine zrb ?_;refine hM ?_;refine dA 12 ?_ (x:=aP ai dj aq ak bD ak);refine dA 28 ?_ (x:=tl (qs:=Rk) ai oQ (fun h=>nomatch h) ax Pt aJ);refine dA 60 ?_ (x:=cl (qs:=ac3) ai dj nV ai rfl rfl rfl rfl rfl ax bP rfl);refine dA 127 ?_ (x:=fe ai dj nV rfl rfl ai rfl bo bo);refine dA 255 ?_ (x:=lF ik);refine dA 511 ?_ (x:=bO (ag:=false) (vs:=[sl _ _]) fE aq ak ax);refine sW [2,3,4,6,7,8,9,10,11,12,13,6200,6300] [3,4,6,9] [8] ?_;refine bJ ?_;refine nx (m+1) ab (e:=(by exact aI (by exact er (by first|(rw [decide_eq_decide];omega)|(rw [decide_eq_true (show (fj e.aJs q.Id) < m+1 by omega)];done))) (aI lh tI))) (f:=(by exact aI (by first|(rw [aDi hmz hpm];simp only [bj];exact rfl)|(rw [aDh hmz hpm];simp only [bj];exact rfl)) tI))):G:=h
def Zfv (h:G:=by refine eX (d:=8) ak (show _=[sl bI (e.Store.aJr.map (aQ ba aj)),val (vI e.Store.Now),val (vI e.aJw),sl aj (e.Order.map ar),sl cG ((za.take (fj e.aJs q.Id)++(fi e q l,kNew)::za.drop (fj e.aJs q.Id)).map iw),sl cw (e.Done.map (bS aG aj aK aj)),sl cD (e.aJE.map (bL aj aj aj)),val (vI e.Steps)] from by first|(rw [←aDj hpl];first|done|exact rfl)|(rw [←aDk hpl];simp only [bj];exact rfl)) ?_;refine Wg ?_;refine Zfm ?_;refine sP [2,3,4,6,7,8,9,10,11,12,13,6300] [3,4,6,8,9] ?_;refine Zfn ?_;refine sW [2,3,4,6,7,8,9,10,11,12,13] [3,4,6,9] [8] ?_;exact Zfo):G:=h
def SM (h:G:=by
 have hno:oZ e id=false:=by first|(simp_all [oZ];done)|(simp_all [oZ];omega)|(rw [←Bool.not_eq_true];intro hc_;unfold oZ at hc_;simp only [aR,decide_eq_true_eq] at hc_;obtain ⟨h1_,h2_⟩:=hc_;first|omega|(simp_all;done)|(simp_all;omega))
 refine sS [1,2,4,5,6,7] [2,4,6] ?_;refine CG ?_;exact (bc 4 (bc _ (aI ak (aI (by refine dp ?_;rw [Ok hno];exact rfl) (aI du (aI (fun h=>nomatch h) (aI (by refine er ?_;rw [Ok hno]) tI)))))))):G:=h
def Zg3 (h:G:=by refine ie ?_;exact SM):G:=h
def Zg6 (h:G:=by refine cg ?_;exact (bc 4 (bc _ (aI ak (aI (by refine dp ?_;rw [YG hok hf];exact rfl) (aI du (aI (fun h=>nomatch h) (aI (by refine er ?_;rw [YG hok hf]) tI)))))))):G:=h
def Kv (h:G:=by
 have hno:my e=false:=by first|(simp_all [my];done)|(simp_all [my];omega)|(rw [←Bool.not_eq_true];intro hc_;obtain ⟨h1_,h2_,h3_,h4_⟩:=HF hc_;first|omega|(simp_all;done)|(simp_all;omega))
 refine sS [1,2,3,4] [1,2,4] ?_;refine CG ?_;exact (bc 2 (bc _ (aI ak (aI (by refine dp ?_;rw [arF hno];exact rfl) (aI du (aI (fun h=>nomatch h) (aI (by refine er ?_;rw [hno]) tI)))))))):G:=h
def Kw (h:G:=by refine me ?_;exact Kv):G:=h
def Zgb (h:G:=by refine zip ?_;exact Kv):G:=h
def Zgm (h:G:=by refine sG [1,2,3,4,5,6,8,9,10,11,13,57,58,59,77,78,79,2900,6100] [1,2,4,6,10,13,900] ?_;refine cf ?_;refine nx (j+1) ab (e:=(by exact aI (by first|exact cy (by rw [arH hjv hm,bv];simp only [List.length_cons,List.length_nil];omega)|exact cy (by rw [arI hjv hm])) (aI lh (aI ak tI)))) (f:=(by exact aI (by first|(rw [arH hjv hm,←hz3];simp only [bj,bn];exact rfl)|(rw [arI hjv hm];exact rfl)) tI))):G:=h
def SN (h:G:=by refine nx (m+1) ab (e:=(by exact aI (by first|exact bC (by rw [aCm hm1 hep,hga,bj];exact rfl)|exact bC (by rw [aCn hm1 hep])) (aI lh (aI ak tI)))) (f:=(by exact aI (by first|(rw [aCo hm1 hep,hga];simp only [bj,bn];exact rfl)|(rw [aCp hm1 hep];exact rfl)) tI))):G:=h
def Zof (h:G:=by
 refine Gd ?_;refine jx ?_;refine sc ?_ ?_<;>intro hbf;have hep:gy (dQ e (parts e).length)[m]=true:=by rw [hga];simpa [gy] using hbf
 refine Wp ?_;refine zrp ?_;refine vE ?_;refine VN ?_;refine Vj ?_;refine LA ?_;refine Zgl ?_;refine rA ?_ (x:=bZ (qs:=[(true,jN),(false,[val _]),(false,[val _]),(false,[sl _ _])]) (cs:=xg) ai sd Hz aHB ak yQ rfl ak);refine zrq ?_;refine zrr ?_;refine sW [1,2,3,4,5,6,14,16,57,58,59,145,146,147,6200] [1,2,6] [4,16] ?_;refine cf ?_;exact SN;have hep:gy (dQ e (parts e).length)[m]=false:=by rw [hga];simpa [gy] using hbf
 refine Wp ?_;refine bN ?_;refine KF ?_;refine Ff ?_;refine sW [1,2,3,4,5,6,14,16,57,58,59,145,146,147,6200] [1,2,4,6] [16] ?_;refine cf ?_;exact SN):G:=h
def Zgt (h:G:=by
 refine KI ?_;refine KK ?_;refine sO [(1,_),(2,_),(3,_),(4,_),(5,_),(6,_),(14,_),(16,_),(57,_),(58,_),(59,_),(145,_),(146,_),(147,_),(6200,_)] [(1,_),(2,_),(4,_),(6,_),(16,(102,rp))] ?_;refine Rz (d:=16) (G:=6200) (e:=10) (f:=(bi aG aj aj aK aj)) (z:=za[m]) (zs:=(za.drop (m+1))) ak aav (fun _=>rfl) PY ?_;refine Wq ?_;refine Ae ?_;refine uY ?_;refine Ae ?_;refine xp ?_;refine Wq ?_;refine LA ?_;refine vJ ?_;refine FL ?_;refine Zoi ?_;refine jx ?_;refine sc ?_ ?_<;>intro hbe;have hga:(dQ e (parts e).length)[m]=(⟨za[m].1.aJt,za[m].1.Time,za[m].1.aJB,za[m].1.Age+1,0,za[m].1.Cap,za[m].1.Rows⟩:aJs):=by rw [NZ hm1 hm2,←hz3];exact arJ hbe
 refine Wp ?_;refine Uw ?_;refine Wq ?_;exact Zof;have hga:(dQ e (parts e).length)[m]=(⟨za[m].1.aJt,za[m].1.Time,za[m].1.aJB,za[m].1.Age+1,za[m].1.Sent,za[m].1.Cap,za[m].1.Rows⟩:aJs):=by rw [NZ hm1 hm2,←hz3];exact arK hbe
 refine aF ?_;refine sS [1,2,3,4,5,6,14,16,57,58,59,145,146,147,6200] [1,2,4,6,16] ?_;exact Zof):G:=h
def Zhj (h:G:=by refine cg ?_;exact (bc 2 (bc _ (aI ak (aI (by refine dp ?_;rw [arG hok];exact rfl) (aI du (aI (fun h=>nomatch h) (aI (by refine er ?_;rw [hok]) tI)))))))):G:=h
def Zgu (h:G:=by refine bN ?_;refine BK ?_;refine sV [1,2,3,4,5,6,57,58,59,145,146,147,6200] [1,2,6] [4] ?_;refine rA ?_ (x:=lF nR);refine uY ?_;refine vJ ?_;refine FL ?_;refine Zoi ?_;refine Uv ?_;refine sV [1,2,3,4,5,6,57,58,59,145,146,147,6200] [1,2,6] [4] ?_;refine rA ?_ (x:=lF uf);refine uY ?_;refine rA ?_ (x:=lF uf);refine xp ?_;refine sU [1,2,3,4,5,6,57,58,59,146,147] [1,2,6] [4] ?_;refine wZ ?_;refine wA ?_ (x:=fp (ms:=et) (qs:=Bo) ai du (fun h=>nomatch h) ax ak Pr aJ);refine wO [(1,_),(2,_),(3,_),(4,_),(5,_),(6,_),(57,_),(58,_),(59,_),(146,_),(147,_),(202,_)] [(1,_),(2,_),(4,(46,Bo)),(6,_)] ?_;refine Rp (L:=(Lw w0.heap.size)) (qs:=fF) (as_:=fF) ai Xl lQ bP ai aJ (by exact (aan (e:=jX e) ab)) (fun x hx=>hx) aJ aJ ?_;refine wA ?_ (x:=bO (ag:=true) (vs:=et) du aq ak ax);refine wA ?_ (x:=kA);refine wY ?_;exact Zhj):G:=h
def SO (h:G:=by refine sG [0,1,5,6,7,8,9,10,11,12,13,14,15,2900,5000] [0,6,8,13,900] ?_;refine bJ ?_;refine nx (j+1) ab (e:=(by exact aI (by first|exact cy (by rw [arS hj2 hvv hmm,bv];simp only [List.length_cons,List.length_nil];omega)|exact cy (by rw [Oe hj2 (.inl hvv)])|exact cy (by rw [Oe hj2 (.inr hmm)])) (aI lh tI))) (f:=(by exact aI (by first|(rw [arS hj2 hvv hmm,←hz4];simp only [bj,bn];exact rfl)|(rw [Oe hj2 (.inl hvv)];exact rfl)|(rw [Oe hj2 (.inr hmm)];exact rfl)) tI))):G:=h
def Kx (h:G:=by refine bJ ?_;exact SN):G:=h
def Zhd (h:G:=by refine Gd ?_;refine jx ?_;refine sc ?_ ?_<;>intro hbd;have hep:gy (dQ e (parts e).length)[m]=true:=IU;refine sP [0,3,4,5,6,5000,6200] [0,6] ?_;refine JQ (d:=6) (G:=6300) ak ak (aA (aA (bg (bg (aA (bg (aA (aA (aA (bg az.nil)))))))))) aJ fun us hRN=>?_;obtain ⟨_,_,hRN⟩:=hRN;obtain ⟨uA_0,uA_1,uA_2,uA_3,uA_4,uA_5,uA_6,uA_7,uA_8,uA_9,rfl⟩:=ao3 hRN.len;clear hRN;refine sO [(0,_),(3,_),(4,_),(5,_),(6,_),(5000,_),(6200,_),(6300,_)] [(0,_),(6,(102,rp))] ?_;refine VK ?_;refine FI ?_;refine Zok ?_;refine Zol ?_;refine Zom ?_;refine Zon ?_;refine Zoo ?_;refine Zop ?_;refine Zoq ?_;refine Zor ?_;refine sU [0,3,4,5,6,5000,6200,6300] [6] [0] ?_;refine Zos ?_;refine sG [0,3,4,5,6,5000,6200] [0,6] ?_;exact Kx;have hep:gy (dQ e (parts e).length)[m]=false:=IU;refine sG [0,3,4,5,6,5000,6200] [0,6] ?_;refine bN ?_;refine KF ?_;refine Ff ?_;refine sW [0,3,4,5,6,5000,6200] [0] [6] ?_;exact Kx):G:=h
def Zhh (h:G:=by refine Ez (bx:=0) (L:=Qr) (qs:=[]) (as_:=[]) ai Xo rfl ak ak aq aq ai aq (by exact (aao (e:=jX e) ab)) (fun x hx=>hx.elim) aJ (by exact (aI (.inl rfl) tI)) ?_;refine wY ?_;exact ⟨ak,rfl,tI⟩):G:=h
def Zhi (h:G:=by refine Gd ?_;refine jx ?_;refine sc ?_ ?_<;>intro hbd;have hep:gy (dQ e (parts e).length)[m]=true:=IU;refine sP [0,2,3,4,5,6,5000,6200] [0,6] ?_;refine JQ (d:=6) (G:=6300) ak ak (aA (aA (bg (bg (aA (bg (aA (aA (aA (bg az.nil)))))))))) aJ fun us hRN=>?_;obtain ⟨_,_,hRN⟩:=hRN;obtain ⟨uA_0,uA_1,uA_2,uA_3,uA_4,uA_5,uA_6,uA_7,uA_8,uA_9,rfl⟩:=ao3 hRN.len;clear hRN;refine sO [(0,_),(2,_),(3,_),(4,_),(5,_),(6,_),(5000,_),(6200,_),(6300,_)] [(0,_),(6,(102,rp))] ?_;refine VK ?_;refine FI ?_;refine Zok ?_;refine Zol ?_;refine Zom ?_;refine Zon ?_;refine Zoo ?_;refine Zop ?_;refine Zoq ?_;refine Zor ?_;refine sU [0,2,3,4,5,6,5000,6200,6300] [6] [0] ?_;refine Zos ?_;refine sG [0,2,3,4,5,6,5000,6200] [0,6] ?_;exact Kx;have hep:gy (dQ e (parts e).length)[m]=false:=IU;refine sG [0,2,3,4,5,6,5000,6200] [0,6] ?_;refine bN ?_;refine KF ?_;refine Ff ?_;refine sW [0,2,3,4,5,6,5000,6200] [0] [6] ?_;exact Kx):G:=h
def SP (h:G:=by
 have hend:k=sr n:=by unfold sr at hk ⊢;first|omega|(simp_all;omega)
 refine be ?_;refine sT [1,2,4,5,6] [2,4,5] ?_;refine qw ?_;refine cg ?_;exact (bc 4 (bc _ (aI ak (aI (by refine dp ?_;unfold jY;rw [←hend];exact rfl) (aI du (aI (fun h=>nomatch h) tI))))))):G:=h
def Zhn (h:G:=by refine mW ?_;exact SP):G:=h
def Zhu (h:G:=by refine CG ?_;exact (bc 4 (bc _ (aI ak (aI (by refine dp ?_;rw [YL hno];exact rfl) (aI du (aI (fun h=>nomatch h) (aI (by refine er ?_;rw [YL hno]) tI)))))))):G:=h
def SQ (h:G:=by have hno:(aV e&&(fh e.Store u).2)=false:=IJ;refine sS [2,3,4,5,6,7,8] [2,3,4,6,7] ?_;exact Zhu):G:=h
def Zht (h:G:=by refine cg ?_;exact (bc 4 (bc _ (aI ak (aI (by refine dp ?_;rw [YM hok];exact rfl) (aI du (aI (fun h=>nomatch h) (aI (by refine er ?_;rw [YM hok]) tI)))))))):G:=h
def Zot (h:G:=by refine zve ?_;exact (bc 4 (bc _ (aI ak (aI (by refine dp ?_;rw [YO hno];exact rfl) (aI du (aI (fun h=>nomatch h) (aI (by refine er ?_;rw [YO hno]) tI)))))))):G:=h
def Zhw (h:G:=by have hno:(aV e&&eC x)=false:=IK;refine sS [2,3,4,5] [2,3,4] ?_;refine Fe ?_;exact Zot):G:=h
def Zi2 (h:G:=by refine cg ?_;exact (bc 4 (bc _ (aI ak (aI (by refine dp ?_;first|(rw [YP hok hk1];first|done|exact rfl)|(rw [YQ hok hk2];first|done|exact rfl)|(rw [YR hok hk3];first|done|exact rfl)|(rw [YS hok hk1n hk2n hk3n];first|done|exact rfl)) (aI du (aI (fun h=>nomatch h) (aI (by refine er ?_;first|(rw [YP hok hk1];first|done|exact rfl)|(rw [YQ hok hk2];first|done|exact rfl)|(rw [YR hok hk3];first|done|exact rfl)|(rw [YS hok hk1n hk2n hk3n];first|done|exact rfl)) tI)))))))):G:=h
def Zou (h:G:=by refine KR ?_;exact Zi2):G:=h
def SR (h:G:=by refine xl ?_;exact Zou):G:=h
def Zi3 (h:G:=by have hno:(aV e&&eC x)=false:=IK;refine sS [2,3,4,5,6] [2,3,4,6] ?_;refine Wr ?_;exact Zot):G:=h
def Zi8 (h:G:=by refine sV [2,3,4,5,6,7,20] [2,3,4] [6] ?_;refine Zox ?_;exact Zou):G:=h
def SS (h:G:=by refine bN ?_;refine xl ?_;refine KR ?_;exact Zi8):G:=h
def Zi9 (h:G:=by
 have hok:(bw r&&bq q)=false:=by cases h1:bw r<;>cases h2:bq q<;>simp_all
 refine sS [2,3,4,5] [2,3] ?_;refine kt ?_;exact (aI (by refine bC ?_;unfold uk;rw [if_neg qj];rfl) tI)):G:=h
def SU (h:G:=by
 have hfin:(k=q.Out.length∧(bw r&&bq q)=true)∨(k=0∧(q.Out.length=0∨(bw r&&bq q)=false)):=by
  by_cases h0k:0 < k
  ·left
   have h1:=ha h0k;refine ⟨?_,by rw [h1.1,h1.2];rfl⟩;by_cases hka:k=q.Out.length;·exact hka
   ·exfalso
    have:k < q.Out.length:=ab;simp_all
  ·right
   refine ⟨ab,?_⟩;by_cases hka:q.Out.length=0;·exact .inl hka
   ·right
    have:k < q.Out.length:=ab;cases h1:bw r<;>cases h2:bq q<;>simp_all
 refine be ?_;refine sT [2,3,4,5,6] [2,3] ?_;refine kt ?_;exact (aI (by refine bC ?_;rw [aDP hfin]) tI)):G:=h
def Zoy (h:G:=by refine cz ?_;exact (aI (by refine ff ?_;exact hR (by unfold qa;rw [if_neg (by rw [hbad];simp)])) tI)):G:=h
def Zib (h:G:=by have hbad:(bq x.aJt&&jj x.Rows)=false:=abk;refine vF ?_;exact Zoy):G:=h
def Zid (h:G:=by have hbad:(bq x.aJt&&jj x.Rows)=false:=abk;refine pI ?_;exact Zoy):G:=h
def Zie (h:G:=by refine sP [1,2,3,4] [1] ?_;refine vb ?_;refine dA 0 ?_ (x:=lF qO);refine dA 2 ?_ (x:=lD [sl .v _] jE);refine dP ?_;refine dA 14 ?_ (x:=aP ai iK aq ak bD ak);refine dA 30 ?_ (x:=cF ai mi ax);refine dA 62 ?_ (x:=lE [val _] aT);refine dA 126 ?_ (x:=cL aH aH jo (hs:=jc));refine LC ?_;refine dA 0 ?_ (x:=lF qN);refine dA 1024 ?_ (x:=lD jg gW);refine dA 0 ?_ (x:=lF qO);refine dA 4096 ?_ (x:=lD [sl .v _] jE);refine dP ?_;refine dA 28672 ?_ (x:=aP ai iK aq ak bD ak);refine dA 61440 ?_ (x:=lE nD jA);refine dA 130302 ?_ (x:=cL Rc Rd aAa (hs:=by exact aHP));refine dA 261374 ?_ (x:=cL bV cd Xz (hs:=by exact (XR hpj.2 ab)));refine dA 524287 ?_ (x:=cP);refine dA 1048575 ?_ (x:=sA);refine Ge ?_;refine nx (k+1) ab (e:=(by exact aI (by first|exact congrArg (fun z=>some (RV.sc (.string (B z)))) (by rw [oG hlt,pT,if_neg (ass hlt hk0)];simp [oi,bn])|exact congrArg (fun z=>some (RV.sc (.string (B z)))) (by rw [oG hlt,pT,if_pos (by subst hk0;rfl)];subst hk0;simp [oi,Dl,bn])) (aI ak tI)))):G:=h
def Zig (h:G:=by refine cg ?_;exact (aI (by refine ff ?_;exact hR (by unfold qa;rw [if_pos DP,←hle];first|rw [if_pos he]|rw [if_neg he])) tI)):G:=h
def Zoz (h:G:=by refine cz ?_;exact (aI (by refine ff ?_;exact hR (by unfold qe;rw [if_neg (by rw [hbad];simp)])) tI)):G:=h
def Zih (h:G:=by have hbad:(cv s&&aE i 0 (s.aJr.length - 1))=false:=IL;refine sS [1,2,4,7000] [2] ?_;exact Zoz):G:=h
def Zij (h:G:=by refine sG [1,2,4,5,7,8,26,27,28,7000] [2,7] ?_;refine xA ?_;refine Cv ?_;refine sG [1,2,4,5,7,8,26,27,28,7000] [2,7] ?_;refine cf ?_;refine nx (k+1) ab (e:=(by exact aI (by exact bC (by rw [oG hlt,bj];first|(simp [nn,hd,fM,bn];done)|(rw [nn,if_neg hd];simp [fM,bn]))) (aI ak tI)))):G:=h
def Zik (h:G:=by have hbad:(cv s&&aE i 0 (s.aJr.length - 1))=false:=IL;refine sS [1,2,4] [2] ?_;exact Zoz):G:=h
def Zp0 (h:G:=by refine sG [1,2,4,5,6,7] [2,7] ?_;refine bJ ?_;refine nx (k+1) ab (e:=(by exact aI (by first|exact congrArg (fun z=>some (RV.sc (.string (B z)))) (by rw [oG hlt,pT,if_neg (ass hlt hk0)];simp [nn,gx,hd,Dl,bn])|exact congrArg (fun z=>some (RV.sc (.string (B z)))) (by rw [oG hlt,pT,if_pos (by rw [hk0];rfl)];subst hk0;simp [nn,gx,hd,Dl,bn])) (aI ak tI)))):G:=h
def Zim (h:G:=by refine bd ?_;refine sP [1,2,4,5,6,7] [2,7] ?_;refine vb ?_;refine dA 0 ?_ (x:=lF Ar);refine dA 2 ?_ (x:=lD [val _] aT);refine dA 0 ?_ (x:=lF sa);refine GH ?_;refine dA 30 ?_ (x:=bZ (qs:=xe) (cs:=iA) ai jl nb aHS ak iQ rfl ak);refine dA 62 ?_ (x:=cL kP mM Xp (hs:=by exact (ZD (r:=gx s.aJr[i.toNat][k]))));refine dA 127 ?_ (x:=cP);refine dA 255 ?_ (x:=cP);refine dA 0 ?_ (x:=lF oO);refine dA 512 ?_ (x:=lD [val _] aT);refine dA 1662 ?_ (x:=cL aH aH jo (hs:=jc));refine dA 4095 ?_ (x:=cP);refine dA 8191 ?_ (x:=sA);refine sS [1,2,4,5,6,7] [2,7] ?_;refine Lz ?_;refine oD ?_;refine sc ?_ ?_<;>intro hbd;have hd:=hbd;refine sG [1,2,4,5,6,7] [2,7] ?_;refine tD ?_;refine Lz ?_;refine Fw ?_;refine rS ?_;exact Zp0;have hd:s.aJr[i.toNat][k].aJC = -1:=qm;refine aF ?_;exact Zp0):G:=h
def Zin (h:G:=by refine cg ?_;exact (aI (by refine ff ?_;exact hR (by unfold qe;rw [if_pos DP,hgd,←hle];first|rw [if_pos he]|rw [if_neg he])) tI)):G:=h
def Ziq (h:G:=by refine di ?_;exact (aI (by refine ff ?_;exact hR rfl) tI)):G:=h
def Zix (h:G:=by refine sG [1,2,4,5,6,8,22,23,24] [2] ?_;refine cf ?_;refine nx (k+1) ab (e:=(by exact aI (by first|exact congrArg (fun z=>some (RV.sv false [sl .v (List.map ar z)])) (Nw hlt hc).symm|exact congrArg (fun z=>some (RV.sv false [sl .v (List.map ar z)])) (Nx hlt hc).symm) (aI ak tI)))):G:=h
def Ziz (h:G:=by refine sG [1,2,4,5,6,7,8,9] [2] ?_;refine bJ ?_;refine nx (k+1) AW (e:=(by exact aI (by exact congrArg (fun z=>some (RV.sv false [sl .v (List.map ar z)])) hsb.1.symm) (aI (by exact cy hsb.2.symm) (aI ak tI))))):G:=h
def Ziy (h:G:=by have hsb:=axL (x:=x) (l:=l) hlt (by first|exact .inl hk0e|exact .inr ab);refine sS [1,2,4,5,6,7,8,9] [2] ?_;refine iC ?_;refine Ziu ?_;refine pH ?_;refine sG [1,2,4,5,6,7,8,9] [2] ?_;refine vp ?_;exact Ziz):G:=h
def Zj0 (h:G:=by
 have hfin:(k=dz.length∧fD x=true)∨(k=0∧(dz.length=0∨fD x=false)):=by
  by_cases h0k:0 < k
  ·left
   have h1:=ha h0k;refine ⟨?_,h1⟩;by_cases hka:k=dz.length;·exact hka
   ·exfalso
    have hlt_:k < dz.length:=ab;have hlt2_:(k:Int) < (dz.length:Int):=ab;first|omega|simp_all
  ·right
   refine ⟨ab,?_⟩;by_cases hka:dz.length=0;·exact .inl hka
   ·right
    have hlt_:k < dz.length:=ab;have hlt2_:(k:Int) < (dz.length:Int):=ab;rw [←Bool.not_eq_true];intro hc_;simp_all
 refine be ?_;refine sT [1,2,4,5,6,7,8] [2] ?_;refine UJ ?_;refine cg ?_;exact (aI (by refine bC ?_;rw [axP hfin]) tI)):G:=h
def Zj1 (h:G:=by refine ze (s:=2) [sl _ _] ak io fR ?_;refine cg ?_;exact (aI (by refine bC ?_;unfold pW;rw [if_neg qj];rfl) tI)):G:=h
def Zj4 (h:G:=by refine pH ?_;refine cg ?_;exact (aI (by refine bC ?_;unfold pW;rw [if_pos hok]) tI)):G:=h
def Zp1 (h:G:=by refine CG ?_;exact (bc 4 (bc _ (aI ak (aI (by refine dp ?_;rw [hr];exact rfl) (aI du (aI (fun h=>nomatch h) (aI (by refine er ?_;rw [hr]) tI)))))))):G:=h
def SV (h:G:=by have hr:=atn (e:=e) (o:=o) PW;refine GM ?_;exact Zp1):G:=h
def Zj5 (h:G:=by refine ie ?_;exact SV):G:=h
def Zj8 (h:G:=by refine rA ?_ (x:=lF Hv);refine xL ?_;refine zZ ?_;exact Zp1):G:=h
def Zja (h:G:=by obtain ⟨us0,r0,rfl,hl0,hR0,hU1⟩:=jL.cons hU0;obtain ⟨u1_0_0,u1_0_1,u1_0_2,u1_0_3,u1_0_4,u1_0_5,u1_0_6,u1_0_7,rfl⟩:=awv hl0;obtain rfl:=xb hR0 (j:=1) rfl rfl;obtain rfl:=xb hR0 (j:=2) rfl rfl;obtain rfl:=xb hR0 (j:=7) rfl rfl;obtain ⟨us1,r1,rfl,hl1,hR1,hU2⟩:=jL.cons hU1;obtain ⟨u1_1_0,rfl⟩:=CU hl1;obtain rfl:=xb hR1 (j:=0) rfl rfl;obtain rfl:=jL.nil hU2;clear hR0 hU0 hR1 hU1 hU2;refine cj.stepC 15 lQ aq (db.of rfl (Ef (.inl rfl) ai)) ki ao pm ?_;refine cj.stepC 31 lQ aq (db.of rfl (qr (cs:=[val _,val _,val _,val _,val _,val _,val _,val _]) ai ak aJ)) ki ao pm ?_;refine cj.stepC 31 lQ aq (db.of rfl (qr (cs:=[val _]) ai ak nt)) ki ao pm ?_;refine cj.stepC 0 aq aq (db.of rfl (gQ ai ug uh)) (uI (dv.wr (dv.app (dv.app (dv.app (dv.of_ rfl) rfl) rfl) rfl) rfl)) ao aaC ?_;refine cj.stepC 191 DO lQ (db.of rfl (bO (ag:=true) (vs:=[val _,val _,val _,val _,val _,val _,val _,val _]) du aq ak ax)) ki ao pm ?_;refine Zp2 ?_;refine QL (d:=3) (G:=2000) ak (by exact (Nm.val (Nm.val (Nm.val (Nm.val (Nm.val (Nm.val (Nm.val (Nm.val Nm.nil))))))))) ak ?_;refine yY (s:=4) (G:=2001) ak AT rfl ai ak ?_;refine sV [1,2,3,4] [1,2] [3] ?_;exact Zew):G:=h
def Zjd (h:G:=by refine bJ ?_;refine nx (k+1) ab (e:=lT) (f:=(by exact aI (by rw [aFg hns];exact rfl) tI))):G:=h
def Ky (h:G:=by
 have hend:k=200∨qY (eP e k)=true:=by unfold qY;first|(left;omega)|(right;first|(simp_all;done)|(simp_all;omega))|(left;simp_all;omega)
 have hfe:=aFd hk hend;refine be ?_;refine sT [1,2,3,4] [1,2,3] ?_;refine qw ?_;refine cg ?_;exact (bc 2 (bc _ (aI ak (aI (by refine dp ?_;rw [←hfe];exact rfl) (aI du (aI (fun h=>nomatch h) tI))))))):G:=h
def Zjf (h:G:=by refine vk ?_;exact Ky):G:=h
def Zjg (h:G:=by refine dO ?_;refine fY ?_;exact Ky):G:=h
def Zp3 (h:G:=by refine cg ?_;exact (bc 4 (bc _ (aI ak (aI (by refine dp ?_;rw [hr];try exact rfl) (aI wo (aI (fun h=>nomatch h) (aI (by refine er ?_;rw [hr]) tI)))))))):G:=h
def SX (h:G:=by refine Zp4 ?_;exact Zp3):G:=h
def Zjh (h:G:=by refine rA ?_ (x:=bZ (qs:=[]) (cs:=xg) ai sd Hz aH4 ak aq rfl ak);exact SX):G:=h
def SY (h:G:=by
 have hno:ni [] n=false:=by rw [←Bool.not_eq_true];intro hc_;obtain ⟨h1_,h2_,h3_⟩:=Oh hc_;first|omega|(simp_all [aE];done)|(simp_all [aE];omega)
 refine sS [0,1,4,5] [4] ?_;refine rA ?_ (x:=bZ (qs:=[]) (cs:=kq) ai Aw Az auB ak aq rfl ak);exact Znm):G:=h
def ER (h:G:=by refine cg ?_;exact (bc 4 (bc _ (aI ak (aI (by refine dp ?_;first|(simp only [hr];done)|(simp only [hr,hrp];done)|(rw [hr];first|done|exact rfl|(rw [hrp];exact rfl))) (aI du (aI (fun h=>nomatch h) (aI (by refine ff ?_;first|(simp only [hr];done)|(simp only [hr,hrp];done)|(rw [hr];first|done|exact rfl|(rw [hrp];exact rfl))) tI)))))))):G:=h
def Zjs (h:G:=by refine dA 7 ?_ (x:=bO (ag:=true) (vs:=et) du aq ak ax);refine dA 15 ?_ (x:=sA);exact ER):G:=h
def Zjt (h:G:=by refine KL ?_;refine rK ?_;exact ER):G:=h
def BC (h:G:=by refine rK ?_;exact EQ):G:=h
def Zju (h:G:=by have hr:=at4 (e:=e) (w:=w) (s:=s) (by rintro ⟨a_,b_⟩;first|omega|(simp_all;done)|(simp_all;omega));refine sS [1,2,3,6,7,8,7000] [3] ?_;exact BC):G:=h
def Zjz (h:G:=by refine aF ?_;refine CS ?_;exact BC):G:=h
def ES (h:G:=by refine cg ?_;exact (bc 4 (bc _ (aI ak (aI (by refine dp ?_;rw [hr];try exact rfl) (aI du (aI (fun h=>nomatch h) (aI (by refine ff ?_;rw [hr];try exact rfl) tI)))))))):G:=h
def Kz (h:G:=by refine KL ?_;refine rK ?_;exact ES):G:=h
def Zk3 (h:G:=by have hr:=atR (e:=e) hit ab;refine Af ?_;exact Kz):G:=h
def Zp6 (h:G:=by refine qw ?_;refine rK ?_;refine yv (d:=4) mP ak DN aJ ?_;exact ES):G:=h
def Zp7 (h:G:=by refine sS [1,2,4,5,6,11,12,13,14,7000] [2,4,11,13] ?_;exact Zp6):G:=h
def Zkb (h:G:=by have hr:=(ZU hit hsg hpe).trans (by rw [hd_];rfl:_=((dJ e ((bH l).getD cU)).1,([110,111]:am)));exact Zp7):G:=h
def Zkc (h:G:=by have hr:=ZV hit hsg hpe hd_;refine aF ?_;exact Zp7):G:=h
def Zke (h:G:=by have hw1:(an 32 l).length=1:=ab;have hr:=hr0.trans (OZ hw1);refine bd ?_;refine sP [1,2,4,5,6,11,12,74,7000] [2,4,11] ?_;refine uU ?_;refine nH ?_;refine dA 2 ?_ (x:=aP (k:=0) ai dc (aY rfl) ej ux ak);refine dA 6 ?_ (x:=lE [val _] kZ);refine dA 15 ?_ (x:=gL mN lY ayG (hs:=by exact (aIe (e:=e) ab hi ab)));refine dA 31 ?_ (x:=qr (cs:=et) ai ak aJ);refine dA 31 ?_ (x:=qr (cs:=[val _]) ai ak nt);refine Zjq ?_;exact ES):G:=h
def Zkf (h:G:=by have hw2:(an 32 l).length=2:=ab;have h1w:1 < (an 32 l).length:=ab;have hr:=hr0.trans (atV hw2);refine bd ?_;refine sP [1,2,4,5,6,11,12,74,7000] [2,4,11] ?_;refine uU ?_;refine Zp8 ?_;refine dA 4 ?_ (x:=aP (k:=0) ai dc (aY rfl) ej ux ak);refine dA 12 ?_ (x:=lE [val _] kZ);refine nH ?_;refine dA 32 ?_ (x:=aP (k:=1) ai dc (aY rfl) ej Iw ak);refine dA 96 ?_ (x:=lE [val _] kZ);refine dA 254 ?_ (x:=gL ac4 ac5 ayH (hs:=by exact (aIf (e:=e) ab ab ab)));refine dA 511 ?_ (x:=bO (ag:=true) (vs:=et) du aq ak ax);refine dA 1023 ?_ (x:=sA);exact ES):G:=h
def SZ (h:G:=by refine sG [1,2,4,5,6,11,12,15,17,18,19,74,99,100,101,7000] [2,4,11] ?_;refine cf ?_;refine nx (k+1) ab (e:=(by exact aI (by first|exact bC (by rw [aGc hlt hnm,bj,bj];rfl)|exact bC (by rw [aGd hlt hnm])) (aI ak tI)))):G:=h
def Zkl (h:G:=by refine sG [1,2,4,5,6,11,12,15,17,18,19,74,99,100,101,7000] [2,4,11] ?_;refine CB ?_;exact SZ):G:=h
def Zkq (h:G:=by have ho_:(an 32 l).getD 0 []=[111,114,100,101,114]∧(gE e (qf (an 32 l))).2=true:=fk;have hoo:=aGn ho_.2;have hr:=hr0.trans (atW hw4 ho_.1 (by rw [←hos.1];exact hoo));rw [←hos.2 (by rw [←hos.1];exact hoo)] at hr;refine sS [1,2,4,5,6,11,12,15,20,21,74,99,100,101,7000] [2,4,11,20] ?_;exact Zp6):G:=h
def Ta (h:G:=by have ho_:¬((an 32 l).getD 0 []=[111,114,100,101,114]∧(gE e (qf (an 32 l))).2=true):=fk;have hr:=hr0.trans (ZW (e:=e) hn1 hn2 (fun z=>ho_ ⟨z.2.1,aGo hi.ok (by rw [hos.1];exact z.2.2)⟩));refine aF ?_;refine sS [1,2,4,5,6,11,12,15,20,21,74,99,100,101,7000] [2,4,11,20] ?_;exact Kz):G:=h
def Zks (h:G:=by refine Mb ?_;refine fY ?_;exact Ta):G:=h
def Zkt (h:G:=by have hr:=hr0.trans (ZW (e:=e) hn1 hn2 (fun z=>by omega));refine aF ?_;refine MS ?_;exact Kz):G:=h
def Zp9 (h:G:=by have hr:=Pa (s:=s) (by rw [hle];first|omega|(simp_all;done)|(simp_all;omega));refine vw ?_;exact BC):G:=h
def Zpa (h:G:=by refine cf ?_;refine nx (k+1) ab (e:=(by exact aI (by first|exact congrArg (fun z=>some (RV.sc (.string (B z)))) (by rw [hcs])|exact congrArg (fun z=>some (RV.sc (.string (B z)))) (by rw [hcs];rfl)) (aI ak tI))) (f:=abP)):G:=h
def Zky (h:G:=by
 refine bd ?_;refine vw ?_;refine rM ?_;refine rA ?_ (x:=jh aH5);refine pE ?_;refine cx 27 ?_ ?_<;>intro ga sga;refine ie ?_;exact Zp9;refine UN ?_;refine Vz ?_;refine sc ?_ ?_<;>intro hbb;exact Zp9;have h30:s.length≤3000:=kf;have h60:ls.length≤60:=kf;have hr:=Ij h30 (by rw [hle];exact h60);rw [hle] at hr;refine aF ?_;refine vw ?_;refine rA ?_ (x:=bZ (qs:=[]) (cs:=et) ai ug uh auC ak aq rfl ak);refine md ?_;refine sQ [0,2,3,4,7000] [4] ?_;refine Zpb ?_;refine sH [0,2,3,4,7000] [4] ?_;refine de ?_;refine sS [0,2,3,4,5,7000] [4] ?_;refine oy ?_;refine ek ?_;refine sP [0,2,3,4,5,33,34,35,7000] [4] ?_;refine sL [0,2,3,4,33,34,7000] [] (fun k:Nat=>k≤ls.length) (fun k:Nat=>[(5,RV.sc (.string (B (dC ls k).2))),(35,RV.int (k:Int))]) (fun k:Nat=>[(4,(46,[sl .v ((dC ls k).1.Store.aJr.map (aQ .v .v)),val (vI (dC ls k).1.Store.Now),val (vI (dC ls k).1.aJw),sl .v ((dC ls k).1.Order.map ar),sl .v ((dC ls k).1.aJs.map (bi .v .v .v .v .v)),sl .v ((dC ls k).1.Done.map (bS .v .v .v .v)),sl .v ((dC ls k).1.aJE.map (bL .v .v .v)),val (vI (dC ls k).1.Steps)]))]) (fun k:Nat=>ls.length - k) 0 ab dL bp ?_;rintro k hk;have hcb:=ZT h60 k hk;refine bQ ?_;refine sc ?_ ?_<;>intro hbc;have hlt:k < ls.length:=abp;have hlm:=at8 (s:=s) aaZ;have hcs0:=Ii hlt;have hcl:=ZS hcb.1 ls[k];refine aW ?_;refine sT [0,2,3,4,5,33,34,35,7000] [4] ?_;refine BM ?_;refine cV ?_;refine sS [0,2,3,4,5,7,33,34,35,7000] [4] ?_;refine tB ?_;refine sc ?_ ?_<;>intro hbd;have hcs:dC ls (k+1)=dC ls k:=by rw [hcs0,show ls[k]=[] by simpa using hbd,at6]
 refine be ?_;refine sG [0,2,3,4,5,7,33,34,35,7000] [4] ?_;exact Zpa;have hcs:=hcs0.trans (at7 qm);refine aF ?_;refine sS [0,2,3,4,5,7,33,34,35,7000] [4] ?_;refine FG ?_;refine rA ?_ (x:=gL mN lY ax8 (hs:=by exact (aIg (e:=(dC ls k).1) (l:=ls[k]) ab hcb.1 ab)));refine zM ?_;refine sV [0,2,3,4,5,7,8,9,33,34,35,7000] [4] [8] ?_;refine KL ?_;refine sW [0,2,3,4,5,7,8,9,33,34,35,7000] [8] [4] ?_;refine fA ?_;refine Zpc ?_;refine Zpc ?_;refine rS ?_;refine sG [0,2,3,4,5,7,8,9,33,34,35,7000] [4,8] ?_;exact Zpa;have hend:k=ls.length:=abp;subst hend;refine be ?_;refine sT [0,2,3,4,5,33,34,35,7000] [4] ?_;exact SI):G:=h
def Zkz (h:G:=by
 have hr:go e id=(Ie,false):=by
  cases hoe:aV e with
  | false=>exact atl hoe
  | true=>exact atk hoe (by have hkL:k=e.Done.length:=kf;rw [hkL,Nat.sub_self,List.drop_zero] at ha;exact ha)
 refine be ?_;refine sT [1,2,4,6] [2,4] ?_;refine rA ?_ (x:=bZ (qs:=[]) (cs:=xg) ai sd Hz aIj ak aq rfl ak);refine Zp4 ?_;refine yv (d:=4) xh ak Pu aJ ?_;exact Zp3):G:=h
def Tb (h:G:=by refine pH ?_;refine di ?_;exact (aI (by refine bC ?_;first|rfl|(unfold kb;rfl)) (aI (by refine er ?_;first|(unfold pj;simp_all;done)|(unfold pj;simp_all;omega)|(symm;unfold pj;simp_all;done)|(symm;unfold pj;simp_all;omega)) tI))):G:=h
def Tc (h:G:=by exact absurd hba yP):G:=h
def KA (h:G:=by refine cg ?_;exact (aI (by refine ff ?_;first|(rw [hr];done)|(rw [hr];exact rfl)|(rw [hr,hend,bF];done)|(rw [hr,hend,bF];exact rfl)) tI)):G:=h
def ET (h:G:=by refine rS ?_;exact KA):G:=h
def Zl7 (h:G:=by refine sG [1,2,4,5,6,7,8] [2] ?_;refine rM ?_;refine iC ?_;refine BM ?_;refine Zl6 ?_;refine sG [1,2,4,5,6,7,8] [2] ?_;refine bJ ?_;refine nx (k+1) ab (e:=(by exact aI (by first|exact congrArg (fun z=>some (RV.sc (.string (B z)))) (aGD hlt hk0).symm|exact congrArg (fun z=>some (RV.sc (.string (B z)))) (by subst hk0;rw [aGE hlt];rfl)) (aI ak tI)))):G:=h
def Zlj (h:G:=by exact absurd gd yP):G:=h
def KB (h:G:=by have hc9:¬(ws.length=2∧ws.getD 0 []=([115,101,103,109,101,110,116]:am)∧aE (bT (ws.getD 1 [])) 0 (e.Store.aJr.length - 1)=true):=lS;have hr:=aGy hc1 hc2 hc3 hc7 hc9;refine aF ?_;refine xW ?_;refine rK ?_;exact KA):G:=h
def Zl9 (h:G:=by have hc3:¬(ws.length=1∧ws.getD 0 []=([97,99,116,105,118,101]:am)):=lS;refine oC ?_;refine cx 78 ?_ ?_<;>intro gd sgd;exact Zlj;refine vf ?_;refine rM ?_;refine rN 84 ?_;refine dO ?_;refine rC ?_;have hc7:¬(ws.length=2∧ws.getD 0 []=([114,101,115,117,108,116]:am)∧0≤bT (ws.getD 1 [])):=lS;refine oC ?_;refine cx 102 ?_ ?_<;>intro ge sge;exact absurd ge yP;refine Cl ?_;refine rM ?_;refine rN 108 ?_;refine dO ?_;refine rC ?_;exact KB):G:=h
def Td (h:G:=by exact absurd gc yP):G:=h
def Te (h:G:=by exact absurd gb yP):G:=h
def Tf (h:G:=by exact absurd ga yP):G:=h
def Zlf (h:G:=by have hc9:(ws.length=2∧ws.getD 0 []=([115,101,103,109,101,110,116]:am)∧aE (bT (ws.getD 1 [])) 0 (e.Store.aJr.length - 1)=true):=lS;have hr:=aGx hc9;refine xW ?_;refine BV ?_;refine rM ?_;refine rA ?_ (x:=cL [(true,kq),(false,[val _])] JH azh (hs:=by exact (aHU (s:=e.Store) (i:=bT (ws.getD 1 [])) ab)));exact ET):G:=h
def Zlh (h:G:=by refine zf gg ?_;refine rA ?_ (x:=bE gg);refine rC ?_;exact KB):G:=h
def Zli (h:G:=by exact absurd gf yP):G:=h
def EU (h:G:=by refine cg ?_;exact (bc 6 (bc _ (aI ak (aI (by refine dp ?_;first|(simp only [hr];done)|(rw [hr];first|done|exact rfl)) (aI du (aI (fun h=>nomatch h) (aI (by refine er ?_;first|(rw [hh,hr];done)|(rw [hh,hr];exact rfl)|(rw [hh];exact aGz hsg hg)|exact (decide_eq_true hg).symm) (aI (by refine ff ?_;first|(simp only [hr];done)|(rw [hr];first|done|exact rfl)) tI))))))))):G:=h
def Zlm (h:G:=by refine rK ?_;refine Zjp ?_;exact EU):G:=h
def Tg (h:G:=by refine FG ?_;refine KR ?_;refine rK ?_;exact EU):G:=h
def Zlo (h:G:=by have hr:=atR hit hsz;refine Ag ?_;exact Tg):G:=h
def Zpe (h:G:=by refine Zox ?_;refine KR ?_;exact Zlm):G:=h
def Zls (h:G:=by refine sS [1,2,3,6,7,8,9,14,15,16,17] [3,6,14,16] ?_;exact Zpe):G:=h
def Zlt (h:G:=by refine aF ?_;refine sS [1,2,3,6,7,8,9,14,15,16,17] [3,6,14,16] ?_;exact Tg):G:=h
def Zlx (h:G:=by have ho3:=atK (Pc hoc).1;have hr:=hr0.trans (atW (e:=e) (Pc hoc).1 (Pc hoc).2.1 (Pc hoc).2.2);refine Ur ?_;refine cB ?_;refine rA ?_ (x:=cL Et Eu aqn (hs:=by exact (auA (e:=e) (o:=kb (an 32 l)) ab ab)));refine zM ?_;refine sV [1,2,3,6,7,8,9,14,15,18,19,20,21] [3,6,14] [20] ?_;exact Zpe):G:=h
def Zlz (h:G:=by
 have hof:gF e ((an 32 l).getD 0 [])=(gD e,itoa ((gD e).Steps - e.Steps)):=by rw [hlf.2];exact atY e
 have hr:=(hr0.trans (OZ hlf.1)).trans hof;have hs1:=DH hi;have hs2:=DH (OS hi);refine Ur ?_;refine rA ?_ (x:=cL fF fW ayQ (hs:=by exact (aH7 (e:=e) ab)));refine md ?_;refine sU [1,2,3,6,7,8,9,14,15,18,19,22] [3,6,14] [22] ?_;refine yv (d:=22) mP ak DN aJ ?_;refine sU [1,2,3,6,7,8,9,14,15,18,19,22] [3,6,14] [22] ?_;refine Gx ?_;refine xS ?_;refine dA 4 ?_ (x:=lD [val _] aT);refine xS ?_;refine dA 16 ?_ (x:=lD [val _] aT);refine dA 60 ?_ (x:=kQ);refine dA 124 ?_ (x:=cL aH aH jo (hs:=jc));refine dA 253 ?_ (x:=bO (ag:=true) (vs:=et) du aq ak ax);refine dA 511 ?_ (x:=sA);refine dA 1023 ?_ (x:=sA);exact EU):G:=h
def Zm0 (h:G:=by
 have hof:gF e ((an 32 l).getD 0 [])=(gp e,AL (gp e).Order):=by rw [hla.2];exact atX e
 have hr:=(hr0.trans (OZ hla.1)).trans hof;have hoo:ci (gp e).Order=true:=(gz.1 (Ih hi (pW e)).ok).od;have hol3:=aab hoo;have hoa:=ZR hoo;have hi0:(itoa ((gp e).Order.getD 0 0)).length≤21:=bu br;have hi1:(itoa ((gp e).Order.getD 1 0)).length≤21:=bu br;have hi2:(itoa ((gp e).Order.getD 2 0)).length≤21:=bu br;refine Ur ?_;refine rA ?_ (x:=cL fF fW ayR (hs:=by exact (aH3 (e:=e) ab)));refine md ?_;refine sU [1,2,3,6,7,8,9,14,15,18,19,23] [3,6,14] [23] ?_;refine yv (d:=23) mP ak DN aJ ?_;refine sU [1,2,3,6,7,8,9,14,15,18,19,23] [3,6,14] [23] ?_;refine Gx ?_;refine CL ?_;refine dA 4 ?_ (x:=lD [sl .v _] ca);refine dA 12 ?_ (x:=aP (k:=0) ai bW (aY rfl) ej (by exact eI ab (by rw [dH (l:=(gp e).Order) (i:=0) (d:=(0:Int)) ab])) ak);refine dA 28 ?_ (x:=lE [val _] aT);refine dA 60 ?_ (x:=cL aH aH jo (hs:=jc));refine dA 124 ?_ (x:=cP (h:=DT));refine CL ?_;refine dA 256 ?_ (x:=lD [sl .v _] ca);refine dA 768 ?_ (x:=aP (k:=1) ai bW (aY rfl) ej (by exact eI ab (by rw [dH (l:=(gp e).Order) (i:=1) (d:=(0:Int)) ab])) ak);refine dA 1792 ?_ (x:=lE [val _] aT);refine dA 3964 ?_ (x:=cL aH aH jo (hs:=jc));refine dA 8188 ?_ (x:=cP (h:=DT));refine dA 16380 ?_ (x:=cP (h:=DT));refine CL ?_;refine dA 32768 ?_ (x:=lD [sl .v _] ca);refine dA 98304 ?_ (x:=aP (k:=2) ai bW (aY rfl) ej (by exact eI ab (by rw [dH (l:=(gp e).Order) (i:=2) (d:=(0:Int)) ab])) ak);refine dA 229376 ?_ (x:=lE [val _] aT);refine dA 499580 ?_ (x:=cL aH aH jo (hs:=jc));refine dA 1048572 ?_ (x:=cP (h:=DT));refine dA 1023869 ?_ (x:=bO (ag:=true) (vs:=et) du aq ak ax);refine dA 3121023 ?_ (x:=sA);refine dA 8388607 ?_ (x:=sA);exact EU):G:=h
def Zm1 (h:G:=by have hr:=hr0.trans (aGs (e:=e) hna hnf hoc);refine cm ?_;refine sP [1,2,3,6,7,8,9,14,15,18,19] [3,6,14] ?_;refine Gx ?_;refine Zp8 ?_;refine dA 12 ?_ (x:=cL Et Eu ayS (hs:=by exact (aIq (e:=e) (ws:=(an 32 l)) ab hi h0w (fun j=>Nat.le_trans (iP 32 l j) ab) ab)));refine dA 29 ?_ (x:=bO (ag:=true) (vs:=et) du aq ak ax);refine dA 63 ?_ (x:=sA);refine dA 127 ?_ (x:=sA);exact EU):G:=h
def Zpg (h:G:=by refine bJ ?_;refine nx (k+1) ab (e:=(by exact aI (by first|exact congrArg (fun z=>some (RV.bool z)) (by rw [hcs])|exact congrArg (fun z=>some (RV.bool z)) (by rw [hcs];rfl)) (aI (by exact congrArg (fun z=>some (RV.sc (.string (B z)))) (by first|(rw [hcs];done)|(rw [hcs];exact bn _ _ _)|(rw [hcs,bn]))) (aI ak tI)))) (f:=abP)):G:=h
def Zm2 (h:G:=by
 refine bd ?_;refine rH ?_;refine oy ?_;refine nF ?_;refine sc ?_ ?_<;>intro hbc;have hr:=Pa (s:=s) (.inr (by rw [hle];omega));refine rH ?_;exact BC;have h60:ls.length≤60:=ab;have hr:=Ij h30 (by rw [hle];exact h60);rw [hle] at hr;refine aF ?_;refine rH ?_;refine rA ?_ (x:=bZ (qs:=[]) (cs:=et) ai ug uh aIi ak aq rfl ak);refine md ?_;refine sQ [0,2,3,4] [4] ?_;refine Zpb ?_;refine sH [0,2,3,4] [4] ?_;refine rK ?_;refine sS [0,2,3,4,5] [4] ?_;refine de ?_;refine sS [0,2,3,4,5,6] [4] ?_;refine ck ?_;refine sP [0,2,3,4,5,6,7] [4] ?_;refine sL [0,2,3,4] [] (fun k:Nat=>k≤ls.length) (fun k:Nat=>[(5,RV.bool (decide (0 < (dC ls k).1.Store.aJr.length))),(6,RV.sc (.string (B (dC ls k).2))),(7,RV.int (k:Int))]) (fun k:Nat=>[(4,(46,[sl .v ((dC ls k).1.Store.aJr.map (aQ .v .v)),val (vI (dC ls k).1.Store.Now),val (vI (dC ls k).1.aJw),sl .v ((dC ls k).1.Order.map ar),sl .v ((dC ls k).1.aJs.map (bi .v .v .v .v .v)),sl .v ((dC ls k).1.Done.map (bS .v .v .v .v)),sl .v ((dC ls k).1.aJE.map (bL .v .v .v)),val (vI (dC ls k).1.Steps)]))]) (fun k:Nat=>ls.length - k) 0 ab ta bp ?_;rintro k hk;have hcb:=ZT h60 k hk;refine cq ?_;refine Ct ?_;refine sc ?_ ?_<;>intro hbd;have hlt:k < ls.length:=abq;have hlm:=at8 (s:=s) aaZ;have hcs0:=Ii hlt;have hcl:=ZS hcb.1 ls[k];refine fH ?_;refine sT [0,2,3,4,5,6,7] [4] ?_;refine iC ?_;refine BM ?_;refine rA ?_ (x:=pA);refine sc ?_ ?_<;>intro hbe;have hcs:dC ls (k+1)=dC ls k:=by rw [hcs0,show ls[k]=[] by simpa using hbe,at6]
 refine be ?_;refine sG [0,2,3,4,5,6,7] [4] ?_;exact Zpg;have hcs:=hcs0.trans (at7 uC);refine cm ?_;refine sP [0,2,3,4,5,6,7] [4] ?_;refine Gx ?_;refine hM ?_;refine Zph ?_;refine dA 63 ?_ (x:=cL ac4 ac5 ayf (hs:=by exact (aIr (e:=(dC ls k).1) (has:=(decide (0 < (dC ls k).1.Store.aJr.length))) (l:=ls[k]) ab hcb.1 rfl ab)));refine dA 127 ?_ (x:=tM);refine dA 255 ?_ (x:=qr (cs:=et) ai ak aJ);refine Zpi ?_;refine Zpi ?_;refine VV ?_;refine dA 2559 ?_ (x:=bO (ag:=true) (vs:=et) du aq ak ax);refine dA 7167 ?_ (x:=sA);refine dA 16383 ?_ (x:=sA);refine sV [0,2,3,4,5,6,7,8,9,10] [4] [8] ?_;refine KL ?_;refine sV [0,2,3,4,5,6,7,8,9,10] [8] [4] ?_;refine vp ?_;refine sG [0,2,3,4,5,6,7,8,9,10] [4,8] ?_;refine fA ?_;refine TL ?_;refine rS ?_;refine sG [0,2,3,4,5,6,7,8,9,10] [4,8] ?_;exact Zpg;have hend:k=ls.length:=abq;subst hend;refine be ?_;refine sT [0,2,3,4,5,6,7] [4] ?_;exact SI):G:=h
def Zm3 (h:G:=by refine di ?_;exact (aI (by refine cy ?_;rw [hr];try rfl) tI)):G:=h
def Zm5 (h:G:=by refine di ?_;exact rb (by first|(unfold uu;simp_all;done)|(symm;unfold uu;simp_all;done)|(unfold uu;simp_all;omega)|(unfold uu;simp_all;rw [Bool.eq_iff_iff];simp;done)|(unfold uu;simp;intro z;exfalso;omega)|(unfold uu;simp_all;intro z;exfalso;omega))):G:=h
def Th (h:G:=by refine BY ?_;refine nx (k+1) ab (e:=(by exact aI IH (aI IH (aI IH (aI IH (aI lh tI))))))):G:=h
def Ti (h:G:=by have hsk:(nq s k (dl s kk k)):=DS;have hp:=Pp hsk;refine be ?_;exact Th):G:=h
def Zpk (h:G:=by
 have hf5:(dl s kk k).lines+1=kk∧k < s.length:=by first|(constructor<;>omega)|(simp_all;done)|(simp_all;omega)
 refine BY ?_;exact Th):G:=h
def KC (h:G:=by
 have hf5:¬((dl s kk k).lines+1=kk∧k < s.length):=by first|(rintro ⟨a_,b_⟩;omega)|(simp_all;done)|(simp_all;omega)
 refine aF ?_;exact Th):G:=h
def Zpm (h:G:=by refine sc ?_ ?_<;>intro hbf;exact Zpk;exact KC):G:=h
def Zpn (h:G:=by refine vf ?_;refine fY ?_;exact KC):G:=h
def Zmb (h:G:=by refine xw ?_;refine BQ ?_;refine hO ?_;refine cx 66 ?_ ?_<;>intro gd sgd;refine vz ?_;refine vz ?_;refine rB gd ?_ (x:=jh om);refine rB gd ?_ (x:=ow);refine qD ?_;exact Zpm;exact Zpn):G:=h
def Zpo (h:G:=by refine sc ?_ ?_<;>intro hbe;exact Zpk;exact KC):G:=h
def Zmc (h:G:=by refine xw ?_;refine BQ ?_;refine hO ?_;refine cx 66 ?_ ?_<;>intro gd sgd;refine vz ?_;refine vz ?_;refine rB gd ?_ (x:=jh om);refine rB gd ?_ (x:=ow);refine qD ?_;exact Zpo;exact Zpn):G:=h
def Zpp (h:G:=by refine kR ?_;refine fY ?_;exact KC):G:=h
def Zmd (h:G:=by refine xw ?_;refine BQ ?_;refine hO ?_;refine cx 66 ?_ ?_<;>intro gc sgc;refine kT ?_;refine kT ?_;refine rB gc ?_ (x:=jh om);refine rB gc ?_ (x:=ow);refine rI ?_;exact Zpm;exact Zpp):G:=h
def Zme (h:G:=by refine xw ?_;refine BQ ?_;refine hO ?_;refine cx 66 ?_ ?_<;>intro gc sgc;refine kT ?_;refine kT ?_;refine rB gc ?_ (x:=jh om);refine rB gc ?_ (x:=ow);refine rI ?_;exact Zpo;exact Zpp):G:=h
def Zmg (h:G:=by have hr:=Pa (s:=s) kf;refine GV ?_;refine tB ?_;refine di ?_;exact rb (by first|(rw [hr];simp;done)|(simp [hr];done))):G:=h
def Zmh (h:G:=by refine sG [0,2,3,4,5,6,7,8,9,10,11,12,7000] [] ?_;refine bJ ?_;refine nx (k+1) ab (e:=(by exact aI (by exact cy (by first|rw [aHb hlt hc10]|(rw [aHa hlt hc10];omega))) (aI lh tI)))):G:=h
def Zmi (h:G:=by refine di ?_;exact rb (by first|(rw [hbg,hca,he2];simp;done)|(simp [hbg,hca,he2];done)|(simp_all;done))):G:=h
def Tj (w:ae G H:=by intro z;refine rA ?_ (x:=cl (qs:=aH) ai bW jV ai rfl rfl rfl rfl rfl ax bP rfl);exact rA z.g (x:=fe ai bW jV rfl rfl ai rfl bo bo)):=ah w h
def qw (w:ae G H:=by intro z;refine Wr ?_;exact vK z.g):=ah w h
def xl (w:ae G H:=by intro z;refine rA ?_ (x:=tm (cs:=et) (qs:=mP) ai ak Io aJ);exact pJ z.g):=ah w h
def Tk (w:ae G H:=by intro z;refine pJ ?_;exact pJ z.g):=ah w h
def uS (w:ae G H:=by intro z;refine GQ ?_;exact vK z.g):=ah w h
def mR (w:ae G H:=by intro z;refine iF ?_;exact rA z.g (x:=iS (bx:=0) (qs:=aH) (as_:=aH) ai Hu rfl yM pn kI aJ Qg)):=ah w h
def iU (w:ae G H:=by intro z;refine sR ?_;exact rX z.g (x:=(lm (ag:=true) (cs:=et) ai aq))):=ah w h
def cm (w:ae G H:=by intro z;refine aF ?_;exact bd z.g):=ah w h
def aW (w:ae G H:=by intro z;refine cm ?_;exact iV z.g):=ah w h
def uT (w:ae G H:=by intro z;refine rA ?_ (x:=aP ai bW aq ak bD ak);exact zO z.g):=ah w h
def EV (w:ae G H:=by intro z;refine GJ ?_;exact dG z.g):=ah w h
def KD (w:ae G H:=by intro z;refine GN ?_;exact GO z.g):=ah w h
def mS (w:ae G H:=by intro z;refine rM ?_;exact qA z.g):=ah w h
def oy (w:ae G H:=by intro z;refine cB ?_;exact rA z.g (x:=lN dc)):=ah w h
def KE (w:ae G H:=by intro z;refine rA ?_ (x:=mH (qs:=Rk) ai oQ (fun h=>nomatch h) ax Pt aJ);exact rA z.g (x:=cl (qs:=ac3) ai dj nV ai rfl rfl rfl rfl rfl ax bP rfl)):=ah w h
def KF (w:ae G H:=by intro z;refine VR ?_;exact rA z.g (x:=cl (qs:=JI) ai dj nV ai rfl rfl rfl rfl rfl ax bP rfl)):=ah w h
def Tl (w:ae G H:=by intro z;refine zW ?_;exact GO z.g):=ah w h
def EW (w:ae G H:=by intro z;refine GR ?_;exact GR z.g):=ah w h
def KG (w:ae G H:=by intro z;refine rA ?_ (x:=tm (cs:=py) (qs:=zc) ai ak aau aJ);exact pJ z.g):=ah w h
def BD (w:ae G H:=by intro z;refine rA ?_ (x:=cl (qs:=kP) ai iK jl ai rfl rfl rfl rfl rfl ax bP rfl);exact rA z.g (x:=fe ai iK jl rfl rfl ai rfl bo bo)):=ah w h
def EX (w:ae G H:=by intro z;refine sU [0,2,3,4,5] [2] [5] ?_;exact We z.g):=ah w h
def KH (w:ae G H:=by intro z;refine jT ?_;exact rA z.g (x:=cL fF fW Xu (hs:=by exact (XS ab)))):=ah w h
def hM (w:ae G H:=by intro z;refine nH ?_;exact dP z.g):=ah w h
def Tm (w:ae G H:=by intro z;refine MW ?_;exact bd z.g):=ah w h
def ek (w:ae G H:=by intro z;refine rA ?_ (x:=kM);exact iV z.g):=ah w h
def KI (w:ae G H:=by intro z;refine Ws ?_;exact rA z.g (x:=tl (qs:=Rk) ai oQ (fun h=>nomatch h) ax Pt aJ)):=ah w h
def jQ (w:ae G H:=by intro z;refine cB ?_;exact rA z.g (x:=lN bW)):=ah w h
def jR (w:ae G H:=by intro z;refine jx ?_;exact rS z.g):=ah w h
def BE (w:ae G H:=by intro z;refine rA ?_ (x:=lF nQ);exact rA z.g (x:=lD [sl .v _] nU)):=ah w h
def ck (w:ae G H:=by intro z;refine rK ?_;exact iV z.g):=ah w h
def EY (w:ae G H:=by intro z;refine rA ?_ (x:=tm (cs:=ot) (qs:=uO) ai ak aaN aJ);exact pJ z.g):=ah w h
def lv (w:ae G H:=by intro z;refine sR ?_;exact rX z.g (x:=(lm (ag:=true) (cs:=kq) ai aq))):=ah w h
def Zgr (w:ae G H:=by intro z;refine sP [1,2,3,4,5,6,14,57,58,59,145,146,147,6200] [1,2,4,6] ?_;exact sL [1,2,3,4,5,6,57,58,59,145,146] [1,2,6] (fun m:Nat=>m≤e.aJs.length) (fun m:Nat=>[(14,RV.slc cG ((ob e (parts e).length m).map (bi aG aj aj aK aj))),(147,RV.int (m:Int)),(6200,RV.gh (bz 10 (za.drop m)) (cb (bi aG aj aj aK aj) (za.drop m)))]) (fun m:Nat=>[(4,(46,[sl bI (e.Store.aJr.map (aQ ba aj)),val (vI e.Store.Now),val (vI e.aJw),sl aj (e.Order.map ar),sl .v (za.map iw),sl cw ((e.Done++kC e (parts e).length m).map (bS aG aj aK aj)),sl cD ((kD e (parts e).length).map (bL aj aj aj)),val (vI e.Steps)]))]) (fun m:Nat=>e.aJs.length - m) 0 ab ta (by exact aI (by show _=some (46,[sl bI (e.Store.aJr.map (aQ ba aj)),val (vI e.Store.Now),val (vI e.aJw),sl aj (e.Order.map ar),sl .v (za.map iw),sl cw ((e.Done++kC e (parts e).length 0).map (bS aG aj aK aj)),sl cD ((kD e (parts e).length).map (bL aj aj aj)),val (vI e.Steps)]);rw [show kC e (parts e).length 0=[] from rfl,fS];first|(rw [hled];simp only [bj];exact rfl)|(rw [hled];exact rfl)) tI) z.g):=ah w h
def de (w:ae G H:=by intro z;refine rK ?_;exact bd z.g):=ah w h
def mb (w:ae G H:=by intro z;refine zf ga ?_;exact lz z.g):=ah w h
def Tn (w:ae G H:=by intro z;refine GL ?_;exact VS z.g):=ah w h
def dO (w:ae G H:=by intro z;refine zf rfl ?_;exact rA z.g (x:=bE rfl)):=ah w h
def cf (w:ae G H:=by intro z;refine qA ?_;exact rM z.g):=ah w h
def EZ (w:ae G H:=by intro z;refine MG ?_;exact rA z.g (x:=bZ (qs:=dh) (cs:=py) ai yt yu OQ ak yS rfl ak)):=ah w h
def Tp (w:ae G H:=by intro z;refine Ws ?_;exact Zdh z.g):=ah w h
def BF (w:ae G H:=by intro z;refine jT ?_;exact rA z.g (x:=cL fF fW Ht (hs:=Qh))):=ah w h
def Tq (w:ae G H:=by intro z;refine eS ?_;exact Mz z.g):=ah w h
def BG (w:ae G H:=by intro z;refine jT ?_;exact rA z.g (x:=cL fF fW Xn (hs:=by exact (XU ab)))):=ah w h
def tz (w:ae G H:=by intro z;refine rA ?_ (x:=lF ik);exact rA z.g (x:=lD [sl .v _] fE)):=ah w h
def Fc (w:ae G H:=by intro z;refine cB ?_;exact rA z.g (x:=aP (k:=0) ai dc (aY rfl) ej ux ak)):=ah w h
def cq (w:ae G H:=by intro z;refine bd ?_;refine sR ?_;exact rM z.g):=ah w h
def bJ (w:ae G H:=by intro z;refine mS ?_;exact rS z.g):=ah w h
def KJ (w:ae G H:=by intro z;refine zt ga ?_;exact iW z.g):=ah w h
def pB (w:ae G H:=by intro z;refine sR ?_;exact Wa z.g):=ah w h
def Tr (w:ae G H:=by intro z;refine ME ?_;exact VU z.g):=ah w h
def uU (w:ae G H:=by intro z;refine cK ?_;exact MQ z.g):=ah w h
def xm (w:ae G H:=by intro z;refine GK ?_;exact zV z.g):=ah w h
def iC (w:ae G H:=by intro z;refine cB ?_;exact rM z.g):=ah w h
def cz (w:ae G H:=by intro z;refine rK ?_;exact cg z.g):=ah w h
def Fe (w:ae G H:=by intro z;refine jT ?_;exact rA z.g (x:=cL fF fW aqa (hs:=by exact (ars ab)))):=ah w h
def mT (w:ae G H:=by intro z;refine zt rfl ?_;exact rA z.g (x:=ce rfl)):=ah w h
def xn (w:ae G H:=by intro z;refine MN ?_;exact MK z.g):=ah w h
def zj (w:ae G H:=by intro z;refine znu ?_;exact rA z.g (x:=lE Bp qP)):=ah w h
def BH (w:ae G H:=by intro z;refine rX ?_ (x:=(gQ ai vR vS));exact Ad z.g):=ah w h
def Ff (w:ae G H:=by intro z;refine Zps ?_;exact dG z.g):=ah w h
def Ts (w:ae G H:=by intro z;refine eX (d:=920) ak (tt (s.aJr[i].set k (nX (s.Now+1) s.aJr[i][k])) hi ak) ?_;exact uL (d:=6) (D:=920) (G:=2920) (e:=1) (A:=[]) (B:=[val _]) (es:=((s.aJr).set i (s.aJr[i].set k (nX (s.Now+1) s.aJr[i][k]))).map (aQ ba aj)) ak ak ak rfl uw ra (by rw [aU];exact hjk920) z.g):=ah w h
def it (w:ae G H:=by intro z;refine zf gb ?_;exact pG z.g):=ah w h
def Fg (w:ae G H:=by intro z;refine rB ga ?_ (x:=cL cJ cJ tU (hs:=sY));exact rB ga z.g (x:=nT)):=ah w h
def ry (w:ae G H:=by intro z;refine tQ ?_;exact rA z.g (x:=lN bW)):=ah w h
def xo (w:ae G H:=by intro z;refine zhv ?_;exact Aa z.g):=ah w h
def jw (w:ae G H:=by intro z;refine dG ?_;exact bd z.g):=ah w h
def ztd (w:ae G H:=by intro z;refine VX ?_;exact VL z.g):=ah w h
def dE (w:ae G H:=by intro z;refine fB ?_;exact rM z.g):=ah w h
def Fh (w:ae G H:=by intro z;refine MD ?_;exact VT z.g):=ah w h
def Tt (w:ae G H:=by intro z;refine rA ?_ (x:=lE [sl .v _] ca);exact VW z.g):=ah w h
def hO (w:ae G H:=by intro z;refine jx ?_;exact rM z.g):=ah w h
def Tu (w:ae G H:=by intro z;refine eX (d:=921) ak (tt (nX (s.Now+1) s.aJr[i][k]) hk ak) ?_;exact uL (d:=920) (D:=921) (G:=2921) (e:=4) (A:=_) (B:=[]++_) (es:=((s.aJr[i]).set k (nX (s.Now+1) s.aJr[i][k])).map (iG aj)) ak ak ak rfl uw ra (by rw [aU];exact hjk921) z.g):=ah w h
def bQ (w:ae G H:=by intro z;refine sR ?_;refine eK ?_;exact bd z.g):=ah w h
def di (w:ae G H:=by intro z;refine rS ?_;exact cg z.g):=ah w h
def BI (w:ae G H:=by intro z;refine Zgj ?_;exact rA z.g (x:=lE nD jA)):=ah w h
def BJ (w:ae G H:=by intro z;refine vu ?_;exact rA z.g (x:=cL iR kp Hf (hs:=by exact NN))):=ah w h
def BK (w:ae G H:=by intro z;refine rA ?_ (x:=lF ik);exact rA z.g (x:=bO (ag:=false) (vs:=[sl _ _]) fE aq ak ax)):=ah w h
def Fj (w:ae G H:=by intro z;refine iF ?_;exact rA z.g (x:=iS (bx:=0) (qs:=[]) (as_:=[]) ai aqe rfl aq aq kI (by exact jJ) (by exact (aqO hbo)))):=ah w h
def cV (w:ae G H:=by intro z;refine rS ?_;exact bd z.g):=ah w h
def Tv (w:ae G H:=by intro z;refine Zpt ?_;exact rB ga z.g (x:=nT)):=ah w h
def KK (w:ae G H:=by intro z;refine GL ?_;exact rA z.g (x:=bO (ag:=true) (vs:=rp) oQ aq ak ax)):=ah w h
def rz (w:ae G H:=by intro z;refine iF ?_;exact zN z.g):=ah w h
def BL (w:ae G H:=by intro z;refine Zpu ?_;exact rA z.g (x:=lE jg gW)):=ah w h
def Zmj (w:ae G H:=by intro z;refine rA ?_ (x:=cl (qs:=Bm) ai iJ pS ai rfl rfl rfl rfl rfl ax bP rfl);exact rA z.g (x:=fe ai iJ pS rfl rfl ai rfl bo bo)):=ah w h
def Tw (w:ae G H:=by intro z;refine VN ?_;exact zV z.g):=ah w h
def qx (w:ae G H:=by intro z;refine sR ?_;exact tR z.g):=ah w h
def Fk (w:ae G H:=by intro z;refine sR ?_;exact rX z.g (x:=(lm (ag:=true) (cs:=[sl (.lo _) _,val _,val _,sl (.lo _) _,sl (.lo _) _,sl (.lo _) _,sl (.lo _) _,val _]) ai aq))):=ah w h
def zk (w:ae G H:=by intro z;refine rA ?_ (x:=cl (qs:=[]) ai fO jF ai rfl rfl rfl rfl rfl ax aq rfl);exact jw z.g):=ah w h
def xp (w:ae G H:=by intro z;refine tO ?_;exact bd z.g):=ah w h
def xq (w:ae G H:=by intro z;refine sR ?_;exact rX z.g (x:=(lm (ag:=true) (cs:=qv) ai aq))):=ah w h
def Tx (w:ae G H:=by intro z;refine Wh ?_;exact rB ga z.g (x:=gL tu tv azV (hs:=by exact (aFL (x:=fy s))))):=ah w h
def Ty (w:ae G H:=by intro z;refine MI ?_;exact rA z.g (x:=cL tu tv Xr (hs:=by exact (ZG (x:=fy s))))):=ah w h
def xr (w:ae G H:=by intro z;refine rA ?_ (x:=lF WH);exact eS z.g):=ah w h
def zzl (w:ae G H:=by intro z;refine sP [0,2,3,4,5,6,7,8,9,11,12,13,14,7000] [2,12] ?_;exact sL [0,2,3,4,5,6,7,8,9,11,12,7000] [2] (fun k:Nat=>k≤(((an 32 s).length - 4) / 2)) (fun k:Nat=>[(13,RV.bool (yH (an 32 s) k)),(14,RV.int (2+2 * (k:Int)))]) (fun k:Nat=>[(12,(25,[val (vI (um 113 ((an 32 s).getD 0 []))),val (vI (um 116 ((an 32 s).getD 1 []))),sl aG ((yG (an 32 s) k).map cr),sl aj ((wD ((an 32 s).getD ((an 32 s).length - 1) [])).map ar)]))]) (fun k:Nat=>(((an 32 s).length - 4) / 2) - k) 0 ab (by exact aI (by exact er (by first|(simp_all [yH,OB,un];done)|(simp [yH,OB,un];simp_all;done))) (aI ak tI)) bp z.g):=ah w h
def Zhk (w:ae G H:=by intro z;refine sP [1,2,4,5,6] [2,4,5] ?_;exact sL [1,2,4,5] [2,4] (fun k:Nat=>k≤sr n) (fun k:Nat=>[(6,RV.int (k:Int))]) (fun k:Nat=>[(5,(46,[sl bI ((mz e k).Store.aJr.map (aQ ba aj)),val (vI (mz e k).Store.Now),val (vI (mz e k).aJw),sl aj ((mz e k).Order.map ar),sl cG ((mz e k).aJs.map (bi aG aj aj aK aj)),sl cw ((mz e k).Done.map (bS aG aj aK aj)),sl cD ((mz e k).aJE.map (bL aj aj aj)),val (vI (mz e k).Steps)]))]) (fun k:Nat=>sr n - k) 0 ab bp bp z.g):=ah w h
def Zjb (w:ae G H:=by intro z;refine sP [1,2,3,4] [1,2,3] ?_;exact sL [1,2,3] [1,2] (fun k:Nat=>k≤200) (fun k:Nat=>[(4,RV.int (k:Int))]) (fun k:Nat=>[(3,(46,[sl bI ((eP e k).Store.aJr.map (aQ ba aj)),val (vI (eP e k).Store.Now),val (vI (eP e k).aJw),sl aj ((eP e k).Order.map ar),sl cG ((eP e k).aJs.map (bi aG aj aj aK aj)),sl cw ((eP e k).Done.map (bS aG aj aK aj)),sl cD ((eP e k).aJE.map (bL aj aj aj)),val (vI (eP e k).Steps)]))]) (fun k:Nat=>200 - k) 0 ab bp bp z.g):=ah w h
def Fm (w:ae G H:=by intro z;refine rX ?_ (x:=(gQ ai nW Ay));exact zqf z.g):=ah w h
def Fo (w:ae G H:=by intro z;refine vu ?_;exact rA z.g (x:=cL iR kp Nh (hs:=IE))):=ah w h
def Tz (w:ae G H:=by intro z;refine rA ?_ (x:=bZ (qs:=[(false,[val _]),(true,iA)]) (cs:=ot) ai vR vS ZJ ak yS rfl ak);exact Ad z.g):=ah w h
def KL (w:ae G H:=by intro z;refine jT ?_;exact vK z.g):=ah w h
def BM (w:ae G H:=by intro z;refine rA ?_ (x:=aP ai dc aq ak bD ak);exact pK z.g):=ah w h
def Fq (w:ae G H:=by intro z;refine eS ?_;exact My z.g):=ah w h
def zl4 (w:ae G H:=by intro z;refine eX (d:=900) ak (tt (⟨((dk l f k).getD ((dk l f k).length - 1) oK).From,(k:Int),((dk l f k).getD ((dk l f k).length - 1) oK).Set⟩) hl1 (by rw [dH (d:=oK) hl1];exact rfl)) ?_;exact acU (s:=5) (D:=900) (G:=2900) (e:=3) (es:=(((dk l f k)).set ((dk l f k).length - 1) (⟨((dk l f k).getD ((dk l f k).length - 1) oK).From,(k:Int),((dk l f k).getD ((dk l f k).length - 1) oK).Set⟩)).map (mg aj)) ak ak ak rfl ai uw ra AS z.g):=ah w h
def KM (w:ae G H:=by intro z;refine GS ?_;exact MW z.g):=ah w h
def oz (w:ae G H:=by intro z;refine iU ?_;exact GQ z.g):=ah w h
def TA (w:ae G H:=by intro z;refine Zpv ?_;exact rA z.g (x:=avL (f:=ue) (e:=1) (k:=i) (qs:=[sl .v _]) (fun _=>rfl) rfl ab ai oR (fun _=>rfl) io fR)):=ah w h
def zhm (w:ae G H:=by intro z;refine Zpt ?_;exact iW z.g):=ah w h
def TB (w:ae G H:=by intro z;refine CR ?_;exact rA z.g (x:=cL [(true,[sl (.lo _) _,val _,val _,sl (.lo _) _,sl (.lo _) _,sl (.lo _) _,sl (.lo _) _,val _])] fW aqa (hs:=by exact (ars ab)))):=ah w h
def mU (w:ae G H:=by intro z;refine cq ?_;exact cB z.g):=ah w h
def TC (w:ae G H:=by intro z;refine CR ?_;exact rA z.g (x:=cL [(true,[sl (.lo _) _,val _,val _,sl (.lo _) _,sl (.lo _) _,sl (.lo _) _,sl (.lo _) _,val _])] fW Xu (hs:=by exact (XS ab)))):=ah w h
def TD (w:ae G H:=by intro z;refine CR ?_;exact rA z.g (x:=cL [(true,[sl (.lo _) _,val _,val _,sl (.lo _) _,sl (.lo _) _,sl (.lo _) _,sl (.lo _) _,val _])] fW Ht (hs:=Qh))):=ah w h
def TE (w:ae G H:=by intro z;refine CR ?_;exact rA z.g (x:=cL [(true,[sl (.lo _) _,val _,val _,sl (.lo _) _,sl (.lo _) _,sl (.lo _) _,sl (.lo _) _,val _])] fW Xn (hs:=by exact (XU ab)))):=ah w h
def TF (w:ae G H:=by intro z;refine dA 7 ?_ (x:=mL (k:=i) (G:=2920) ai hY aq ab (by first|(rw [aU];exact hi)|exact hi));exact dA 15 z.g (x:=yX (o:=0) (qs:=[val _]) ab ai oR (fun _=>rfl) ax wK nt)):=ah w h
def KN (w:ae G H:=by intro z;refine rB gb ?_ (x:=lD uO lB);exact rB gb z.g (x:=cL uM rj ap9 (hs:=by exact (atz (u:=jp s))))):=ah w h
def Zop (w:ae G H:=by intro z;refine dA 8160 ?_ (x:=bZ (qs:=[(true,[nv _ (val _),nv _ (val _),nv _ (sl _ _),nv _ (sl _ _)]),(false,[val _]),(false,[val _]),(false,[nv _ (sl _ _)])]) (cs:=adk) ai sd Hz aHF ak yQ rfl ak);exact dA 16352 z.g (x:=cl (qs:=[(true,adk)]) ai nS sd ai rfl rfl rfl rfl rfl ax bP rfl)):=ah w h
def xt (w:ae G H:=by intro z;refine sR ?_;exact rX z.g (x:=(lm (ag:=true) (cs:=px) ai aq))):=ah w h
def iD (w:ae G H:=by intro z;refine ku ?_;exact rM z.g):=ah w h
def Fr (w:ae G H:=by intro z;refine MB ?_;exact Wo z.g):=ah w h
def fG (w:ae G H:=by intro z;refine be ?_;exact bd z.g):=ah w h
def uV (w:ae G H:=by intro z;refine rB ga ?_ (x:=lu);exact iW z.g):=ah w h
def tB (w:ae G H:=by intro z;refine rM ?_;exact rA z.g (x:=pA)):=ah w h
def Zgi (w:ae G H:=by intro z;refine sO [(1,_),(2,_),(3,_),(4,_),(5,_),(6,_),(8,_),(9,_),(10,_),(11,_),(57,_),(58,_),(59,_),(77,_),(78,_),(79,_),(2900,_),(6100,_)] [(1,(46,[sl (.lo _) _,val _,val _,sl (.lo _) _,sl (.lo _) _,sl (.lo _) _,sl (.lo _) _,val _])),(2,(46,et)),(4,(46,Ey)),(6,(149,qv)),(10,(102,lr)),(900,(102,_++(lr++_)))] ?_;exact fV z.g):=ah w h
def Ft (w:ae G H:=by intro z;refine xP ?_;exact rB ga z.g (x:=aP (k:=0) ai dc (aY rfl) ej ux ak)):=ah w h
def kR (w:ae G H:=by intro z;refine zf gc ?_;exact rA z.g (x:=bE gc)):=ah w h
def fH (w:ae G H:=by intro z;refine aW ?_;exact bd z.g):=ah w h
def KO (w:ae G H:=by intro z;refine jT ?_;exact MI z.g):=ah w h
def mc (w:ae G H:=by intro z;refine rB ga ?_ (x:=nT);exact lz z.g):=ah w h
def Fu (w:ae G H:=by intro z;refine dA 3 ?_ (x:=aP ai bW aq ak bD ak);exact dA 7 z.g (x:=lE [val _] aT)):=ah w h
def KP (w:ae G H:=by intro z;refine rA ?_ (x:=aP ai nS aq ak bD ak);exact rA z.g (x:=lE xh wo)):=ah w h
def zl (w:ae G H:=by intro z;refine rA ?_ (x:=lF Dc);exact MH z.g):=ah w h
def BN (w:ae G H:=by intro z;refine sR ?_;exact zx5 z.g):=ah w h
def TG (w:ae G H:=by intro z;refine rA ?_ (x:=mL (k:=u.Field.toNat) (G:=2930) ai bW aq ab (by first|(rw [aU];exact hfl)|exact hfl));exact rA z.g (x:=to (o:=0) (ag:=false) (vs:=[val _]) ab aT aq ak ax)):=ah w h
def zm (w:ae G H:=by intro z;refine sR ?_;exact MA z.g):=ah w h
def Zfe (w:ae G H:=by intro z;refine sO [(2,_),(3,_),(4,_),(6,_),(7,_),(8,_),(9,_),(11,_),(54,_),(55,_),(67,_),(68,_),(69,_),(6200,_),(6300,_)] [(3,(46,et)),(4,(25,jN)),(6,(46,et)),(8,(46,et)),(9,(102,rp))] ?_;exact fV z.g):=ah w h
def zbc (w:ae G H:=by intro z;refine GR ?_;exact rA z.g (x:=iS (bx:=0) (qs:=bV) (as_:=cd) ai aqb rfl bP AR kI aJ (by exact (aqP (l:=[3,6,100]) hbo ai ai)))):=ah w h
def TH (w:ae G H:=by intro z;refine Zpw ?_;exact pJ z.g):=ah w h
def zsy (w:ae G H:=by intro z;refine eX (d:=900) ak (congrArg (fun z_=>bX (aQ ba aj) z_ jk900) (show (lI zss keep i).map (List.map Prod.fst)=s.aJr.map (we keep) from by rw [hend,ap0];exact axX hzss)) ?_;exact uL (d:=6) (D:=900) (G:=2900) (e:=1) (A:=[]) (B:=[val _]) (es:=((s.aJr.map (we keep))).map (aQ ba aj)) ak ak ak rfl aL ra AS z.g):=ah w h
def BO (w:ae G H:=by intro z;refine rA ?_ (x:=lF pX);exact rA z.g (x:=lD [sl .v _] oS)):=ah w h
def TI (w:ae G H:=by intro z;refine rA ?_ (x:=fe ai fO jF rfl rfl ai rfl bo bo);exact dG z.g):=ah w h
def Fv (w:ae G H:=by intro z;refine Zfs ?_;exact jw z.g):=ah w h
def Zft (w:ae G H:=by intro z;refine bd ?_;exact sO [(2,_),(3,_),(4,_),(6,_),(7,_),(8,_),(9,_),(10,_),(11,_),(12,_),(13,_),(6200,_),(6300,_)] [(3,(46,et)),(4,(25,jN)),(6,(46,et)),(8,(46,et)),(9,(102,rp))] z.g):=ah w h
def Fw (w:ae G H:=by intro z;refine ML ?_;exact xU z.g):=ah w h
def Fy (w:ae G H:=by intro z;refine sR ?_;exact Zpx z.g):=ah w h
def Zbv (w:ae G H:=by intro z;refine sU [0,2,3,4,5,6,7,18,7000] [2] [7] ?_;exact Zbp z.g):=ah w h
def FC (w:ae G H:=by intro z;refine zw3 ?_;exact jw z.g):=ah w h
def fA (w:ae G H:=by intro z;refine rM ?_;exact rM z.g):=ah w h
def uW (w:ae G H:=by intro z;refine BE ?_;exact rA z.g (x:=lN hY)):=ah w h
def TJ (w:ae G H:=by intro z;refine Zps ?_;exact BK z.g):=ah w h
def KQ (w:ae G H:=by intro z;refine sR ?_;exact Zpy z.g):=ah w h
def xu (w:ae G H:=by intro z;refine cB ?_;refine rA ?_ (x:=aP (k:=1) ai dc (aY rfl) ej Iw ak);exact pK z.g):=ah w h
def zui (w:ae G H:=by intro z;refine dA 48 ?_ (x:=lD [sl (.lo _) _] ca);exact dA 120 z.g (x:=nA ai bW jV rfl rfl ai qi uA bo bo)):=ah w h
def zlj (w:ae G H:=by intro z;refine dA 512 ?_ (x:=lD [sl .v _] ca);exact dA 2032 z.g (x:=nA ai bW jV rfl rfl ai qi uA bo bo)):=ah w h
def FD (w:ae G H:=by intro z;refine tz ?_;exact rA z.g (x:=lN dj)):=ah w h
def TK (w:ae G H:=by intro z;refine pK ?_;exact rA z.g (x:=pA)):=ah w h
def KR (w:ae G H:=by intro z;refine vK ?_;exact rS z.g):=ah w h
def KS (w:ae G H:=by intro z;refine rB gc ?_ (x:=vM false [sl .v _]);exact rB gc z.g (x:=aP (k:=0) ai dc (aY rfl) ej ux ak)):=ah w h
def jS (w:ae G H:=by intro z;refine de ?_;exact sT [1,2] [1] z.g):=ah w h
def zst (w:ae G H:=by intro z;refine an0 ?_;exact rA z.g (x:=cl (qs:=[(true,zd)]) ai fO jF ai rfl rfl rfl rfl rfl ax bP rfl)):=ah w h
def TL (w:ae G H:=by intro z;refine Wt ?_;exact Wt z.g):=ah w h
def KT (w:ae G H:=by intro z;refine xW ?_;exact oy z.g):=ah w h
def FE (w:ae G H:=by intro z;refine cB ?_;exact xN z.g):=ah w h
def TM (w:ae G H:=by intro z;refine Zay ?_;exact sG [0,2,3,4,5] [2,5] z.g):=ah w h
def uX (w:ae G H:=by intro z;refine zt gb ?_;exact ku z.g):=ah w h
def Zlr (w:ae G H:=by intro z;refine rA ?_ (x:=cL ac6 ac7 ayO (hs:=by exact (aHM (e:=e) (x:=(bH l).getD cU) ab ab)));exact bN z.g):=ah w h
def Zk9 (w:ae G H:=by intro z;refine rA ?_ (x:=cL ac6 ac7 azW (hs:=by exact (aHL (e:=e) (x:=(bH l).getD cU) ab ab)));exact bN z.g):=ah w h
def KU (w:ae G H:=by intro z;refine MA ?_;exact tR z.g):=ah w h
def Zf9 (w:ae G H:=by intro z;refine dA 63 ?_ (x:=bZ (qs:=Re) (cs:=lr) ai nV XF aHv ak sZ rfl ak);exact cj.step 0 aq aq (db.of rfl (gQ ai nV XF)) (uI (dv.of_ rfl)) ao z.g):=ah w h
def zo (w:ae G H:=by intro z;refine pF ?_;exact rB gb z.g (x:=lu)):=ah w h
def FF (w:ae G H:=by intro z;refine Tk ?_;exact pJ z.g):=ah w h
def Zo0 (w:ae G H:=by intro z;refine Zq0 ?_;exact Ad z.g):=ah w h
def uY (w:ae G H:=by intro z;refine eS ?_;exact qA z.g):=ah w h
def Zki (w:ae G H:=by intro z;refine sP [1,2,4,5,6,11,12,15,74,99,100,101,7000] [2,4,11] ?_;exact aX [1,2,4,5,6,11,12,74,99,100,7000] [2,4,11] (fun k=>k≤((an 32 l).drop 1).length) (fun k=>[(15,RV.slc aj (((((((an 32 l).drop 1).take k).filter cY).map bM)).map ar)),(101,RV.int (k:Int))]) (((an 32 l).drop 1).length) ab dL z.g):=ah w h
def Zbb (w:ae G H:=by intro z;refine dA 8191 ?_ (x:=bZ (qs:=ac1) (cs:=ot) ai vR vS ZJ ak abm rfl ak);exact dA 16383 z.g (x:=bO (ag:=true) (vs:=ot) lB aq ak ax)):=ah w h
def zrq (w:ae G H:=by intro z;refine rA ?_ (x:=cl (qs:=Bn) ai nS sd ai rfl rfl rfl rfl rfl ax bP rfl);exact rA z.g (x:=fe ai nS sd rfl rfl ai rfl bo bo)):=ah w h
def Zox (w:ae G H:=by intro z;refine Wr ?_;exact rM z.g):=ah w h
def TN (w:ae G H:=by intro z;refine rA ?_ (x:=lF ik);exact rA z.g (x:=fp (ms:=[sl _ _]) (qs:=[sl .v _]) ai fE (fun _=>rfl) ax ak io fR)):=ah w h
def TO (w:ae G H:=by intro z;refine rA ?_ (x:=lF na);exact rA z.g (x:=fp (ms:=[sl _ _]) (qs:=[sl .v _]) ai lA (fun _=>rfl) ax ak io fR)):=ah w h
def KV (w:ae G H:=by intro z;refine rA ?_ (x:=aP (k:=k2) ai bW aq ej bD ak);exact zO z.g):=ah w h
def zuk (w:ae G H:=by intro z;refine dA 1023 ?_ (x:=bZ (qs:=Es) (cs:=ro) ai jF Ax asd ak abl rfl ak);exact cj.step 0 aq aq (db.of rfl (gQ ai jF Ax)) (uI (dv.of_ rfl)) ao z.g):=ah w h
def Zel (w:ae G H:=by intro z;refine Zp2 ?_;exact cj.stepC 2047 lQ aq (db.of rfl (lW (.inr rfl) ai IG)) ki ao pm z.g):=ah w h
def zxw (w:ae G H:=by intro z;refine rA ?_ (x:=bZ (qs:=[]) (cs:=ot) ai vR vS aw2 ak aq rfl ak);exact rA z.g (x:=cL [(true,ot),(true,ot)] [(true,uO),(true,uO)] awQ (hs:=by exact (aFI (x:=x.aJv) (y:=⟨0,⟨0,[]⟩,0,0⟩))))):=ah w h
def TP (w:ae G H:=by intro z;refine rM ?_;exact rA z.g (x:=aP (k:=e.Done.length - 1 - k) ai nS aq ab bD ak)):=ah w h
def BP (w:ae G H:=by intro z;refine rA ?_ (x:=cF ai jU ax);exact zO z.g):=ah w h
def zlp (w:ae G H:=by intro z;refine rA ?_ (x:=cl (qs:=iR) ai mr mj ai rfl rfl rfl rfl rfl ax bP rfl);exact rA z.g (x:=fe ai mr mj rfl rfl ai rfl bo bo)):=ah w h
def KW (w:ae G H:=by intro z;refine vr ?_;exact dA 3 z.g (x:=gL aH aH kY (hs:=kJ))):=ah w h
def KX (w:ae G H:=by intro z;refine vr ?_;exact dA 3 z.g (x:=cL aH aH jo (hs:=jc))):=ah w h
def Znj (w:ae G H:=by intro z;refine eX (d:=930) ak (tt u.Value hfl ak) ?_;exact uL (d:=10) (D:=930) (G:=2930) (e:=1) (A:=[val _]) (B:=mO) (es:=(((hZ s u)).set u.Field.toNat u.Value).map ar) ak ak ak rfl uw ra aaY z.g):=ah w h
def Zms (w:ae G H:=by intro z;refine rA ?_ (x:=cl (qs:=[(true,Ew)]) ai ky Av ai rfl rfl rfl rfl rfl ax bP rfl);exact rA z.g (x:=fe ai ky Av rfl rfl ai rfl bo bo)):=ah w h
def BQ (w:ae G H:=by intro z;refine GV ?_;exact fA z.g):=ah w h
def TQ (w:ae G H:=by intro z;refine MC ?_;exact rA z.g (x:=cL pv uN ayp (hs:=by exact aBv))):=ah w h
def Zgs (w:ae G H:=by intro z;refine sO [(1,_),(2,_),(3,_),(4,_),(5,_),(6,_),(14,_),(57,_),(58,_),(59,_),(145,_),(146,_),(147,_),(6200,_)] [(1,(46,[sl (.lo _) _,val _,val _,sl (.lo _) _,sl (.lo _) _,sl (.lo _) _,sl (.lo _) _,val _])),(2,(46,et)),(4,(46,et)),(6,(149,JM))] ?_;exact fV z.g):=ah w h
def KY (w:ae G H:=by intro z;refine eS ?_;exact MO z.g):=ah w h
def TR (w:ae G H:=by intro z;refine rB gc ?_ (x:=lD uO lB);exact rB gc z.g (x:=cL uM rj awN (hs:=by exact aFK))):=ah w h
def BR (w:ae G H:=by intro z;refine cB ?_;exact rA z.g (x:=lN iK)):=ah w h
def zwq (w:ae G H:=by intro z;refine dA 124 ?_ (x:=cl (qs:=aH) ai bW jV ai rfl rfl rfl rfl rfl ax bP rfl);exact dA 255 z.g (x:=fe ai bW jV rfl rfl ai rfl bo bo)):=ah w h
def uZ (w:ae G H:=by intro z;refine GQ ?_;exact rK z.g):=ah w h
def BS (w:ae G H:=by intro z;refine rM ?_;exact Wu z.g):=ah w h
def zr0 (w:ae G H:=by intro z;refine rA ?_ (x:=cl (qs:=bV) ai hY Hw ai rfl rfl rfl rfl rfl ax bP rfl);exact rA z.g (x:=fe ai hY Hw rfl rfl ai rfl bo bo)):=ah w h
def KZ (w:ae G H:=by intro z;refine zQ ?_;exact zil z.g):=ah w h
def lx (w:ae G H:=by intro z;refine eK ?_;exact rM z.g):=ah w h
def La (w:ae G H:=by intro z;refine vJ ?_;exact GO z.g):=ah w h
def Lb (w:ae G H:=by intro z;refine rM ?_;exact rA z.g (x:=cL dh dh NF (hs:=by exact (aFA ab)))):=ah w h
def Lc (w:ae G H:=by intro z;refine Ze8 ?_;exact jw z.g):=ah w h
def Ld (w:ae G H:=by intro z;refine Wj ?_;exact jw z.g):=ah w h
def Zcc (w:ae G H:=by intro z;refine rB gc ?_ (x:=lD zc qQ);exact rB gc z.g (x:=cL tu tv NE (hs:=PD))):=ah w h
def zir (w:ae G H:=by intro z;refine sP [1,3,5,7,23,24,25,32,33,34,66,67,68] [1,7] ?_;exact aX [1,3,5,7,23,24,25,32,33,34,66,67] [1,7] (fun m=>m≤(eU s k).length+j∧je (bA s) ((eU s k).length+j) m=true) (fun m=>[(68,RV.int (m:Int))]) ((eU s k).length+j) gH bp z.g):=ah w h
def pC (w:ae G H:=by intro z;refine Tj ?_;exact dG z.g):=ah w h
def Le (w:ae G H:=by intro z;refine rA ?_ (x:=lF nf);exact xL z.g):=ah w h
def TS (w:ae G H:=by intro z;refine eS ?_;exact rA z.g (x:=aP (k:=e.aJw.toNat) ai hY aq ab (by exact eI hcl (by rw [dH (d:=([]:List bb)) hcl])) ak)):=ah w h
def TT (w:ae G H:=by intro z;refine rA ?_ (x:=lF na);exact rA z.g (x:=bO (ag:=false) (vs:=[sl _ _]) lA aq ak ax)):=ah w h
def Lf (w:ae G H:=by intro z;refine rA ?_ (x:=lF Hg);exact vu z.g):=ah w h
def Lg (w:ae G H:=by intro z;refine sG [2,3,4,5,6,7,20] [2,3,4,6] ?_;exact jT z.g):=ah w h
def ie (w:ae G H:=by intro z;refine KJ ?_;exact gw z.g):=ah w h
def TU (w:ae G H:=by intro z;refine qB ?_;exact rB gc z.g (x:=cL cJ cJ tU (hs:=sY))):=ah w h
def TV (w:ae G H:=by intro z;refine GI ?_;exact rA z.g (x:=cL xd [(true,qu)] aqD (hs:=by exact aqX ab))):=ah w h
def TW (w:ae G H:=by intro z;refine pF ?_;exact Zf4 z.g):=ah w h
def TX (w:ae G H:=by intro z;refine zS ?_;exact rB gd z.g (x:=cL cJ cJ tU (hs:=sY))):=ah w h
def Zj9 (w:ae G H:=by intro z;refine QT (c:=3) (AI:=[(7,⟨[],[],[(3,some (RV.ptr 3 0))],[(3,some (46,[sl bI [],val (.int .i64 0),val (.int .i64 0),sl aj [],sl cG [],sl cw [],sl cD [],val (.int .i64 0)]))],some 3⟩)]) Nc rfl rfl rfl rfl ao (fun j L h o ho=>by have h:=lV h;simp only [ip,List.not_mem_nil,or_false,Prod.mk.injEq] at h;obtain ⟨rfl,rfl⟩:=h;(· cases (show some ⟨some 3,.alloc 46,_,_,_,none⟩=some o from ho);apply db.of rfl;exact gQ (d:=3) ai ug uh)) (fun j L h d hd=>by have h:=lV h;simp only [ip,List.not_mem_nil,or_false,Prod.mk.injEq] at h;obtain ⟨rfl,rfl⟩:=h;(· cases (show some _=some d from hd);exact dv.of_ rfl)) ?_;refine Zq2 ?_;exact Zq2 z.g):=ah w h
def TY (w:ae G H:=by intro z;refine zS ?_;exact rB gd z.g (x:=cL cJ cJ nM (hs:=nu))):=ah w h
def xv (w:ae G H:=by intro z;refine cB ?_;exact rA z.g (x:=lN ky)):=ah w h
def Zit (w:ae G H:=by intro z;refine EW ?_;exact rA z.g (x:=cl (qs:=[(false,[sl _ _]),(false,[sl _ _]),(false,[sl _ _]),(false,[sl _ _]),(false,[sl _ _]),(false,[sl _ _])]) ai Dq aAg ai rfl rfl rfl rfl rfl ax (by exact (aI aq (aI aq (aI aq (aI aq (aI aq (aI aq tI))))))) rfl)):=ah w h
def xw (w:ae G H:=by intro z;refine GV ?_;exact bJ z.g):=ah w h
def zp (w:ae G H:=by intro z;refine tN ?_;exact dA 32 z.g (x:=rr ai)):=ah w h
def va (w:ae G H:=by intro z;refine zR ?_;exact rA z.g (x:=lF mi)):=ah w h
def TZ (w:ae G H:=by intro z;refine dP ?_;exact dA 992 z.g (x:=mL (k:=i) (G:=2900) ai dj aq AX yL)):=ah w h
def FG (w:ae G H:=by intro z;refine jT ?_;exact rM z.g):=ah w h
def Zno (w:ae G H:=by intro z;refine rA ?_ (x:=bZ (qs:=[(false,[val _]),(true,iA)]) (cs:=ot) ai vR vS att ak yS rfl ak);exact Ad z.g):=ah w h
def xx (w:ae G H:=by intro z;refine rA ?_ (x:=lF Ar);exact eS z.g):=ah w h
def zq (w:ae G H:=by intro z;refine zt gc ?_;exact rI z.g):=ah w h
def Zbo (w:ae G H:=by intro z;refine rA ?_ (x:=tm (cs:=jN) (qs:=jg) ai ak Py aJ);exact pJ z.g):=ah w h
def xy (w:ae G H:=by intro z;refine rA ?_ (x:=lF jU);exact eS z.g):=ah w h
def Ua (w:ae G H:=by intro z;refine dA 64 ?_ (x:=lD [val _] aT);exact dA 255 z.g (x:=mL (k:=k) (G:=2921) ai fO aq ab (by first|(rw [aU];exact hk)|exact hk))):=ah w h
def Lh (w:ae G H:=by intro z;refine rA ?_ (x:=cL aH aH az1 (hs:=by exact (aFT ab)));exact bN z.g):=ah w h
def Li (w:ae G H:=by intro z;refine sS [2,3,4,5,17] [2,3,4] ?_;exact jT z.g):=ah w h
def Ub (w:ae G H:=by intro z;refine rA ?_ (x:=aP (k:=k) ai fO aq ab (by exact eI hk rfl) ak);exact rA z.g (x:=cF ai sa ax)):=ah w h
def Uc (w:ae G H:=by intro z;refine rA ?_ (x:=aP (k:=(3+2 * k)) ai dc aq ab Pz ak);exact pK z.g):=ah w h
def Zj3 (w:ae G H:=by intro z;refine rA ?_ (x:=tm (cs:=px) (qs:=xf) ai ak PE aJ);exact Zpw z.g):=ah w h
def zlu (w:ae G H:=by intro z;refine sP [0,2,3,4] [2,3] ?_;exact sL [0,2,3] [2] (fun k:Nat=>k≤3) (fun k:Nat=>[(4,RV.int (k:Int))]) (fun k:Nat=>[(3,(260,(Wy oo aG aj yW rh aj) ⟨l,yj l k⟩))]) (fun k:Nat=>3 - k) 0 ab bp bp z.g):=ah w h
def zsw (w:ae G H:=by intro z;refine Zpv ?_;exact rA z.g (x:=avM (f:=ue) (e:=1) (k:=i) (ag:=false) (vs:=[sl _ _]) _ (fun _=>rfl) rfl (by first|omega|(simp only [List.length_set];omega)) oR aq ak)):=ah w h
def zbm (w:ae G H:=by intro z;refine Wc ?_;exact MK z.g):=ah w h
def kt (w:ae G H:=by intro z;refine bN ?_;refine dG ?_;exact cg z.g):=ah w h
def Ud (w:ae G H:=by intro z;refine xT ?_;exact rA z.g (x:=cL [(true,[sl (.lo _) _,val _])] ko aqg (hs:=by exact (arq ab)))):=ah w h
def oA (w:ae G H:=by intro z;refine lz ?_;exact rM z.g):=ah w h
def Ue (w:ae G H:=by intro z;refine Zfr ?_;exact iD z.g):=ah w h
def iE (w:ae G H:=by intro z;refine mb ?_;exact rM z.g):=ah w h
def xz (w:ae G H:=by intro z;refine xN ?_;exact eK z.g):=ah w h
def FH (w:ae G H:=by intro z;refine rB gc ?_ (x:=lu);exact rI z.g):=ah w h
def zsq (w:ae G H:=by intro z;refine rA ?_ (x:=tl (qs:=Rl) ai nh (fun h=>nomatch h) ax Iu aJ);exact ME z.g):=ah w h
def Uf (w:ae G H:=by intro z;refine qC ?_;exact rB gb z.g (x:=aP (k:=0) ai dc (aY rfl) ej ux ak)):=ah w h
def Zko (w:ae G H:=by intro z;refine cB ?_;exact rA z.g (x:=cL Et Eu aqf (hs:=by exact (auz (e:=e) (o:=qf (an 32 l)) ab ab)))):=ah w h
def vb (w:ae G H:=by intro z;refine cK ?_;exact dP z.g):=ah w h
def Ug (w:ae G H:=by intro z;refine rA ?_ (x:=aP ai iJ aq ak bD ak);exact rA z.g (x:=lE tw Dd)):=ah w h
def Uh (w:ae G H:=by intro z;refine nH ?_;exact dA 1 z.g (x:=aP (k:=1) ai dc (aY rfl) ej Iw ak)):=ah w h
def Ui (w:ae G H:=by intro z;refine dA 511 ?_ (x:=lF mq);exact dA 1023 z.g (x:=to (o:=3) (ag:=false) (vs:=[val _]) ab aT aq ak ax)):=ah w h
def Zdl (w:ae G H:=by intro z;refine rA ?_ (x:=lD xi oQ);exact rA z.g (x:=cL JI ac8 az5 (hs:=by exact aHi))):=ah w h
def mV (w:ae G H:=by intro z;refine sR ?_;exact rK z.g):=ah w h
def kS (w:ae G H:=by intro z;refine EV ?_;exact bd z.g):=ah w h
def zc3 (w:ae G H:=by intro z;refine iF ?_;exact rA z.g (x:=iS (bx:=0) (qs:=aH) (as_:=aH) ai Xh rfl yM pn kI aJ (by exact (XH hbo ab)))):=ah w h
def BT (w:ae G H:=by intro z;refine mX ?_;exact uV z.g):=ah w h
def BU (w:ae G H:=by intro z;refine dB 1023 gb ?_ (x:=vM false [sl .v _]);exact dB 1023 gb z.g (x:=sM)):=ah w h
def vc (w:ae G H:=by intro z;refine sS [0,3,4,6,5000] [0,3] ?_;exact jR z.g):=ah w h
def Uj (w:ae G H:=by intro z;refine rA ?_ (x:=aP (k:=i.toNat) ai hY aq ab (by exact eI hil rfl) ak);exact Aa z.g):=ah w h
def BV (w:ae G H:=by intro z;refine vJ ?_;exact vG z.g):=ah w h
def Zol (w:ae G H:=by intro z;refine dA 0 ?_ (x:=lF lJ);exact dA 32 z.g (x:=mH (qs:=[nv _ (val _),nv _ (val _),nv _ (sl .v _),nv _ (sl .v _)]) ai gW (fun h=>nomatch h) ax Iu aJ)):=ah w h
def Uk (w:ae G H:=by intro z;refine dA 48 ?_ (x:=aP ai bW aq ak bD ak);exact dA 112 z.g (x:=lE [val _] aT)):=ah w h
def vd (w:ae G H:=by intro z;refine sR ?_;refine de ?_;exact mf z.g):=ah w h
def Zph (w:ae G H:=by intro z;refine dA 12 ?_ (x:=aP ai dc aq ak bD ak);exact dA 28 z.g (x:=lE [val _] kZ)):=ah w h
def Ul (w:ae G H:=by intro z;refine rB ga ?_ (x:=lF yb);exact rB ga z.g (x:=lD [sl .v _] ca)):=ah w h
def Zd9 (w:ae G H:=by intro z;refine iF ?_;exact rA z.g (x:=iS (bx:=8) (qs:=aH) (as_:=aH) ai Hu rfl yM pn aJ aJ (by exact (XG (fun es=>bor_sl es) ab)))):=ah w h
def zkw (w:ae G H:=by intro z;refine sP [0,1,4,5,6] [] ?_;exact aX [0,1,4] [] (fun k=>k≤100) (fun k=>[(5,RV.slc rh ((dk l f k).map (mg aj))),(6,RV.int (k:Int))]) 100 ab dL z.g):=ah w h
def Zdn (w:ae G H:=by intro z;refine MP ?_;exact rB ga z.g (x:=cL fF fW Ht (hs:=Qh))):=ah w h
def Zoq (w:ae G H:=by intro z;refine dA 32766 ?_ (x:=fe ai nS sd rfl rfl ai rfl bo bo);exact dA 65535 z.g (x:=rr ai)):=ah w h
def Ze9 (w:ae G H:=by intro z;refine jT ?_;exact rA z.g (x:=cL fF fW azv (hs:=by exact (aHm ab)))):=ah w h
def Um (w:ae G H:=by intro z;refine vG ?_;exact rA z.g (x:=cL pu ko ayt (hs:=by exact aAK ab))):=ah w h
def Lj (w:ae G H:=by intro z;refine sR ?_;exact rX z.g (x:=(lm (ag:=true) (cs:=[sl (.lo _) _,val _]) ai aq))):=ah w h
def Zei (w:ae G H:=by intro z;refine QT (c:=6) (AI:=[]) Nc rfl rfl rfl rfl ao (fun j L h=>nomatch h) (fun j L h=>nomatch h) ?_;exact dX 0 z.g (x:=(mH (qs:=xf) ai wn (fun h=>nomatch h) ax PE aJ))):=ah w h
def Zkh (w:ae G H:=by intro z;refine cB ?_;exact rA z.g (x:=Bk (i:=1) (j:=(an 32 l).length) (ys:=((an 32 l).drop 1)) (r:=(((an 32 l).length:Nat):Int)) ai dc (by exact (aY rfl)) ak ej ej ab ab (fun _=>rfl) uy)):=ah w h
def pD (w:ae G H:=by intro z;refine rS ?_;exact rS z.g):=ah w h
def pE (w:ae G H:=by intro z;refine nF ?_;exact rM z.g):=ah w h
def tC (w:ae G H:=by intro z;refine cK ?_;exact dA 0 z.g (x:=tM)):=ah w h
def ve (w:ae G H:=by intro z;refine xV ?_;exact oy z.g):=ah w h
def Zae (w:ae G H:=by intro z;refine rA ?_ (x:=tm (cs:=iA) (qs:=nD) ai ak Ix aJ);exact pJ z.g):=ah w h
def BW (w:ae G H:=by intro z;refine MS ?_;exact jR z.g):=ah w h
def Un (w:ae G H:=by intro z;refine dP ?_;exact dA 3 z.g (x:=HB (gq c s).1.toNat uv (u:=(s.take (gq c s).1.toNat)) ab ab DQ)):=ah w h
def Uo (w:ae G H:=by intro z;refine eS ?_;exact ML z.g):=ah w h
def zu (w:ae G H:=by intro z;refine bN ?_;exact Tk z.g):=ah w h
def Up (w:ae G H:=by intro z;refine Lf ?_;exact rA z.g (x:=cL iR kp awO (hs:=by exact aFJ))):=ah w h
def Uq (w:ae G H:=by intro z;refine rM ?_;exact rA z.g (x:=gL dh dh XA (hs:=by exact (ZB 32 ab)))):=ah w h
def md (w:ae G H:=by intro z;refine uS ?_;exact bd z.g):=ah w h
def Ur (w:ae G H:=by intro z;refine MU ?_;exact jT z.g):=ah w h
def xA (w:ae G H:=by intro z;refine bN ?_;exact rM z.g):=ah w h
def zk8 (w:ae G H:=by intro z;refine sP [0,1,4,12,13] [] ?_;exact aX [0,1,12] [] (fun k=>k≤x.length∧x.take k=y.take k) (fun k=>[(13,RV.int (k:Int))]) x.length kd bp z.g):=ah w h
def Zb7 (w:ae G H:=by intro z;refine Zc2 ?_;exact dA 15 z.g (x:=bZ (qs:=aH) (cs:=iA) ai jl nb atE ak bP rfl ak)):=ah w h
def BX (w:ae G H:=by intro z;refine rA ?_ (x:=lF oP);exact rA z.g (x:=lD [sl .v _] oT)):=ah w h
def Zb4 (w:ae G H:=by intro z;refine MG ?_;exact rA z.g (x:=bZ (qs:=aH) (cs:=iA) ai jl nb atE ak bP rfl ak)):=ah w h
def zsj (w:ae G H:=by intro z;refine eX (d:=900) ak (show _=bX (aQ ba aj) (s.aJr) jk900 from rfl) ?_;exact sO [(1,_),(2,_),(4,_),(5,_),(6,_),(2900,_)] [(2,_),(4,_),(6,(41,mO)),(900,(114,bX (aQ ba aj) _ _))] z.g):=ah w h
def Zg1 (w:ae G H:=by intro z;refine rA ?_ (x:=cL [(true,[sl (.lo _) _,val _,val _,sl (.lo _) _,sl (.lo _) _,sl (.lo _) _,sl (.lo _) _,val _]),(false,[val _])] lY Xj (hs:=PM));exact cV z.g):=ah w h
def zso (w:ae G H:=by intro z;refine sO [(1,_),(2,_),(4,_),(5,_),(6,_),(7,_),(8,_),(9,_),(19,_),(20,_),(21,_),(27,_),(28,_),(29,_),(2900,_),(6000,_)] [(2,(41,[sl (.lo _) _,val _])),(4,(41,kq)),(6,(41,mO)),(900,(114,bX ue _ _))] ?_;exact fV z.g):=ah w h
def Lk (w:ae G H:=by intro z;refine rM ?_;exact rA z.g (x:=Ju ai aq (aY rfl) br)):=ah w h
def Us (w:ae G H:=by intro z;refine vz ?_;exact rB gd z.g (x:=cL aH aH jo (hs:=jc))):=ah w h
def qy (w:ae G H:=by intro z;refine qA ?_;exact rS z.g):=ah w h
def ziw (w:ae G H:=by intro z;refine VM ?_;exact rB ge z.g (x:=cL ac9 ada ayx (hs:=by exact aAH))):=ah w h
def zzv (w:ae G H:=by intro z;refine rA ?_ (x:=bZ (qs:=cJ) (cs:=tw) ai pS Hj atC ak sZ rfl ak);exact Zmj z.g):=ah w h
def BY (w:ae G H:=by intro z;refine sG [0,2,3,4,5,6,7,8,9,10,7000] [] ?_;exact bJ z.g):=ah w h
def Ut (w:ae G H:=by intro z;refine GJ ?_;refine cB ?_;exact VW z.g):=ah w h
def zk2 (w:ae G H:=by intro z;refine sP [0,1,4,5] [] ?_;exact aX [0,1] [] (fun k=>k≤x.length∧x.take k=y.take k) (fun k=>[(5,RV.int (k:Int))]) x.length kd bp z.g):=ah w h
def Zbj (w:ae G H:=by intro z;refine Zo7 ?_;exact GS z.g):=ah w h
def Zkx (w:ae G H:=by intro z;refine rA ?_ (x:=Bk (i:=0) (j:=(ws.length - 1)) (ys:=ls) (q:=(0:Int)) ai dc ak aq ej ab ab ab (fun _=>rfl) (by rw [←hls,List.dropLast_eq_take];simp));exact pH z.g):=ah w h
def Ll (w:ae G H:=by intro z;refine tR ?_;exact sT [1,2] [1] z.g):=ah w h
def BZ (w:ae G H:=by intro z;refine rA ?_ (x:=lF nQ);exact rA z.g (x:=lD [val _] nU)):=ah w h
def Uu (w:ae G H:=by intro z;refine sR ?_;exact rX z.g (x:=(lm (ag:=true) (cs:=xg) ai aq))):=ah w h
def Uv (w:ae G H:=by intro z;refine rA ?_ (x:=lF nR);exact tO z.g):=ah w h
def Zhr (w:ae G H:=by intro z;refine sS [2,3,4,5,6,7,8] [2,3,4,6,7] ?_;exact rA z.g (x:=fp (ms:=kq) (qs:=[any,val _]) ai iv (fun h=>nomatch h) ax ak (by exact (az.cons PV.to_any (aA az.nil))) aJ)):=ah w h
def oB (w:ae G H:=by intro z;refine bd ?_;exact bd z.g):=ah w h
def Ca (w:ae G H:=by intro z;refine pG ?_;exact rM z.g):=ah w h
def rC (w:ae G H:=by intro z;refine rS ?_;exact fY z.g):=ah w h
def Uw (w:ae G H:=by intro z;refine rA ?_ (x:=lF wi);exact Wv z.g):=ah w h
def zl1 (w:ae G H:=by intro z;refine rB gb ?_ (x:=aP (k:=(dk l f k).length - 1) ai ky aq ab (by exact eI ab (by rw [dH (d:=oK) ab])) ak);exact rB gb z.g (x:=cF ai Au ax)):=ah w h
def Ux (w:ae G H:=by intro z;refine rA ?_ (x:=lF WH);exact Wv z.g):=ah w h
def Uy (w:ae G H:=by intro z;refine rM ?_;exact Ws z.g):=ah w h
def Znf (w:ae G H:=by intro z;refine eX (d:=10) ak (show _=[val (vI u.Row.Id),sl aj ((le s u).map ar),val (vI (s.Now+1)),val (vI (-1))] from by first|(rw [hv2];done)|(rw [hv2];exact rfl)) ?_;exact Wm z.g):=ah w h
def FI (w:ae G H:=by intro z;refine tN ?_;exact dA 2 z.g (x:=rr ai)):=ah w h
def tD (w:ae G H:=by intro z;refine rM ?_;exact xU z.g):=ah w h
def zv (w:ae G H:=by intro z;refine rB gc ?_ (x:=jO);exact rA z.g (x:=bE gc)):=ah w h
def Lm (w:ae G H:=by intro z;refine rA ?_ (x:=pA);exact rS z.g):=ah w h
def zur (w:ae G H:=by intro z;refine sO [(2,_),(3,_),(4,_),(5,_),(6,_),(7,_),(8,_),(9,_),(10,_),(2920,_),(2921,_)] [(2,_),(3,_),(4,_),(6,_),(10,_),(920,(114,_++([val _]++_))),(921,(116,_++(ro++_)))] ?_;exact cK z.g):=ah w h
def rD (w:ae G H:=by intro z;refine rM ?_;exact vD z.g):=ah w h
def Ln (w:ae G H:=by intro z;refine tR ?_;exact bd z.g):=ah w h
def FJ (w:ae G H:=by intro z;refine rB gb ?_ (x:=lF na);exact rB gb z.g (x:=lD [sl .v _] lA)):=ah w h
def FK (w:ae G H:=by intro z;refine rB ga ?_ (x:=lF nQ);exact rB ga z.g (x:=lD [sl .v _] nU)):=ah w h
def Uz (w:ae G H:=by intro z;refine rM ?_;exact rA z.g (x:=aP (k:=i) ai hY aq ab (by exact eI hi rfl) ak)):=ah w h
def UA (w:ae G H:=by intro z;refine sS [1,2,4,5,8,7000] [2,4] ?_;exact jT z.g):=ah w h
def Lo (w:ae G H:=by intro z;refine eY ?_;exact rB ga z.g (x:=ow)):=ah w h
def xB (w:ae G H:=by intro z;refine vH ?_;exact jR z.g):=ah w h
def FL (w:ae G H:=by intro z;refine rA ?_ (x:=lF nQ);exact rA z.g (x:=lD [sl (.lo _) _] nU)):=ah w h
def tE (w:ae G H:=by intro z;refine rH ?_;refine ck ?_;exact sP [0,2,3,4] [] z.g):=ah w h
def tF (w:ae G H:=by intro z;refine sR ?_;refine de ?_;exact nG z.g):=ah w h
def Lp (w:ae G H:=by intro z;refine vz ?_;refine rB gd ?_ (x:=uQ);exact vC z.g):=ah w h
def me (w:ae G H:=by intro z;refine mT ?_;exact gw z.g):=ah w h
def UB (w:ae G H:=by intro z;refine CR ?_;exact rM z.g):=ah w h
def ly (w:ae G H:=by intro z;refine KJ ?_;exact rM z.g):=ah w h
def zlv (w:ae G H:=by intro z;refine dA 0 ?_ (x:=lF Do);exact dA 1 z.g (x:=fp (ms:=[sl _ _]) (qs:=[sl .v _]) ai Dr (fun _=>rfl) ax ak io fR)):=ah w h
def Zok (w:ae G H:=by intro z;refine dA 6 ?_ (x:=lF pX);exact dA 14 z.g (x:=fp (ms:=[sl _ _]) (qs:=[sl .v _]) ai oS (fun _=>rfl) ax ak io fR)):=ah w h
def zrb (w:ae G H:=by intro z;refine zY ?_;exact dA 1 z.g (x:=fp (ms:=[sl _ _]) (qs:=[sl .v _]) ai fE (fun _=>rfl) ax ak io fR)):=ah w h
def zrd (w:ae G H:=by intro z;refine dA 0 ?_ (x:=lF oP);exact dA 1 z.g (x:=fp (ms:=[sl _ _]) (qs:=[sl .v _]) ai oT (fun _=>rfl) ax ak io fR)):=ah w h
def tG (w:ae G H:=by intro z;refine iW ?_;exact rM z.g):=ah w h
def Zgl (w:ae G H:=by intro z;refine rA ?_ (x:=lF qM);exact rA z.g (x:=fp (ms:=[sl _ _]) (qs:=[sl .v _]) ai jE (fun _=>rfl) ax ak io fR)):=ah w h
def FN (w:ae G H:=by intro z;refine rA ?_ (x:=lF aqG);exact rA z.g (x:=lD [sl .v _] aqJ)):=ah w h
def vf (w:ae G H:=by intro z;refine zf gd ?_;exact vC z.g):=ah w h
def zqz (w:ae G H:=by intro z;refine rA ?_ (x:=lF nQ);exact rA z.g (x:=fp (ms:=[sl _ _]) (qs:=[sl .v _]) ai nU (fun _=>rfl) ax ak io fR)):=ah w h
def zrp (w:ae G H:=by intro z;refine rA ?_ (x:=lF pX);exact rA z.g (x:=fp (ms:=[sl _ _]) (qs:=[sl .v _]) ai oS (fun _=>rfl) ax ak io fR)):=ah w h
def zt5 (w:ae G H:=by intro z;refine sO [(1,_),(2,_),(4,_),(5,_),(6,_),(7,_),(8,_),(9,_),(10,_),(2900,_),(6000,_)] [(2,(41,[sl (.lo _) _,val _])),(4,(41,kq)),(6,(41,mO)),(900,(114,bX ue _ _))] ?_;exact fV z.g):=ah w h
def tH (w:ae G H:=by intro z;refine rK ?_;exact sT [1,2] [1] z.g):=ah w h
def rE (w:ae G H:=by intro z;refine cK ?_;exact hM z.g):=ah w h
def Zoo (w:ae G H:=by intro z;refine dA 0 ?_ (x:=lF qM);exact dA 2048 z.g (x:=mH (qs:=Ex) ai jE (fun _=>rfl) ax wK Pw)):=ah w h
def Zlv (w:ae G H:=by intro z;refine rA ?_ (x:=qr (cs:=[sl _ _]) ai ak fR);exact pJ z.g):=ah w h
def mW (w:ae G H:=by intro z;refine mb ?_;exact fY z.g):=ah w h
def zw (w:ae G H:=by intro z;refine sG [0,2,3,4,5] [2,5] ?_;exact xu z.g):=ah w h
def rF (w:ae G H:=by intro z;refine rM ?_;exact fB z.g):=ah w h
def Zek (w:ae G H:=by intro z;refine cj.stepC 127 lQ aq (db.of rfl (Ef (.inl rfl) ai)) ki ao pm ?_;refine Zq4 ?_;exact Zq4 z.g):=ah w h
def Zom (w:ae G H:=by intro z;refine dA 0 ?_ (x:=lF yr);exact dA 128 z.g (x:=mH (qs:=[val _]) ai aT (fun _=>rfl) ax Ir nt)):=ah w h
def Zon (w:ae G H:=by intro z;refine dA 0 ?_ (x:=lF NH);exact dA 512 z.g (x:=mH (qs:=[val _]) ai aT (fun _=>rfl) ax Ir nt)):=ah w h
def zwo (w:ae G H:=by intro z;refine Zgy ?_;exact hM z.g):=ah w h
def tJ (w:ae G H:=by intro z;refine mV ?_;exact mf z.g):=ah w h
def vg (w:ae G H:=by intro z;refine cq ?_;exact eK z.g):=ah w h
def FO (w:ae G H:=by intro z;refine rA ?_ (x:=lF As);exact eS z.g):=ah w h
def Zlu (w:ae G H:=by intro z;refine cB ?_;exact rA z.g (x:=cL bV cd ayP (hs:=by exact (aIm (ws:=(an 32 l)) h0w (fun j=>Nat.le_trans (iP 32 l j) ab) ab)))):=ah w h
def zg5 (w:ae G H:=by intro z;refine fA ?_;exact rA z.g (x:=cL Re adb awY (hs:=by exact aAE))):=ah w h
def FP (w:ae G H:=by intro z;refine rA ?_ (x:=lF nR);exact eS z.g):=ah w h
def rG (w:ae G H:=by intro z;refine tB ?_;exact rM z.g):=ah w h
def Zni (w:ae G H:=by intro z;refine sO [(2,_),(3,_),(4,_),(5,_),(6,_),(7,_),(8,_),(9,_),(10,_),(2930,_)] [(2,_),(3,_),(4,_),(6,_),(10,(116,[val _,val _,val _,val _])),(930,(3,_++([val _]++_)))] ?_;exact fV z.g):=ah w h
def zqi (w:ae G H:=by intro z;refine dA 1 ?_ (x:=lD jg gW);exact dA 3 z.g (x:=cL iR kp Xk (hs:=Qi))):=ah w h
def zqx (w:ae G H:=by intro z;refine eS ?_;exact rA z.g (x:=bZ (qs:=aH) (cs:=kq) ai Aw Az aBR ak bP rfl ak)):=ah w h
def zx (w:ae G H:=by intro z;refine rA ?_ (x:=gL aH aH Xt (hs:=by exact (ZF ab)));refine bN ?_;exact Tk z.g):=ah w h
def oC (w:ae G H:=by intro z;refine KT ?_;exact hO z.g):=ah w h
def xC (w:ae G H:=by intro z;refine bd ?_;refine sQ [1,2] [1,2] ?_;exact cK z.g):=ah w h
def Zng (w:ae G H:=by intro z;refine Zn5 ?_;refine GW ?_;exact eX (d:=10) ak (show _=[val (vI u.Row.Id),sl aj ((hZ s u).map ar),val (vI (s.Now+1)),val (vI (-1))] from by first|(rw [hu2];done)|(rw [hu2];exact rfl)) z.g):=ah w h
def Zo8 (w:ae G H:=by intro z;refine MW ?_;exact cz z.g):=ah w h
def zia (w:ae G H:=by intro z;refine dA 3 ?_ (x:=aP (k:=i) ai fO aq ej (by exact eI hlt2 (by rw [dH (d:=v0) hlt2])) ak);exact dA 7 z.g (x:=lE qu nh)):=ah w h
def xD (w:ae G H:=by intro z;refine zt gd ?_;exact qD z.g):=ah w h
def zrg (w:ae G H:=by intro z;refine vu ?_;exact zln z.g):=ah w h
def vh (w:ae G H:=by intro z;refine cm ?_;exact pI z.g):=ah w h
def Zgq (w:ae G H:=by intro z;refine xL ?_;exact sW [1,2,3,4,5,6,8,9,10,11,57,58,59,77,78,79,6100] [1,2,4,10] [6] z.g):=ah w h
def Zhs (w:ae G H:=by intro z;refine sO [(2,_),(3,_),(4,_),(5,_),(6,_),(7,_),(8,_)] [(2,_),(3,_),(4,_),(6,(46,et)),(7,(41,[any,val _]))] ?_;exact wZ z.g):=ah w h
def zis (w:ae G H:=by intro z;refine sT [1,3,5,7,23,24,25,32,33,34,66,67,68] [1,7] ?_;exact rA z.g (x:=aP (k:=m) ai fO aq ej (by exact eI ab (by rw [hsg])) ak)):=ah w h
def zo3 (w:ae G H:=by intro z;refine rB ga ?_ (x:=lD jg gW);exact rB ga z.g (x:=cL iR kp Hf (hs:=by exact NN))):=ah w h
def zgy (w:ae G H:=by intro z;refine qB ?_;exact Zq5 z.g):=ah w h
def zn5 (w:ae G H:=by intro z;refine rB ge ?_ (x:=lD [val _] aT);exact rB ge z.g (x:=cL cJ cJ nM (hs:=nu))):=ah w h
def zqu (w:ae G H:=by intro z;refine dA 192 ?_ (x:=aP ai fO aq ak bD ak);exact dA 448 z.g (x:=cF ai sa ax)):=ah w h
def zy (w:ae G H:=by intro z;refine vJ ?_;exact uW z.g):=ah w h
def zzi (w:ae G H:=by intro z;refine rA ?_ (x:=aP (k:=((an 32 s).length - 1)) ai dc aq ab (by exact eI hlw (by rw [←wG hlw])) ak);exact pK z.g):=ah w h
def Zfa (w:ae G H:=by intro z;refine dA 255 ?_ (x:=bO (ag:=true) (vs:=lr) oQ aq ak ax);exact bd z.g):=ah w h
def zqt (w:ae G H:=by intro z;refine dA 6 ?_ (x:=aP ai fO aq ak bD ak);exact dA 14 z.g (x:=cF ai Ar ax)):=ah w h
def zmr (w:ae G H:=by intro z;refine dA 7 ?_ (x:=aP (k:=k) ai bW aq ej PZ ak);exact dA 15 z.g (x:=lE [val _] aT)):=ah w h
def Lq (w:ae G H:=by intro z;refine cm ?_;exact MU z.g):=ah w h
def Zjq (w:ae G H:=by intro z;refine dA 127 ?_ (x:=bO (ag:=true) (vs:=et) du aq ak ax);exact dA 255 z.g (x:=sA)):=ah w h
def Lr (w:ae G H:=by intro z;refine rB gc ?_ (x:=lF Da);exact rB gc z.g (x:=lD [sl .v _] ca)):=ah w h
def Ls (w:ae G H:=by intro z;refine bd ?_;exact GW z.g):=ah w h
def Cb (w:ae G H:=by intro z;refine sG [0,2,3,4,5] [2,5] ?_;exact rG z.g):=ah w h
def Cc (w:ae G H:=by intro z;refine bR.s0f rfl ?_;exact rA z.g (x:=bE rfl)):=ah w h
def Zh1 (w:ae G H:=by intro z;refine Zgv ?_;exact dP z.g):=ah w h
def Znp (w:ae G H:=by intro z;refine rM ?_;exact rA z.g (x:=bZ (qs:=aH) (cs:=iA) ai jl nb aFn ak bP rfl ak)):=ah w h
def zzo (w:ae G H:=by intro z;refine pK ?_;exact rA z.g (x:=gL dh dh ND (hs:=by exact (OP (l:=[102]) ab)))):=ah w h
def zoy (w:ae G H:=by intro z;refine rS ?_;exact VS z.g):=ah w h
def Zle (w:ae G H:=by intro z;refine rB gg ?_ (x:=kQ);exact zpp z.g):=ah w h
def xE (w:ae G H:=by intro z;refine rI ?_;exact rM z.g):=ah w h
def zum (w:ae G H:=by intro z;refine sS [2,3,4,5,6,7,8,9,10] [2,3,4,6,10] ?_;exact GJ z.g):=ah w h
def Lt (w:ae G H:=by intro z;refine rB gc ?_ (x:=lF mq);exact qB z.g):=ah w h
def zhp (w:ae G H:=by intro z;refine kT ?_;exact Zq5 z.g):=ah w h
def zja (w:ae G H:=by intro z;refine dA 15 ?_ (x:=cL cJ cJ nM (hs:=nu));exact dA 31 z.g (x:=nT)):=ah w h
def FQ (w:ae G H:=by intro z;refine nE ?_;exact rA z.g (x:=lF wj)):=ah w h
def UC (w:ae G H:=by intro z;refine zY ?_;exact dA 2 z.g (x:=lD [sl .v _] fE)):=ah w h
def Cd (w:ae G H:=by intro z;refine dP ?_;exact dP z.g):=ah w h
def zsa (w:ae G H:=by intro z;refine rM ?_;exact zh5 z.g):=ah w h
def Zhv (w:ae G H:=by intro z;refine iU ?_;exact Zpy z.g):=ah w h
def qz (w:ae G H:=by intro z;refine cq ?_;refine jQ ?_;exact eK z.g):=ah w h
def Zb9 (w:ae G H:=by intro z;refine dA 239 ?_ (x:=cL dh dh NC (hs:=by exact (atD ab)));exact nH z.g):=ah w h
def xF (w:ae G H:=by intro z;refine rM ?_;exact jx z.g):=ah w h
def zdf (w:ae G H:=by intro z;refine My ?_;exact fB z.g):=ah w h
def Zaa (w:ae G H:=by intro z;refine Zo5 ?_;exact BH z.g):=ah w h
def Zgz (w:ae G H:=by intro z;refine rA ?_ (x:=lW (r':=RV.sv false [sl .v _]) (.inl rfl) ai Ps);exact xz z.g):=ah w h
def UD (w:ae G H:=by intro z;refine sG [1,2,4,5,6,7,8,9,10,11,12,13,2900,6000] [2,4,6,11,900] ?_;exact bJ z.g):=ah w h
def FR (w:ae G H:=by intro z;refine sS [1,2,4,5,8,7000] [2,4] ?_;exact Lm z.g):=ah w h
def zfr (w:ae G H:=by intro z;refine rX ?_ (x:=(gQ ai pS Hj));exact zfk z.g):=ah w h
def Lu (w:ae G H:=by intro z;refine dA 1 ?_ (x:=lF mi);exact dA 3 z.g (x:=lD [val _] aT)):=ah w h
def zve (w:ae G H:=by intro z;refine vK ?_;exact cz z.g):=ah w h
def Zhl (w:ae G H:=by intro z;refine bN ?_;refine xl ?_;exact vK z.g):=ah w h
def znf (w:ae G H:=by intro z;refine rA ?_ (x:=cL pv uN aqd (hs:=by exact ari));exact fB z.g):=ah w h
def zsr (w:ae G H:=by intro z;refine rA ?_ (x:=bO (ag:=true) (vs:=zd) nh aq ak ax);exact bd z.g):=ah w h
def zq1 (w:ae G H:=by intro z;refine zlb ?_;exact rA z.g (x:=lE [val _,val _,sl .v _] aqK)):=ah w h
def Zi1 (w:ae G H:=by intro z;refine vK ?_;exact rK z.g):=ah w h
def zz (w:ae G H:=by intro z;refine tP ?_;exact jR z.g):=ah w h
def zA (w:ae G H:=by intro z;refine nE ?_;refine ck ?_;exact sP [1,2,3,4] [1] z.g):=ah w h
def zie (w:ae G H:=by intro z;refine Mz ?_;exact dE z.g):=ah w h
def zB (w:ae G H:=by intro z;refine vv ?_;exact rM z.g):=ah w h
def zt1 (w:ae G H:=by intro z;refine xT ?_;exact rA z.g (x:=cL [(true,[sl (.lo _) _,val _])] ko Xm (hs:=Qj))):=ah w h
def zuz (w:ae G H:=by intro z;refine sS [0,1,4,5] [4] ?_;exact rA z.g (x:=bZ (qs:=[]) (cs:=kq) ai Aw Az aFo ak aq rfl ak)):=ah w h
def zwv (w:ae G H:=by intro z;refine GT ?_;exact rB ga z.g (x:=cL kP mM Xp (hs:=by exact (ZD (r:=nk s))))):=ah w h
def zzr (w:ae G H:=by intro z;refine rA ?_ (x:=gL dh dh Xs (hs:=by exact (ZA (sep:=[46,46]) ab)));exact bN z.g):=ah w h
def Zld (w:ae G H:=by intro z;refine rB gf ?_ (x:=vM false [sl .v _]);exact rB gf z.g (x:=aP (k:=0) ai dc (aY rfl) ej ux ak)):=ah w h
def zcc (w:ae G H:=by intro z;refine rM ?_;exact Mz z.g):=ah w h
def Za7 (w:ae G H:=by intro z;refine nH ?_;exact dA 16 z.g (x:=aP (k:=1) ai dc (aY rfl) ej Iw ak)):=ah w h
def Zb8 (w:ae G H:=by intro z;refine nH ?_;exact dA 32 z.g (x:=aP (k:=2) ai dc (aY rfl) ej Iv ak)):=ah w h
def Lv (w:ae G H:=by intro z;refine cB ?_;exact rA z.g (x:=lN mr)):=ah w h
def zsg (w:ae G H:=by intro z;refine xT ?_;exact rA z.g (x:=cL [(true,[sl (.lo _) _,val _])] ko aqC (hs:=by exact aqZ ab))):=ah w h
def zt2 (w:ae G H:=by intro z;refine xT ?_;exact rA z.g (x:=cL [(true,[sl (.lo _) _,val _])] ko aqE (hs:=by exact aqY ab))):=ah w h
def ztk (w:ae G H:=by intro z;refine Zq6 ?_;exact zW z.g):=ah w h
def Za5 (w:ae G H:=by intro z;refine nH ?_;exact dA 1 z.g (x:=aP (k:=0) ai dc (aY rfl) ej ux ak)):=ah w h
def Lx (w:ae G H:=by intro z;refine sS [0,3,4,6,5000] [0,3] ?_;exact iF z.g):=ah w h
def FS (w:ae G H:=by intro z;refine rA ?_ (x:=lN iK);exact eK z.g):=ah w h
def zup (w:ae G H:=by intro z;refine xL ?_;exact Wn z.g):=ah w h
def Zbi (w:ae G H:=by intro z;refine rA ?_ (x:=gL dh dh Xs (hs:=by exact (ZA (sep:=[32]) ab)));exact bN z.g):=ah w h
def Ly (w:ae G H:=by intro z;refine cB ?_;exact rA z.g (x:=lN vQ)):=ah w h
def zC (w:ae G H:=by intro z;refine aF ?_;exact sG [0,3] [] z.g):=ah w h
def zD (w:ae G H:=by intro z;refine be ?_;exact sS [0,3] [] z.g):=ah w h
def Lz (w:ae G H:=by intro z;refine rA ?_ (x:=lF mq);exact eS z.g):=ah w h
def LA (w:ae G H:=by intro z;refine Ae ?_;exact eS z.g):=ah w h
def xG (w:ae G H:=by intro z;refine cK ?_;refine tN ?_;exact dA 1 z.g (x:=rr ai)):=ah w h
def UE (w:ae G H:=by intro z;refine sR ?_;exact Wf z.g):=ah w h
def Ce (w:ae G H:=by intro z;refine sS [1,2,3,16] [1] ?_;exact jR z.g):=ah w h
def FT (w:ae G H:=by intro z;refine qB ?_;exact FH z.g):=ah w h
def FU (w:ae G H:=by intro z;refine cB ?_;exact oy z.g):=ah w h
def Zp4 (w:ae G H:=by intro z;refine VT ?_;exact rK z.g):=ah w h
def Zbm (w:ae G H:=by intro z;refine MX ?_;refine rA ?_ (x:=lF apl);exact Wv z.g):=ah w h
def LB (w:ae G H:=by intro z;refine rM ?_;exact rA z.g (x:=jh om)):=ah w h
def Zkn (w:ae G H:=by intro z;refine Wi ?_;exact jT z.g):=ah w h
def zuh (w:ae G H:=by intro z;refine vt ?_;exact dA 0 z.g (x:=lF Db)):=ah w h
def LC (w:ae G H:=by intro z;refine dA 255 ?_ (x:=cP);exact dA 511 z.g (x:=cP)):=ah w h
def zy5 (w:ae G H:=by intro z;refine zl ?_;exact zyp z.g):=ah w h
def FV (w:ae G H:=by intro z;refine ji ?_;exact ku z.g):=ah w h
def Zeh (w:ae G H:=by intro z;refine rB ga ?_ (x:=lD xf wn);exact rB ga z.g (x:=cL [(true,px)] [(true,xf)] azC (hs:=by exact aA0))):=ah w h
def UF (w:ae G H:=by intro z;refine dA 0 ?_ (x:=lD xf wn);exact nH z.g):=ah w h
def Cf (w:ae G H:=by intro z;refine iF ?_;exact rz z.g):=ah w h
def zqh (w:ae G H:=by intro z;refine sR ?_;exact VP z.g):=ah w h
def Cg (w:ae G H:=by intro z;refine de ?_;exact sT [1,2,7000] [1] z.g):=ah w h
def zzn (w:ae G H:=by intro z;refine iC ?_;exact rA z.g (x:=aP (k:=(2+2 * k)) ai dc aq ab Iv ak)):=ah w h
def zvb (w:ae G H:=by intro z;refine vG ?_;exact zpb z.g):=ah w h
def Ziu (w:ae G H:=by intro z;refine rA ?_ (x:=aP ai Dq aq ak bD ak);exact rA z.g (x:=lE [sl .v _] ca)):=ah w h
def zs6 (w:ae G H:=by intro z;refine dA 32 ?_ (x:=lD [val _] aT);exact dA 103 z.g (x:=cL aH aH jo (hs:=jc))):=ah w h
def FW (w:ae G H:=by intro z;refine ji ?_;exact ji z.g):=ah w h
def zyi (w:ae G H:=by intro z;refine dA 16 ?_ (x:=lD [val _] aT);exact dA 55 z.g (x:=gL aH aH kY (hs:=kJ))):=ah w h
def Ch (w:ae G H:=by intro z;refine sG [0,2,3,4] [] ?_;exact bJ z.g):=ah w h
def Ci (w:ae G H:=by intro z;refine rA ?_ (x:=lF na);refine rA ?_ (x:=lD [sl .v _] lA);exact rA z.g (x:=lN iJ)):=ah w h
def Cj (w:ae G H:=by intro z;refine BO ?_;exact rA z.g (x:=lN nS)):=ah w h
def LD (w:ae G H:=by intro z;refine MV ?_;exact jR z.g):=ah w h
def Zec (w:ae G H:=by intro z;refine MM ?_;exact rA z.g (x:=cL [(true,px)] [(true,xf)] azH (hs:=by exact aBO))):=ah w h
def Zic (w:ae G H:=by intro z;refine cB ?_;exact rA z.g (x:=cL bV cd az7 (hs:=by exact (aHN ab ab)))):=ah w h
def Zkv (w:ae G H:=by intro z;refine vD ?_;exact rA z.g (x:=aP (k:=ws.length - 1) ai dc aq ab (by exact eI hlw rfl) ak)):=ah w h
def zyj (w:ae G H:=by intro z;refine dA 2 ?_ (x:=lD [val _] aT);exact dA 6 z.g (x:=gL aH aH kY (hs:=kJ))):=ah w h
def Zor (w:ae G H:=by intro z;refine dA 131071 ?_ (x:=lF pX);exact dA 262143 z.g (x:=bO (ag:=false) (vs:=[sl _ _]) oS aq ak ax)):=ah w h
def zg1 (w:ae G H:=by intro z;refine GT ?_;exact rB ga z.g (x:=cL kP mM WF (hs:=by exact XI))):=ah w h
def FX (w:ae G H:=by intro z;refine sS [0,2,3,7000] [2,3] ?_;exact Fc z.g):=ah w h
def LF (w:ae G H:=by intro z;refine dA 7 ?_ (x:=cP);exact dA 15 z.g (x:=cP)):=ah w h
def zul (w:ae G H:=by intro z;refine dA 4095 ?_ (x:=bO (ag:=true) (vs:=ro) nh aq ak ax);exact bd z.g):=ah w h
def zbp (w:ae G H:=by intro z;refine Wj ?_;exact dG z.g):=ah w h
def Ck (w:ae G H:=by intro z;refine rK ?_;exact sT [2,3,4] [2,3] z.g):=ah w h
def Cl (w:ae G H:=by intro z;refine zf ge ?_;exact rA z.g (x:=bE ge)):=ah w h
def UG (w:ae G H:=by intro z;refine cK ?_;exact dA 0 z.g (x:=lD jg gW)):=ah w h
def Zeu (w:ae G H:=by intro z;refine bN ?_;refine rA ?_ (x:=tm (cs:=kq) (qs:=rq) ai ak PF aJ);exact pJ z.g):=ah w h
def vi (w:ae G H:=by intro z;refine Tm ?_;exact bd z.g):=ah w h
def LG (w:ae G H:=by intro z;refine sW [0,2,3,4,5,9,10] [2,5] [9] ?_;refine Zq0 ?_;exact rA z.g (x:=bZ (qs:=ac2) (cs:=py) ai yt yu OQ ak yS rfl ak)):=ah w h
def zyw (w:ae G H:=by intro z;refine dA 7 ?_ (x:=gL aH aH kY (hs:=kJ));exact dA 15 z.g (x:=cP)):=ah w h
def zz0 (w:ae G H:=by intro z;refine dA 7 ?_ (x:=cL aH aH jo (hs:=jc));exact dA 15 z.g (x:=cP)):=ah w h
def ze4 (w:ae G H:=by intro z;refine dA 4 ?_ (x:=lD [sl .v _] ca);exact dA 12 z.g (x:=cL bV cd ya (hs:=wM))):=ah w h
def zqb (w:ae G H:=by intro z;refine GH ?_;exact dA 31 z.g (x:=cL bV cd ya (hs:=wM))):=ah w h
def zf2 (w:ae G H:=by intro z;refine dP ?_;exact dA 7 z.g (x:=aP ai iJ aq ak bD ak)):=ah w h
def zgt (w:ae G H:=by intro z;refine zQ ?_;exact Zq7 z.g):=ah w h
def LH (w:ae G H:=by intro z;refine rB ga ?_ (x:=lN hY);exact rB ga z.g (x:=kQ)):=ah w h
def LI (w:ae G H:=by intro z;refine sU [0,2,3,4,5,9,10] [2] [5,9] ?_;refine We ?_;exact sG [0,2,3,4,5,9,10] [2,5,9] z.g):=ah w h
def Cm (w:ae G H:=by intro z;refine ck ?_;exact sP [1,2,3] [1] z.g):=ah w h
def Cn (w:ae G H:=by intro z;refine aF ?_;exact sG [1,3] [1] z.g):=ah w h
def FY (w:ae G H:=by intro z;refine aF ?_;exact pI z.g):=ah w h
def Co (w:ae G H:=by intro z;refine dF 1023 gb ?_;exact dF 1023 gb z.g):=ah w h
def Cq (w:ae G H:=by intro z;refine eY ?_;refine rB ga ?_ (x:=uQ);exact lz z.g):=ah w h
def Zo2 (w:ae G H:=by intro z;refine tO ?_;exact sV [0,2,3,7000] [2] [3] z.g):=ah w h
def zl3 (w:ae G H:=by intro z;refine rA ?_ (x:=mL (k:=((dk l f k).length - 1)) (G:=2900) ai ky aq ab (by first|(rw [aU];exact hl1)|exact hl1));refine rA ?_ (x:=lF At);exact rA z.g (x:=to (o:=1) (ag:=false) (vs:=[val _]) ab aT aq ak ax)):=ah w h
def LJ (w:ae G H:=by intro z;refine aF ?_;exact sS [2,3,4,5,6] [2,3,4,6] z.g):=ah w h
def zq3 (w:ae G H:=by intro z;refine tQ ?_;exact Zj7 z.g):=ah w h
def zct (w:ae G H:=by intro z;refine iC ?_;exact rA z.g (x:=cL gK gS api (hs:=by exact aqQ))):=ah w h
def FZ (w:ae G H:=by intro z;refine be ?_;exact sT [1,2,3,4] [1] z.g):=ah w h
def zrk (w:ae G H:=by intro z;refine rA ?_ (x:=lF qM);exact zro z.g):=ah w h
def Ga (w:ae G H:=by intro z;refine sS [0,2,3,4,5,6] [] ?_;exact rM z.g):=ah w h
def Gb (w:ae G H:=by intro z;refine CQ ?_;exact jR z.g):=ah w h
def UH (w:ae G H:=by intro z;refine vJ ?_;exact xT z.g):=ah w h
def zc9 (w:ae G H:=by intro z;refine vq ?_;exact xL z.g):=ah w h
def tK (w:ae G H:=by intro z;refine uX ?_;exact gw z.g):=ah w h
def Cr (w:ae G H:=by intro z;refine rB gb ?_ (x:=nT);exact Ca z.g):=ah w h
def LK (w:ae G H:=by intro z;refine dT 4194303 ga ?_;exact dA 8388607 z.g (x:=ce ga)):=ah w h
def zl2 (w:ae G H:=by intro z;refine sO [(0,_),(1,_),(4,_),(5,_),(6,_),(7,_),(8,_),(2900,_)] [(900,(307,_++(Ew++_)))] ?_;exact fV z.g):=ah w h
def Cs (w:ae G H:=by intro z;refine FD ?_;exact eK z.g):=ah w h
def zr1 (w:ae G H:=by intro z;refine rA ?_ (x:=lF nQ);exact rA z.g (x:=bO (ag:=false) (vs:=[sl _ _]) nU aq ak ax)):=ah w h
def zrj (w:ae G H:=by intro z;refine rA ?_ (x:=lD [sl .v _] jE);exact rA z.g (x:=cL bV cd azp (hs:=by exact aAz ab))):=ah w h
def zrr (w:ae G H:=by intro z;refine rA ?_ (x:=lF pX);exact rA z.g (x:=bO (ag:=false) (vs:=[sl _ _]) oS aq ak ax)):=ah w h
def Ct (w:ae G H:=by intro z;refine oy ?_;exact eK z.g):=ah w h
def UI (w:ae G H:=by intro z;refine zX ?_;exact dA 1 z.g (x:=lD rq iv)):=ah w h
def zsk (w:ae G H:=by intro z;refine sO [(1,_),(2,_),(4,_),(5,_),(6,_),(2900,_),(6000,_)] [(2,_),(4,_),(6,_),(900,(114,bX ue _ _))] ?_;exact fV z.g):=ah w h
def Zhg (w:ae G H:=by intro z;refine rA ?_ (x:=lF uf);exact tO z.g):=ah w h
def Gc (w:ae G H:=by intro z;refine aW ?_;exact sS [0,1,4,5,6] [] z.g):=ah w h
def Gd (w:ae G H:=by intro z;refine rA ?_ (x:=lF nf);exact ry z.g):=ah w h
def zds (w:ae G H:=by intro z;refine xP ?_;exact rB ga z.g (x:=cL bV cd awS (hs:=by exact aAw))):=ah w h
def Zee (w:ae G H:=by intro z;refine xP ?_;exact rB ga z.g (x:=cL bV cd aqc (hs:=by exact arj))):=ah w h
def Zl6 (w:ae G H:=by intro z;refine Wt ?_;exact rS z.g):=ah w h
def zkn (w:ae G H:=by intro z;refine iC ?_;exact Zpu z.g):=ah w h
def Cu (w:ae G H:=by intro z;refine rA ?_ (x:=ce ge);exact rM z.g):=ah w h
def Zmt (w:ae G H:=by intro z;refine Wo ?_;exact cg z.g):=ah w h
def vj (w:ae G H:=by intro z;refine FD ?_;exact ek z.g):=ah w h
def Zeb (w:ae G H:=by intro z;refine cB ?_;exact rA z.g (x:=cL bV cd azB (hs:=by exact aAZ))):=ah w h
def UJ (w:ae G H:=by intro z;refine cB ?_;exact pH z.g):=ah w h
def tL (w:ae G H:=by intro z;refine uT ?_;exact rS z.g):=ah w h
def LL (w:ae G H:=by intro z;refine rB gb ?_ (x:=jO);exact pG z.g):=ah w h
def LM (w:ae G H:=by intro z;refine pH ?_;exact bd z.g):=ah w h
def xH (w:ae G H:=by intro z;refine Tl ?_;exact bd z.g):=ah w h
def Zhp (w:ae G H:=by intro z;refine Fk ?_;exact Zq6 z.g):=ah w h
def Zn1 (w:ae G H:=by intro z;refine GO ?_;exact cz z.g):=ah w h
def Zp8 (w:ae G H:=by intro z;refine MQ ?_;exact nH z.g):=ah w h
def Ge (w:ae G H:=by intro z;refine sG [1,2,3,4] [1] ?_;exact bJ z.g):=ah w h
def UK (w:ae G H:=by intro z;refine dA 0 ?_ (x:=lF Do);exact dA 1 z.g (x:=lD [sl .v _] Dr)):=ah w h
def zmf (w:ae G H:=by intro z;refine xA ?_;exact MO z.g):=ah w h
def zwc (w:ae G H:=by intro z;refine rA ?_ (x:=gL aH aH aym (hs:=by exact (aFD ab)));exact bN z.g):=ah w h
def Ze0 (w:ae G H:=by intro z;refine MB ?_;exact Wf z.g):=ah w h
def zjn (w:ae G H:=by intro z;refine tQ ?_;exact rA z.g (x:=cL bV cd apj (hs:=by exact aq0))):=ah w h
def LN (w:ae G H:=by intro z;refine rA ?_ (x:=lN ng);exact eK z.g):=ah w h
def zoo (w:ae G H:=by intro z;refine rA ?_ (x:=cL pu ko aqC (hs:=by exact aqZ ab));exact dE z.g):=ah w h
def LO (w:ae G H:=by intro z;refine cK ?_;exact dA 0 z.g (x:=lF Db)):=ah w h
def UL (w:ae G H:=by intro z;refine dB 2097151 gb ?_ (x:=lZ);exact dB 4194303 ga z.g (x:=ce gb)):=ah w h
def UM (w:ae G H:=by intro z;refine dA 96 ?_ (x:=lF ik);exact dA 224 z.g (x:=lD [val _] fE)):=ah w h
def Zjx (w:ae G H:=by intro z;refine pJ ?_;exact Fh z.g):=ah w h
def Zk4 (w:ae G H:=by intro z;refine rA ?_ (x:=gL aH aH ax7 (hs:=by exact (aFU ab)));exact bN z.g):=ah w h
def Gf (w:ae G H:=by intro z;refine aW ?_;exact sG [0,2,3,4] [] z.g):=ah w h
def Gg (w:ae G H:=by intro z;refine aF ?_;exact sG [0,1,5] [] z.g):=ah w h
def Gh (w:ae G H:=by intro z;refine be ?_;exact sS [0,1,5] [] z.g):=ah w h
def LP (w:ae G H:=by intro z;refine mX ?_;exact zhm z.g):=ah w h
def Gi (w:ae G H:=by intro z;refine sS [0,1,4,5] [] ?_;exact ck z.g):=ah w h
def vk (w:ae G H:=by intro z;refine it ?_;exact fY z.g):=ah w h
def Cv (w:ae G H:=by intro z;refine rA ?_ (x:=cl (qs:=aH) ai dc oU ai rfl rfl rfl rfl rfl ax bP rfl);refine Wb ?_;exact dG z.g):=ah w h
def zE (w:ae G H:=by intro z;refine rA ?_ (x:=lF apl);refine eS ?_;exact iV z.g):=ah w h
def Gj (w:ae G H:=by intro z;refine xU ?_;exact di z.g):=ah w h
def UN (w:ae G H:=by intro z;refine xP ?_;exact rB ga z.g (x:=lN dc)):=ah w h
def UO (w:ae G H:=by intro z;refine rB gc ?_ (x:=vM false [sl .v _]);exact rB gc z.g (x:=lN dc)):=ah w h
def Zlp (w:ae G H:=by intro z;refine rA ?_ (x:=cL aH aH c_9 (hs:=by exact (aFV ab)));exact bN z.g):=ah w h
def Zf6 (w:ae G H:=by intro z;refine rB gc ?_ (x:=lD mP du);exact rB gc z.g (x:=lF jU)):=ah w h
def UP (w:ae G H:=by intro z;refine rB ga ?_ (x:=lF Hi);exact mX z.g):=ah w h
def UQ (w:ae G H:=by intro z;refine rB gb ?_ (x:=lF yc);exact pF z.g):=ah w h
def UR (w:ae G H:=by intro z;refine dB 4194303 ga ?_ (x:=bE gb);exact dA 8388607 z.g (x:=bE ga)):=ah w h
def US (w:ae G H:=by intro z;refine mX ?_;exact rB ga z.g (x:=lF wl)):=ah w h
def UT (w:ae G H:=by intro z;refine dA 0 ?_ (x:=lF lK);exact dA 256 z.g (x:=lD [val _] aT)):=ah w h
def LQ (w:ae G H:=by intro z;refine bd ?_;exact sP [0,2,3,4,5] [2,5] z.g):=ah w h
def LR (w:ae G H:=by intro z;refine vz ?_;exact qD z.g):=ah w h
def UU (w:ae G H:=by intro z;refine dA 3 ?_ (x:=lF ik);exact dA 7 z.g (x:=lD [val _] fE)):=ah w h
def Zhe (w:ae G H:=by intro z;refine Wu ?_;exact zN z.g):=ah w h
def LS (w:ae G H:=by intro z;refine tQ ?_;exact rM z.g):=ah w h
def UV (w:ae G H:=by intro z;refine dA 0 ?_ (x:=lF nR);exact dA 8 z.g (x:=lD [val _] aT)):=ah w h
def LU (w:ae G H:=by intro z;refine sV [0,2,3,4,5] [2] [5] ?_;exact oy z.g):=ah w h
def UW (w:ae G H:=by intro z;refine rB gb ?_ (x:=lE [val _] kZ);exact rB gb z.g (x:=pA)):=ah w h
def Zba (w:ae G H:=by intro z;refine dA 512 ?_ (x:=aP (k:=3) ai dc (aY rfl) ej Pz ak);refine dA 1536 ?_ (x:=lE [val _] kZ);exact dA 4079 z.g (x:=cL aH aH wh (hs:=IX))):=ah w h
def Zey (w:ae G H:=by intro z;refine iU ?_;exact Wa z.g):=ah w h
def Gk (w:ae G H:=by intro z;refine be ?_;exact sT [1,3] [1] z.g):=ah w h
def UX (w:ae G H:=by intro z;refine MN ?_;exact xC z.g):=ah w h
def vl (w:ae G H:=by intro z;refine dO ?_;exact rM z.g):=ah w h
def zh2 (w:ae G H:=by intro z;refine Fy ?_;exact Zpx z.g):=ah w h
def vm (w:ae G H:=by intro z;refine BE ?_;exact rM z.g):=ah w h
def vn (w:ae G H:=by intro z;refine rM ?_;exact di z.g):=ah w h
def UY (w:ae G H:=by intro z;refine dA 16383 ?_ (x:=cP);exact dA 32767 z.g (x:=cP)):=ah w h
def Gl (w:ae G H:=by intro z;refine de ?_;exact sT [1,2,4] [2] z.g):=ah w h
def Gm (w:ae G H:=by intro z;refine rM ?_;refine zx ?_;exact pD z.g):=ah w h
def Gn (w:ae G H:=by intro z;refine sS [1,2,7] [1] ?_;exact jR z.g):=ah w h
def vo (w:ae G H:=by intro z;refine TK ?_;exact rM z.g):=ah w h
def Zl4 (w:ae G H:=by intro z;refine xW ?_;exact jT z.g):=ah w h
def zwp (w:ae G H:=by intro z;refine Zph ?_;exact dA 60 z.g (x:=cL aH aH wh (hs:=IX))):=ah w h
def UZ (w:ae G H:=by intro z;refine cB ?_;exact iF z.g):=ah w h
def zdx (w:ae G H:=by intro z;refine BI ?_;exact Zq7 z.g):=ah w h
def Cw (w:ae G H:=by intro z;refine dU 1023 ?_;exact dU 1023 z.g):=ah w h
def zzw (w:ae G H:=by intro z;refine TT ?_;exact sW [0,2,3,4,5,6,7,8,9,11,12,13,14,15,16,17,18,19,20,21,22,23,7000] [2] [12] z.g):=ah w h
def Va (w:ae G H:=by intro z;refine sR ?_;exact MN z.g):=ah w h
def Vb (w:ae G H:=by intro z;refine sR ?_;exact GK z.g):=ah w h
def Vc (w:ae G H:=by intro z;refine pF ?_;exact rB gb z.g (x:=lZ)):=ah w h
def Gp (w:ae G H:=by intro z;refine uW ?_;exact eK z.g):=ah w h
def Gq (w:ae G H:=by intro z;refine cm ?_;exact nG z.g):=ah w h
def LV (w:ae G H:=by intro z;refine be ?_;exact sS [0,1,4,5,6] [] z.g):=ah w h
def Gr (w:ae G H:=by intro z;refine xr ?_;exact jx z.g):=ah w h
def Vd (w:ae G H:=by intro z;refine sR ?_;exact zW z.g):=ah w h
def Ve (w:ae G H:=by intro z;refine kT ?_;exact rB gc z.g (x:=jh qZ)):=ah w h
def Vf (w:ae G H:=by intro z;refine cB ?_;exact rA z.g (x:=lN iJ)):=ah w h
def Vg (w:ae G H:=by intro z;refine zS ?_;exact rB gd z.g (x:=lu)):=ah w h
def zzt (w:ae G H:=by intro z;refine Gm ?_;exact sS [0,2,3,4,5,6,7,8,9,11,12,13,14,15,16,17,18,19,20,21,22,23,7000] [2,12] z.g):=ah w h
def Vh (w:ae G H:=by intro z;refine sR ?_;exact rX z.g (x:=(gQ ai vR vS))):=ah w h
def Gs (w:ae G H:=by intro z;refine ji ?_;refine rB gb ?_ (x:=uQ);exact pG z.g):=ah w h
def Vi (w:ae G H:=by intro z;refine Zbm ?_;exact sW [0,2,3,4,5,6,7,18,7000] [2] [7] z.g):=ah w h
def Vj (w:ae G H:=by intro z;refine rA ?_ (x:=lF yr);exact eS z.g):=ah w h
def Vk (w:ae G H:=by intro z;refine sS [0,2,7000] [] ?_;exact cB z.g):=ah w h
def Zo3 (w:ae G H:=by intro z;refine xu ?_;exact rA z.g (x:=gL aH aH Xt (hs:=by exact (ZF (hw 1))))):=ah w h
def Vl (w:ae G H:=by intro z;refine dA 511 ?_ (x:=cP);exact dA 1023 z.g (x:=cP)):=ah w h
def Vm (w:ae G H:=by intro z;refine MX ?_;exact Lm z.g):=ah w h
def Vn (w:ae G H:=by intro z;refine rA ?_ (x:=lF yc);exact eS z.g):=ah w h
def Vo (w:ae G H:=by intro z;refine rA ?_ (x:=lF rO);exact eS z.g):=ah w h
def LW (w:ae G H:=by intro z;refine rB gb ?_ (x:=lF yc);exact zo z.g):=ah w h
def zip (w:ae G H:=by intro z;refine zq ?_;exact gw z.g):=ah w h
def LX (w:ae G H:=by intro z;refine sV [1,2,3] [1,2] [3] ?_;exact ck z.g):=ah w h
def LY (w:ae G H:=by intro z;refine rB ga ?_ (x:=lF yd);exact BT z.g):=ah w h
def LZ (w:ae G H:=by intro z;refine bR.s0f gd ?_;exact vC z.g):=ah w h
def Ma (w:ae G H:=by intro z;refine xV ?_;exact rM z.g):=ah w h
def Zcw (w:ae G H:=by intro z;refine rA ?_ (x:=Ju ai aq (aY rfl) br);exact qA z.g):=ah w h
def Mb (w:ae G H:=by intro z;refine bR.s0f gb ?_;exact pG z.g):=ah w h
def zeh (w:ae G H:=by intro z;refine rX ?_ (x:=(lm (ag:=true) (cs:=tw) ai aq));exact tH z.g):=ah w h
def Gt (w:ae G H:=by intro z;refine rK ?_;exact sT [1,2,4] [2] z.g):=ah w h
def Gu (w:ae G H:=by intro z;refine rA ?_ (x:=bE gc);exact rM z.g):=ah w h
def Gv (w:ae G H:=by intro z;refine dA 0 ?_ (x:=lF nQ);refine dA 1 ?_ (x:=lD [val _] nU);exact dP z.g):=ah w h
def zzp (w:ae G H:=by intro z;refine sS [0,2,3,4,5,6,7,8,9,11,12,13,14,15,16,7000] [2,12] ?_;exact cB z.g):=ah w h
def Gw (w:ae G H:=by intro z;refine ku ?_;exact rS z.g):=ah w h
def Gx (w:ae G H:=by intro z;refine uU ?_;exact dP z.g):=ah w h
def Zoi (w:ae G H:=by intro z;refine rA ?_ (x:=lN hY);exact Wu z.g):=ah w h
def Gy (w:ae G H:=by intro z;refine rM ?_;exact rA z.g (x:=lZ)):=ah w h
def Gz (w:ae G H:=by intro z;refine rM ?_;exact eK z.g):=ah w h
def Zfk (w:ae G H:=by intro z;refine sS [2,3,4,6,7,8,9,11,14,54,55,67,68,69,6200,6300] [3,4,6,8,9] ?_;exact bN z.g):=ah w h
def Vp (w:ae G H:=by intro z;refine sS [2,3,4,5,6,7,20] [2,3,4,6] ?_;exact jR z.g):=ah w h
def Mc (w:ae G H:=by intro z;refine ek ?_;exact sP [0,2,5,6,7] [] z.g):=ah w h
def Md (w:ae G H:=by intro z;refine be ?_;exact sS [0,5,6,7] [] z.g):=ah w h
def Me (w:ae G H:=by intro z;refine Ul ?_;exact rB ga z.g (x:=lN bW)):=ah w h
def Mf (w:ae G H:=by intro z;refine be ?_;exact vv z.g):=ah w h
def Ze2 (w:ae G H:=by intro z;refine UC ?_;exact MQ z.g):=ah w h
def Vq (w:ae G H:=by intro z;refine dB 127 ga ?_ (x:=sM);exact dB 255 ga z.g (x:=jO)):=ah w h
def xI (w:ae G H:=by intro z;refine mT ?_;exact rM z.g):=ah w h
def Zj2 (w:ae G H:=by intro z;refine FY ?_;exact jT z.g):=ah w h
def zF (w:ae G H:=by intro z;refine Zgo ?_;refine rM ?_;exact Tj z.g):=ah w h
def vp (w:ae G H:=by intro z;refine rM ?_;exact rS z.g):=ah w h
def zG (w:ae G H:=by intro z;refine iC ?_;exact uT z.g):=ah w h
def zH (w:ae G H:=by intro z;refine ry ?_;exact ek z.g):=ah w h
def GA (w:ae G H:=by intro z;refine sS [0,3] [] ?_;exact cz z.g):=ah w h
def Mg (w:ae G H:=by intro z;refine sS [1,2,3,16] [1] ?_;exact fA z.g):=ah w h
def GB (w:ae G H:=by intro z;refine KH ?_;exact fB z.g):=ah w h
def Mh (w:ae G H:=by intro z;refine rK ?_;exact sT [1,2,4,5] [2,4] z.g):=ah w h
def zI (w:ae G H:=by intro z;refine KD ?_;exact cz z.g):=ah w h
def zJ (w:ae G H:=by intro z;refine zu ?_;exact pD z.g):=ah w h
def Mi (w:ae G H:=by intro z;refine rK ?_;exact sT [0,2,3,7000] [2] z.g):=ah w h
def zK (w:ae G H:=by intro z;refine rB gd ?_ (x:=lD zc qQ);refine rB gd ?_ (x:=cL tu tv NE (hs:=PD));exact Lp z.g):=ah w h
def Mj (w:ae G H:=by intro z;refine iF ?_;refine rM ?_;exact GG z.g):=ah w h
def Mk (w:ae G H:=by intro z;refine mU ?_;exact rA z.g (x:=lN mr)):=ah w h
def Ml (w:ae G H:=by intro z;refine cV ?_;exact sS [1,2,3,4] [1] z.g):=ah w h
def Zh2 (w:ae G H:=by intro z;refine bd ?_;exact sP [0,1,5,6,7,8,9,10,11,12,13,14,15,2900,5000] [0,6,8,13,900] z.g):=ah w h
def zti (w:ae G H:=by intro z;refine rA ?_ (x:=cF ai Ar ax);exact zO z.g):=ah w h
def zzs (w:ae G H:=by intro z;refine sS [0,2,3,4,5,6,7,8,9,11,12,13,14,15,16,17,18,19,7000] [2,12] ?_;refine Gm ?_;exact sS [0,2,3,4,5,6,7,8,9,11,12,13,14,15,16,17,18,19,20,21,7000] [2,12] z.g):=ah w h
def zll (w:ae G H:=by intro z;refine rA ?_ (x:=rg (.inr rfl) ai (uF (t:=25) (e:=4)));exact mf z.g):=ah w h
def Mm (w:ae G H:=by intro z;refine rA ?_ (x:=lN ng);exact ek z.g):=ah w h
def Vr (w:ae G H:=by intro z;refine rB gc ?_ (x:=uQ);exact rA z.g (x:=bE gc)):=ah w h
def Zkp (w:ae G H:=by intro z;refine sV [1,2,4,5,6,11,12,15,20,21,74,99,100,101,7000] [2,4,11] [20] ?_;exact Fc z.g):=ah w h
def Vs (w:ae G H:=by intro z;refine uY ?_;exact zN z.g):=ah w h
def GC (w:ae G H:=by intro z;refine dU 4095 ?_;exact dU 8191 z.g):=ah w h
def Vt (w:ae G H:=by intro z;refine dG ?_;exact sS [0,1,4,5,6,7] [] z.g):=ah w h
def Vu (w:ae G H:=by intro z;refine dP ?_;exact dA 0 z.g (x:=lF lK)):=ah w h
def Mn (w:ae G H:=by intro z;refine zt gf ?_;exact rA z.g (x:=ce gf)):=ah w h
def Vv (w:ae G H:=by intro z;refine rB gc ?_ (x:=ce gd);exact rA z.g (x:=bE gc)):=ah w h
def Vw (w:ae G H:=by intro z;refine rB gc ?_ (x:=bE gd);exact rA z.g (x:=bE gc)):=ah w h
def Vx (w:ae G H:=by intro z;refine GX ?_;exact jR z.g):=ah w h
def Zjj (w:ae G H:=by intro z;refine TP ?_;exact rA z.g (x:=lE xh wo)):=ah w h
def Mo (w:ae G H:=by intro z;refine Lo ?_;exact iW z.g):=ah w h
def zL (w:ae G H:=by intro z;refine Tq ?_;exact rM z.g):=ah w h
def Mp (w:ae G H:=by intro z;refine Tv ?_;exact lz z.g):=ah w h
def Vy (w:ae G H:=by intro z;refine cK ?_;exact dA 0 z.g (x:=lF sb)):=ah w h
def zz3 (w:ae G H:=by intro z;refine dA 0 ?_ (x:=lF Hg);exact dA 32 z.g (x:=lD jg gW)):=ah w h
def Mq (w:ae G H:=by intro z;refine rB ga ?_ (x:=lE [val _] kZ);refine rB ga ?_ (x:=pA);exact iW z.g):=ah w h
def Mr (w:ae G H:=by intro z;refine rB gc ?_ (x:=lE [val _] kZ);refine rB gc ?_ (x:=pA);exact rI z.g):=ah w h
def Vz (w:ae G H:=by intro z;refine rB ga ?_ (x:=jO);exact lz z.g):=ah w h
def zM (w:ae G H:=by intro z;refine bN ?_;refine xl ?_;refine uS ?_;exact rS z.g):=ah w h
def zks (w:ae G H:=by intro z;refine rA ?_ (x:=rg (.inr rfl) ai (uF (t:=307) (e:=3)));refine nG ?_;exact rA z.g (x:=cl (qs:=[]) ai ky Av ai rfl rfl rfl rfl rfl ax aq rfl)):=ah w h
def VA (w:ae G H:=by intro z;refine cK ?_;exact dA 0 z.g (x:=lF na)):=ah w h
def VB (w:ae G H:=by intro z;refine rB gc ?_ (x:=ma);exact kT z.g):=ah w h
def VC (w:ae G H:=by intro z;refine ji ?_;exact rB gb z.g (x:=jO)):=ah w h
def VD (w:ae G H:=by intro z;refine ji ?_;exact rB gb z.g (x:=kQ)):=ah w h
def VE (w:ae G H:=by intro z;refine sS [0,1,4,5,16,5000] [0] ?_;exact jR z.g):=ah w h
def VF (w:ae G H:=by intro z;refine sP [0,1,4,5,16,5000] [0] ?_;exact vb z.g):=ah w h
def VG (w:ae G H:=by intro z;refine sS [2,3,4,5,17] [2,3,4] ?_;exact jR z.g):=ah w h
def Ms (w:ae G H:=by intro z;refine cq ?_;exact nF z.g):=ah w h
def Mt (w:ae G H:=by intro z;refine mV ?_;exact nG z.g):=ah w h
def Mu (w:ae G H:=by intro z;refine BR ?_;exact rA z.g (x:=lZ)):=ah w h
def Mv (w:ae G H:=by intro z;refine fH ?_;exact sP [0,1,5] [] z.g):=ah w h
def Zdk (w:ae G H:=by intro z;refine iU ?_;exact rA z.g (x:=rg (.inr rfl) ai (uF (t:=9) (e:=1)))):=ah w h
def Zkk (w:ae G H:=by intro z;refine sS [1,2,4,5,6,11,12,15,17,74,99,100,101,7000] [2,4,11] ?_;refine Gm ?_;exact sS [1,2,4,5,6,11,12,15,17,18,19,74,99,100,101,7000] [2,4,11] z.g):=ah w h
def Mw (w:ae G H:=by intro z;refine BQ ?_;exact nF z.g):=ah w h
def Cx (w:ae G H:=by intro z;refine jQ ?_;exact ek z.g):=ah w h
def Cy (w:ae G H:=by intro z;refine vd ?_;refine ck ?_;exact sP [0,2,3] [] z.g):=ah w h
def VH (w:ae G H:=by intro z;refine mX ?_;exact Fg z.g):=ah w h
def GD (w:ae G H:=by intro z;refine xr ?_;exact iV z.g):=ah w h
def Cz (w:ae G H:=by intro z;refine FE ?_;exact ek z.g):=ah w h
def CA (w:ae G H:=by intro z;refine ztd ?_;exact Tr z.g):=ah w h
def CB (w:ae G H:=by intro z;refine xA ?_;exact pC z.g):=ah w h
def VI (w:ae G H:=by intro z;refine dA 30 ?_ (x:=lE [val _] aT);exact hM z.g):=ah w h
def CC (w:ae G H:=by intro z;refine Tp ?_;exact Tn z.g):=ah w h
def GF (w:ae G H:=by intro z;refine mR ?_;exact iV z.g):=ah w h
def CD (w:ae G H:=by intro z;refine Zeu ?_;exact Tl z.g):=ah w h
def VJ (w:ae G H:=by intro z;refine aF ?_;exact xV z.g):=ah w h
def CE (w:ae G H:=by intro z;refine it ?_;exact rC z.g):=ah w h
def CF (w:ae G H:=by intro z;refine kR ?_;exact rC z.g):=ah w h
def VK (w:ae G H:=by intro z;refine cK ?_;exact tN z.g):=ah w h
def CG (w:ae G H:=by intro z;refine qw ?_;exact cz z.g):=ah w h
def qA (w:ae G H:=by intro z;exact rA z.g (x:=pz)):=ah w h
def eS (w:ae G H:=by intro z;exact rA z.g (x:=lD [val _] aT)):=ah w h
def zN (w:ae G H:=by intro z;exact rA z.g (x:=rr ai)):=ah w h
def tN (w:ae G H:=by intro z;exact dA 0 z.g (x:=cM Cp.ptr)):=ah w h
def bd (w:ae G H:=by intro z;exact Ej z.g):=ah w h
def tO (w:ae G H:=by intro z;exact rA z.g (x:=bO (ag:=false) (vs:=[val _]) aT aq ak ax)):=ah w h
def aF (w:ae G H:=by intro z;exact avm z.g):=ah w h
def xJ (w:ae G H:=by intro z;exact sT [0,1,4,5000] [0] z.g):=ah w h
def CH (w:ae G H:=by intro z;exact sS [0,1,4,5000] [0] z.g):=ah w h
def GG (w:ae G H:=by intro z;exact rA z.g (x:=iS (bx:=0) (qs:=aH) (as_:=aH) ai Hu rfl bP pn kI aJ Qg)):=ah w h
def zO (w:ae G H:=by intro z;exact rA z.g (x:=lE [val _] aT)):=ah w h
def jx (w:ae G H:=by intro z;exact rA z.g (x:=lu)):=ah w h
def iF (w:ae G H:=by intro z;exact rA z.g (x:=cM Cp.ptr)):=ah w h
def Mx (w:ae G H:=by intro z;exact sT [0,1,4,5,6,7,5000] [0,4,5] z.g):=ah w h
def xK (w:ae G H:=by intro z;exact rA z.g (x:=lF yb)):=ah w h
def xL (w:ae G H:=by intro z;exact rA z.g (x:=bO (ag:=false) (vs:=[sl _ _]) ca aq ak ax)):=ah w h
def be (w:ae G H:=by intro z;exact avn z.g):=ah w h
def cg (w:ae G H:=by intro z;exact avo z.g):=ah w h
def iV (w:ae G H:=by intro z;exact avl z.g):=ah w h
def bN (w:ae G H:=by intro z;exact rA z.g (x:=tM)):=ah w h
def zbv (w:ae G H:=by intro z;exact rA z.g (x:=iS (bx:=0) (qs:=aH) (as_:=aH) ai ay0 rfl bP pn kI aJ (by exact (aAm hbo)))):=ah w h
def dG (w:ae G H:=by intro z;exact rA z.g (x:=tA)):=ah w h
def vq (w:ae G H:=by intro z;exact rA z.g (x:=lF Da)):=ah w h
def mf (w:ae G H:=by intro z;exact sS [0,2] [] z.g):=ah w h
def fB (w:ae G H:=by intro z;exact rA z.g (x:=nT)):=ah w h
def eK (w:ae G H:=by intro z;exact rA z.g (x:=ow)):=ah w h
def iW (w:ae G H:=by intro z;exact rA z.g (x:=ce ga)):=ah w h
def vr (w:ae G H:=by intro z;exact dA 1 z.g (x:=lD [val _] aT)):=ah w h
def xM (w:ae G H:=by intro z;exact dA 0 z.g (x:=lF yb)):=ah w h
def vt (w:ae G H:=by intro z;exact dA 0 z.g (x:=cl (qs:=[]) ai bW jV ai rfl rfl rfl rfl rfl ax aq rfl)):=ah w h
def GH (w:ae G H:=by intro z;exact dA 8 z.g (x:=lD [sl .v _] ca)):=ah w h
def rH (w:ae G H:=by intro z;exact sS [0,2,3] [] z.g):=ah w h
def zQ (w:ae G H:=by intro z;exact rA z.g (x:=lD nD jA)):=ah w h
def pF (w:ae G H:=by intro z;exact rB gb z.g (x:=lD [val _] aT)):=ah w h
def qB (w:ae G H:=by intro z;exact rB gc z.g (x:=lD [val _] aT)):=ah w h
def rI (w:ae G H:=by intro z;exact rA z.g (x:=ce gc)):=ah w h
def ku (w:ae G H:=by intro z;exact rA z.g (x:=ce gb)):=ah w h
def My (w:ae G H:=by intro z;exact rA z.g (x:=cL cJ cJ nM (hs:=nu))):=ah w h
def zfk (w:ae G H:=by intro z;exact rA z.g (x:=bO (ag:=true) (vs:=tw) Dd aq ak ax)):=ah w h
def cK (w:ae G H:=by intro z;exact avk Nc z.g):=ah w h
def Mz (w:ae G H:=by intro z;exact rA z.g (x:=cL cJ cJ tU (hs:=sY))):=ah w h
def eY (w:ae G H:=by intro z;exact rB ga z.g (x:=sM)):=ah w h
def MA (w:ae G H:=by intro z;exact rX z.g (x:=(lm (ag:=true) (cs:=iA) ai aq))):=ah w h
def vu (w:ae G H:=by intro z;exact rA z.g (x:=lD jg gW)):=ah w h
def CJ (w:ae G H:=by intro z;exact rB ga z.g (x:=lF Db)):=ah w h
def nE (w:ae G H:=by intro z;exact sS [1,2,3] [1] z.g):=ah w h
def tP (w:ae G H:=by intro z;exact sS [1,2,4] [1] z.g):=ah w h
def zR (w:ae G H:=by intro z;exact rA z.g (x:=lF Db)):=ah w h
def GI (w:ae G H:=by intro z;exact rA z.g (x:=lD qu nh)):=ah w h
def zh5 (w:ae G H:=by intro z;exact rA z.g (x:=cL JJ Ev aqp (hs:=by exact aqV))):=ah w h
def mX (w:ae G H:=by intro z;exact rB ga z.g (x:=lD [val _] aT)):=ah w h
def lz (w:ae G H:=by intro z;exact rA z.g (x:=bE ga)):=ah w h
def oD (w:ae G H:=by intro z;exact rA z.g (x:=ma)):=ah w h
def zS (w:ae G H:=by intro z;exact rB gd z.g (x:=lD [val _] aT)):=ah w h
def tQ (w:ae G H:=by intro z;exact rA z.g (x:=lD [sl .v _] ca)):=ah w h
def ji (w:ae G H:=by intro z;exact rB gb z.g (x:=sM)):=ah w h
def zhv (w:ae G H:=by intro z;exact rA z.g (x:=aP ai hY aq ak bD ak)):=ah w h
def xN (w:ae G H:=by intro z;exact rA z.g (x:=lN fO)):=ah w h
def nF (w:ae G H:=by intro z;exact rA z.g (x:=jO)):=ah w h
def zil (w:ae G H:=by intro z;exact rA z.g (x:=cL kP mM WF (hs:=by exact XI))):=ah w h
def VL (w:ae G H:=by intro z;exact rA z.g (x:=lE qu nh)):=ah w h
def VM (w:ae G H:=by intro z;exact rB ge z.g (x:=lD qu nh)):=ah w h
def kT (w:ae G H:=by intro z;exact rB gc z.g (x:=sM)):=ah w h
def pG (w:ae G H:=by intro z;exact rA z.g (x:=bE gb)):=ah w h
def xO (w:ae G H:=by intro z;exact dB 511 ga z.g (x:=sM)):=ah w h
def vv (w:ae G H:=by intro z;exact sS [0,2,3,4] [] z.g):=ah w h
def nG (w:ae G H:=by intro z;exact sS [0,1,4] [] z.g):=ah w h
def xP (w:ae G H:=by intro z;exact rB ga z.g (x:=vM false [sl .v _])):=ah w h
def qC (w:ae G H:=by intro z;exact rB gb z.g (x:=vM false [sl .v _])):=ah w h
def cB (w:ae G H:=by intro z;exact rA z.g (x:=vM false [sl .v _])):=ah w h
def dP (w:ae G H:=by intro z;exact dA 0 z.g (x:=sM)):=ah w h
def zT (w:ae G H:=by intro z;exact rA z.g (x:=vM false [sl (.lo _) _])):=ah w h
def zU (w:ae G H:=by intro z;exact sG [0,1,4,5,6,7,8] [] z.g):=ah w h
def GJ (w:ae G H:=by intro z;exact rA z.g (x:=cl (qs:=[]) ai bW jV ai rfl rfl rfl rfl rfl ax aq rfl)):=ah w h
def zlb (w:ae G H:=by intro z;exact rA z.g (x:=aP ai ky aq ak bD ak)):=ah w h
def GK (w:ae G H:=by intro z;exact rX z.g (x:=(gQ ai mj yg))):=ah w h
def zln (w:ae G H:=by intro z;exact rA z.g (x:=cL iR kp aqs (hs:=by exact aq3 ab))):=ah w h
def VN (w:ae G H:=by intro z;exact rA z.g (x:=fp (ms:=jN) (qs:=jg) ai gW (fun h=>nomatch h) ax ak Py aJ)):=ah w h
def MB (w:ae G H:=by intro z;exact rX z.g (x:=(gQ ai Hx Hy))):=ah w h
def zlr (w:ae G H:=by intro z;exact rA z.g (x:=cL bV cd Xq (hs:=PN))):=ah w h
def VO (w:ae G H:=by intro z;exact rA z.g (x:=QU ai aq (aY rfl) ab)):=ah w h
def vw (w:ae G H:=by intro z;exact sS [0,2,3,7000] [] z.g):=ah w h
def CK (w:ae G H:=by intro z;exact rB gb z.g (x:=lD [sl .v _] ca)):=ah w h
def qD (w:ae G H:=by intro z;exact rA z.g (x:=ce gd)):=ah w h
def vz (w:ae G H:=by intro z;exact rB gd z.g (x:=sM)):=ah w h
def vC (w:ae G H:=by intro z;exact rA z.g (x:=bE gd)):=ah w h
def xQ (w:ae G H:=by intro z;exact rA z.g (x:=lF wk)):=ah w h
def MC (w:ae G H:=by intro z;exact rA z.g (x:=lD Bp qP)):=ah w h
def znu (w:ae G H:=by intro z;exact rA z.g (x:=aP ai ng aq ak bD ak)):=ah w h
def VP (w:ae G H:=by intro z;exact rX z.g (x:=(lm (ag:=true) (cs:=lr) ai aq))):=ah w h
def vD (w:ae G H:=by intro z;exact rA z.g (x:=kQ)):=ah w h
def vE (w:ae G H:=by intro z;exact rA z.g (x:=lF lJ)):=ah w h
def GL (w:ae G H:=by intro z;exact rX z.g (x:=(gQ ai nV XF))):=ah w h
def zp0 (w:ae G H:=by intro z;exact dA 0 z.g (x:=lD xi oQ)):=ah w h
def zpb (w:ae G H:=by intro z;exact rA z.g (x:=cL pu ko aqE (hs:=by exact aqY ab))):=ah w h
def zpe (w:ae G H:=by intro z;exact rB gb z.g (x:=cL bV cd Xi (hs:=by exact XM))):=ah w h
def zpp (w:ae G H:=by intro z;exact rB gg z.g (x:=cL cJ cJ nM (hs:=nu))):=ah w h
def zV (w:ae G H:=by intro z;exact rA z.g (x:=bO (ag:=true) (vs:=jN) gW aq ak ax)):=ah w h
def zq2 (w:ae G H:=by intro z;exact rA z.g (x:=bO (ag:=true) (vs:=Ew) aqK aq ak ax)):=ah w h
def tR (w:ae G H:=by intro z;exact rA z.g (x:=rg (.inr rfl) ai (uF (t:=3) (e:=1)))):=ah w h
def zq8 (w:ae G H:=by intro z;exact rA z.g (x:=cL bV cd aqy (hs:=by exact arl))):=ah w h
def pH (w:ae G H:=by intro z;exact rA z.g (x:=vA false [sl .v _])):=ah w h
def VQ (w:ae G H:=by intro z;exact dA 1023 z.g (x:=bO (ag:=false) (vs:=[sl _ _]) ca aq ak ax)):=ah w h
def zqd (w:ae G H:=by intro z;exact dA 4095 z.g (x:=bO (ag:=false) (vs:=[sl _ _]) ca aq ak ax)):=ah w h
def zqe (w:ae G H:=by intro z;exact dA 16383 z.g (x:=bO (ag:=false) (vs:=[sl _ _]) ca aq ak ax)):=ah w h
def zqf (w:ae G H:=by intro z;exact rA z.g (x:=bO (ag:=true) (vs:=qv) qP aq ak ax)):=ah w h
def zqj (w:ae G H:=by intro z;exact dA 1023 z.g (x:=bO (ag:=true) (vs:=jN) gW aq ak ax)):=ah w h
def VR (w:ae G H:=by intro z;exact rA z.g (x:=fp (ms:=lr) (qs:=xi) ai oQ (fun h=>nomatch h) ax ak aay aJ)):=ah w h
def VS (w:ae G H:=by intro z;exact rA z.g (x:=bO (ag:=true) (vs:=lr) oQ aq ak ax)):=ah w h
def MD (w:ae G H:=by intro z;exact rX z.g (x:=(gQ ai sd Hz))):=ah w h
def zqo (w:ae G H:=by intro z;exact rA z.g (x:=fp (ms:=xg) (qs:=xh) ai wo (fun h=>nomatch h) ax ak Pu aJ)):=ah w h
def VT (w:ae G H:=by intro z;exact rA z.g (x:=bO (ag:=true) (vs:=xg) wo aq ak ax)):=ah w h
def ME (w:ae G H:=by intro z;exact rX z.g (x:=(gQ ai jF Ax))):=ah w h
def VU (w:ae G H:=by intro z;exact rA z.g (x:=bO (ag:=true) (vs:=ro) nh aq ak ax)):=ah w h
def zW (w:ae G H:=by intro z;exact rX z.g (x:=(gQ ai Aw Az))):=ah w h
def xR (w:ae G H:=by intro z;exact rA z.g (x:=lF lK)):=ah w h
def CL (w:ae G H:=by intro z;exact dA 0 z.g (x:=lF Hv)):=ah w h
def xS (w:ae G H:=by intro z;exact dA 0 z.g (x:=lF uf)):=ah w h
def VV (w:ae G H:=by intro z;exact cj.step 0 aq aq (db.of rfl (gQ ai ug uh)) (uI (dv.of_ rfl)) ao z.g):=ah w h
def VW (w:ae G H:=by intro z;exact rA z.g (x:=nA ai bW jV rfl rfl ai qi uA bo bo)):=ah w h
def zro (w:ae G H:=by intro z;exact rA z.g (x:=bO (ag:=false) (vs:=[sl _ _]) jE aq ak ax)):=ah w h
def vF (w:ae G H:=by intro z;exact sS [1,2,7000] [1] z.g):=ah w h
def zX (w:ae G H:=by intro z;exact dA 0 z.g (x:=lF wl)):=ah w h
def zY (w:ae G H:=by intro z;exact dA 0 z.g (x:=lF ik)):=ah w h
def CM (w:ae G H:=by intro z;exact sS [1,2,3,7000] [1] z.g):=ah w h
def pI (w:ae G H:=by intro z;exact sS [1,2] [1] z.g):=ah w h
def zZ (w:ae G H:=by intro z;exact sV [1,2,4,5,6] [2,4] [6] z.g):=ah w h
def GM (w:ae G H:=by intro z;exact sS [1,2,4,5,6] [2,4,6] z.g):=ah w h
def zsm (w:ae G H:=by intro z;exact sO [(1,_),(2,_),(4,_),(5,_),(6,_),(19,_),(20,_),(21,_),(2900,_),(6000,_)] [(2,(41,[sl (.lo _) _,val _])),(4,(41,kq)),(6,(41,mO)),(900,(114,bX ue _ _))] z.g):=ah w h
def VX (w:ae G H:=by intro z;exact rA z.g (x:=aP ai fO aq ak bD ak)):=ah w h
def an0 (w:ae G H:=by intro z;exact rA z.g (x:=mH (qs:=Rl) ai nh (fun h=>nomatch h) ax Iu aJ)):=ah w h
def zsx (w:ae G H:=by intro z;exact awg (d:=900) (t:=116) (e:=4) (G:=6000) (f:=(iG aj)) (g:=(fun v:bb=>[val (vI v.Id),sl .v (v.Values.map ar),val (vI v.aJG),val (vI v.aJC)])) (fN:=yq) (zss:=(lI zss keep i)) ak ak (fun _ _=>rfl) (fun _=>rfl) (fun _=>rfl) (by rw [hend,ap0];exact axW) z.g):=ah w h
def zsz (w:ae G H:=by intro z;exact eX (d:=6) ak (show _=[sl bI ((iM s keep).aJr.map (aQ ba aj)),val (vI (iM s keep).Now)] from by first|(rw [hst];done)|(rw [hst];exact rfl)) z.g):=ah w h
def zt0 (w:ae G H:=by intro z;exact dA 0 z.g (x:=mH (qs:=[nv _ (sl .v _),nv _ (val _)]) ai iv (fun h=>nomatch h) ax (by exact (aA (aA az.nil))) aJ)):=ah w h
def zt4 (w:ae G H:=by intro z;exact sO [(1,_),(2,_),(4,_),(5,_),(6,_),(7,_),(8,_),(2900,_),(6000,_)] [(2,(41,[sl (.lo _) _,val _])),(4,(41,kq)),(6,(41,mO)),(900,(114,bX ue _ _))] z.g):=ah w h
def zt6 (w:ae G H:=by intro z;exact rA z.g (x:=mH (qs:=[val _]) ai aT (fun _=>rfl) ax Ir nt)):=ah w h
def zt7 (w:ae G H:=by intro z;exact sO [(1,_),(2,_),(4,_),(5,_),(6,_),(7,_),(8,_),(9,_),(10,_),(11,_),(12,_),(13,_),(2900,_),(6000,_)] [(2,(41,[sl (.lo _) _,val _])),(4,(41,kq)),(6,(41,mO)),(11,(116,zd)),(900,(114,bX ue _ _))] z.g):=ah w h
def GN (w:ae G H:=by intro z;exact rA z.g (x:=fp (ms:=kq) (qs:=rq) ai iv (fun h=>nomatch h) ax ak PF aJ)):=ah w h
def GO (w:ae G H:=by intro z;exact rA z.g (x:=bO (ag:=true) (vs:=kq) iv aq ak ax)):=ah w h
def CN (w:ae G H:=by intro z;exact sT [2,3,4,5] [2,3,4] z.g):=ah w h
def GP (w:ae G H:=by intro z;exact sV [2,3,4,5,6] [2,3,4] [6] z.g):=ah w h
def xT (w:ae G H:=by intro z;exact rA z.g (x:=lD [sl (.lo _) _,val _] iv)):=ah w h
def MF (w:ae G H:=by intro z;exact sS [2,3,4,5,6,7,8] [2,3,4,6] z.g):=ah w h
def ztx (w:ae G H:=by intro z;exact rA z.g (x:=cL [(false,[sl (.lo _) _])] cd ya (hs:=wM))):=ah w h
def CO (w:ae G H:=by intro z;exact sS [2,3,4,5,6,7,8,9] [2,3,4,6] z.g):=ah w h
def CP (w:ae G H:=by intro z;exact sP [2,3,4,5,6,7,8,9] [2,3,4,6] z.g):=ah w h
def VY (w:ae G H:=by intro z;exact eX (d:=920) ak (qt (k:=i) hi) z.g):=ah w h
def VZ (w:ae G H:=by intro z;exact eX (d:=921) ak (qt (k:=k) hk) z.g):=ah w h
def Aa (w:ae G H:=by intro z;exact rA z.g (x:=lE [sl .v _] oR)):=ah w h
def zuq (w:ae G H:=by intro z;exact sO [(2,_),(3,_),(4,_),(5,_),(6,_),(7,_),(8,_),(9,_),(10,_),(2920,_)] [(2,_),(3,_),(4,_),(6,(41,mO)),(10,_),(920,(114,_++([sl _ _]++_)))] z.g):=ah w h
def zv7 (w:ae G H:=by intro z;exact dX 0 z.g (x:=(mH (qs:=rq) ai iv (fun h=>nomatch h) ax PF aJ))):=ah w h
def GQ (w:ae G H:=by intro z;exact rX z.g (x:=(gQ ai ug uh))):=ah w h
def vG (w:ae G H:=by intro z;exact rA z.g (x:=lD rq iv)):=ah w h
def GR (w:ae G H:=by intro z;exact rA z.g (x:=cl (qs:=cJ) ai bW jV ai rfl rfl rfl rfl rfl ax (by exact (aI (aY rfl) (aI (aY rfl) (aI (aY rfl) tI)))) rfl)):=ah w h
def GS (w:ae G H:=by intro z;exact rX z.g (x:=(gQ ai yt yu))):=ah w h
def pJ (w:ae G H:=by intro z;exact rA z.g (x:=qr (cs:=[val _]) ai ak nt)):=ah w h
def zw3 (w:ae G H:=by intro z;exact rA z.g (x:=cl (qs:=[]) ai dc oU ai rfl rfl rfl rfl rfl ax aq rfl)):=ah w h
def xU (w:ae G H:=by intro z;exact rA z.g (x:=cP)):=ah w h
def pK (w:ae G H:=by intro z;exact rA z.g (x:=lE [val _] kZ)):=ah w h
def MG (w:ae G H:=by intro z;exact rA z.g (x:=cL aH aH wh (hs:=IX))):=ah w h
def xV (w:ae G H:=by intro z;exact sS [0,2,3,4,5] [2,5] z.g):=ah w h
def zwm (w:ae G H:=by intro z;exact rA z.g (x:=cL dh dh NF (hs:=by exact (aFB ab)))):=ah w h
def zws (w:ae G H:=by intro z;exact eX (d:=5) ak (show _=[val (vI (nk s).Id),sl aj ((nk s).Values.map ar)] from by rw [hrs]<;>rfl) z.g):=ah w h
def Wa (w:ae G H:=by intro z;exact rX z.g (x:=(lm (ag:=true) (cs:=jN) ai aq))):=ah w h
def zx5 (w:ae G H:=by intro z;exact rX z.g (x:=(lm (ag:=true) (cs:=ot) ai aq))):=ah w h
def GT (w:ae G H:=by intro z;exact rB ga z.g (x:=lD nD jA)):=ah w h
def vH (w:ae G H:=by intro z;exact sS [1,2,3,4,19] [1] z.g):=ah w h
def Ab (w:ae G H:=by intro z;exact rA z.g (x:=lF ye)):=ah w h
def Ac (w:ae G H:=by intro z;exact rA z.g (x:=lF Hh)):=ah w h
def zyk (w:ae G H:=by intro z;exact rA z.g (x:=cl (qs:=dh) ai dc oU ai rfl rfl rfl rfl rfl ax yS rfl)):=ah w h
def Wb (w:ae G H:=by intro z;exact rA z.g (x:=fe ai dc oU rfl rfl ai rfl bo bo)):=ah w h
def MH (w:ae G H:=by intro z;exact rA z.g (x:=lD uO lB)):=ah w h
def zyp (w:ae G H:=by intro z;exact rA z.g (x:=cL uM rj WE (hs:=by exact XK))):=ah w h
def CQ (w:ae G H:=by intro z;exact sS [1,2,7,7000] [1] z.g):=ah w h
def MI (w:ae G H:=by intro z;exact rA z.g (x:=lD zc qQ)):=ah w h
def MJ (w:ae G H:=by intro z;exact sT [0,2,3,4,5,6,7,8,9,11,12,13,14,7000] [2,12] z.g):=ah w h
def GU (w:ae G H:=by intro z;exact dA 3 z.g (x:=lE [val _] kZ)):=ah w h
def MK (w:ae G H:=by intro z;exact rA z.g (x:=bO (ag:=true) (vs:=iA) jA aq ak ax)):=ah w h
def Wc (w:ae G H:=by intro z;exact rA z.g (x:=fp (ms:=iA) (qs:=nD) ai jA (fun h=>nomatch h) ax ak Ix aJ)):=ah w h
def Zay (w:ae G H:=by intro z;exact eX (d:=5) ak (show _=[val (vI (jp s).Kind),val (vI (jp s).Row.Id),sl aj ((jp s).Row.Values.map ar),val (vI (jp s).Field),val (vI (jp s).Value)] from by rw [hr]<;>rfl) z.g):=ah w h
def Wd (w:ae G H:=by intro z;exact sS [0,2,3,4,5,6,7,8,9,10,18,7000] [2,7] z.g):=ah w h
def Zbp (w:ae G H:=by intro z;exact eX (d:=7) ak (show _=[val (vI (fy s).Kind),val (vI (fy s).aJt.Id),val (vI (fy s).aJt.aJx),sl aG ((fy s).aJt.aJu.map cr),sl aj ((fy s).aJt.Out.map ar),val (vI (fy s).Limit),val (vI (fy s).Id),val (vI (fy s).aJv.Kind),val (vI (fy s).aJv.Row.Id),sl aj ((fy s).aJv.Row.Values.map ar),val (vI (fy s).aJv.Field),val (vI (fy s).aJv.Value),val (vI (fy s).Steps)] from by rw [hr]<;>rfl) z.g):=ah w h
def Ad (w:ae G H:=by intro z;exact rA z.g (x:=bO (ag:=true) (vs:=ot) lB aq ak ax)):=ah w h
def Zc2 (w:ae G H:=by intro z;exact dA 7 z.g (x:=cL aH aH wh (hs:=IX))):=ah w h
def Zc3 (w:ae G H:=by intro z;exact dA 0 z.g (x:=fp (ms:=jN) (qs:=jg) ai gW (fun h=>nomatch h) ax ak Py aJ)):=ah w h
def We (w:ae G H:=by intro z;exact eX (d:=5) ak (show _=[val (vI (gC s).Kind),val (vI (gC s).aJt.Id),val (vI (gC s).aJt.aJx),sl aG ((gC s).aJt.aJu.map cr),sl aj ((gC s).aJt.Out.map ar),val (vI (gC s).Limit),val (vI (gC s).Id),val (vI (gC s).aJv.Kind),val (vI (gC s).aJv.Row.Id),sl aj ((gC s).aJv.Row.Values.map ar),val (vI (gC s).aJv.Field),val (vI (gC s).aJv.Value),val (vI (gC s).Steps)] from by rw [hr]<;>rfl) z.g):=ah w h
def ML (w:ae G H:=by intro z;exact rA z.g (x:=cL aH aH jo (hs:=jc))):=ah w h
def Zdh (w:ae G H:=by intro z;exact rA z.g (x:=lE xi oQ)):=ah w h
def jT (w:ae G H:=by intro z;exact rA z.g (x:=lD mP du)):=ah w h
def vJ (w:ae G H:=by intro z;exact rA z.g (x:=lF wl)):=ah w h
def Ze8 (w:ae G H:=by intro z;exact rA z.g (x:=cl (qs:=[]) ai mr mj ai rfl rfl rfl rfl rfl ax aq rfl)):=ah w h
def MM (w:ae G H:=by intro z;exact rA z.g (x:=lD xf wn)):=ah w h
def Zej (w:ae G H:=by intro z;exact dX 0 z.g (x:=(lW (r':=RV.sv false [sl .v _]) (.inl rfl) ai (by exact Cp.sv (bg az.nil) (aS.cons (bor_sl _) aS.nil))))):=ah w h
def Wf (w:ae G H:=by intro z;exact rA z.g (x:=rg (.inr rfl) ai (uF (t:=27) (e:=2)))):=ah w h
def Zf4 (w:ae G H:=by intro z;exact rB gb z.g (x:=cL cJ cJ tU (hs:=sY))):=ah w h
def Zfm (w:ae G H:=by intro z;exact awc (G:=6300) (H:=6200) (e:=10) (f:=(bi aG aj aj aK aj)) ak ak ak z.g):=ah w h
def Zfn (w:ae G H:=by intro z;exact aq8 (d:=8) (t:=102) (e:=10) (G:=6300) (A:=ou) (B:=ov) (f:=(bi aG aj aj aK aj)) (g:=oF) (fN:=iw) (ys:=(za.take (fj e.aJs q.Id)++(fi e q l,kNew)::za.drop (fj e.aJs q.Id))) [] (oX e q l) ak ak (fun _ _=>rfl) (fun _=>rfl) (fun _=>rfl) (aDl) (aDm hoe hza) z.g):=ah w h
def Zfr (w:ae G H:=by intro z;exact rB gb z.g (x:=cL cJ cJ nM (hs:=nu))):=ah w h
def Zfs (w:ae G H:=by intro z;exact rA z.g (x:=cl (qs:=[]) ai dj nV ai rfl rfl rfl rfl rfl ax aq rfl)):=ah w h
def Wg (w:ae G H:=by intro z;exact sP [2,3,4,6,7,8,9,10,11,12,13,6200,6300] [3,4,6,8,9] z.g):=ah w h
def CR (w:ae G H:=by intro z;exact rA z.g (x:=lD [sl (.lo _) _,val _,val _,sl (.lo _) _,sl (.lo _) _,sl (.lo _) _,sl (.lo _) _,val _] du)):=ah w h
def Zgf (w:ae G H:=by intro z;exact eX (d:=900) ak (congrArg (fun z_=>((((cS e k)).take i).map (bi aG aj aj aK aj)).flatten++((bi aG aj aj aK aj) z_++(((((cS e k)).drop (i+1)).map (bi aG aj aj aK aj)).flatten++jk900.map val))) (aCj hoe hlt hi hid hil)) z.g):=ah w h
def Zgg (w:ae G H:=by intro z;exact rA z.g (x:=mL (k:=i) (G:=2900) ai dj aq ab yL)):=ah w h
def Zgj (w:ae G H:=by intro z;exact rA z.g (x:=aP ai iK aq ak bD ak)):=ah w h
def MN (w:ae G H:=by intro z;exact rX z.g (x:=(gQ ai jl nb))):=ah w h
def Zgn (w:ae G H:=by intro z;exact sV [1,2,3,4,5,6,8,9,10,11,57,58,59,77,78,79,2900,6100] [1,2,4,6,900] [10] z.g):=ah w h
def Zgo (w:ae G H:=by intro z;exact rA z.g (x:=fp (ms:=[sl _ _]) (qs:=[sl .v _]) ai ca (fun _=>rfl) ax ak io fR)):=ah w h
def Zgv (w:ae G H:=by intro z;exact dA 0 z.g (x:=lW (r':=RV.sv false [sl .v _]) (.inl rfl) ai Ps)):=ah w h
def nH (w:ae G H:=by intro z;exact dA 0 z.g (x:=vM false [sl .v _])):=ah w h
def Zgx (w:ae G H:=by intro z;exact ze (s:=7) [val zP.2] ak (by exact (az.cons PV.nv_val az.nil)) nt z.g):=ah w h
def Zgy (w:ae G H:=by intro z;exact dA 1 z.g (x:=fp (ms:=[sl _ _]) (qs:=[sl .v _]) ai ca (fun _=>rfl) ax ak io fR)):=ah w h
def Zh0 (w:ae G H:=by intro z;exact sO [(0,_),(1,_),(5,_),(6,_),(7,_),(8,_),(9,_),(10,_),(11,_),(12,_),(2900,_),(5000,_)] [(0,(46,Ey)),(6,(260,px)),(8,(149,qv)),(900,(102,_++(lr++_)))] z.g):=ah w h
def Zh8 (w:ae G H:=by intro z;exact eX (d:=0) ak (show _=[sl bI (e.Store.aJr.map (aQ ba aj)),val (vI e.Store.Now),val (vI e.aJw),sl aj (e.Order.map ar),sl cG ((cS e (parts e).length).map (bi aG aj aj aK aj)),sl cw (e.Done.map (bS aG aj aK aj)),sl cD ((kD e (parts e).length).map (bL aj aj aj)),val (vI e.Steps)] from by first|(rw [hled];done)|(rw [hled];exact rfl)|(rw [hled,hsv];done)|(rw [hled,hsv];exact rfl)) z.g):=ah w h
def Zh9 (w:ae G H:=by intro z;exact Rz (d:=6) (G:=6200) (e:=10) (f:=(bi aG aj aj aK aj)) (z:=za[m]) (zs:=(za.drop (m+1))) ak aav (fun _=>rfl) PY z.g):=ah w h
def Ae (w:ae G H:=by intro z;exact rA z.g (x:=lF NH)):=ah w h
def Wh (w:ae G H:=by intro z;exact rB ga z.g (x:=lD zc qQ)):=ah w h
def vK (w:ae G H:=by intro z;exact rA z.g (x:=bO (ag:=true) (vs:=et) du aq ak ax)):=ah w h
def xW (w:ae G H:=by intro z;exact sS [1,2,4,5] [2] z.g):=ah w h
def MO (w:ae G H:=by intro z;exact rA z.g (x:=gL aH aH kY (hs:=kJ))):=ah w h
def Zj7 (w:ae G H:=by intro z;exact rA z.g (x:=cL bV cd ya (hs:=wM))):=ah w h
def MP (w:ae G H:=by intro z;exact rB ga z.g (x:=lD mP du)):=ah w h
def Zjp (w:ae G H:=by intro z;exact yv (d:=6) mP ak DN aJ z.g):=ah w h
def MQ (w:ae G H:=by intro z;exact dA 0 z.g (x:=lD mP du)):=ah w h
def CS (w:ae G H:=by intro z;exact sS [1,2,3,6,7,8,22,7000] [3] z.g):=ah w h
def Af (w:ae G H:=by intro z;exact sS [1,2,4,5,6,7000] [2,4] z.g):=ah w h
def MR (w:ae G H:=by intro z;exact sS [1,2,4,5,6,11,12,7000] [2,4,11] z.g):=ah w h
def MS (w:ae G H:=by intro z;exact sS [1,2,4,5,6,11,12,74,7000] [2,4,11] z.g):=ah w h
def Wi (w:ae G H:=by intro z;exact sT [1,2,4,5,6,11,12,15,74,99,100,101,7000] [2,4,11] z.g):=ah w h
def Ag (w:ae G H:=by intro z;exact sS [1,2,3,6,7,8,9] [3,6] z.g):=ah w h
def Wj (w:ae G H:=by intro z;exact rA z.g (x:=cl (qs:=[]) ai iK jl ai rfl rfl rfl rfl rfl ax aq rfl)):=ah w h
def MT (w:ae G H:=by intro z;exact sS [1,2,3,6,7,8,9,14,15] [3,6,14] z.g):=ah w h
def MU (w:ae G H:=by intro z;exact sS [1,2,3,6,7,8,9,14,15,18,19] [3,6,14] z.g):=ah w h
def GV (w:ae G H:=by intro z;exact sS [0,2,3,4,5,6,7,8,9,10,7000] [] z.g):=ah w h
def Zn3 (w:ae G H:=by intro z;exact sO [(2,_),(3,_),(4,_),(6,_),(7,_),(8,_),(9,_),(87,_),(88,_),(89,_),(2910,_)] [(2,(41,[sl (.lo _) _,val _])),(3,(29,[val _,val _,sl (.lo _) _,val _,val _])),(4,(41,kq)),(6,(41,mO)),(910,(114,bX (aQ ba aj) _ _))] z.g):=ah w h
def Wk (w:ae G H:=by intro z;exact sP [2,3,4,6,7,8,9,10,11,87,88,89,2910] [2,3,4,6,910] z.g):=ah w h
def Zn5 (w:ae G H:=by intro z;exact eX (d:=6) ak (show _=[sl bI ((en s u).map (aQ ba aj)),val (vI (s.Now+1))] from by first|(rw [hu1];done)|(rw [hu1];exact rfl)) z.g):=ah w h
def Wl (w:ae G H:=by intro z;exact eX (d:=930) ak (qt (k:=u.Field.toNat) hfl) z.g):=ah w h
def GW (w:ae G H:=by intro z;exact sP [2,3,4,5,6,7,8,9,10] [2,3,4,6,10] z.g):=ah w h
def Wm (w:ae G H:=by intro z;exact sG [2,3,4,5,6,7,8,9,10] [2,3,4,6,10] z.g):=ah w h
def Wn (w:ae G H:=by intro z;exact sU [2,3,4,5,6,7,8,9,10] [2,3,4,6] [10] z.g):=ah w h
def MV (w:ae G H:=by intro z;exact sS [0,3,4,5,6,29,5000] [0,3,4] z.g):=ah w h
def MW (w:ae G H:=by intro z;exact rA z.g (x:=bO (ag:=true) (vs:=py) qQ aq ak ax)):=ah w h
def GX (w:ae G H:=by intro z;exact sS [0,3,4,7,5000] [0,3,4] z.g):=ah w h
def Zo5 (w:ae G H:=by intro z;exact rA z.g (x:=bZ (qs:=[]) (cs:=ot) ai vR vS ZJ ak aq rfl ak)):=ah w h
def Zo7 (w:ae G H:=by intro z;exact rA z.g (x:=bZ (qs:=[]) (cs:=py) ai yt yu OQ ak aq rfl ak)):=ah w h
def MX (w:ae G H:=by intro z;exact sS [0,2,3,4,5,6,7,18,7000] [2,7] z.g):=ah w h
def Wo (w:ae G H:=by intro z;exact rA z.g (x:=bO (ag:=true) (vs:=px) wn aq ak ax)):=ah w h
def Wp (w:ae G H:=by intro z;exact sG [1,2,3,4,5,6,14,16,57,58,59,145,146,147,6200] [1,2,4,6,16] z.g):=ah w h
def Wq (w:ae G H:=by intro z;exact sV [1,2,3,4,5,6,14,16,57,58,59,145,146,147,6200] [1,2,4,6] [16] z.g):=ah w h
def Zos (w:ae G H:=by intro z;exact adK (d:=0) (G:=6300) (A:=[sl _ _,val _,val _,sl _ _,sl _ _]) (B:=kq) (p:=sl cw (((e.Done++kC e (parts e).length m).map (bS aG aj aK aj))++[[val (vI (⟨za[m].1.aJt,za[m].1.Time,za[m].1.Age+1,za[m].1.Rows⟩:ig).aJt.Id),val (vI (⟨za[m].1.aJt,za[m].1.Time,za[m].1.Age+1,za[m].1.Rows⟩:ig).aJt.aJx),sl aG ((⟨za[m].1.aJt,za[m].1.Time,za[m].1.Age+1,za[m].1.Rows⟩:ig).aJt.aJu.map cr),sl aj ((⟨za[m].1.aJt,za[m].1.Time,za[m].1.Age+1,za[m].1.Rows⟩:ig).aJt.Out.map ar),val (vI (⟨za[m].1.aJt,za[m].1.Time,za[m].1.Age+1,za[m].1.Rows⟩:ig).Time),val (vI (⟨za[m].1.aJt,za[m].1.Time,za[m].1.Age+1,za[m].1.Rows⟩:ig).Steps),sl aK ((⟨za[m].1.aJt,za[m].1.Time,za[m].1.Age+1,za[m].1.Rows⟩:ig).Rows.map (df aj))]])) ak ak (fun z k_=>awo (by exact (Nm.nv (Nm.nv (Nm.nv (Nm.nv (Nm.val (Nm.val (Nm.nv Nm.nil)))))))) (by exact (iB.keep (iB.keep (iB.keep (iB.keep (iB.lit rfl (iB.lit rfl (iB.drop (iB.drop (iB.drop (iB.drop (iB.drop (iB.keep iB.nil))))))))))))) z k_) z.g):=ah w h
def Wr (w:ae G H:=by intro z;exact rA z.g (x:=fp (ms:=et) (qs:=mP) ai du (fun h=>nomatch h) ax ak Io aJ)):=ah w h
def Zp2 (w:ae G H:=by intro z;exact cj.stepC 511 lQ aq (db.of rfl (lW (.inr rfl) ai IG)) ki ao pm z.g):=ah w h
def Zpb (w:ae G H:=by intro z;exact yv (d:=4) [sl .v [],val (.int .i64 0),val (.int .i64 0),sl .v [],sl .v [],sl .v [],sl .v [],val (.int .i64 0)] ak Io aJ z.g):=ah w h
def Zpc (w:ae G H:=by intro z;exact rA z.g (x:=cP (h:=DT))):=ah w h
def Zpi (w:ae G H:=by intro z;exact dA 255 z.g (x:=qr (cs:=[val _]) ai ak nt)):=ah w h
def Ws (w:ae G H:=by intro z;exact rA z.g (x:=aP ai dj aq ak bD ak)):=ah w h
def Zps (w:ae G H:=by intro z;exact rA z.g (x:=fe ai dj nV rfl rfl ai rfl bo bo)):=ah w h
def Zpt (w:ae G H:=by intro z;exact rB ga z.g (x:=cL cJ cJ nM (hs:=nu))):=ah w h
def Zpu (w:ae G H:=by intro z;exact rA z.g (x:=aP ai mr aq ak bD ak)):=ah w h
def Zpv (w:ae G H:=by intro z;exact rA z.g (x:=mL (k:=i) (G:=2900) ai hY aq Qq (by simp only [aU];omega))):=ah w h
def Zpw (w:ae G H:=by intro z;exact rA z.g (x:=tm (cs:=[sl _ _]) (qs:=[sl .v _]) ai ak io fR)):=ah w h
def Zpx (w:ae G H:=by intro z;exact rX z.g (x:=(lm (ag:=true) (cs:=ro) ai aq))):=ah w h
def Zpy (w:ae G H:=by intro z;exact rX z.g (x:=(lm (ag:=true) (cs:=py) ai aq))):=ah w h
def Wt (w:ae G H:=by intro z;exact rA z.g (x:=cP (h:=(by first|omega|(simp only [bv,List.length_cons,List.length_nil];omega))))):=ah w h
def Zq0 (w:ae G H:=by intro z;exact rA z.g (x:=fp (ms:=ot) (qs:=uO) ai lB (fun h=>nomatch h) ax ak aaN aJ)):=ah w h
def Wu (w:ae G H:=by intro z;exact rA z.g (x:=QU ai aq aq ab)):=ah w h
def Zq2 (w:ae G H:=by intro z;exact dX 0 z.g (x:=(mH (qs:=mP) ai du (fun h=>nomatch h) ax Io aJ))):=ah w h
def Wv (w:ae G H:=by intro z;exact rA z.g (x:=bO (ag:=false) (vs:=[val _]) aT (aY rfl) ak ax)):=ah w h
def Zq4 (w:ae G H:=by intro z;exact cj.stepC 255 lQ aq (db.of rfl (qr (cs:=[val _]) ai ak nt)) ki ao pm z.g):=ah w h
def Zq5 (w:ae G H:=by intro z;exact rB gc z.g (x:=cL cJ cJ nM (hs:=nu))):=ah w h
def Zq6 (w:ae G H:=by intro z;exact rX z.g (x:=(lm (ag:=true) (cs:=[val _,val _,sl (.lo _) _,val _,val _]) ai aq))):=ah w h
def Zq7 (w:ae G H:=by intro z;exact rA z.g (x:=cL kP mM Ni (hs:=by exact NM))):=ah w h
end Go.Proofs.YtmekkgdboplbjaaGreatDoor.M
