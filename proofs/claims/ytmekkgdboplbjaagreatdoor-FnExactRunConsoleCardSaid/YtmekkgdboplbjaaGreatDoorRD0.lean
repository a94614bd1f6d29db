/- Short names for what the printed proofs say often. No condition. -/
import Derived.Test.YtmekkgdboplbjaaGreatDoorRC0
set_option linter.all false
namespace Go.Proofs.YtmekkgdboplbjaaGreatDoor.M
open Go Go.RowKit
variable{G H:Prop}(h:H)
def NT (h:G:=by
 refine dI ?_
 exact rb (by simp [aF, *])):G:=h
def ZX (h:G:=by
 refine qh ?_
 refine sS [0,1,2,6] [] ?_
 refine gn ?_
 refine rA ?_ (x:=jc)
 refine rM ?_
 refine cx 10 ?_ ?_<;>intro ga sga
 refine fI ?_
 refine fI ?_
 refine rB ga ?_ (x:=mp)
 refine iq ?_
 exact NT
 refine lG ?_
 exact NT):G:=h
def ZY (h:G:=by
 refine cn ?_
 exact rb ((yd (P:=fun y=>y==x) hlt (by simpa using ‹_=x›)).symm)):G:=h
def ZZ (h:G:=by
 refine nx (k+1) (by exact ⟨ab,AS ha ‹_› (by simpa using ‹¬_›)⟩)):G:=h
def zaf (h:G:=by
 refine cn ?_
 exact rb (by exact (akH (by rw [show xs.length=k by omega];exact ha)).symm)):G:=h
def Cq (h:G:=by
 refine cP ?_
 exact (aI aj tI)):G:=h
def Cr (h:G:=by
 refine rS ?_
 exact Cq):G:=h
def zb1 (h:G:=by
 refine cn ?_
 exact rb (by simp [bA,akJ,po (P:=nz) hlt hno])):G:=h
def Zk3 (h:G:=by
 refine nx (k+1) (by exact ⟨ab,Ke ha hlt hyes⟩)):G:=h
def Cs (h:G:=by
 refine cc ?_
 exact Zk3):G:=h
def NU (h:G:=by
 refine dI ?_
 exact rb (by simp [bA,akJ,hall, *])):G:=h
def zb4 (h:G:=by
 refine Jp ?_
 refine vo ?_
 exact NU):G:=h
def xf (h:G:=by
 refine bO ?_
 exact Zk3):G:=h
def zbt (h:G:=by
 refine dI ?_
 exact rb (by simp [iD, *])):G:=h
def zc9 (h:G:=by
 refine cP ?_
 exact (bi 2 (bi _ (aI aj (aI aj (aI jg (aI (fun h=>nomatch h) tI))))))):G:=h
def zc6 (h:G:=by
 refine dA 63 ?_ (x:=bR (ag:=true) (vs:=iA) jg ao aj ay)
 exact zc9):G:=h
def Zk4 (h:G:=by
 refine nx (k+1) ab (e:=(by exact aI (by exact bC (by rw [wc hlt,bo];rfl)) (aI aj tI)))):G:=h
def zch (h:G:=by
 refine dJ ?_
 refine sG [0,2,3,5,7,8,9] [5] ?_
 refine cc ?_
 exact Zk4):G:=h
def zx (h:G:=by
 refine jN ?_
 exact (aI (by refine bC ?_;rw [hend,bG]) tI)):G:=h
def zci (h:G:=by
 have hend:k=x.length:=ab
 refine be ?_
 refine sS [0,2,3,7,8,9] [] ?_
 exact zx):G:=h
def NV (h:G:=by
 refine bO ?_
 exact Zk4):G:=h
def zkp (h:G:=by
 refine be ?_
 refine qm ?_
 exact zx):G:=h
def NW (h:G:=by
 have hend:k=x.length:=ab
 exact zkp):G:=h
def zy (h:G:=by
 refine dI ?_
 exact rb (by first|(simp_all [oC,aF];done)|(simp_all [oC,aF];omega))):G:=h
def zcz (h:G:=by
 refine rM ?_
 refine rN 18 ?_
 refine dz ?_
 exact zy):G:=h
def zdb (h:G:=by
 have hbad:eT ⟨0,0,0⟩ oC rR x.aC8=false:=ud hlt (Bool.eq_false_iff.2 fun hx=>by
  have hx:=lK.1 hx
  rw [hgk] at hx
  obtain ⟨hx1,hx2⟩:=hx
  first
  | (simp_all;done)
  | (simp only [decide_eq_true_eq,rR] at *;by_cases h0:k=0<;>(try rw [hgp ab] at hx2)<;>omega))
 refine sS [1,3] [1] ?_
 refine cn ?_
 exact rb (by simp [bp,oD,hbad])):G:=h
def Zk5 (h:G:=by
 refine nx (k+1) (by exact ⟨ab,by rw [Ev,ha,Bool.true_and];refine lK.2 ⟨BO,?_⟩;rcases Nat.eq_zero_or_pos k with h0|h0;(· exact .inl h0);(· right;rw [hgk,hgp h0];first|(simp only [decide_eq_true_eq,rR] at *;omega)|(simp_all;done))⟩)):G:=h
def zdc (h:G:=by
 refine Al ?_
 refine bO ?_
 exact Zk5):G:=h
def NX (h:G:=by
 refine dI ?_
 exact rb (by first|(simp_all [bp,oD];done)|(simp_all [bp,oD];rfl)|(simp_all [bp,oD];omega)|(simp_all [bp,oD];intros;omega))):G:=h
def zdg (h:G:=by
 refine rM ?_
 refine rN 52 ?_
 refine dz ?_
 exact NX):G:=h
def Hu (h:G:=by
 refine cP ?_
 exact rb (by first|exact hbad0.symm|(simp [bp,oD,hbad];done)|(simp [bp,oE,hn3];done)|(simp_all [bp,oD,oE];done)|(simp_all [bp,oD,oE];rfl)|(simp_all [bp,oD,oE];omega)|(simp_all [bp,oD,oE];intros;omega))):G:=h
def NY (h:G:=by
 have hbad0:bp x=false:=by first|(simp_all [bp];done)|(simp_all [bp];rfl)|(simp_all [bp];omega)|(simp_all [bp];intros;omega)
 refine oy ?_
 refine rK ?_
 exact Hu):G:=h
def zdw (h:G:=by
 have hbad:eT ⟨0,0,0⟩ oC rR x.aC8=false:=ud hlt (Bool.eq_false_iff.2 fun hx=>by
  have hx:=lK.1 hx
  rw [hgk] at hx
  obtain ⟨hx1,hx2⟩:=hx
  first
  | (simp_all;done)
  | (simp only [decide_eq_true_eq,rR] at *;by_cases h0:k=0<;>(try rw [hgp ab] at hx2)<;>omega))
 refine sS [1,3,4,24,25,26] [1,4] ?_
 refine rK ?_
 exact Hu):G:=h
def zdx (h:G:=by
 refine aK ?_
 refine sG [1,3,4,24,25,26] [1,4] ?_
 refine cc ?_
 exact Zk5):G:=h
def ze6 (h:G:=by
 refine cn ?_
 exact rb (by simp [kU,po (P:=(mB f v)) hlt hno])):G:=h
def ze7 (h:G:=by
 have hyes:mB f v q.aC8[k]=true:=GG
 refine aK ?_
 refine sG [1,2,3,8,10,11,12] [3,8] ?_
 exact Cs):G:=h
def ze9 (h:G:=by
 refine cn ?_
 exact rb (by simp [kU,hall, *])):G:=h
def qa (h:G:=by
 refine cn ?_
 exact rb (hbad.symm)):G:=h
def zed (h:G:=by
 have hbad:ib q r=false:=by simp_all [ib]
 refine sS [2,3,4] [2,3] ?_
 exact qa):G:=h
def NZ (h:G:=by
 refine cP ?_
 exact rb (by first|(simp_all [ee,qo];done)|(simp_all [ee,qo];rfl)|(simp_all [ee,qo];omega)|(simp_all [ee,qo];intros;omega))):G:=h
def Ct (h:G:=by
 refine rS ?_
 exact NZ):G:=h
def Oa (h:G:=by
 refine tS ?_
 exact Ct):G:=h
def Ob (h:G:=by
 refine rB gc ?_ (x:=lF qp)
 refine pk ?_
 refine rB gc ?_ (x:=kL)
 exact Oa):G:=h
def Cu (h:G:=by
 refine kl ?_
 exact Ct):G:=h
def rx (h:G:=by
 refine dz ?_
 exact Ct):G:=h
def zeu (h:G:=by
 refine sS [1,2,3,16] [1] ?_
 refine xN ?_
 refine Ir ?_
 refine rM ?_
 refine cx 22 ?_ ?_<;>intro gb sgb
 refine Jh ?_
 refine hZ ?_
 refine cx 27 ?_ ?_<;>intro gc sgc
 exact Ob
 exact Cu
 refine hY ?_
 refine rM ?_
 refine rN 27 ?_
 exact rx):G:=h
def zf3 (h:G:=by
 refine aK ?_
 refine sS [1,2,3,16] [1] ?_
 refine rK ?_
 exact NZ):G:=h
def Oc (h:G:=by
 refine dI ?_
 exact rb (by first|(simp_all [gp];done)|(simp_all [gp];rfl)|(simp_all [gp];omega)|(simp_all [gp];intros;omega))):G:=h
def zff (h:G:=by
 refine sn 0 1 fun hl0_1=>?_
 refine Dg ?_
 refine DT ?_
 refine rA ?_ (x:=lF nH)
 refine eJ ?_
 refine rM ?_
 refine rA ?_ (x:=mp)
 refine rM ?_
 refine cx 9 ?_ ?_<;>intro ga sga
 refine rB ga ?_ (x:=lF la)
 refine lJ ?_
 refine rB ga ?_ (x:=kL)
 refine fI ?_
 refine cx 13 ?_ ?_<;>intro gb sgb
 refine zt gb ?_
 refine rB ga ?_ (x:=cd gb)
 refine iq ?_
 exact Oc
 refine rB gb ?_ (x:=lF la)
 refine ou ?_
 refine Rx ?_
 refine rB ga ?_ (x:=bF gb)
 refine iq ?_
 exact Oc
 refine lG ?_
 exact Oc):G:=h
def zfm (h:G:=by
 refine dI ?_
 exact rb (by first|(simp_all [yh];done)|(simp_all [yh];rfl)|(simp_all [yh];omega)|(simp_all [yh];intros;omega))):G:=h
def zz (h:G:=by
 refine dI ?_
 exact rb (by first|(simp_all [gE];done)|(simp_all [gE];omega)|(rw [Bool.eq_iff_iff];simp_all [gE];done)|(rw [Bool.eq_iff_iff];simp_all [gE];omega))):G:=h
def Hv (h:G:=by
 refine dI ?_
 exact rb (by first|(simp_all [eK];done)|(simp_all [eK];rfl)|(simp_all [eK];omega)|(simp_all [eK];intros;omega))):G:=h
def Hw (h:G:=by
 refine oy ?_
 exact qa):G:=h
def Od (h:G:=by
 have hbad:cy s=false:=by first|(simp_all [cy,rW];done)|(simp_all [cy,rW];omega)
 exact Hw):G:=h
def zgf (h:G:=by
 refine gY ?_
 exact Od):G:=h
def zgt (h:G:=by
 refine nx (m+1) (by refine ⟨ab,?_⟩;rw [asd,hfr,Bool.true_and];exact hap)):G:=h
def Oe (h:G:=by
 have hvo:eK s.Now s.aC5[k][j]=false:=Mv
 have hbad:=Kn hag.1 (ak4 (by rw [hag.2];exact hvo))
 refine sS [1,3,5,7,23,24,25,32,33,34] [1,7] ?_
 exact qa):G:=h
def zhc (h:G:=by
 have hap:gE ((bQ s).getD ((eC s k).length+j) v0) ((bQ s).getD m v0)=false:=by
  rw [hag.2] at hma ⊢
  by_cases hid:s.aC5[k][j].Id=((bQ s).getD m v0).Id
  ·rw [beq_iff_eq.2 hid,Bool.true_and] at hma;simp_all
  ·simp_all
 have hbad:=Kn hag.1 (ak5 hlt3 hap)
 refine sS [1,3,5,7,9,23,24,25,32,33,34,66,67,68] [1,7,9] ?_
 exact qa):G:=h
def Of (h:G:=by
 have hap:gE ((bQ s).getD ((eC s k).length+j) v0) ((bQ s).getD m v0)=true:=by
  rw [hag.2] at hma ⊢
  by_cases hid:s.aC5[k][j].Id=((bQ s).getD m v0).Id
  ·rw [beq_iff_eq.2 hid,Bool.true_and] at hma;simp_all
  ·rw [beq_false_of_ne hid,Bool.false_and] at hma;simpa using hma.symm
 refine aK ?_
 refine sG [1,3,5,7,9,23,24,25,32,33,34,66,67,68] [1,7,9] ?_
 refine cc ?_
 exact zgt):G:=h
def zhe (h:G:=by
 refine Aj ?_
 refine gB ?_
 exact Of):G:=h
def zhf (h:G:=by
 have hend3:m=(eC s k).length+j:=ab
 refine be ?_
 refine sH [1,3,5,7,23,24,25,32,33,34,66,67,68] [1,7] ?_
 refine bL ?_
 refine Ee ?_
 refine rA ?_ (x:=cB (qs:=uY) ak fz iV ak rfl rfl rfl rfl rfl ay cN rfl)
 refine PN ?_
 refine sG [1,3,5,7,23,24,25,32,33,34,66,67,68] [1,7] ?_
 refine cc ?_
 refine nx (j+1) (by refine ⟨ab,?_⟩;rw [←Nat.add_assoc,ak3,hg,Bool.true_and];unfold pq;rw [hag.2,hvo,Bool.true_and,←hend3];rw [hend3] at hfr ⊢;exact hfr) (e:=(by exact aI (by exact bC (by rw [cU hlt2];simp only [bo,bn];rfl)) (aI aj tI)))):G:=h
def Hx (h:G:=by
 refine cn ?_
 exact rb (by exact (arK hlt (Bool.eq_false_iff.2 fun hx=>by have hx:=Kg.1 hx;rw [hgk] at hx;(try simp only [aF,Bool.and_eq_false_iff,decide_eq_false_iff_not] at *);omega)).symm)):G:=h
def zhh (h:G:=by
 refine fH ?_
 refine sS [0,3,4,5,6,7] [] ?_
 exact Hx):G:=h
def Zk8 (h:G:=by
 refine nx (k+1) (by exact ⟨ab,by rw [arJ,ha,Bool.true_and];exact Kg.2 (by rw [hgk];(try simp only [aF,aR,decide_eq_true_eq] at *);omega)⟩)):G:=h
def zhn (h:G:=by
 refine aK ?_
 refine sG [0,3,4,5,6,7] [] ?_
 refine cc ?_
 exact Zk8):G:=h
def zho (h:G:=by
 refine cn ?_
 exact rb (by subst hend;exact ha.symm)):G:=h
def zhv (h:G:=by
 refine xz ?_
 refine bO ?_
 exact Zk8):G:=h
def zi1 (h:G:=by
 refine DJ ?_
 refine nx (k+1) ab (e:=(by exact aI (by exact bC (by rw [akM];simp [hc,ar])) (aI aj tI)))):G:=h
def zi5 (h:G:=by
 refine cP ?_
 exact (aI (by refine bC ?_;simp [qn, *]) tI)):G:=h
def zi4 (h:G:=by
 refine sS [2,3,4] [2,3] ?_
 refine rP ?_
 exact zi5):G:=h
def zic (h:G:=by
 refine sG [0,1,4,5,6] [] ?_
 refine bO ?_
 refine nx (k+1) (by exact ⟨ab,fun _=>hok2⟩) (e:=(by exact aI (by exact bC (by rw [wc hlt,gV,bo];simp [hc,ar])) (aI aj tI)))):G:=h
def Og (h:G:=by
 have hfin:(k=a.length∧(fa a&&fa b)=true)∨(k=0∧(a.length=0∨(fa a&&fa b)=false)):=by
  by_cases h0k:0 < k
  ·left
   have:=ha h0k
   refine ⟨?_,this⟩
   rw [aR] at this
   by_cases hka:k=a.length
   ·exact hka
   ·have:k < a.length:=by omega
    simp_all
  ·right
   refine ⟨ab,?_⟩
   by_cases hka:a.length=0
   ·exact .inl hka
   ·right
    have:k < a.length:=ab
    cases h1:fa a<;>cases h2:fa b<;>simp_all
 refine Jg ?_
 refine jN ?_
 exact (aI (by refine bC ?_;rw [arN ha hfin]) tI)):G:=h
def Cv (h:G:=by
 refine mw ?_
 refine cn ?_
 exact rb (by exact (Sq (fun e=>by subst e;simp at *)).symm)):G:=h
def Cw (h:G:=by
 refine cn ?_
 exact rb (by exact (Sq (ary hlt hlt2 (by intro e;simp [e,arC] at *))).symm)):G:=h
def Hy (h:G:=by
 refine sS [0,1,5] [] ?_
 exact Cw):G:=h
def zil (h:G:=by
 refine nx (k+1) (by exact ⟨ab,Sp ha hlt hlt2 cS⟩)):G:=h
def Hz (h:G:=by
 refine cn ?_
 exact rb (by exact (Kf (arz hl Gv)).symm)):G:=h
def zip (h:G:=by
 refine be ?_
 refine sS [0,1,12,13] [] ?_
 exact Hz):G:=h
def zir (h:G:=by
 refine dI ?_
 exact rb (by rw [Bool.eq_iff_iff];simp only [oA,arI];simp_all [oA])):G:=h
def Zk9 (h:G:=by
 refine cn ?_
 exact rb (by simp [dZ,hbad])):G:=h
def ziu (h:G:=by
 have hbad:eT qt bp qu l=false:=ud hlt (Bool.eq_false_iff.2 fun hx=>by
  have hx:=lK.1 hx
  rw [hgk] at hx
  obtain ⟨hx1,hx2⟩:=hx
  first
  | (simp_all;done)
  | (simp only [decide_eq_true_eq,qu] at *;by_cases h0:k=0<;>(try rw [hgp ab] at hx2)<;>omega))
 refine sS [0,3] [] ?_
 exact Zk9):G:=h
def Zka (h:G:=by
 refine nx (k+1) (by exact ⟨ab,by rw [Ev,ha,Bool.true_and];refine lK.2 ⟨BO,?_⟩;rcases Nat.eq_zero_or_pos k with h0|h0;(· exact .inl h0);(· right;rw [hgk,hgp h0];first|(simp only [decide_eq_true_eq,qu] at *;omega)|(simp_all;done))⟩)):G:=h
def ziw (h:G:=by
 refine xz ?_
 refine bO ?_
 exact Zka):G:=h
def ziy (h:G:=by
 refine vq ?_
 refine rA ?_ (x:=mp)
 refine dI ?_
 exact rb (by simp [dZ,hall])):G:=h
def zj0 (h:G:=by
 have hyes:mB f v q.aC8[k]=true:=GG
 refine aK ?_
 refine sG [1,2,3,7] [3] ?_
 exact xf):G:=h
def zj4 (h:G:=by
 refine sG [0,1,2,6,7,8] [] ?_
 refine bO ?_
 refine nx (k+1) yW (e:=(by exact aI VW (aI aj tI)))):G:=h
def Oh (h:G:=by
 have hfin:(k=l.length∧(dZ l&&(aF f 0 2&&aF v 0 99))=true)∨(k=0∧(l.length=0∨(dZ l&&(aF f 0 2&&aF v 0 99))=false)):=by
  by_cases h0k:0 < k
  ·left
   have h1:=ha h0k
   refine ⟨?_,h1⟩
   by_cases hka:k=l.length
   ·exact hka
   ·exfalso
    have hlt_:k < l.length:=ab
    have hlt2_:(k:Int) < (l.length:Int):=ab
    first|omega|simp_all
  ·right
   refine ⟨ab,?_⟩
   by_cases hka:l.length=0
   ·exact .inl hka
   ·right
    have hlt_:k < l.length:=ab
    have hlt2_:(k:Int) < (l.length:Int):=ab
    rw [←Bool.not_eq_true];intro hc_;simp_all
 refine be ?_
 refine sS [0,1,2,6,7,8] [] ?_
 refine jN ?_
 exact (aI (by refine bC ?_;rw [asj hfin]) tI)):G:=h
def zj6 (h:G:=by
 refine rM ?_
 refine rN 22 ?_
 refine dz ?_
 refine gB ?_
 exact Oh):G:=h
def Oi (h:G:=by
 have hok:(dZ l&&aF f 0 2)=false:=cS
 refine sS [0,1,4,5] [] ?_
 refine jN ?_
 exact (aI (by refine bC ?_;unfold gq;rw [if_neg oU];rfl) tI)):G:=h
def zj9 (h:G:=by
 refine gY ?_
 exact Oi):G:=h
def zjm (h:G:=by
 refine bO ?_
 refine nx (k+1) ab (e:=(by exact aI (by first|exact bC (by rw [db,ala hls,bo,←hse];exact rfl)|exact bC (by rw [db,ak9 hls])) (aI aj tI)))):G:=h
def zjn (h:G:=by
 have hls:mE (db l f k) (gO l f (k:Int))=false:=by
  by_cases h0:(db l f k).length=0
  ·simp [mE,h0]
  ·simp_all [mE]
 refine xQ ?_
 refine bL ?_
 refine gn ?_
 refine bL ?_
 refine rA ?_ (x:=cz (qs:=Ha) (cs:=Ck) ak yt KI avQ aj sJ rfl aj)
 refine Zkb ?_
 refine dJ ?_
 refine sG [0,1,4,5,6,8] [] ?_
 exact zjm):G:=h
def zjo (h:G:=by
 have hend:k=100:=ab
 refine Jg ?_
 refine jN ?_
 exact (aI (by refine bC ?_;unfold gq;rw [if_pos hok,hend]) tI)):G:=h
def Oj (h:G:=by
 refine nx (k+1) (by exact ⟨ab,AS ha hlt hno⟩)):G:=h
def zjv (h:G:=by
 refine bO ?_
 exact Oj):G:=h
def zjx (h:G:=by
 refine cP ?_
 exact (aI (by refine bC ?_;rw [asl ha];exact rfl) tI)):G:=h
def zjy (h:G:=by
 refine nx (k+1) (by exact ⟨ab,Sp ha hlt hlt2 (by rw [arU];simp_all [oA])⟩)):G:=h
def zk2 (h:G:=by
 refine cP ?_
 exact (bi 2 (bi _ (aI aj (aI aj (aI gD (aI (fun h=>nomatch h) tI))))))):G:=h
def zkb (h:G:=by
 refine Zkc ?_
 exact (bi 2 (bi _ (aI aj (aI (by refine dS ?_;rw [ast hok];exact rfl) (aI uw (aI (fun h=>nomatch h) tI))))))):G:=h
def zkf (h:G:=by
 refine dA 28 ?_ (x:=cB (qs:=cf) ak uv amm ak rfl rfl rfl rfl rfl ay cN rfl)
 refine dA 63 ?_ (x:=eL ak uv amm rfl rfl ak rfl bm bm)
 refine dA 127 ?_ (x:=lF Bj)
 refine dA 255 ?_ (x:=bR (ag:=false) (vs:=[sl _ _]) Bm ao aj ay)
 refine sW [0,2,3,4] [2] [3] ?_
 refine bO ?_
 refine nx (k+1) ab (e:=oa) (f:=(by exact aI (by simp only [asr];show _=some (260,(Sr nd aH ai wT pO ai) (dL.mk l (wk l k++[gq l (k:Int)])));simp only [Sr,bo];exact rfl) tI))):G:=h
def zkg (h:G:=by
 have hend:k=3:=ab
 refine be ?_
 refine sT [0,2,3,4] [2,3] ?_
 refine rA ?_ (x:=eP (ms:=oi) (qs:=va) ak uw (fun h=>nomatch h) ay aj Mi aQ)
 refine Zkc ?_
 exact (bi 2 (bi _ (aI aj (aI (by refine dS ?_;subst hend;rw [ass hok];exact rfl) (aI uw (aI (fun h=>nomatch h) tI))))))):G:=h
def Ok (h:G:=by
 have hbad:fb x=false:=by first|(simp_all [fb];done)|(simp_all [fb];omega)
 exact Hw):G:=h
def zkj (h:G:=by
 refine gY ?_
 exact Ok):G:=h
def zkm (h:G:=by
 refine nx (k+1) (by exact ⟨ab,by rw [asm,ha,hd];rfl⟩)):G:=h
def zkn (h:G:=by
 refine cn ?_
 exact rb (by unfold fb;rw [hpr,ha];rfl)):G:=h
def zkq (h:G:=by
 have hno:(aF (o.getD k 0) 0 2&&!ce (o.take k) (o.getD k 0))=false:=by rw [←hgk];simp_all
 refine DZ ?_
 exact rb ((asp hl3 ab hno).symm)):G:=h
def Ol (h:G:=by
 refine vu ?_
 refine dJ ?_
 refine dI ?_
 exact (aI (by refine bC ?_;rw [hpe]) (aI (by refine cW ?_;rw [hpe]) tI))):G:=h
def zku (h:G:=by
 have hfin:k=o.length∨(gt x r o k).1=[]:=by
  by_cases hka:k=o.length
  ·exact .inl hka
  ·right
   have hlt_:k < o.length:=ab
   have hlt2_:(k:Int) < (o.length:Int):=ab
   first|omega|(rw [←List.length_eq_zero_iff];first|omega|(simp_all;done))
 have hpe:=Ks (x:=x) (r:=r) hfin
 refine be ?_
 refine sT [2,3,4,6,7,8,9,10] [3,4] ?_
 exact Ol):G:=h
def zkx (h:G:=by
 refine sS [0,2,3,4,5] [] ?_
 refine qb ?_
 refine rA ?_ (x:=Zh av0 amD (by first|exact (congrArg (IntKind.wrap .u8) Zn).trans (IntWalk.u8_in _ ab)|exact IntWalk.u8_in _ ab))
 refine rA ?_ (x:=cB (qs:=aM) ak asc z_5 ak rfl rfl rfl rfl rfl ay cN rfl)
 refine rA ?_ (x:=aqJ av2 amD av1)
 refine rF ?_
 refine rS ?_
 refine sG [0,2,3,4,5] [] ?_
 refine rM ?_
 refine rA ?_ (x:=NN)
 refine rS ?_
 refine nx (q.1.tdiv 10,nj [48+((q.1.natAbs%10:Nat):Int)]++q.2) (by exact ⟨by have:=Be q.1;unfold dN;omega,asw hto hq0 rfl⟩) (b:=(by have:=Be q.1;dsimp only;omega)) (e:=(by exact aI aj (aI (by exact congrArg (fun z=>some (RV.sc (.string (B (nj [48+z]++q.2))))) hd_) tI)))):G:=h
def zl3 (h:G:=by
 refine sG [0,2,3,4] [] ?_
 refine rM ?_
 refine xF ?_
 refine Df ?_
 refine rS ?_
 refine DJ ?_
 refine nx (k+1) ab (e:=(by exact aI (by first|exact congrArg (fun z=>some (RV.sc (.string (B z)))) (by rw [hsc,if_neg hk0])|exact congrArg (fun z=>some (RV.sc (.string (B z)))) (by rw [hsc,if_pos hk0];subst hk0;rfl)) (aI aj tI)))):G:=h
def Cx (h:G:=by
 have hbad:du x=false:=by first|(simp_all [du,oI,aF];done)|(simp_all [du,oI,aF];rfl)|(simp_all [du,oI,aF];omega)|(simp_all [du,oI,aF];intros;omega)
 refine mx ?_
 exact qa):G:=h
def HA (h:G:=by
 refine kS ?_
 exact Cx):G:=h
def Zkd (h:G:=by
 refine cn ?_
 exact rb ((asB hlt hno).symm)):G:=h
def zle (h:G:=by
 have hno:sa x k=false:=GD
 refine sS [1,3,4,33,34] [1] ?_
 exact Zkd):G:=h
def zlf (h:G:=by
 refine nx (k+1) (by exact ⟨ab,by rw [asA,ha,hyes];rfl⟩)):G:=h
def zlh (h:G:=by
 refine dI ?_
 exact rb (by simp_all [du])):G:=h
def zln (h:G:=by
 refine rM ?_
 refine rY 34 ?_
 refine vJ ?_
 refine rY 40 ?_
 exact HA):G:=h
def zlk (h:G:=by
 refine rM ?_
 refine rY 27 ?_
 refine lH ?_
 exact zln):G:=h
def zlj (h:G:=by
 refine rM ?_
 refine rY 20 ?_
 refine lH ?_
 exact zlk):G:=h
def zls (h:G:=by
 have hno:sa x k=false:=GD
 refine sS [1,3,4] [1] ?_
 exact Zkd):G:=h
def zlu (h:G:=by
 have hok:du x=false:=cR
 refine oy ?_
 refine cn ?_
 exact (aI (by refine cW ?_;unfold sd;rw [if_neg oU]) tI)):G:=h
def zlx (h:G:=by
 refine nx (k+1) ab (e:=(by exact aI (by exact cW (by rw [Ku,←Int.add_assoc];unfold yj;rw [←dM hlt])) (aI aj tI)))):G:=h
def zly (h:G:=by
 refine vK ?_
 exact (aI (by refine cW ?_;unfold sd;rw [if_pos hok,hend]) tI)):G:=h
def zm4 (h:G:=by
 refine nx (k+1) ab (e:=(by exact aI (by exact cW (by rw [alm hlt])) (aI aj tI)))):G:=h
def HB (h:G:=by
 refine vK ?_
 exact (aI (by refine cW ?_;rw [hend,bG];rfl) tI)):G:=h
def zm9 (h:G:=by
 refine sG [1,2,3,4,5,6,7,17,18,19] [1] ?_
 refine Az ?_
 refine sG [1,2,3,4,5,6,7,17,18,19] [1] ?_
 refine cc ?_
 refine nx (k+1) ab (e:=(by exact aI (by first|exact bC (by rw [List.range_succ,bo,bo];simp only [List.map_cons,List.map_nil];unfold mG;rw [←dM hrl,if_pos hc];rfl)|exact bC (by rw [List.range_succ,bo,bo];simp only [List.map_cons,List.map_nil];unfold mG;rw [←dM hrl,if_neg hc];rfl)|exact bC (by rw [List.range_succ,bo,bo];simp only [List.map_cons,List.map_nil];unfold mG;rw [←dM hrl,if_neg hc,Int.add_zero];rfl)) (aI aj tI)))):G:=h
def zma (h:G:=by
 refine sG [1,2,3,4,5,6] [1] ?_
 refine Az ?_
 refine sG [1,2,3,4,5,6] [1] ?_
 refine bO ?_
 refine nx (k+1) yW (e:=(by exact aI (by first|exact bC (by rw [List.range_succ,bo,bo];simp only [List.map_cons,List.map_nil];unfold mG;rw [←dM hrl,if_pos hc];rw [Int.add_comm (x.Base.tdiv _)];rfl)|exact bC (by rw [List.range_succ,bo,bo];simp only [List.map_cons,List.map_nil];unfold mG;rw [←dM hrl,if_neg hc];rw [Int.add_comm (x.Base.tdiv _)];rfl)|exact bC (by rw [List.range_succ,bo,bo];simp only [List.map_cons,List.map_nil];unfold mG;rw [←dM hrl,if_neg hc,Int.add_zero];rw [Int.add_comm (x.Base.tdiv _)];rfl)) (aI aj tI)))):G:=h
def zmb (h:G:=by
 have hfin:(k=x.Ids.length∧du x=true)∨(k=0∧(x.Ids.length=0∨du x=false)):=by
  by_cases h0k:0 < k
  ·left
   have h1:=ha h0k
   refine ⟨?_,h1⟩
   by_cases hka:k=x.Ids.length
   ·exact hka
   ·exfalso
    have:k < x.Ids.length:=ab
    simp_all
  ·right
   refine ⟨ab,?_⟩
   by_cases hka:x.Ids.length=0
   ·exact .inl hka
   ·right
    have:k < x.Ids.length:=ab
    cases h1:du x<;>simp_all
 refine be ?_
 refine sT [1,2,3,4,5] [1] ?_
 refine jN ?_
 exact (aI (by refine bC ?_;rw [asD hfin]) tI)):G:=h
def Zke (h:G:=by
 refine nx (k2+1) ab (e:=(by exact aI (by first|exact cW (by rw [Ku,←Int.add_assoc];congr 1;unfold qw;rw [←dM htl,if_pos hc,←dM hlt2])|exact cW (by rw [Ku];unfold qw;rw [←dM htl,if_neg hc,Int.add_zero])) (aI aj tI)))):G:=h
def zmd (h:G:=by
 refine sG [0,1,4,5,7,8,9,10,11,12,17,18,19] [7] ?_
 refine cc ?_
 exact Zke):G:=h
def zme (h:G:=by
 refine nx (k+1) ab (e:=(by exact aI (by exact cW (by rw [alm hlt,hend2];rfl)) (aI aj tI)))):G:=h
def zmg (h:G:=by
 refine xQ ?_
 refine bO ?_
 exact Zke):G:=h
def zml (h:G:=by
 have hbad:eT 0 (nE s.aC5.length) nF a.aDf=false:=ud hlt (Bool.eq_false_iff.2 fun hx=>by
  have hx:=lK.1 hx
  rw [hgk] at hx
  obtain ⟨hx1,hx2⟩:=hx
  first
  | (simp_all;done)
  | (simp only [decide_eq_true_eq,nF,nE,aF,aR,Bool.and_eq_false_iff,decide_eq_false_iff_not] at *;by_cases h0:k=0<;>(try rw [hgp ab] at hx2)<;>omega))
 refine sS [2,3,5,6,8,9,10] [2,3] ?_
 refine cn ?_
 exact rb (by simp [fV,nG,hbad])):G:=h
def Zkf (h:G:=by
 refine nx (k+1) (by exact ⟨ab,by rw [Ev,ha,Bool.true_and];refine lK.2 ⟨BO,?_⟩;rcases Nat.eq_zero_or_pos k with h0|h0;(· exact .inl h0);(· right;rw [hgk,hgp h0];first|(simp only [decide_eq_true_eq,nF,nE,aF,aR,Bool.and_eq_false_iff,decide_eq_false_iff_not] at *;omega)|(simp_all;done))⟩)):G:=h
def zmm (h:G:=by
 refine aK ?_
 refine sG [2,3,5,6,8,9,10] [2,3] ?_
 refine cc ?_
 exact Zkf):G:=h
def Om (h:G:=by
 refine dI ?_
 exact rb (by first|(simp_all [fV,nG];done)|(simp_all [fV,nG];rfl)|(simp_all [fV,nG];omega)|(simp_all [fV,nG];intros;omega))):G:=h
def zmr (h:G:=by
 refine rM ?_
 refine rN 68 ?_
 refine dz ?_
 exact Om):G:=h
def zms (h:G:=by
 refine rM ?_
 refine rN 63 ?_
 refine dz ?_
 exact zmr):G:=h
def zmt (h:G:=by
 refine rM ?_
 refine rN 58 ?_
 refine dz ?_
 exact zms):G:=h
def zmu (h:G:=by
 refine rM ?_
 refine rN 53 ?_
 refine dz ?_
 exact zmt):G:=h
def zmv (h:G:=by
 have hbad:eT 0 (nE n) nF l=false:=ud hlt (Bool.eq_false_iff.2 fun hx=>by
  have hx:=lK.1 hx
  rw [hgk] at hx
  obtain ⟨hx1,hx2⟩:=hx
  first
  | (simp_all;done)
  | (simp only [decide_eq_true_eq,nF,nE,aF,aR,Bool.and_eq_false_iff,decide_eq_false_iff_not] at *;by_cases h0:k=0<;>(try rw [hgp ab] at hx2)<;>omega))
 refine sS [0,1,5] [] ?_
 refine cn ?_
 exact rb (by simp [nG,hbad])):G:=h
def zmw (h:G:=by
 refine DG ?_
 refine bO ?_
 exact Zkf):G:=h
def On (h:G:=by
 refine dI ?_
 exact rb (by first|(simp_all [fV];done)|(simp_all [fV];rfl)|(simp_all [fV];omega)|(simp_all [fV];intros;omega))):G:=h
def zn3 (h:G:=by
 refine rM ?_
 refine rN 40 ?_
 refine dz ?_
 exact On):G:=h
def zn4 (h:G:=by
 refine rM ?_
 refine rN 35 ?_
 refine dz ?_
 exact zn3):G:=h
def zn5 (h:G:=by
 refine rM ?_
 refine rN 30 ?_
 refine dz ?_
 exact zn4):G:=h
def zn6 (h:G:=by
 refine rM ?_
 refine rN 25 ?_
 refine dz ?_
 exact zn5):G:=h
def Cy (h:G:=by
 have hpr:lO e=false:=by first|(simp_all [lO];done)|(simp_all [lO];omega)|(rw [←Bool.not_eq_true];intro hc_;simp [lO] at hc_;simp_all;done)|(rw [←Bool.not_eq_true];intro hc_;simp [lO] at hc_;omega)
 have hbad:=alo hpr
 exact Hw):G:=h
def HC (h:G:=by
 refine kS ?_
 exact Cy):G:=h
def Oo (h:G:=by
 have hpr:lO e=false:=XH
 have hbad:=alo hpr
 exact Hw):G:=h
def zA (h:G:=by
 refine cn ?_
 exact rb (hbad2.symm)):G:=h
def znl (h:G:=by
 have hbad:eT jS (fV e.Store) oJ e.aC6=false:=ud hlt (Bool.eq_false_iff.2 fun hx=>by
  have hx:=lK.1 hx
  rw [hgk] at hx
  obtain ⟨hx1,hx2⟩:=hx
  first
  | (simp_all;done)
  | (simp only [decide_eq_true_eq,oJ] at *;by_cases h0:k=0<;>(try rw [hgp ab] at hx2)<;>omega))
 have hbad2:=alp hbad
 refine sS [1,3,4,53,54,55] [1,4] ?_
 exact zA):G:=h
def Zkg (h:G:=by
 refine nx (k+1) (by exact ⟨ab,by rw [Ev,ha,Bool.true_and];refine lK.2 ⟨BO,?_⟩;rcases Nat.eq_zero_or_pos k with h0|h0;(· exact .inl h0);(· right;rw [hgk,hgp h0];first|(simp only [decide_eq_true_eq,oJ] at *;omega)|(simp_all;done))⟩)):G:=h
def znm (h:G:=by
 refine aK ?_
 refine sG [1,3,4,53,54,55] [1,4] ?_
 refine cc ?_
 exact Zkg):G:=h
def Oq (h:G:=by
 have hno:(kX e.Store.Now) e.Done[k]=false:=Gs
 have hbad2:=alq (po hlt hno)
 refine sS [1,6,53,54,55,85,86,87] [1,6] ?_
 exact zA):G:=h
def znq (h:G:=by
 refine rM ?_
 refine rY 110 ?_
 refine kS ?_
 exact Oq):G:=h
def znu (h:G:=by
 refine cn ?_
 exact rb ((als hpr hall hfa hla).symm)):G:=h
def zo1 (h:G:=by
 refine rM ?_
 refine rY 40 ?_
 refine vJ ?_
 refine rY 46 ?_
 exact HC):G:=h
def znz (h:G:=by
 refine rM ?_
 refine rY 34 ?_
 refine lH ?_
 exact zo1):G:=h
def znw (h:G:=by
 refine rM ?_
 refine rY 28 ?_
 refine lH ?_
 exact znz):G:=h
def zo5 (h:G:=by
 have hbad:eT jS (fV e.Store) oJ e.aC6=false:=ud hlt (Bool.eq_false_iff.2 fun hx=>by
  have hx:=lK.1 hx
  rw [hgk] at hx
  obtain ⟨hx1,hx2⟩:=hx
  first
  | (simp_all;done)
  | (simp only [decide_eq_true_eq,oJ] at *;by_cases h0:k=0<;>(try rw [hgp ab] at hx2)<;>omega))
 have hbad2:=alp hbad
 refine sS [1,3] [1] ?_
 exact zA):G:=h
def zo6 (h:G:=by
 refine Al ?_
 refine bO ?_
 exact Zkg):G:=h
def Ot (h:G:=by
 have hno:(kX e.Store.Now) e.Done[k]=false:=Gs
 have hbad2:=alq (po hlt hno)
 refine sS [1,3,4,5] [1,5] ?_
 exact zA):G:=h
def zo8 (h:G:=by
 refine rM ?_
 refine rY 120 ?_
 refine kS ?_
 exact Ot):G:=h
def zoe (h:G:=by
 have hbad:eT qt bp qu l=false:=ud hlt (Bool.eq_false_iff.2 fun hx=>by
  have hx:=lK.1 hx
  rw [hgk] at hx
  obtain ⟨hx1,hx2⟩:=hx
  first
  | (simp_all;done)
  | (simp only [decide_eq_true_eq,qu] at *;by_cases h0:k=0<;>(try rw [hgp ab] at hx2)<;>omega))
 refine sS [0,3,4,5,6,7] [4] ?_
 exact Zk9):G:=h
def zof (h:G:=by
 refine aK ?_
 refine sG [0,3,4,5,6,7] [4] ?_
 refine cc ?_
 exact Zka):G:=h
def zoh (h:G:=by
 refine sG [0,1,2,6,7,9,11,12,13] [9] ?_
 refine cc ?_
 refine nx (k+1) ab (e:=(by exact aI VW (aI aj tI)))):G:=h
def zoj (h:G:=by
 refine bO ?_
 refine nx (k+1) ab (e:=(by exact aI (by first|exact bC (by rw [db,ala hls,bo];exact rfl)|exact bC (by rw [db,ak9 hls])) (aI aj tI)))):G:=h
def zok (h:G:=by
 have hls:mE (db l f k) (gO l f (k:Int))=false:=by
  by_cases h0:(db l f k).length=0
  ·simp [mE,h0]
  ·simp_all [mE]
 refine xQ ?_
 refine bL ?_
 refine gn ?_
 refine bL ?_
 refine rA ?_ (x:=cz (qs:=Ha) (cs:=Ck) ak yt KI awi aj sJ rfl aj)
 refine Zkb ?_
 refine dJ ?_
 refine sG [0,1,4,5,6,8] [] ?_
 exact zoj):G:=h
def zoq (h:G:=by
 refine fH ?_
 refine sS [0,1,5,6,12,13,14] [6] ?_
 exact Cw):G:=h
def zp2 (h:G:=by
 refine cP ?_
 exact (bi 2 (bi _ (aI aj (aI aj (aI pB (aI (fun h=>nomatch h) tI))))))):G:=h
def zpo (h:G:=by
 refine Zkh ?_
 refine cP ?_
 exact (bi 2 (bi _ (aI aj (aI (by refine dS ?_;rw [hend,bG];exact rfl) (aI iH (aI (fun h=>nomatch h) tI))))))):G:=h
def Zki (h:G:=by
 refine nx (k+1) ab (f:=(by exact aI (by rw [wc hlt];simp only [bo];exact rfl) tI))):G:=h
def HD (h:G:=by
 refine bO ?_
 exact Zki):G:=h
def Ou (h:G:=by
 refine cc ?_
 exact Zki):G:=h
def zq0 (h:G:=by
 refine ph ?_
 refine cP ?_
 exact (bi 2 (bi _ (aI aj (aI (by refine dS ?_;rw [hend2,bG];exact rfl) (aI dg (aI (fun h=>nomatch h) tI))))))):G:=h
def zqe (h:G:=by
 refine dI ?_
 exact rb (by first|(simp_all [kY];done)|(simp_all [kY];rfl)|(simp_all [kY];omega)|(simp_all [kY];intros;omega))):G:=h
def zqh (h:G:=by
 have hbad:yl e i=false:=by first|(simp_all [yl];done)|(simp_all [yl];omega)
 refine sS [1,2,4] [2] ?_
 exact qa):G:=h
def zqk (h:G:=by
 refine dI ?_
 exact rb (by unfold yl;rw [hok.1,hok.2,←hgd];first|(simp_all [kY];done)|(simp_all [kY];omega))):G:=h
def zqs (h:G:=by
 refine sG [1,2,3,5,6,13,14,15,7000] [1,5] ?_
 refine vu ?_
 refine As ?_
 refine sG [1,2,3,5,6,13,14,15,7000] [1,5] ?_
 refine cc ?_
 refine nx (k+1) ab (e:=(by exact aI We (aI aj tI)))):G:=h
def zqw (h:G:=by
 refine sG [1,2,3,4,5,6] [1,5] ?_
 refine vu ?_
 refine As ?_
 refine sG [1,2,3,4,5,6] [1,5] ?_
 refine bO ?_
 refine nx (k+1) yW (e:=(by exact aI We (aI aj tI)))):G:=h
def zqx (h:G:=by
 have hfin:(k=e.aC6.length∧aU e=true)∨(k=0∧(e.aC6.length=0∨aU e=false)):=by
  by_cases h0k:0 < k
  ·left
   have h1:=ha h0k
   refine ⟨?_,h1⟩
   by_cases hka:k=e.aC6.length
   ·exact hka
   ·exfalso
    have hlt_:k < e.aC6.length:=ab
    have hlt2_:(k:Int) < (e.aC6.length:Int):=ab
    first|omega|simp_all
  ·right
   refine ⟨ab,?_⟩
   by_cases hka:e.aC6.length=0
   ·exact .inl hka
   ·right
    have hlt_:k < e.aC6.length:=ab
    have hlt2_:(k:Int) < (e.aC6.length:Int):=ab
    rw [←Bool.not_eq_true];intro hc_;simp_all
 refine DB ?_
 refine jN ?_
 exact (aI (by refine bC ?_;rw [asS hfin]) tI)):G:=h
def zr0 (h:G:=by
 refine DF ?_
 refine nx (k+1) yW (e:=(by exact aI VU (aI aj tI)))):G:=h
def zr1 (h:G:=by
 have hc:jT e e.aC6[k]=false:=GF
 refine aK ?_
 exact zr0):G:=h
def zr2 (h:G:=by
 have hfin:(k=e.aC6.length∧aU e=true)∨(k=0∧(e.aC6.length=0∨aU e=false)):=by
  by_cases h0k:0 < k
  ·left
   have h1:=ha h0k
   refine ⟨?_,h1⟩
   by_cases hka:k=e.aC6.length
   ·exact hka
   ·exfalso
    have hlt_:k < e.aC6.length:=ab
    have hlt2_:(k:Int) < (e.aC6.length:Int):=ab
    first|omega|simp_all
  ·right
   refine ⟨ab,?_⟩
   by_cases hka:e.aC6.length=0
   ·exact .inl hka
   ·right
    have hlt_:k < e.aC6.length:=ab
    have hlt2_:(k:Int) < (e.aC6.length:Int):=ab
    rw [←Bool.not_eq_true];intro hc_;simp_all
 refine DB ?_
 refine jN ?_
 exact (aI (by refine bC ?_;rw [asJ hfin]) tI)):G:=h
def zr3 (h:G:=by
 refine sG [1,2,3,5,12,13,14] [1,5] ?_
 refine cc ?_
 refine nx (k+1) ab (e:=(by exact aI VU (aI aj tI)))):G:=h
def zr4 (h:G:=by
 have hc:jT e e.aC6[k]=false:=GF
 refine aK ?_
 exact zr3):G:=h
def zr5 (h:G:=by
 refine vK ?_
 exact (aI (by refine cW ?_;rw [SN hlt ha hy]) tI)):G:=h
def zr6 (h:G:=by
 refine cn ?_
 exact (aI (by refine cW ?_;rw [asK ha]) tI)):G:=h
def zra (h:G:=by
 refine nx (k+1) ab (e:=(by exact aI (by exact bC (by unfold kt;rw [ny hlt,bo];rfl)) (aI aj tI)))):G:=h
def Ov (h:G:=by
 refine nx (k+1) ab (e:=(by exact aI Wg (aI aj tI)))):G:=h
def zrg (h:G:=by
 refine bL ?_
 refine Sd ?_
 refine dJ ?_
 refine cP ?_
 exact (bi 2 (bi _ (aI aj (aI aj (aI uw (aI (fun h=>nomatch h) (aI aj tI)))))))):G:=h
def zrj (h:G:=by
 refine bO ?_
 exact zra):G:=h
def zrn (h:G:=by
 have hbad:(fb x&&cb o)=false:=by first|(simp_all;done)
 refine sS [1,2,3,6,7] [3] ?_
 refine vK ?_
 exact (aI (by refine cW ?_;unfold jU;rw [if_neg (by rw [hbad];simp)]) tI)):G:=h
def zrr (h:G:=by
 refine cc ?_
 refine nx (k+1) ab (e:=WV)):G:=h
def zry (h:G:=by
 refine bO ?_
 refine nx (k+1) (by exact ⟨ab,fun _=>hxo⟩) (e:=WV)):G:=h
def Ow (h:G:=by
 have hfin:(k=l.length∧(fb x&&cb o)=true)∨(k=0∧(l.length=0∨(fb x&&cb o)=false)):=by
  by_cases h0k:0 < k
  ·left
   have h1:=ha h0k
   refine ⟨?_,h1⟩
   by_cases hka:k=l.length
   ·exact hka
   ·exfalso
    have hlt_:k < l.length:=ab
    have hlt2_:(k:Int) < (l.length:Int):=ab
    first|omega|simp_all
  ·right
   refine ⟨ab,?_⟩
   by_cases hka:l.length=0
   ·exact .inl hka
   ·right
    have hlt_:k < l.length:=ab
    have hlt2_:(k:Int) < (l.length:Int):=ab
    rw [←Bool.not_eq_true];intro hc_;simp_all
 refine be ?_
 refine sT [1,2,3,6,7,8] [3] ?_
 refine vK ?_
 exact (aI (by refine cW ?_;rw [asM hfin]) tI)):G:=h
def zs2 (h:G:=by
 refine cn ?_
 exact (aI (by refine eY ?_;exact gF (by unfold sf;rw [if_neg oU])) tI)):G:=h
def zs6 (h:G:=by
 refine cP ?_
 exact (aI (by refine eY ?_;exact gF (by unfold sf;rw [if_pos hok];try first|rfl|(simp [ul,cI,Lib.join_cons,Lib.joinTail,bn];done))) tI)):G:=h
def zsw (h:G:=by
 refine sG [1,2,4,5,6,7,8,9,11,19,20,21,27,28,29,2900,6000] [2,4,6,11,900] ?_
 refine cc ?_
 refine nx (j+1) ab (e:=(by exact aI WP (aI na tI)))):G:=h
def zta (h:G:=by
 refine dA 511 ?_ (x:=sA)
 refine QG ?_
 refine nx (m+1) ab (e:=(by exact aI (by exact dQ (by rw [asX hlm,hg];rfl)) (aI na tI)))):G:=h
def ztb (h:G:=by
 refine QG ?_
 refine nx (j+1) ab (e:=(by exact aI (by first|exact cW (by rw [as6 hls hlj2 hnd])|exact cW (by rw [as7 hls hlj2 hnd];omega)) (aI WP (aI na tI))))):G:=h
def Zkk (h:G:=by
 refine nx (k+1) ab (e:=(by exact aI (by first|exact bC (by rw [awY hlt hne,bo];rfl)|exact bC (by rw [awZ hlt hne])) (aI aj tI)))):G:=h
def ztf (h:G:=by
 refine sG [0,1,4,5,7,9,10,11] [] ?_
 refine cc ?_
 exact Zkk):G:=h
def ztg (h:G:=by
 refine sG [0,1,4,5,6] [] ?_
 refine bO ?_
 exact Zkk):G:=h
def zti (h:G:=by
 refine sG [1,2,3,6,7,9,15,16,17] [3,9] ?_
 refine cc ?_
 refine nx (k+1) ab (e:=(by exact aI (by first|exact bC (by rw [TS hlt hv,bo];rfl)|exact bC (by rw [amY hlt hv])) (aI aj tI)))):G:=h
def ztk (h:G:=by
 refine nx (k+1) ab (e:=(by exact aI (by exact bC (by rw [hts,bo];rfl)) (aI aj tI)))):G:=h
def ztn (h:G:=by
 refine ph ?_
 refine cP ?_
 exact (bi 2 (bi _ (aI aj (aI aj (aI dg (aI (fun h=>nomatch h) tI))))))):G:=h
def HE (h:G:=by
 have hno:nO e q l=false:=by first|(simp_all [nO];done)|(simp_all [nO];omega)|(rw [←Bool.not_eq_true];intro hc_;obtain ⟨h1_,h2_,h3_,h4_,h5_⟩:=Bq hc_;first|omega|(simp_all;done)|(simp_all [aF];omega))
 refine sS [2,3,4,6,7,8] [3,4,6,8] ?_
 refine AD ?_
 exact (bi 6 (bi _ (aI aj (aI (by refine dS ?_;rw [KX hno];exact rfl) (aI dg (aI (fun h=>nomatch h) (aI (by refine dQ ?_;rw [KX hno]) tI)))))))):G:=h
def HF (h:G:=by
 refine kS ?_
 exact HE):G:=h
def ztx (h:G:=by
 refine rM ?_
 refine rY 30 ?_
 refine vJ ?_
 refine rY 37 ?_
 exact HF):G:=h
def zu1 (h:G:=by
 refine vC ?_
 refine fH ?_
 exact HE):G:=h
def zu9 (h:G:=by
 refine nx (k+1) ab (f:=(by exact aI (by rw [axg,bo];exact rfl) tI))):G:=h
def zug (h:G:=by
 refine sG [2,3,4,6,7,8,9,11,13,54,55,67,68,69,6200,6300] [3,4,6,8,9,13] ?_
 refine cc ?_
 refine nx (m+1) ab (e:=(by exact aI (by first|exact bC (by rw [axh hmz hlz,bo];rfl)|exact bC (by rw [axi hmz hlz])) (aI na tI)))):G:=h
def zul (h:G:=by
 refine AD ?_
 exact (bi 6 (bi _ (aI aj (aI (by refine dS ?_;rw [TY hok];exact rfl) (aI dg (aI (fun h=>nomatch h) (aI (by refine dQ ?_;rw [TY hok]) tI)))))))):G:=h
def zun (h:G:=by
 refine rM ?_
 refine rY 29 ?_
 refine vJ ?_
 refine rY 36 ?_
 exact HF):G:=h
def Ox (h:G:=by
 refine RR ?_
 refine cJ ?_
 refine zpx ?_
 refine gC ?_
 refine dA 12 ?_ (x:=aS ak cY ao aj bD aj)
 refine dA 28 ?_ (x:=ri (qs:=NH) ak nJ (fun h=>nomatch h) ay LY aQ)
 refine dA 60 ?_ (x:=cB (qs:=YP) ak cY mL ak rfl rfl rfl rfl rfl ay cN rfl)
 refine dA 127 ?_ (x:=eL ak cY mL rfl rfl ak rfl bm bm)
 refine dA 255 ?_ (x:=lF gP)
 refine dA 511 ?_ (x:=bR (ag:=false) (vs:=[sl _ _]) fe ao aj ay)
 refine sW [2,3,4,6,7,8,9,10,11,12,13,6200,6300] [3,4,6,9] [8] ?_
 refine bO ?_
 refine nx (m+1) ab (e:=(by exact aI (by exact dQ (by first|(rw [decide_eq_decide];omega)|(rw [decide_eq_true (show (eN e.aC6 q.Id) < m+1 by omega)];done))) (aI na tI))) (f:=(by exact aI (by first|(rw [axn hmz hpm];simp only [bo];exact rfl)|(rw [axm hmz hpm];simp only [bo];exact rfl)) tI))):G:=h
def zut (h:G:=by
 refine eI (d:=8) aj (show _=[sl bH (e.Store.aC5.map (aG bc ai)),val (vI e.Store.Now),val (vI e.aDa),sl ai (e.Order.map ar),sl ct ((za.take (eN e.aC6 q.Id)++(eM e q l,kNew)::za.drop (eN e.aC6 q.Id)).map hI),sl ck (e.Done.map (bd aH ai aJ ai)),sl cl (e.aDi.map (ba ai ai ai)),val (vI e.Steps)] from by first|(rw [←axo hpl];first|done|exact rfl)|(rw [←axp hpl];simp only [bo];exact rfl)) ?_
 refine RR ?_
 refine zuj ?_
 refine sP [2,3,4,6,7,8,9,10,11,12,13,6300] [3,4,6,8,9] ?_
 refine zuk ?_
 refine sW [2,3,4,6,7,8,9,10,11,12,13] [3,4,6,9] [8] ?_
 exact zul):G:=h
def Oy (h:G:=by
 have hno:nP e id=false:=by first|(simp_all [nP];done)|(simp_all [nP];omega)|(rw [←Bool.not_eq_true];intro hc_;unfold nP at hc_;simp only [aR,decide_eq_true_eq] at hc_;obtain ⟨h1_,h2_⟩:=hc_;first|omega|(simp_all;done)|(simp_all;omega))
 refine sS [1,2,4,5,6,7] [2,4,6] ?_
 refine AD ?_
 exact (bi 4 (bi _ (aI aj (aI (by refine dS ?_;rw [KY hno];exact rfl) (aI dg (aI (fun h=>nomatch h) (aI (by refine dQ ?_;rw [KY hno]) tI)))))))):G:=h
def zv1 (h:G:=by
 refine gY ?_
 exact Oy):G:=h
def zv4 (h:G:=by
 refine cP ?_
 exact (bi 4 (bi _ (aI aj (aI (by refine dS ?_;rw [TZ hok hf];exact rfl) (aI dg (aI (fun h=>nomatch h) (aI (by refine dQ ?_;rw [TZ hok hf]) tI)))))))):G:=h
def zv9 (h:G:=by
 refine gn ?_
 refine rS ?_
 refine dI ?_
 exact (aI (by refine cW ?_;rw [hfa.1]) (aI (by refine cW ?_;rw [hfa.2]) tI))):G:=h
def Zkm (h:G:=by
 refine nx (j+1) (by exact ⟨ab,AS hc hlt2 hno2⟩) (e:=oa)):G:=h
def zva (h:G:=by
 have hno2:lg id s.aC5[i][j]=false:=Gr
 refine aK ?_
 refine sG [1,2,6,7,8,9,11,12,13,18,19,20] [2,9] ?_
 refine cc ?_
 exact Zkm):G:=h
def zvb (h:G:=by
 refine nx (i+1) Xx (e:=oa)):G:=h
def zvc (h:G:=by
 refine rK ?_
 refine cn ?_
 exact (aI (by refine cW ?_;rw [hfn.1]) (aI (by refine cW ?_;rw [hfn.2]) tI))):G:=h
def zvd (h:G:=by
 have hno2:lg id s.aC5[i][j]=false:=Gr
 refine aK ?_
 refine sG [1,2,6,7] [2] ?_
 refine bO ?_
 exact Zkm):G:=h
def Zkn (h:G:=by
 refine Zko ?_
 exact (bi 4 (bi _ (aI aj (aI (by refine dS ?_;rw [Ff hno];exact rfl) (aI iH (aI (fun h=>nomatch h) (aI (by refine dQ ?_;rw [Ff hno]) tI)))))))):G:=h
def Oz (h:G:=by
 refine Ei ?_
 exact Zkn):G:=h
def HG (h:G:=by
 have hno:kD s u=false:=WO
 refine sS [2,3,4,5,6] [2,3,4,6] ?_
 exact Oz):G:=h
def zvh (h:G:=by
 refine kS ?_
 exact HG):G:=h
def zvi (h:G:=by
 refine tK ?_
 exact HG):G:=h
def Zkp (h:G:=by
 refine ot ?_
 refine AN ?_
 refine ZP (s:=9) aj (show _=RV.slc ai ((jY s u).map ar) from by first|(rw [hv2];done)|(rw [hv2];exact rfl)) ?_
 refine sG [2,3,4,5,6,7,8,9] [2,3,4,6] ?_
 refine DR ?_
 refine sc ?_ ?_<;>intro hbe
 have hk2:u.Kind=2:=Gy
 have hok:=Lc hos hou hnw hkd (.inl hk2)
 refine AM ?_
 refine xH ?_
 exact (bi 4 (bi _ (aI aj (aI (by refine dS ?_;rw [yw hok hk2];exact rfl) (aI iH (aI (fun h=>nomatch h) (aI (by refine dQ ?_;rw [yw hok hk2]) tI)))))))
 have hk2:¬u.Kind=2:=Gy
 have hu0:0 < (dP s u).length:=ab
 refine cg ?_
 refine bg ?_
 refine AN ?_
 refine mn (d:=6) (t:=41) (D:=910) (G:=2910) (E:=114) (e:=1) (L:=(Lw w0.heap.size)) (A:=[]) (B:=[val _]) (es:=((dP s u)).map (aG bc ai)) aj (kh hu0) aj aj rfl aj (fun x hx=>hx) aQ aQ wM kE (aw.map fun x=>(aw.cons (lcl_own (aw.map fun x=>(aw.cons lcl_val (aw.cons (lcl_own (aw.map fun x=>(aw.cons lcl_val aw.nil))) (aw.cons lcl_val (aw.cons lcl_val aw.nil)))))) aw.nil)) fun uu910 cp910 jk910 hlD910 hcp910 hjk910=>?_
 rw [aX] at hlD910 hcp910 hjk910
 refine eI (d:=910) aj (show _=bW (aG bc ai) ((dP s u)) jk910 from rfl) ?_
 refine sO [(2,_),(3,_),(4,_),(5,_),(6,_),(7,_),(8,_),(9,_),(2910,_)] [(2,_),(3,_),(4,_),(6,(41,ng)),(910,(114,bW (aG bc ai) _ _))] ?_
 refine fh ?_
 refine zX ?_
 refine rA ?_ (x:=YI (G:=2910) ak gG)
 refine dm ?_
 refine sP [2,3,4,5,6,7,8,9,87,88,89,2910] [2,3,4,6,910] ?_
 refine sL [2,3,4,6,7,8,9,87,88,2910] [2,3,4,6,910] (fun m:Nat=>m≤s.aC5.length∧(s.aC5.take m).any jD=false) (fun m:Nat=>[(89,RV.int (m:Int))]) (fun m:Nat=>[]) (fun m:Nat=>s.aC5.length - m) 0 fS bu ao ?_
 rintro m ⟨hm,ha⟩
 refine bP ?_
 refine sc ?_ ?_<;>intro hbf
 try simp only [aX] at hbf
 have hlt:m < s.aC5.length:=ab
 have hum:m < (dP s u).length:=ab
 have hua:=KZ s u hum hlt
 have hs4m:=hs4 _ (List.getElem_mem hlt)
 refine fT ?_
 refine Zkq ?_
 refine eI (d:=910) aj (pb (f:=(aG bc ai)) (xs:=(dP s u)) (k:=m) hum) ?_
 have hA910:=lv (f:=(aG bc ai)) (e:=1) (xs:=(dP s u)) (k:=m) (fun _=>rfl) (Nat.le_of_lt hum)
 refine sO [(2,_),(3,_),(4,_),(6,_),(7,_),(8,_),(9,_),(87,_),(88,_),(89,_),(2910,_)] [(2,_),(3,_),(4,_),(6,_),(910,(114,_++([sl _ _]++_)))] ?_
 refine arb (d:=910) (A:=_) (B:=[]++_) aj fun vN=>?_
 refine sO [(2,_),(3,_),(4,_),(6,_),(7,_),(8,_),(9,_),(87,_),(88,_),(89,_),(2910,_)] [(2,_),(3,_),(4,_),(6,_),(910,(114,_++([nv _ (sl _ _)]++_)))] ?_
 refine fh ?_
 refine rM ?_
 refine rA ?_ (x:=lx (k:=m) (G:=2910) ak gG ao ab Wm)
 refine rA ?_ (x:=wW (o:=0) (qs:=Cl) ab ak nK (fun _=>rfl) ay uI Mb)
 refine rS ?_
 refine rA ?_ (x:=mh (r':=RV.sv false Cl) (.inr rfl) ak Wf)
 refine sS [2,3,4,6,7,8,9,10,11,87,88,89,2910] [2,3,4,6,910] ?_
 refine zxi ?_
 refine sc ?_ ?_<;>intro hbg
 have hsm:jD s.aC5[m]=true:=by unfold jD;rw [decide_eq_true_eq];omega
 have hrm:=anh hlt ha hsm
 have hok:=Lc hos hou hnw hkd (.inr ab)
 have hpv:=yy (v:=mU s u) hum
 refine bg ?_
 refine Se ?_
 refine ard (d:=910) (G:=6400) (A:=_) (B:=[]++_) aj aj uX (bor_sl _) ?_
 refine sO [(2,_),(3,_),(4,_),(6,_),(7,_),(8,_),(9,_),(10,_),(11,_),(87,_),(88,_),(89,_),(2910,_),(6400,_)] [(2,_),(3,_),(4,_),(6,_),(910,(114,_++([sl _ _]++_)))] ?_
 refine zg (s:=11) (G:=6400) aj (by exact (Nm.nv Nm.nil)) rfl ak aj ?_
 refine Se ?_
 refine cJ ?_
 refine DW ?_
 refine dA 0 ?_ (x:=tM)
 refine dA 0 ?_ (x:=lF AW)
 refine dA 16 ?_ (x:=lF kW)
 refine dA 48 ?_ (x:=lD [val _] aV)
 refine dA 0 ?_ (x:=tM)
 refine QW ?_
 refine dA 1008 ?_ (x:=cz (qs:=Cg) (cs:=pU) ak iV yu anS aj WZ rfl aj)
 refine dA 2032 ?_ (x:=cB (qs:=uY) ak fz iV ak rfl rfl rfl rfl rfl ay cN rfl)
 refine dA 4088 ?_ (x:=eL ak fz iV rfl rfl ak rfl bm bm)
 refine dA 8191 ?_ (x:=lx (k:=m) (G:=2910) ak gG ao ab Wm)
 refine dA 16383 ?_ (x:=rn (o:=0) (ag:=false) (vs:=[sl _ _]) ab nK ao aj ay)
 refine eI (d:=910) aj (rq ((dP s u)[m]++[mU s u]) hum Xi) ?_
 refine tf (d:=6) (D:=910) (G:=2910) (e:=1) (A:=[]) (B:=[val _]) (es:=(((dP s u)).set m ((dP s u)[m]++[mU s u])).map (aG bc ai)) aj aj aj rfl sD pM (by rw [aX];exact hjk910) ?_
 refine sV [2,3,4,6,7,8,10,87,88,89] [2,3,4] [6] ?_
 refine xH ?_
 exact (bi 4 (bi _ (aI aj (aI (by refine dS ?_;rw [Bu hok hk2 hrm,hpv];exact rfl) (aI iH (aI (fun h=>nomatch h) (aI (by refine dQ ?_;rw [Bu hok hk2 hrm]) tI)))))))
 have hns:jD s.aC5[m]=false:=by unfold jD;rw [decide_eq_false_iff_not];omega
 refine aK ?_
 refine Se ?_
 refine arc (d:=910) (A:=_) (B:=[]++_) aj ?_
 refine sO [(2,_),(3,_),(4,_),(6,_),(7,_),(8,_),(9,_),(10,_),(11,_),(87,_),(88,_),(89,_),(2910,_)] [(2,_),(3,_),(4,_),(6,_),(910,(114,_++([sl _ _]++_)))] ?_
 refine eI (d:=910) aj (show _=bW (aG bc ai) (dP s u) jk910 from (pb (f:=(aG bc ai)) (xs:=(dP s u)) (k:=m) hum).symm) ?_
 refine sO [(2,_),(3,_),(4,_),(6,_),(7,_),(8,_),(9,_),(10,_),(11,_),(87,_),(88,_),(89,_),(2910,_)] [(2,_),(3,_),(4,_),(6,_),(910,(114,bW (aG bc ai) _ _))] ?_
 refine fh ?_
 refine cc ?_
 refine nx (m+1) (by exact ⟨ab,AS ha hlt hns⟩) (e:=oa)
 try simp only [aX] at hbf
 have hend:m=s.aC5.length:=ab
 have hrn:=ani FR
 have hno:kD s u=false:=WO
 refine gk ?_
 refine Zkq ?_
 refine fh ?_
 refine Qf ?_
 exact Zkn):G:=h
def zw6 (h:G:=by
 refine ot ?_
 refine AN ?_
 refine Zks ?_
 refine AN ?_
 refine ZP (s:=9) aj (show _=RV.slc ai ((gH s u).map ar) from by first|(rw [hu2];done)|(rw [hu2];exact rfl)) ?_
 refine sG [2,3,4,5,6,7,8,9] [2,3,4,6] ?_
 refine DR ?_
 refine sc ?_ ?_<;>intro hbd
 have hk3:u.Kind=3:=qT
 have hge3:0≤cK s u.Row.Id:=ab
 have hv3:=Lb (u:=u) hos hge3
 have hf3:=Uh hou hk3
 have hfl:u.Field.toNat < (gH s u).length:=ab
 have hv2:jY s u=(gH s u).set u.Field.toNat u.Value:=if_pos hk3
 refine AN ?_
 refine Nq (s:=9) (D:=930) (G:=2930) (E:=3) (e:=1) (L:=(Lw w0.heap.size)) (es:=((gH s u)).map ar) aj (kh hfl) aj aj rfl aj (fun x hx=>hx) aQ aQ (aw.map fun x=>(aw.cons lcl_val aw.nil)) fun uu930 cp930 jk930 hlD930 hcp930 hjk930=>?_
 rw [aX] at hlD930 hcp930 hjk930
 refine Sf ?_
 have hA930:=lv (f:=ar) (e:=1) (xs:=(gH s u)) (k:=u.Field.toNat) (fun _=>rfl) (Nat.le_of_lt hfl)
 refine sO [(2,_),(3,_),(4,_),(5,_),(6,_),(7,_),(8,_),(9,_),(2930,_)] [(2,_),(3,_),(4,_),(6,_),(930,(3,_++([val _]++_)))] ?_
 refine fh ?_
 refine rA ?_ (x:=vM false [val _])
 refine Rl ?_
 refine Rm ?_
 refine PL ?_
 refine eI (d:=930) aj (rq u.Value hfl aj) ?_
 refine YH (s:=9) (D:=930) (G:=2930) (e:=1) (es:=(((gH s u)).set u.Field.toNat u.Value).map ar) aj aj aj rfl ak sD pM WE ?_
 exact Zkp
 have hk3n:¬u.Kind=3:=qT
 have hv2:jY s u=gH s u:=if_neg hk3n
 refine aK ?_
 exact Zkp):G:=h
def zw9 (h:G:=by
 have hno:kD s u=false:=by rw [←Bool.not_eq_true];intro hc_;obtain ⟨h1_,h2_,h3_,h4_,h5_⟩:=yx hc_;by_cases h1:0≤cK s u.Row.Id<;>by_cases h2:u.Kind=1<;>by_cases h3:u.Kind=2<;>by_cases h4:0≤jX s.aC5<;>by_cases h6:cK s u.Row.Id < 0<;>(first|omega|(simp_all;done)|(simp_all;omega))
 refine AM ?_
 exact Oz):G:=h
def Zkx (h:G:=by
 refine xH ?_
 exact (bi 4 (bi _ (aI aj (aI (by refine dS ?_;first|(rw [Bu hok hk2 hrm,hpv];exact rfl)|(rw [yw hok hk2];exact rfl)) (aI iH (aI (fun h=>nomatch h) (aI (by refine dQ ?_;first|(rw [Bu hok hk2 hrm];done)|(rw [yw hok hk2];done)) tI)))))))):G:=h
def Zky (h:G:=by
 obtain ⟨r,hr,hrm,hr4⟩:=Ue (hrr.resolve_left hk2)
 have hru:r < (dP s u).length:=ab
 have hua:=KZ s u hru hr
 have hpv:=yy (v:=mU s u) hru
 refine Er ?_
 refine mn (d:=6) (t:=41) (D:=940) (G:=2940) (E:=114) (e:=1) (L:=(Lw w0.heap.size)) (A:=[]) (B:=[val _]) (es:=((dP s u)).map (aG bc ai)) aj (kh hru) aj aj rfl aj (fun x hx=>hx) aQ aQ wM kE (aw.map fun x=>(aw.cons (lcl_own (aw.map fun x=>(aw.cons lcl_val (aw.cons (lcl_own (aw.map fun x=>(aw.cons lcl_val aw.nil))) (aw.cons lcl_val (aw.cons lcl_val aw.nil)))))) aw.nil)) fun uu940 cp940 jk940 hlD940 hcp940 hjk940=>?_
 rw [aX] at hlD940 hcp940 hjk940
 refine eI (d:=940) aj (pb (k:=r) hru) ?_
 have hA940:=lv (f:=(aG bc ai)) (e:=1) (xs:=(dP s u)) (k:=r) (fun _=>rfl) (Nat.le_of_lt hru)
 refine sO [(2,_),(3,_),(4,_),(5,_),(6,_),(7,_),(8,_),(9,_),(10,_),(2940,_)] [(2,_),(3,_),(4,_),(6,(41,ng)),(10,_),(940,(114,_++([sl _ _]++_)))] ?_
 refine cJ ?_
 refine DW ?_
 refine dA 0 ?_ (x:=lF mH)
 refine dA 8 ?_ (x:=lD [val _] mK)
 refine dt ?_
 refine dA 56 ?_ (x:=lx (k:=r) (G:=2940) ak gG ao ab Wn)
 refine dA 120 ?_ (x:=Nr (o:=0) (ms:=[sl _ _]) (qs:=[sl .v _]) ab ak nK (fun _=>rfl) ay aj gS fp)
 refine dA 0 ?_ (x:=eP (ms:=pU) (qs:=pc) ak lV (fun h=>nomatch h) ay aj (by exact (aB (bf (aB (aB az.nil))))) aQ)
 refine dA 256 ?_ (x:=cB (qs:=uY) ak fz iV ak rfl rfl rfl rfl rfl ay cN rfl)
 refine dA 1016 ?_ (x:=eL ak fz iV rfl rfl ak rfl bm bm)
 refine dA 2047 ?_ (x:=lx (k:=r) (G:=2940) ak gG ao ab Wn)
 refine dA 4095 ?_ (x:=rn (o:=0) (ag:=false) (vs:=[sl _ _]) ab nK ao aj ay)
 refine eI (d:=940) aj (rq ((dP s u)[r]++[mU s u]) hru Xi) ?_
 refine tf (d:=6) (D:=940) (G:=2940) (e:=1) (A:=[]) (B:=[val _]) (es:=(((dP s u)).set r ((dP s u)[r]++[mU s u])).map (aG bc ai)) aj aj aj rfl sD pM (by rw [aX];exact hjk940) ?_
 refine sV [2,3,4,5,6,7,8,9,10] [2,3,4] [6,10] ?_
 exact Zkx):G:=h
def Zl0 (h:G:=by
 refine aK ?_
 refine sS [2,3,4,5,6,7,8,9,10] [2,3,4,6,10] ?_
 exact Zkx):G:=h
def Zl1 (h:G:=by
 refine Zl2 ?_
 refine vl ?_
 refine nu ?_
 refine sc ?_ ?_<;>intro hbe
 have hk2:¬u.Kind=2:=Gy
 exact Zky
 have hk2:u.Kind=2:=Gy
 exact Zl0):G:=h
def zwn (h:G:=by
 refine Zl3 ?_
 refine Sg ?_
 refine DR ?_
 refine sc ?_ ?_<;>intro hbd
 have hk3:u.Kind=3:=qT
 have hge3:0≤cK s u.Row.Id:=ab
 have hv3:=Lb (u:=u) hos hge3
 have hf3:=Uh hou hk3
 have hfl:u.Field.toNat < (gH s u).length:=ab
 have hv2:jY s u=(gH s u).set u.Field.toNat u.Value:=if_pos hk3
 refine Er ?_
 refine mn (d:=10) (t:=116) (D:=930) (G:=2930) (E:=3) (e:=1) (L:=(Lw w0.heap.size)) (A:=[val _]) (B:=ng) (es:=((gH s u)).map ar) aj (kh hfl) aj aj rfl aj (fun x hx=>hx) aQ aQ kE kE (aw.map fun x=>(aw.cons lcl_val aw.nil)) fun uu930 cp930 jk930 hlD930 hcp930 hjk930=>?_
 rw [aX] at hlD930 hcp930 hjk930
 refine Sf ?_
 have hA930:=lv (f:=ar) (e:=1) (xs:=(gH s u)) (k:=u.Field.toNat) (fun _=>rfl) (Nat.le_of_lt hfl)
 refine Zl5 ?_
 refine rA ?_ (x:=lF qz)
 refine rA ?_ (x:=lD [val _] bZ)
 refine Rl ?_
 refine Rm ?_
 refine PL ?_
 refine Zl6 ?_
 refine ot ?_
 refine Sh ?_
 exact Zl1
 have hk3n:¬u.Kind=3:=qT
 have hv2:jY s u=gH s u:=if_neg hk3n
 refine cg ?_
 refine IK ?_
 exact Zl1):G:=h
def Zl8 (h:G:=by
 refine Zl2 ?_
 refine vl ?_
 refine nu ?_
 refine sc ?_ ?_<;>intro hbd
 have hk2:¬u.Kind=2:=qT
 exact Zky
 have hk2:u.Kind=2:=qT
 exact Zl0):G:=h
def zwp (h:G:=by
 refine Zl3 ?_
 refine Sg ?_
 refine DR ?_
 refine sc ?_ ?_<;>intro hbc
 have hk3:u.Kind=3:=uM
 have hge3:0≤cK s u.Row.Id:=ab
 have hv3:=Lb (u:=u) hos hge3
 have hf3:=Uh hou hk3
 have hfl:u.Field.toNat < (gH s u).length:=ab
 have hv2:jY s u=(gH s u).set u.Field.toNat u.Value:=if_pos hk3
 refine Er ?_
 refine mn (d:=10) (t:=116) (D:=930) (G:=2930) (E:=3) (e:=1) (L:=(Lw w0.heap.size)) (A:=[val _]) (B:=ng) (es:=((gH s u)).map ar) aj (kh hfl) aj aj rfl aj (fun x hx=>hx) aQ aQ kE kE (aw.map fun x=>(aw.cons lcl_val aw.nil)) fun uu930 cp930 jk930 hlD930 hcp930 hjk930=>?_
 rw [aX] at hlD930 hcp930 hjk930
 refine Sf ?_
 have hA930:=lv (f:=ar) (e:=1) (xs:=(gH s u)) (k:=u.Field.toNat) (fun _=>rfl) (Nat.le_of_lt hfl)
 refine Zl5 ?_
 refine rA ?_ (x:=lF qz)
 refine rA ?_ (x:=lD [val _] bZ)
 refine Rl ?_
 refine Rm ?_
 refine PL ?_
 refine Zl6 ?_
 refine ot ?_
 refine Sh ?_
 exact Zl8
 have hk3n:¬u.Kind=3:=uM
 have hv2:jY s u=gH s u:=if_neg hk3n
 refine cg ?_
 refine IK ?_
 exact Zl8):G:=h
def HH (h:G:=by
 have hno:le e=false:=by first|(simp_all [le];done)|(simp_all [le];omega)|(rw [←Bool.not_eq_true];intro hc_;obtain ⟨h1_,h2_,h3_,h4_⟩:=EX hc_;first|omega|(simp_all;done)|(simp_all;omega))
 refine sS [1,2,3,4] [1,2,4] ?_
 refine AD ?_
 exact (bi 2 (bi _ (aI aj (aI (by refine dS ?_;rw [amS hno];exact rfl) (aI dg (aI (fun h=>nomatch h) (aI (by refine dQ ?_;rw [hno]) tI)))))))):G:=h
def HI (h:G:=by
 refine kS ?_
 exact HH):G:=h
def zwr (h:G:=by
 refine vH ?_
 exact HH):G:=h
def zx3 (h:G:=by
 refine sG [1,2,3,4,5,6,8,9,10,11,13,57,58,59,77,78,79,2900,6100] [1,2,4,6,10,13,900] ?_
 refine cc ?_
 refine nx (j+1) ab (e:=(by exact aI (by first|exact cW (by rw [amU hjv hm,bV];simp only [List.length_cons,List.length_nil];omega)|exact cW (by rw [amV hjv hm])) (aI na (aI aj tI)))) (f:=(by exact aI (by first|(rw [amU hjv hm,←hz3];simp only [bo,bn];exact rfl)|(rw [amV hjv hm];exact rfl)) tI))):G:=h
def OA (h:G:=by
 refine nx (m+1) ab (e:=(by exact aI (by first|exact bC (by rw [awU hm1 hep,hga,bo];exact rfl)|exact bC (by rw [awV hm1 hep])) (aI na (aI aj tI)))) (f:=(by exact aI (by first|(rw [awW hm1 hep,hga];simp only [bo,bn];exact rfl)|(rw [awX hm1 hep];exact rfl)) tI))):G:=h
def Zla (h:G:=by
 refine DE ?_
 refine jw ?_
 refine sc ?_ ?_<;>intro hbf
 have hep:fK (dD e (parts e).length)[m]=true:=by rw [hga];simpa [fK] using hbf
 refine Si ?_
 refine zqb ?_
 refine tW ?_
 refine RF ?_
 refine Rd ?_
 refine IQ ?_
 refine zx1 ?_
 refine rA ?_ (x:=cz (qs:=[(true,jL),(false,[val _]),(false,[val _]),(false,[sl _ _])]) (cs:=vb) ak qB EW ayk aj wQ rfl aj)
 refine zqc ?_
 refine zqd ?_
 refine sW [1,2,3,4,5,6,14,16,57,58,59,145,146,147,6200] [1,2,6] [4,16] ?_
 refine cc ?_
 exact OA
 have hep:fK (dD e (parts e).length)[m]=false:=by rw [hga];simpa [fK] using hbf
 refine Si ?_
 refine bL ?_
 refine HW ?_
 refine CT ?_
 refine sW [1,2,3,4,5,6,14,16,57,58,59,145,146,147,6200] [1,2,4,6] [16] ?_
 refine cc ?_
 exact OA):G:=h
def zx9 (h:G:=by
 refine HZ ?_
 refine Ib ?_
 refine sO [(1,_),(2,_),(3,_),(4,_),(5,_),(6,_),(14,_),(16,_),(57,_),(58,_),(59,_),(145,_),(146,_),(147,_),(6200,_)] [(1,_),(2,_),(4,_),(6,_),(16,(102,pV))] ?_
 refine NP (d:=16) (G:=6200) (e:=10) (f:=(aO aH ai ai aJ ai)) (z:=za[m]) (zs:=(za.drop (m+1))) aj VZ (fun _=>rfl) My ?_
 refine Sj ?_
 refine xY ?_
 refine rD ?_
 refine xY ?_
 refine xk ?_
 refine Sj ?_
 refine IQ ?_
 refine tX ?_
 refine Dq ?_
 refine Zld ?_
 refine jw ?_
 refine sc ?_ ?_<;>intro hbe
 have hga:(dD e (parts e).length)[m]=(⟨za[m].1.aC7,za[m].1.Time,za[m].1.aDf,za[m].1.Age+1,0,za[m].1.Cap,za[m].1.Rows⟩:aC6):=by rw [KQ hm1 hm2,←hz3];exact amW hbe
 refine Si ?_
 refine Qz ?_
 refine Sj ?_
 exact Zla
 have hga:(dD e (parts e).length)[m]=(⟨za[m].1.aC7,za[m].1.Time,za[m].1.aDf,za[m].1.Age+1,za[m].1.Sent,za[m].1.Cap,za[m].1.Rows⟩:aC6):=by rw [KQ hm1 hm2,←hz3];exact amX hbe
 refine aK ?_
 refine sS [1,2,3,4,5,6,14,16,57,58,59,145,146,147,6200] [1,2,4,6,16] ?_
 exact Zla):G:=h
def zy3 (h:G:=by
 refine cP ?_
 exact (bi 2 (bi _ (aI aj (aI (by refine dS ?_;rw [amT hok];exact rfl) (aI dg (aI (fun h=>nomatch h) (aI (by refine dQ ?_;rw [hok]) tI)))))))):G:=h
def zxa (h:G:=by
 refine bL ?_
 refine zK ?_
 refine sV [1,2,3,4,5,6,57,58,59,145,146,147,6200] [1,2,6] [4] ?_
 refine rA ?_ (x:=lF mI)
 refine rD ?_
 refine tX ?_
 refine Dq ?_
 refine Zld ?_
 refine Qx ?_
 refine sV [1,2,3,4,5,6,57,58,59,145,146,147,6200] [1,2,6] [4] ?_
 refine rA ?_ (x:=lF sh)
 refine rD ?_
 refine rA ?_ (x:=lF sh)
 refine xk ?_
 refine sU [1,2,3,4,5,6,57,58,59,146,147] [1,2,6] [4] ?_
 refine uW ?_
 refine wA ?_ (x:=eP (ms:=dV) (qs:=zp) ak dg (fun h=>nomatch h) ay aj LW aQ)
 refine wO [(1,_),(2,_),(3,_),(4,_),(5,_),(6,_),(57,_),(58,_),(59,_),(146,_),(147,_),(202,_)] [(1,_),(2,_),(4,(46,zp)),(6,_)] ?_
 refine Nz (L:=(Lw w0.heap.size)) (qs:=fi) (as_:=fi) ak Tf oT cN ak aQ (by exact (UJ (e:=jj e) ab)) (fun x hx=>hx) aQ aQ ?_
 refine wA ?_ (x:=bR (ag:=true) (vs:=dV) dg ao aj ay)
 refine wA ?_ (x:=kA)
 refine uV ?_
 exact zy3):G:=h
def OB (h:G:=by
 refine sG [0,1,5,6,7,8,9,10,11,12,13,14,15,2900,5000] [0,6,8,13,900] ?_
 refine bO ?_
 refine nx (j+1) ab (e:=(by exact aI (by first|exact cW (by rw [am5 hj2 hvv hmm,bV];simp only [List.length_cons,List.length_nil];omega)|exact cW (by rw [KW hj2 (.inl hvv)])|exact cW (by rw [KW hj2 (.inr hmm)])) (aI na tI))) (f:=(by exact aI (by first|(rw [am5 hj2 hvv hmm,←hz4];simp only [bo,bn];exact rfl)|(rw [KW hj2 (.inl hvv)];exact rfl)|(rw [KW hj2 (.inr hmm)];exact rfl)) tI))):G:=h
def HJ (h:G:=by
 refine bO ?_
 exact OA):G:=h
def zxw (h:G:=by
 refine DE ?_
 refine jw ?_
 refine sc ?_ ?_<;>intro hbd
 have hep:fK (dD e (parts e).length)[m]=true:=FV
 refine sP [0,3,4,5,6,5000,6200] [0,6] ?_
 refine Hk (d:=6) (G:=6300) aj aj (aB (aB (bf (bf (aB (bf (aB (aB (aB (bf az.nil)))))))))) aQ fun us hRN=>?_
 obtain ⟨_,_,hRN⟩:=hRN
 obtain ⟨uA_0,uA_1,uA_2,uA_3,uA_4,uA_5,uA_6,uA_7,uA_8,uA_9,rfl⟩:=akI hRN.len
 clear hRN
 refine sO [(0,_),(3,_),(4,_),(5,_),(6,_),(5000,_),(6200,_),(6300,_)] [(0,_),(6,(102,pV))] ?_
 refine IB ?_
 refine II ?_
 refine Zlf ?_
 refine Zlg ?_
 refine Zlh ?_
 refine Zli ?_
 refine Zlj ?_
 refine Zlk ?_
 refine Zll ?_
 refine Zlm ?_
 refine sU [0,3,4,5,6,5000,6200,6300] [6] [0] ?_
 refine Zln ?_
 refine sG [0,3,4,5,6,5000,6200] [0,6] ?_
 exact HJ
 have hep:fK (dD e (parts e).length)[m]=false:=FV
 refine sG [0,3,4,5,6,5000,6200] [0,6] ?_
 refine bL ?_
 refine HW ?_
 refine CT ?_
 refine sW [0,3,4,5,6,5000,6200] [0] [6] ?_
 exact HJ):G:=h
def zy1 (h:G:=by
 refine Cf (bx:=0) (L:=MO) (qs:=[]) (as_:=[]) ak Ti rfl aj aj ao ao ak ao (by exact (UK (e:=jj e) ab)) (fun x hx=>hx.elim) aQ (by exact (aI (.inl rfl) tI)) ?_
 refine uV ?_
 exact ⟨aj,rfl,tI⟩):G:=h
def zy2 (h:G:=by
 refine DE ?_
 refine jw ?_
 refine sc ?_ ?_<;>intro hbd
 have hep:fK (dD e (parts e).length)[m]=true:=FV
 refine sP [0,2,3,4,5,6,5000,6200] [0,6] ?_
 refine Hk (d:=6) (G:=6300) aj aj (aB (aB (bf (bf (aB (bf (aB (aB (aB (bf az.nil)))))))))) aQ fun us hRN=>?_
 obtain ⟨_,_,hRN⟩:=hRN
 obtain ⟨uA_0,uA_1,uA_2,uA_3,uA_4,uA_5,uA_6,uA_7,uA_8,uA_9,rfl⟩:=akI hRN.len
 clear hRN
 refine sO [(0,_),(2,_),(3,_),(4,_),(5,_),(6,_),(5000,_),(6200,_),(6300,_)] [(0,_),(6,(102,pV))] ?_
 refine IB ?_
 refine II ?_
 refine Zlf ?_
 refine Zlg ?_
 refine Zlh ?_
 refine Zli ?_
 refine Zlj ?_
 refine Zlk ?_
 refine Zll ?_
 refine Zlm ?_
 refine sU [0,2,3,4,5,6,5000,6200,6300] [6] [0] ?_
 refine Zln ?_
 refine sG [0,2,3,4,5,6,5000,6200] [0,6] ?_
 exact HJ
 have hep:fK (dD e (parts e).length)[m]=false:=FV
 refine sG [0,2,3,4,5,6,5000,6200] [0,6] ?_
 refine bL ?_
 refine HW ?_
 refine CT ?_
 refine sW [0,2,3,4,5,6,5000,6200] [0] [6] ?_
 exact HJ):G:=h
def OC (h:G:=by
 refine dI ?_
 exact rb (by rw [Bool.eq_iff_iff];simp only [oA,arS];simp_all [oA,akU])):G:=h
def zy7 (h:G:=by
 refine rM ?_
 refine rN 24 ?_
 refine dz ?_
 exact OC):G:=h
def OD (h:G:=by
 refine dI ?_
 exact rb (by rw [Bool.eq_iff_iff];simp only [oA,arT];simp_all [oA,akU])):G:=h
def zyc (h:G:=by
 refine rM ?_
 refine rN 24 ?_
 refine dz ?_
 exact OD):G:=h
def OE (h:G:=by
 refine dI ?_
 exact rb (by first|(rw [Bool.eq_iff_iff];simp_all [oF];done)|(rw [Bool.eq_iff_iff];simp_all [oF];omega)|(simp_all [oF];done)|(simp_all [oF];rfl)|(simp_all [oF];omega)|(simp_all [oF];intros;omega))):G:=h
def zyf (h:G:=by
 refine rM ?_
 refine rN 17 ?_
 refine dz ?_
 exact OE):G:=h
def OF (h:G:=by
 refine dI ?_
 exact rb (by first|(rw [Bool.eq_iff_iff];simp_all [oG];done)|(rw [Bool.eq_iff_iff];simp_all [oG];omega)|(simp_all [oG];done)|(simp_all [oG];rfl)|(simp_all [oG];omega)|(simp_all [oG];intros;omega))):G:=h
def zyi (h:G:=by
 refine rM ?_
 refine rN 24 ?_
 refine dz ?_
 exact OF):G:=h
def zyj (h:G:=by
 refine rM ?_
 refine rN 19 ?_
 refine dz ?_
 exact zyi):G:=h
def Cz (h:G:=by
 refine cP ?_
 exact rb (by first|(simp_all [ew];done)|(simp_all [ew];rfl)|(simp_all [ew];omega)|(simp_all [ew];intros;omega))):G:=h
def OG (h:G:=by
 refine rB gd ?_ (x:=lF EC)
 refine Rf ?_
 refine rO ?_
 refine rS ?_
 exact Cz):G:=h
def HK (h:G:=by
 refine vz ?_
 refine rS ?_
 exact Cz):G:=h
def vh (h:G:=by
 refine dz ?_
 refine rS ?_
 exact Cz):G:=h
def zyq (h:G:=by
 refine rM ?_
 refine rN 20 ?_
 refine tN ?_
 refine rN 25 ?_
 exact vh):G:=h
def zyt (h:G:=by
 refine rM ?_
 refine rN 45 ?_
 refine tN ?_
 refine rN 50 ?_
 exact vh):G:=h
def zyu (h:G:=by
 refine rM ?_
 refine rN 70 ?_
 refine tN ?_
 refine rN 75 ?_
 exact vh):G:=h
def zyw (h:G:=by
 refine rM ?_
 refine rN 95 ?_
 refine tN ?_
 refine rN 100 ?_
 exact vh):G:=h
def Zlo (h:G:=by
 refine cP ?_
 exact rb (by first|(simp_all [ew,Ey,Ez];done)|(simp_all [ew,Ey,Ez];rfl)|(simp_all [ew,Ey,Ez];omega)|(simp_all [ew,Ey,Ez];intros;omega))):G:=h
def tq (h:G:=by
 refine rS ?_
 exact Zlo):G:=h
def zB (h:G:=by
 refine dz ?_
 exact tq):G:=h
def Zlp (h:G:=by
 refine rM ?_
 refine rN 35 ?_
 refine Ac ?_
 refine rM ?_
 refine rN 38 ?_
 exact zB):G:=h
def zz1 (h:G:=by
 refine ua ?_
 refine rA ?_ (x:=lF EB)
 refine zJ ?_
 refine rM ?_
 refine cx 25 ?_ ?_<;>intro gb sgb
 refine rB gb ?_ (x:=lF wg)
 refine PY ?_
 refine hZ ?_
 refine cx 30 ?_ ?_<;>intro gc sgc
 refine rB gc ?_ (x:=lF wh)
 refine Dx ?_
 refine rM ?_
 refine cx 35 ?_ ?_<;>intro gd sgd
 refine Jc ?_
 refine rM ?_
 refine cx 38 ?_ ?_<;>intro ge sge
 refine rB ge ?_ (x:=lF EC)
 refine rB ge ?_ (x:=lD [val _] aV)
 refine rB ge ?_ (x:=kL)
 refine rA ?_ (x:=cd ge)
 exact tq
 refine Aj ?_
 exact tq
 refine Jk ?_
 refine rM ?_
 refine rN 38 ?_
 exact zB
 refine kl ?_
 exact Zlp
 refine hY ?_
 refine rM ?_
 refine rN 30 ?_
 refine dz ?_
 exact Zlp):G:=h
def zz4 (h:G:=by
 refine rB gd ?_ (x:=lF EC)
 refine Rf ?_
 refine rO ?_
 exact tq):G:=h
def zzh (h:G:=by
 refine rM ?_
 refine rN 51 ?_
 refine Ac ?_
 refine rM ?_
 refine rN 54 ?_
 exact zB):G:=h
def zz7 (h:G:=by
 refine Jm ?_
 exact zzh):G:=h
def zzi (h:G:=by
 refine rM ?_
 refine rN 67 ?_
 refine tN ?_
 refine rN 72 ?_
 exact zB):G:=h
def zz9 (h:G:=by
 refine Jm ?_
 exact zzi):G:=h
def zzd (h:G:=by
 refine rM ?_
 refine rN 90 ?_
 refine Ac ?_
 exact tq):G:=h
def zzj (h:G:=by
 refine rM ?_
 refine rN 85 ?_
 refine dz ?_
 exact zzd):G:=h
def zze (h:G:=by
 refine Jm ?_
 exact zzj):G:=h
def zzf (h:G:=by
 refine aK ?_
 refine ua ?_
 refine rK ?_
 exact Zlo):G:=h
def zzm (h:G:=by
 refine bO ?_
 refine nx (k+1) ab (e:=oa)):G:=h
def OH (h:G:=by
 have hend:k=qF n:=by unfold qF at hk ⊢;first|omega|(simp_all;omega)
 refine be ?_
 refine sT [1,2,4,5,6] [2,4,5] ?_
 refine ph ?_
 refine cP ?_
 exact (bi 4 (bi _ (aI aj (aI (by refine dS ?_;unfold jl;rw [←hend];exact rfl) (aI dg (aI (fun h=>nomatch h) tI))))))):G:=h
def zzo (h:G:=by
 refine nt ?_
 exact OH):G:=h
def zzv (h:G:=by
 refine AD ?_
 exact (bi 4 (bi _ (aI aj (aI (by refine dS ?_;rw [Uk hno];exact rfl) (aI dg (aI (fun h=>nomatch h) (aI (by refine dQ ?_;rw [Uk hno]) tI)))))))):G:=h
def OI (h:G:=by
 have hno:(aU e&&(eV e.Store u).2)=false:=Gn
 refine sS [2,3,4,5,6,7,8] [2,3,4,6,7] ?_
 exact zzv):G:=h
def zzu (h:G:=by
 refine cP ?_
 exact (bi 4 (bi _ (aI aj (aI (by refine dS ?_;rw [Ul hok];exact rfl) (aI dg (aI (fun h=>nomatch h) (aI (by refine dQ ?_;rw [Ul hok]) tI)))))))):G:=h
def Zlr (h:G:=by
 refine Ziz ?_
 exact (bi 4 (bi _ (aI aj (aI (by refine dS ?_;rw [Un hno];exact rfl) (aI dg (aI (fun h=>nomatch h) (aI (by refine dQ ?_;rw [Un hno]) tI)))))))):G:=h
def zzy (h:G:=by
 have hno:(aU e&&ew x)=false:=Gp
 refine sS [2,3,4,5] [2,3,4] ?_
 refine CS ?_
 exact Zlr):G:=h
def Za4 (h:G:=by
 refine cP ?_
 exact (bi 4 (bi _ (aI aj (aI (by refine dS ?_;first|(rw [Uo hok hk1];first|done|exact rfl)|(rw [Up hok hk2];first|done|exact rfl)|(rw [Uq hok hk3];first|done|exact rfl)|(rw [Ur hok hk1n hk2n hk3n];first|done|exact rfl)) (aI dg (aI (fun h=>nomatch h) (aI (by refine dQ ?_;first|(rw [Uo hok hk1];first|done|exact rfl)|(rw [Up hok hk2];first|done|exact rfl)|(rw [Uq hok hk3];first|done|exact rfl)|(rw [Ur hok hk1n hk2n hk3n];first|done|exact rfl)) tI)))))))):G:=h
def Zls (h:G:=by
 refine Ij ?_
 exact Za4):G:=h
def OJ (h:G:=by
 refine vi ?_
 exact Zls):G:=h
def Za5 (h:G:=by
 have hno:(aU e&&ew x)=false:=Gp
 refine sS [2,3,4,5,6] [2,3,4,6] ?_
 refine Sk ?_
 exact Zlr):G:=h
def Zaa (h:G:=by
 refine sV [2,3,4,5,6,7,20] [2,3,4] [6] ?_
 refine Zlv ?_
 exact Zls):G:=h
def OK (h:G:=by
 refine bL ?_
 refine vi ?_
 refine Ij ?_
 exact Zaa):G:=h
def Zab (h:G:=by
 refine cn ?_
 exact (aI (by refine eY ?_;exact gF (by unfold gv;rw [if_neg oU])) tI)):G:=h
def Zac (h:G:=by
 refine dA 127 ?_ (x:=cZ)
 refine dA 255 ?_ (x:=sA)
 refine cP ?_
 exact (aI (by refine eY ?_;exact gF (by unfold gv;rw [if_pos hok])) tI)):G:=h
def Zlw (h:G:=by
 refine rK ?_
 refine cn ?_
 exact (aI (by refine cW ?_;exact (ayW hno).symm) (aI (by refine dQ ?_;exact (ay0 hno).symm) tI))):G:=h
def OL (h:G:=by
 have hno:ii s=none:=ayU gI
 refine sS [0,2,3,4,5,7000] [] ?_
 exact Zlw):G:=h
def Zae (h:G:=by
 refine rM ?_
 refine rY 23 ?_
 refine kS ?_
 exact OL):G:=h
def Zag (h:G:=by
 refine tP ?_
 refine cn ?_
 exact (aI (by refine cW ?_;exact (ayX hys).symm) (aI (by refine dQ ?_;exact (ay1 hys).symm) tI))):G:=h
def Zai (h:G:=by
 refine sG [0,2,3,4,5,6] [] ?_
 refine bO ?_
 refine nx (k+1) (by exact ⟨ab,ab⟩) (e:=(by exact aI Xe (aI Xe (aI aj tI))))):G:=h
def Zaj (h:G:=by
 have hb256:=s[k].toNat_lt
 have hsn:=aob hlt
 have hbg:=Ls s k ab
 have hdg:¬oO s[k]=true:=by rw [Fo];first|omega|(simp_all;omega)
 rw [if_neg hdg] at hsn
 refine aK ?_
 exact Zai):G:=h
def CA (h:G:=by
 have hbad:=ay2 (s:=s) (by rw [hnv];first|omega|(simp_all;done)|(simp_all;omega))
 have hno:=axN hbad
 refine sS [0,2,3,4,5,6] [] ?_
 exact Zlw):G:=h
def OM (h:G:=by
 refine xo ?_
 refine rM ?_
 refine rY 54 ?_
 refine kS ?_
 exact CA):G:=h
def ON (h:G:=by
 refine vC ?_
 refine fH ?_
 exact CA):G:=h
def OO (h:G:=by
 have hgd:=ay3 (s:=s) ln ln (by rw [hnv];simp_all)
 have hys:=axO hgd
 rw [hnv] at hys
 refine aK ?_
 refine sS [0,2,3,4,5,6] [] ?_
 exact Zag):G:=h
def Zak (h:G:=by
 refine bg ?_
 refine Ad ?_
 refine qf ?_
 refine cx 49 ?_ ?_<;>intro gc sgc
 exact OM
 refine Rg ?_
 refine xq ?_
 refine rM ?_
 refine cx 54 ?_ ?_<;>intro gd sgd
 exact ON
 refine Qu ?_
 refine IH ?_
 refine sc ?_ ?_<;>intro hbc
 exact CA
 exact OO):G:=h
def OP (h:G:=by
 refine bg ?_
 refine Ad ?_
 refine qf ?_
 refine cx 49 ?_ ?_<;>intro gc sgc
 exact OM
 refine Rg ?_
 refine xq ?_
 refine rM ?_
 refine cx 54 ?_ ?_<;>intro gd sgd
 exact ON
 refine Qu ?_
 refine IH ?_
 refine sc ?_ ?_<;>intro hbb
 exact CA
 exact OO):G:=h
def Zav (h:G:=by
 refine sG [0,1,4,5,6,7] [] ?_
 refine bO ?_
 refine nx (k+1) ab (e:=(by exact aI (by first|exact bC (by rw [hsy.1,bo];rfl)|exact bC (by rw [hsn.1])) (aI (by first|exact congrArg (fun z=>some (RV.sc (.string (B z)))) hsy.2.symm|exact congrArg (fun z=>some (RV.sc (.string (B z)))) hsn.2.symm) (aI aj tI))))):G:=h
def OQ (h:G:=by
 refine rA ?_ (x:=cz (qs:=[]) (cs:=iA) ak jh nB Vx aj ao rfl aj)
 refine Zly ?_
 exact (bi 2 (bi _ (aI aj (aI (by refine dS ?_;rw [hno];exact rfl) (aI jg (aI (fun h=>nomatch h) (aI (by refine dQ ?_;rw [hno];rfl) tI)))))))):G:=h
def OR (h:G:=by
 have hno:iX s=none:=axX (by unfold Lj;simp_all)
 refine sS [0,2,3,4,5,6,7,8,10,11,7000] [2,11] ?_
 exact OQ):G:=h
def Zb3 (h:G:=by
 refine rM ?_
 refine rY 42 ?_
 refine kS ?_
 exact OR):G:=h
def OS (h:G:=by
 refine RU ?_
 refine Zly ?_
 exact (bi 2 (bi _ (aI aj (aI (by refine dS ?_;rw [hys];exact rfl) (aI jg (aI (fun h=>nomatch h) (aI (by refine dQ ?_;rw [hys];rfl) tI)))))))):G:=h
def Zbg (h:G:=by
 refine bO ?_
 refine nx (k+1) ab (f:=(by exact aI (by rw [ny hlt,bo];exact rfl) tI))):G:=h
def Zbj (h:G:=by
 have hno:iX s=none:=anN gI
 refine sS [0,2,3,4,5,6,7] [2,5] ?_
 exact OQ):G:=h
def Zbo (h:G:=by
 have hno:iX s=none:=anN gI
 refine vY ?_
 exact OQ):G:=h
def Zbq (h:G:=by
 refine cn ?_
 exact (aI (by refine eY ?_;exact gF (by unfold eW;rw [if_neg oU])) tI)):G:=h
def Zbz (h:G:=by
 refine cn ?_
 exact (aI (by refine eY ?_;exact gF (by unfold gw;rw [if_neg oU])) tI)):G:=h
def Zc2 (h:G:=by
 refine DK ?_
 exact (aI (by refine eY ?_;exact gF (by unfold gw;rw [if_pos hok,if_pos k1])) tI)):G:=h
def Zc4 (h:G:=by
 refine DK ?_
 exact (aI (by refine eY ?_;exact gF (by unfold gw;rw [if_pos hok,if_neg k1,if_pos k2])) tI)):G:=h
def Zc5 (h:G:=by
 refine dA 16383 ?_ (x:=cZ)
 refine dA 32767 ?_ (x:=sA)
 refine cP ?_
 exact (aI (by refine eY ?_;exact gF (by unfold gw;rw [if_pos hok,if_neg k1,if_neg k2])) tI)):G:=h
def Zc9 (h:G:=by
 refine cn ?_
 exact (aI (by refine eY ?_;exact gF (by unfold gQ;rw [if_neg oU])) tI)):G:=h
def Zcb (h:G:=by
 refine dA 255 ?_ (x:=cZ)
 refine dA 511 ?_ (x:=sA)
 refine cP ?_
 exact (aI (by refine eY ?_;exact gF (by unfold gQ;rw [if_pos hok,if_pos k1])) tI)):G:=h
def Zcc (h:G:=by
 refine DK ?_
 exact (aI (by refine eY ?_;exact gF (by unfold gQ;rw [if_pos hok,if_neg k1,if_pos k2])) tI)):G:=h
def Zcd (h:G:=by
 refine dI ?_
 exact (aI (by refine eY ?_;exact gF (by unfold gQ;rw [if_pos hok,if_neg k1,if_neg k2,if_pos k3])) tI)):G:=h
def Zce (h:G:=by
 refine DK ?_
 exact (aI (by refine eY ?_;exact gF (by unfold gQ;rw [if_pos hok,if_neg k1,if_neg k2,if_neg k3])) tI)):G:=h
def Zcf (h:G:=by
 refine rS ?_
 refine dI ?_
 exact (aI (by refine cW ?_;exact rfl) (aI (by refine dQ ?_;first|exact rfl|(simp_all;done)) tI))):G:=h
def Zch (h:G:=by
 refine cP ?_
 exact (aI (by refine cW ?_;rw [hr]) tI)):G:=h
def Zcg (h:G:=by
 have hr:kb (u8 b) s = -100000:=azd me
 refine mw ?_
 refine rK ?_
 exact Zch):G:=h
def Zcj (h:G:=by
 refine cP ?_
 exact (aI (by refine cW ?_;rw [hr]) (aI (by refine cW ?_;rw [hr]) tI))):G:=h
def HL (h:G:=by
 refine rA ?_ (x:=cz (qs:=[]) (cs:=jL) ak lM yg Vz aj ao rfl aj)
 refine xR ?_
 refine cn ?_
 exact (bi 2 (bi _ (aI aj (aI (by refine dS ?_;rw [hno];exact rfl) (aI gD (aI (fun h=>nomatch h) (aI (by refine dQ ?_;rw [hno];rfl) tI)))))))):G:=h
def OT (h:G:=by
 have hno:fY s=none:=an7 (Or.inl (by have hx_:¬(4≤(aq 32 s).length∧(aq 32 s).length%2=0∧(aq 32 s).length≤10):=(by rintro ⟨a_,b_,c_⟩;first|omega|(simp_all;omega)|(simp_all;done));unfold BA;rw [decide_eq_false hx_];rfl))
 refine sS [0,2,3,4,5,7000] [2] ?_
 exact HL):G:=h
def CB (h:G:=by
 refine rS ?_
 refine sG [0,2,3,4,5,6,7,8,9,11,12,13,14,15,16,17,18,19,20,21,22,23,7000] [2,12] ?_
 refine bO ?_
 refine nx (k+1) ab (e:=(by exact aI (by exact dQ (by rw [ayC];first|(simp_all [yD,sy,fB,iv];done)|(simp_all [yD,sy];done)|(simp [yD,sy];simp_all;done))) (aI na tI))) (f:=(by exact aI (by rw [ayB,bo];exact rfl) tI))):G:=h
def OU (h:G:=by
 refine rM ?_
 refine rN 124 ?_
 refine Ac ?_
 exact CB):G:=h
def Zd7 (h:G:=by
 refine rM ?_
 refine rN 121 ?_
 refine Ac ?_
 exact OU):G:=h
def HM (h:G:=by
 have hno:fY s=none:=an7 (by unfold BA;simp_all)
 refine sS [0,2,3,4,5,6,7,8,9,11,12,13,14,7000] [2,12] ?_
 exact HL):G:=h
def Zd8 (h:G:=by
 refine rM ?_
 refine rY 134 ?_
 refine kS ?_
 exact HM):G:=h
def Zdg (h:G:=by
 refine zot ?_
 refine cn ?_
 exact (bi 2 (bi _ (aI aj (aI (by refine dS ?_;rw [hys];exact rfl) (aI gD (aI (fun h=>nomatch h) (aI (by refine dQ ?_;rw [hys];rfl) tI)))))))):G:=h
def Zda (h:G:=by
 refine sc ?_ ?_<;>intro hbc
 exact HM
 have hys:=ayL (s:=s) cS cS
 refine aK ?_
 refine sS [0,2,3,4,5,6,7,8,9,11,12,13,14,7000] [2,12] ?_
 exact Zdg):G:=h
def Zcq (h:G:=by
 refine dr ?_
 refine sS [0,2,3,4,5,6,7,8,9,11,12,13,7000] [2,12] ?_
 refine cm ?_
 refine Zcs ?_
 rintro k hk
 refine bI ?_
 refine xC ?_
 refine dC ?_
 refine sc ?_ ?_<;>intro hbb
 have hlt:k < (((aq 32 s).length - 4) / 2):=ab
 have h2w:2+2 * k < (aq 32 s).length:=ab
 have h3w:3+2 * k < (aq 32 s).length:=ab
 have hcl:=anX (aq 32 s) k
 have hw2:=ij 32 s (2+2 * k)
 have hw3:=ij 32 s (3+2 * k)
 have hca:=Fw ((aq 32 s).getD (3+2 * k) []) [46,46]
 have hcz:=Fy ((aq 32 s).getD (3+2 * k) []) [46,46]
 refine aY ?_
 refine JU ?_
 refine Zcu ?_
 refine Zcv ?_
 refine xI ?_
 refine Zcw ?_
 refine qb ?_
 refine Qe ?_
 refine Zcy ?_
 refine Dj ?_
 refine oq ?_
 refine rS ?_
 refine Zcz ?_
 refine Zd0 ?_
 refine Zd1 ?_
 refine gn ?_
 refine rM ?_
 refine Zd2 ?_
 refine Zd3 ?_
 refine Zd4 ?_
 refine gn ?_
 refine cx 118 ?_ ?_<;>intro ge sge
 refine rB ge ?_ (x:=sM)
 refine Ar ?_
 refine cx 121 ?_ ?_<;>intro gf sgf
 refine rB gf ?_ (x:=sM)
 refine rA ?_ (x:=cd gf)
 refine rM ?_
 refine cx 124 ?_ ?_<;>intro gg sgg
 refine rB gg ?_ (x:=sM)
 refine rA ?_ (x:=cd gg)
 exact CB
 refine bS.s0f gg ?_
 refine rA ?_ (x:=bF gg)
 exact CB
 refine bS.s0f gf ?_
 refine rA ?_ (x:=bF gf)
 exact OU
 refine bS.s0f ge ?_
 refine rA ?_ (x:=bF ge)
 exact Zd7
 have hend:k=(((aq 32 s).length - 4) / 2):=ab
 subst hend
 refine gk ?_
 refine JU ?_
 refine rM ?_
 refine dq ?_
 refine cx 129 ?_ ?_<;>intro ge sge
 refine zt ge ?_
 refine rA ?_ (x:=cd ge)
 exact Zd8
 refine rB ge ?_ (x:=lD iB gD)
 refine rB ge ?_ (x:=cL il ju EA (hs:=WB))
 refine rB ge ?_ (x:=nT)
 refine rA ?_ (x:=bF ge)
 refine rM ?_
 refine cx 134 ?_ ?_<;>intro gf sgf
 refine Jz ?_
 refine fH ?_
 exact HM
 refine rB gf ?_ (x:=lD iB gD)
 refine rB gf ?_ (x:=gL il ju Tb (hs:=Ww))
 refine rB gf ?_ (x:=sM)
 refine rB gf ?_ (x:=to)
 refine rA ?_ (x:=bF gf)
 exact Zda):G:=h
def OV (h:G:=by
 refine Zlz ?_
 refine cP ?_
 exact (bi 2 (bi _ (aI aj (aI (by refine dS ?_;rw [hr];exact rfl) (aI mD (aI (fun h=>nomatch h) tI))))))):G:=h
def Zm0 (h:G:=by
 refine Zm1 ?_
 exact OV):G:=h
def Zdr (h:G:=by
 have hc1:(ws.getD 0 []=[100,101,108,101,116,101]∧ws.length=2):=eO
 have hr:=azk hc0 hc1
 have h1w:1 < ws.length:=ab
 refine sS [0,2,3,7000] [2,3] ?_
 refine QB ?_
 refine sW [0,2,3,7000] [2] [3] ?_
 refine Zm2 ?_
 refine xp ?_
 refine tB ?_
 exact Zm0):G:=h
def OW (h:G:=by
 have hc2:(ws.getD 0 []=[115,101,116]∧ws.length=4):=eO
 have hr:=azl hc0 hc1 hc2
 have h1w:1 < ws.length:=ab
 have h2w:2 < ws.length:=ab
 have h3w:3 < ws.length:=ab
 refine sS [0,2,3,7000] [2,3] ?_
 refine QB ?_
 refine sV [0,2,3,7000] [2] [3] ?_
 refine Zm2 ?_
 refine xp ?_
 refine tB ?_
 refine Zm1 ?_
 refine cv ?_
 refine rA ?_ (x:=aS (k:=2) ak dc (bq rfl) eb FT aj)
 refine pn ?_
 refine rA ?_ (x:=gL dl dl KD (hs:=by exact (LI (l:=[102]) (hw 2))))
 refine xp ?_
 refine rA ?_ (x:=lF we)
 refine tZ ?_
 refine sW [0,2,3,7000] [2] [3] ?_
 refine cv ?_
 refine rA ?_ (x:=aS (k:=3) ak dc (bq rfl) eb Me aj)
 refine pn ?_
 refine rA ?_ (x:=gL aM aM Tp (hs:=by exact (Vy (hw 3))))
 refine xp ?_
 refine rA ?_ (x:=lF qp)
 exact Zm0):G:=h
def HN (h:G:=by
 have hc2:¬(ws.getD 0 []=[115,101,116]∧ws.length=4):=eO
 have hr:=azm hc0 hc1 hc2
 refine aK ?_
 refine sS [0,2,3,7000] [2,3] ?_
 exact OV):G:=h
def OX (h:G:=by
 refine AC ?_
 exact HN):G:=h
def Zdx (h:G:=by
 have hc1:¬(ws.getD 0 []=[100,101,108,101,116,101]∧ws.length=2):=eO
 refine Dz ?_
 refine rz ?_
 refine cx 49 ?_ ?_<;>intro gc sgc
 refine QQ ?_
 refine Dl ?_
 refine rS ?_
 refine sc ?_ ?_<;>intro hbb
 exact OW
 exact HN
 exact OX):G:=h
def OY (h:G:=by
 refine Zm4 ?_
 refine Ep ?_
 refine cn ?_
 exact (bi 2 (bi _ (aI aj (aI (by refine dS ?_;rw [hno];exact rfl) (aI mD (aI (fun h=>nomatch h) (aI (by refine dQ ?_;rw [hno];rfl) tI)))))))):G:=h
def Ze0 (h:G:=by
 have hno:fX s=none:=ax3 MJ
 refine sS [0,2,3,4,7000] [2,4] ?_
 exact OY):G:=h
def OZ (h:G:=by
 refine Zlz ?_
 refine cn ?_
 exact (bi 2 (bi _ (aI aj (aI (by refine dS ?_;rw [hys];exact rfl) (aI mD (aI (fun h=>nomatch h) (aI (by refine dQ ?_;rw [hys];rfl) tI)))))))):G:=h
def Ze6 (h:G:=by
 have hno:fX s=none:=anQ gI
 refine sS [0,2,3,4,5,6,7] [2,5,6] ?_
 exact OY):G:=h
def HO (h:G:=by
 have hno:fX s=none:=anQ gI
 refine vY ?_
 exact OY):G:=h
def Pa (h:G:=by
 refine tK ?_
 exact HO):G:=h
def Pb (h:G:=by
 have hys:=anR (s:=s) gI gI
 refine RC ?_
 exact OZ):G:=h
def Zeo (h:G:=by
 refine PP ?_
 refine qj ?_
 refine cx 60 ?_ ?_<;>intro gb sgb
 exact Pa
 refine If ?_
 refine DS ?_
 refine sc ?_ ?_<;>intro hbc
 exact HO
 exact Pb):G:=h
def Zec (h:G:=by
 refine ot ?_
 refine sU [0,2,3,4,5] [2] [5] ?_
 exact Zeo):G:=h
def Zej (h:G:=by
 refine PP ?_
 refine qj ?_
 refine cx 60 ?_ ?_<;>intro gb sgb
 exact Pa
 refine If ?_
 refine DS ?_
 refine sc ?_ ?_<;>intro hbd
 exact HO
 exact Pb):G:=h
def CC (h:G:=by
 refine Zm6 ?_
 refine Zm7 ?_
 exact (bi 2 (bi _ (aI aj (aI (by refine dS ?_;rw [hno];exact rfl) (aI si (aI (fun h=>nomatch h) (aI (by refine dQ ?_;rw [hno];rfl) tI)))))))):G:=h
def Zez (h:G:=by
 have hno:bE s=none:=an8 cS
 refine Sa ?_
 exact CC):G:=h
def CD (h:G:=by
 refine rA ?_ (x:=eP (ms:=tl) (qs:=wZ) ak si (fun h=>nomatch h) ay aj VY aQ)
 refine Zm7 ?_
 exact (bi 2 (bi _ (aI aj (aI (by refine dS ?_;rw [hys];exact rfl) (aI si (aI (fun h=>nomatch h) (aI (by refine dQ ?_;rw [hys];rfl) tI)))))))):G:=h
def Pc (h:G:=by
 have hno:bE s=none:=an8 cS
 refine Kd ?_
 exact CC):G:=h
def Zf4 (h:G:=by
 refine gY ?_
 exact Pc):G:=h
def Zf6 (h:G:=by
 have hys:=an9 (s:=s) cS cS
 refine aK ?_
 refine Kd ?_
 exact CD):G:=h
def Zf7 (h:G:=by
 refine ot ?_
 refine Zf3 ?_
 refine sG [0,2,3,4,5,6,7,18,7000] [2,7] ?_
 refine PD ?_
 refine dq ?_
 refine cx 68 ?_ ?_<;>intro ga sga
 exact Zf4
 refine PC ?_
 refine An ?_
 refine sc ?_ ?_<;>intro hbd
 exact Pc
 exact Zf6):G:=h
def Zfc (h:G:=by
 have hno:bE s=none:=UQ gI
 refine sS [0,2,3,4,5,6,7,8] [2,5,7] ?_
 exact CC):G:=h
def CE (h:G:=by
 have hno:bE s=none:=UQ gI
 refine vY ?_
 exact CC):G:=h
def Zfi (h:G:=by
 refine vH ?_
 exact CE):G:=h
def Pd (h:G:=by
 have hys:=UR (s:=s) gI gI
 refine RC ?_
 exact CD):G:=h
def Zfk (h:G:=by
 refine sc ?_ ?_<;>intro hbc
 exact CE
 exact Pd):G:=h
def Pe (h:G:=by
 refine vC ?_
 refine fH ?_
 exact CE):G:=h
def CF (h:G:=by
 have hno:bE s=none:=UQ gI
 refine sS [0,2,3,4,5,9,10] [2,5,9] ?_
 exact CC):G:=h
def HP (h:G:=by
 refine vC ?_
 refine fH ?_
 exact CF):G:=h
def HQ (h:G:=by
 have hys:=UR (s:=s) gI gI
 refine aK ?_
 refine sS [0,2,3,4,5,9,10] [2,5,9] ?_
 exact CD):G:=h
def Zfz (h:G:=by
 have hc2:¬((aq 32 s).length=2∧(aq 32 s).getD 0 []=[115,116,101,112]):=eO
 have hr:=Lv hc0 hc1 hc2
 refine Jl ?_
 refine IA ?_
 refine CQ ?_
 refine zH ?_
 refine rS ?_
 refine IT ?_
 refine tH ?_
 refine IV ?_
 refine qj ?_
 refine cx 86 ?_ ?_<;>intro gd sgd
 exact HP
 refine xJ ?_
 refine sc ?_ ?_<;>intro hbc
 exact CF
 exact HQ):G:=h
def Zg2 (h:G:=by
 have hc2:¬((aq 32 s).length=2∧(aq 32 s).getD 0 []=[115,116,101,112]):=eO
 have hr:=Lv hc0 hc1 hc2
 refine Jl ?_
 refine IA ?_
 refine CQ ?_
 refine zH ?_
 refine rS ?_
 refine IT ?_
 refine tH ?_
 refine IV ?_
 refine qj ?_
 refine cx 86 ?_ ?_<;>intro gd sgd
 exact HP
 refine xJ ?_
 refine sc ?_ ?_<;>intro hbb
 exact CF
 exact HQ):G:=h
def Zg0 (h:G:=by
 have hc1:¬((aq 32 s).length=2∧(aq 32 s).getD 0 []=[99,97,110,99,101,108]):=eO
 refine tD ?_
 refine iC ?_
 refine cx 73 ?_ ?_<;>intro gc sgc
 have h0w:0 < (aq 32 s).length:=MC
 have sgc:=gc
 try simp only [qq] at sgc
 refine Ik ?_
 refine JC ?_
 refine rS ?_
 refine sc ?_ ?_<;>intro hbb
 have hc2:((aq 32 s).length=2∧(aq 32 s).getD 0 []=[115,116,101,112]):=eO
 have hr:=UW hc0 hc1 hc2
 have h1w:1 < (aq 32 s).length:=ab
 refine xr ?_
 refine CR ?_
 refine tH ?_
 refine CO ?_
 refine Ab ?_
 refine cx 86 ?_ ?_<;>intro gd sgd
 exact Pe
 refine xJ ?_
 exact Zfk
 exact Zfz
 refine AC ?_
 exact Zg2):G:=h
def Zg1 (h:G:=by
 refine sc ?_ ?_<;>intro hbb
 exact CE
 exact Pd):G:=h
def Zg3 (h:G:=by
 have hok:(bA r&&bp q)=false:=by cases h1:bA r<;>cases h2:bp q<;>simp_all
 refine sS [2,3,4,5] [2,3] ?_
 refine jN ?_
 exact (aI (by refine bC ?_;unfold sr;rw [if_neg oU];rfl) tI)):G:=h
def Pf (h:G:=by
 have hfin:(k=q.Out.length∧(bA r&&bp q)=true)∨(k=0∧(q.Out.length=0∨(bA r&&bp q)=false)):=by
  by_cases h0k:0 < k
  ·left
   have h1:=ha h0k
   refine ⟨?_,by rw [h1.1,h1.2];rfl⟩
   by_cases hka:k=q.Out.length
   ·exact hka
   ·exfalso
    have:k < q.Out.length:=ab
    simp_all
  ·right
   refine ⟨ab,?_⟩
   by_cases hka:q.Out.length=0
   ·exact .inl hka
   ·right
    have:k < q.Out.length:=ab
    cases h1:bA r<;>cases h2:bp q<;>simp_all
 refine be ?_
 refine sT [2,3,4,5,6] [2,3] ?_
 refine jN ?_
 exact (aI (by refine bC ?_;rw [axC hfin]) tI)):G:=h
def Zm9 (h:G:=by
 refine cn ?_
 exact (aI (by refine eY ?_;exact gF (by unfold qH;rw [if_neg (by rw [hbad];simp)])) tI)):G:=h
def Zg5 (h:G:=by
 have hbad:(bp x.aC7&&iD x.Rows)=false:=WY
 refine tY ?_
 exact Zm9):G:=h
def Zg7 (h:G:=by
 have hbad:(bp x.aC7&&iD x.Rows)=false:=WY
 refine oy ?_
 exact Zm9):G:=h
def Zg8 (h:G:=by
 refine sP [1,2,3,4] [1] ?_
 refine xu ?_
 refine dA 0 ?_ (x:=lF pA)
 refine dA 2 ?_ (x:=lD [sl .v _] iU)
 refine dt ?_
 refine dA 14 ?_ (x:=aS ak iu ao aj bD aj)
 refine dA 30 ?_ (x:=cr ak kW ay)
 refine dA 62 ?_ (x:=lE [val _] aV)
 refine dA 126 ?_ (x:=cL aM aM iG (hs:=iw))
 refine IR ?_
 refine dA 0 ?_ (x:=lF pz)
 refine dA 1024 ?_ (x:=lD iB gD)
 refine dA 0 ?_ (x:=lF pA)
 refine dA 4096 ?_ (x:=lD [sl .v _] iU)
 refine dt ?_
 refine dA 28672 ?_ (x:=aS ak iu ao aj bD aj)
 refine dA 61440 ?_ (x:=lE mo jg)
 refine dA 130302 ?_ (x:=cL NA NB avh (hs:=by exact aAE))
 refine dA 261374 ?_ (x:=cL cf cC Tv (hs:=by exact (TF hpj.2 ab)))
 refine dA 524287 ?_ (x:=cZ)
 refine dA 1048575 ?_ (x:=sA)
 refine DF ?_
 refine nx (k+1) ab (e:=(by exact aI (by first|exact congrArg (fun z=>some (RV.sc (.string (B z)))) (by rw [ny hlt,pv,if_neg (anp hlt hk0)];simp [mV,bn])|exact congrArg (fun z=>some (RV.sc (.string (B z)))) (by rw [ny hlt,pv,if_pos (by subst hk0;rfl)];subst hk0;simp [mV,EH,bn])) (aI aj tI)))):G:=h
def Zga (h:G:=by
 refine cP ?_
 exact (aI (by refine eY ?_;exact gF (by unfold qH;rw [if_pos BH,←hle];first|rw [if_pos he]|rw [if_neg he])) tI)):G:=h
def Zma (h:G:=by
 refine cn ?_
 exact (aI (by refine eY ?_;exact gF (by unfold qP;rw [if_neg (by rw [hbad];simp)])) tI)):G:=h
def Zgc (h:G:=by
 have hbad:(cy s&&aF i 0 (s.aC5.length - 1))=false:=Gq
 refine sS [1,2,4,7000] [2] ?_
 exact Zma):G:=h
def Zge (h:G:=by
 refine sG [1,2,4,5,7,8,26,27,28,7000] [2,7] ?_
 refine vu ?_
 refine As ?_
 refine sG [1,2,4,5,7,8,26,27,28,7000] [2,7] ?_
 refine cc ?_
 refine nx (k+1) ab (e:=(by exact aI (by exact bC (by rw [ny hlt,bo];first|(simp [mX,hd,fm,bn];done)|(rw [mX,if_neg hd];simp [fm,bn]))) (aI aj tI)))):G:=h
def Zgg (h:G:=by
 have hbad:(cy s&&aF i 0 (s.aC5.length - 1))=false:=Gq
 refine sS [1,2,4] [2] ?_
 exact Zma):G:=h
def Zmb (h:G:=by
 refine sG [1,2,4,5,6,7] [2,7] ?_
 refine bO ?_
 refine nx (k+1) ab (e:=(by exact aI (by first|exact congrArg (fun z=>some (RV.sc (.string (B z)))) (by rw [ny hlt,pv,if_neg (anp hlt hk0)];simp [mX,fJ,hd,EH,bn])|exact congrArg (fun z=>some (RV.sc (.string (B z)))) (by rw [ny hlt,pv,if_pos (by rw [hk0];rfl)];subst hk0;simp [mX,fJ,hd,EH,bn])) (aI aj tI)))):G:=h
def Zgi (h:G:=by
 refine bg ?_
 refine sP [1,2,4,5,6,7] [2,7] ?_
 refine xu ?_
 refine dA 0 ?_ (x:=lF yo)
 refine dA 2 ?_ (x:=lD [val _] aV)
 refine dA 0 ?_ (x:=lF qz)
 refine Ed ?_
 refine dA 30 ?_ (x:=cz (qs:=uZ) (cs:=iA) ak jh nB aAH aj iY rfl aj)
 refine dA 62 ?_ (x:=cL jK ly Tj (hs:=by exact (Vw (r:=fJ s.aC5[i.toNat][k]))))
 refine dA 127 ?_ (x:=cZ)
 refine dA 255 ?_ (x:=cZ)
 refine dA 0 ?_ (x:=lF nH)
 refine dA 512 ?_ (x:=lD [val _] aV)
 refine dA 1662 ?_ (x:=cL aM aM iG (hs:=iw))
 refine dA 4095 ?_ (x:=cZ)
 refine dA 8191 ?_ (x:=sA)
 refine sS [1,2,4,5,6,7] [2,7] ?_
 refine IP ?_
 refine nu ?_
 refine sc ?_ ?_<;>intro hbd
 have hd:=hbd
 refine sG [1,2,4,5,6,7] [2,7] ?_
 refine rF ?_
 refine IP ?_
 refine Df ?_
 refine rS ?_
 exact Zmb
 have hd:s.aC5[i.toNat][k].aDg = -1:=oX
 refine aK ?_
 exact Zmb):G:=h
def Zgj (h:G:=by
 refine cP ?_
 exact (aI (by refine eY ?_;exact gF (by unfold qP;rw [if_pos BH,hgd,←hle];first|rw [if_pos he]|rw [if_neg he])) tI)):G:=h
def Zgl (h:G:=by
 refine dI ?_
 exact (aI (by refine eY ?_;exact gF rfl) tI)):G:=h
def Zgs (h:G:=by
 refine sG [1,2,4,5,6,8,22,23,24] [2] ?_
 refine cc ?_
 refine nx (k+1) ab (e:=(by exact aI (by first|exact congrArg (fun z=>some (RV.sv false [sl .v (List.map ar z)])) (Kw hlt hc).symm|exact congrArg (fun z=>some (RV.sv false [sl .v (List.map ar z)])) (Kx hlt hc).symm) (aI aj tI)))):G:=h
def Zgu (h:G:=by
 refine sG [1,2,4,5,6,7,8,9] [2] ?_
 refine bO ?_
 refine nx (k+1) yW (e:=(by exact aI (by exact congrArg (fun z=>some (RV.sv false [sl .v (List.map ar z)])) hsb.1.symm) (aI (by exact cW hsb.2.symm) (aI aj tI))))):G:=h
def Zgt (h:G:=by
 have hsb:=asN (x:=x) (l:=l) hlt (by first|exact .inl hk0e|exact .inr ab)
 refine sS [1,2,4,5,6,7,8,9] [2] ?_
 refine iO ?_
 refine Zgp ?_
 refine ox ?_
 refine sG [1,2,4,5,6,7,8,9] [2] ?_
 refine tP ?_
 exact Zgu):G:=h
def Zgv (h:G:=by
 have hfin:(k=di.length∧fb x=true)∨(k=0∧(di.length=0∨fb x=false)):=by
  by_cases h0k:0 < k
  ·left
   have h1:=ha h0k
   refine ⟨?_,h1⟩
   by_cases hka:k=di.length
   ·exact hka
   ·exfalso
    have hlt_:k < di.length:=ab
    have hlt2_:(k:Int) < (di.length:Int):=ab
    first|omega|simp_all
  ·right
   refine ⟨ab,?_⟩
   by_cases hka:di.length=0
   ·exact .inl hka
   ·right
    have hlt_:k < di.length:=ab
    have hlt2_:(k:Int) < (di.length:Int):=ab
    rw [←Bool.not_eq_true];intro hc_;simp_all
 refine be ?_
 refine sT [1,2,4,5,6,7,8] [2] ?_
 refine QL ?_
 refine cP ?_
 exact (aI (by refine bC ?_;rw [asR hfin]) tI)):G:=h
def Zgw (h:G:=by
 refine xd (s:=2) [sl _ _] aj gS fp ?_
 refine cP ?_
 exact (aI (by refine bC ?_;unfold oK;rw [if_neg oU];rfl) tI)):G:=h
def Zgz (h:G:=by
 refine ox ?_
 refine cP ?_
 exact (aI (by refine bC ?_;unfold oK;rw [if_pos hok]) tI)):G:=h
def Zmc (h:G:=by
 refine AD ?_
 exact (bi 4 (bi _ (aI aj (aI (by refine dS ?_;rw [hr];exact rfl) (aI dg (aI (fun h=>nomatch h) (aI (by refine dQ ?_;rw [hr]) tI)))))))):G:=h
def Pg (h:G:=by
 have hr:=aoj (e:=e) (o:=o) Mw
 refine Eh ?_
 exact Zmc):G:=h
def Zh0 (h:G:=by
 refine gY ?_
 exact Pg):G:=h
def Zh3 (h:G:=by
 refine rA ?_ (x:=lF EO)
 refine xS ?_
 refine xW ?_
 exact Zmc):G:=h
def Zh5 (h:G:=by
 obtain ⟨us0,r0,rfl,hl0,hR0,hU1⟩:=kg.cons hU0
 obtain ⟨u1_0_0,u1_0_1,u1_0_2,u1_0_3,u1_0_4,u1_0_5,u1_0_6,u1_0_7,rfl⟩:=arE hl0
 obtain rfl:=ze hR0 (j:=1) rfl rfl
 obtain rfl:=ze hR0 (j:=2) rfl rfl
 obtain rfl:=ze hR0 (j:=7) rfl rfl
 obtain ⟨us1,r1,rfl,hl1,hR1,hU2⟩:=kg.cons hU1
 obtain ⟨u1_1_0,rfl⟩:=Es hl1
 obtain rfl:=ze hR1 (j:=0) rfl rfl
 obtain rfl:=kg.nil hU2
 clear hR0 hU0 hR1 hU1 hU2
 refine cu.stepC 15 oT ao (dj.of rfl (GN (.inl rfl) ak)) mm au uH ?_
 refine cu.stepC 31 oT ao (dj.of rfl (rp (cs:=[val _,val _,val _,val _,val _,val _,val _,val _]) ak aj aQ)) mm au uH ?_
 refine cu.stepC 31 oT ao (dj.of rfl (rp (cs:=[val _]) ak aj mZ)) mm au uH ?_
 refine cu.stepC 0 ao ao (dj.of rfl (gW ak sk sq)) (uT (en.wr (en.app (en.app (en.app (en.of_ rfl) rfl) rfl) rfl) rfl)) au (by intro L' h;exact Option.some.inj (show some _=some L' from h)) ?_
 refine cu.stepC 191 Mh oT (dj.of rfl (bR (ag:=true) (vs:=[val _,val _,val _,val _,val _,val _,val _,val _]) dg ao aj ay)) mm au uH ?_
 refine Zmd ?_
 refine Yp (d:=3) (G:=2000) aj (by exact (Nm.val (Nm.val (Nm.val (Nm.val (Nm.val (Nm.val (Nm.val (Nm.val Nm.nil))))))))) aj ?_
 refine zg (s:=4) (G:=2001) aj BI rfl ak aj ?_
 refine sV [1,2,3,4] [1,2] [3] ?_
 exact ztn):G:=h
def Zh8 (h:G:=by
 refine bO ?_
 refine nx (k+1) ab (e:=oa) (f:=(by exact aI (by rw [aAe hns];exact rfl) tI))):G:=h
def HR (h:G:=by
 have hend:k=200∨pH (eA e k)=true:=by unfold pH;first|(left;omega)|(right;first|(simp_all;done)|(simp_all;omega))|(left;simp_all;omega)
 have hfe:=aAb hk hend
 refine be ?_
 refine sT [1,2,3,4] [1,2,3] ?_
 refine ph ?_
 refine cP ?_
 exact (bi 2 (bi _ (aI aj (aI (by refine dS ?_;rw [←hfe];exact rfl) (aI dg (aI (fun h=>nomatch h) tI))))))):G:=h
def Zha (h:G:=by
 refine tL ?_
 exact HR):G:=h
def Zhb (h:G:=by
 refine dz ?_
 refine gB ?_
 exact HR):G:=h
def Zme (h:G:=by
 refine cP ?_
 exact (bi 4 (bi _ (aI aj (aI (by refine dS ?_;rw [hr];try exact rfl) (aI ux (aI (fun h=>nomatch h) (aI (by refine dQ ?_;rw [hr]) tI)))))))):G:=h
def Ph (h:G:=by
 refine Zmf ?_
 exact Zme):G:=h
def Zhc (h:G:=by
 refine rA ?_ (x:=cz (qs:=[]) (cs:=vb) ak qB EW aBA aj ao rfl aj)
 exact Ph):G:=h
def Zmg (h:G:=by
 refine Zko ?_
 exact (bi 4 (bi _ (aI aj (aI (by refine dS ?_;rw [Vi hno];exact rfl) (aI iH (aI (fun h=>nomatch h) (aI (by refine dQ ?_;rw [Vi hno]) tI)))))))):G:=h
def Pi (h:G:=by
 have hno:nX [] n=false:=by rw [←Bool.not_eq_true];intro hc_;obtain ⟨h1_,h2_,h3_⟩:=LD hc_;first|omega|(simp_all [aF];done)|(simp_all [aF];omega)
 refine sS [0,1,4,5] [4] ?_
 refine rA ?_ (x:=cz (qs:=[]) (cs:=jM) ak ES EV aph aj ao rfl aj)
 exact Zmg):G:=h
def CG (h:G:=by
 refine cP ?_
 exact (bi 4 (bi _ (aI aj (aI (by refine dS ?_;first|(simp only [hr];done)|(simp only [hr,hrp];done)|(rw [hr];first|done|exact rfl|(rw [hrp];exact rfl))) (aI dg (aI (fun h=>nomatch h) (aI (by refine eY ?_;first|(simp only [hr];done)|(simp only [hr,hrp];done)|(rw [hr];first|done|exact rfl|(rw [hrp];exact rfl))) tI)))))))):G:=h
def Zhn (h:G:=by
 refine dA 7 ?_ (x:=bR (ag:=true) (vs:=dV) dg ao aj ay)
 refine dA 15 ?_ (x:=sA)
 exact CG):G:=h
def Zho (h:G:=by
 refine Ic ?_
 refine rK ?_
 exact CG):G:=h
def CH (h:G:=by
 refine cP ?_
 exact (aI (by refine eY ?_;rw [hr];try exact rfl) tI)):G:=h
def zC (h:G:=by
 refine rK ?_
 exact CH):G:=h
def Zhp (h:G:=by
 have hr:=ao6 (e:=e) (w:=w) (s:=s) (by rintro ⟨a_,b_⟩;first|omega|(simp_all;done)|(simp_all;omega))
 refine sS [1,2,3,6,7,8,7000] [3] ?_
 exact zC):G:=h
def Zhv (h:G:=by
 refine aK ?_
 refine AR ?_
 exact zC):G:=h
def CJ (h:G:=by
 refine cP ?_
 exact (bi 4 (bi _ (aI aj (aI (by refine dS ?_;rw [hr];try exact rfl) (aI dg (aI (fun h=>nomatch h) (aI (by refine eY ?_;rw [hr];try exact rfl) tI)))))))):G:=h
def HS (h:G:=by
 refine Ic ?_
 refine rK ?_
 exact CJ):G:=h
def Zi0 (h:G:=by
 have hr:=aoT (e:=e) hit ab
 refine yb ?_
 exact HS):G:=h
def Zmi (h:G:=by
 refine ph ?_
 refine rK ?_
 refine vf (d:=4) lB aj BF aQ ?_
 exact CJ):G:=h
def Zmj (h:G:=by
 refine sS [1,2,4,5,6,11,12,13,14,7000] [2,4,11,13] ?_
 exact Zmi):G:=h
def Zi8 (h:G:=by
 have hr:=(VL hit hsg hpe).trans (by rw [hd_];rfl:_=((dv e ((bE l).getD cH)).1,([110,111]:an)))
 exact Zmj):G:=h
def Zi9 (h:G:=by
 have hr:=VM hit hsg hpe hd_
 refine aK ?_
 exact Zmj):G:=h
def Zib (h:G:=by
 have hw1:(aq 32 l).length=1:=ab
 have hr:=hr0.trans (LR hw1)
 refine bg ?_
 refine sP [1,2,4,5,6,11,12,74,7000] [2,4,11] ?_
 refine tv ?_
 refine my ?_
 refine dA 2 ?_ (x:=aS (k:=0) ak dc (bq rfl) eb sE aj)
 refine dA 6 ?_ (x:=lE [val _] jA)
 refine dA 15 ?_ (x:=gL lz kK atQ (hs:=by exact (aBK (e:=e) ab hi ab)))
 refine dA 31 ?_ (x:=rp (cs:=dV) ak aj aQ)
 refine dA 31 ?_ (x:=rp (cs:=[val _]) ak aj mZ)
 refine Zhl ?_
 exact CJ):G:=h
def Zic (h:G:=by
 have hw2:(aq 32 l).length=2:=ab
 have h1w:1 < (aq 32 l).length:=ab
 have hr:=hr0.trans (aoX hw2)
 refine bg ?_
 refine sP [1,2,4,5,6,11,12,74,7000] [2,4,11] ?_
 refine tv ?_
 refine Zmk ?_
 refine dA 4 ?_ (x:=aS (k:=0) ak dc (bq rfl) eb sE aj)
 refine dA 12 ?_ (x:=lE [val _] jA)
 refine my ?_
 refine dA 32 ?_ (x:=aS (k:=1) ak dc (bq rfl) eb FU aj)
 refine dA 96 ?_ (x:=lE [val _] jA)
 refine dA 254 ?_ (x:=gL YQ YR atR (hs:=by exact (aBL (e:=e) ab ab ab)))
 refine dA 511 ?_ (x:=bR (ag:=true) (vs:=dV) dg ao aj ay)
 refine dA 1023 ?_ (x:=sA)
 exact CJ):G:=h
def Pj (h:G:=by
 refine sG [1,2,4,5,6,11,12,15,17,18,19,74,99,100,101,7000] [2,4,11] ?_
 refine cc ?_
 refine nx (k+1) ab (e:=(by exact aI (by first|exact bC (by rw [aA7 hlt hnm,bo,bo];rfl)|exact bC (by rw [aA8 hlt hnm])) (aI aj tI)))):G:=h
def Zii (h:G:=by
 refine sG [1,2,4,5,6,11,12,15,17,18,19,74,99,100,101,7000] [2,4,11] ?_
 refine Az ?_
 exact Pj):G:=h
def Zin (h:G:=by
 have ho_:(aq 32 l).getD 0 []=[111,114,100,101,114]∧(fM e (oR (aq 32 l))).2=true:=eO
 have hoo:=aBi ho_.2
 have hr:=hr0.trans (aoY hw4 ho_.1 (by rw [←hos.1];exact hoo))
 rw [←hos.2 (by rw [←hos.1];exact hoo)] at hr
 refine sS [1,2,4,5,6,11,12,15,20,21,74,99,100,101,7000] [2,4,11,20] ?_
 exact Zmi):G:=h
def Pk (h:G:=by
 have ho_:¬((aq 32 l).getD 0 []=[111,114,100,101,114]∧(fM e (oR (aq 32 l))).2=true):=eO
 have hr:=hr0.trans (VN (e:=e) hn1 hn2 (fun z=>ho_ ⟨z.2.1,aBj hi.ok (by rw [hos.1];exact z.2.2)⟩))
 refine aK ?_
 refine sS [1,2,4,5,6,11,12,15,20,21,74,99,100,101,7000] [2,4,11,20] ?_
 exact HS):G:=h
def Zip (h:G:=by
 refine Jm ?_
 refine gB ?_
 exact Pk):G:=h
def Ziq (h:G:=by
 have hr:=hr0.trans (VN (e:=e) hn1 hn2 (fun z=>by omega))
 refine aK ?_
 refine Kb ?_
 exact HS):G:=h
def Zml (h:G:=by
 have hr:=VP (s:=s) (by rw [hle];first|omega|(simp_all;done)|(simp_all;omega))
 refine tU ?_
 exact zC):G:=h
def Zmm (h:G:=by
 refine cc ?_
 refine nx (k+1) ab (e:=(by exact aI (by first|exact congrArg (fun z=>some (RV.sc (.string (B z)))) (by rw [hcs])|exact congrArg (fun z=>some (RV.sc (.string (B z)))) (by rw [hcs];rfl)) (aI aj tI))) (f:=XA)):G:=h
def Ziu (h:G:=by
 refine bg ?_
 refine tU ?_
 refine rM ?_
 refine rA ?_ (x:=pg aBB)
 refine qf ?_
 refine cx 27 ?_ ?_<;>intro ga sga
 refine gY ?_
 exact Zml
 refine QP ?_
 refine rB ga ?_ (x:=iN)
 refine jQ ?_
 refine sc ?_ ?_<;>intro hbb
 exact Zml
 have h30:s.length≤3000:=me
 have h60:ls.length≤60:=me
 have hr:=apa h30 (by rw [hle];exact h60)
 rw [hle] at hr
 refine aK ?_
 refine tU ?_
 refine rA ?_ (x:=cz (qs:=[]) (cs:=dV) ak sk sq api aj ao rfl aj)
 refine kR ?_
 refine sQ [0,2,3,4,7000] [4] ?_
 refine Zmn ?_
 refine sH [0,2,3,4,7000] [4] ?_
 refine dp ?_
 refine sS [0,2,3,4,5,7000] [4] ?_
 refine nn ?_
 refine dm ?_
 refine sP [0,2,3,4,5,33,34,35,7000] [4] ?_
 refine sL [0,2,3,4,33,34,7000] [] (fun k:Nat=>k≤ls.length) (fun k:Nat=>[(5,RV.sc (.string (B (eE ls k).2))),(35,RV.int (k:Int))]) (fun k:Nat=>[(4,(46,[sl .v ((eE ls k).1.Store.aC5.map (aG .v .v)),val (vI (eE ls k).1.Store.Now),val (vI (eE ls k).1.aDa),sl .v ((eE ls k).1.Order.map ar),sl .v ((eE ls k).1.aC6.map (aO .v .v .v .v .v)),sl .v ((eE ls k).1.Done.map (bd .v .v .v .v)),sl .v ((eE ls k).1.aDi.map (ba .v .v .v)),val (vI (eE ls k).1.Steps)]))]) (fun k:Nat=>ls.length - k) 0 ab ej bu ?_
 rintro k hk
 have hcb:=aoP h60 k hk
 refine bP ?_
 refine sc ?_ ?_<;>intro hbc
 have hlt:k < ls.length:=Xc
 have hlm:=apd (s:=s) WF
 have hcs0:=VF hlt
 have hcl:=VK hcb.1 ls[k]
 refine aY ?_
 refine sT [0,2,3,4,5,33,34,35,7000] [4] ?_
 refine zN ?_
 refine dr ?_
 refine sS [0,2,3,4,5,7,33,34,35,7000] [4] ?_
 refine JD ?_
 refine sc ?_ ?_<;>intro hbd
 have hcs:eE ls (k+1)=eE ls k:=by rw [hcs0,show ls[k]=[] by simpa using hbd,ao8]
 refine be ?_
 refine sG [0,2,3,4,5,7,33,34,35,7000] [4] ?_
 exact Zmm
 have hcs:=hcs0.trans (ao9 oX)
 refine aK ?_
 refine sS [0,2,3,4,5,7,33,34,35,7000] [4] ?_
 refine Dk ?_
 refine rA ?_ (x:=gL lz kK atn (hs:=by exact (aBM (e:=(eE ls k).1) (l:=ls[k]) ab hcb.1 ab)))
 refine xL ?_
 refine sV [0,2,3,4,5,7,8,9,33,34,35,7000] [4] [8] ?_
 refine Ic ?_
 refine sW [0,2,3,4,5,7,8,9,33,34,35,7000] [8] [4] ?_
 refine gn ?_
 refine Zmo ?_
 refine Zmo ?_
 refine rS ?_
 refine sG [0,2,3,4,5,7,8,9,33,34,35,7000] [4,8] ?_
 exact Zmm
 have hend:k=ls.length:=Xc
 subst hend
 refine be ?_
 refine sT [0,2,3,4,5,33,34,35,7000] [4] ?_
 refine tP ?_
 exact CH):G:=h
def Ziv (h:G:=by
 have hbad:eT wH bA yG l=false:=ud hlt (Bool.eq_false_iff.2 fun hx=>by
  have hx:=lK.1 hx
  rw [hgk] at hx
  obtain ⟨hx1,hx2⟩:=hx
  first
  | (simp_all;done)
  | (simp only [decide_eq_true_eq,yG] at *;by_cases h0:k=0<;>(try rw [hgp ab] at hx2)<;>omega))
 refine DZ ?_
 exact rb (by simp [ma,hbad])):G:=h
def Ziw (h:G:=by
 refine xz ?_
 refine bO ?_
 refine nx (k+1) (by exact ⟨ab,by rw [Ev,ha,Bool.true_and];refine lK.2 ⟨BO,?_⟩;rcases Nat.eq_zero_or_pos k with h0|h0;(· exact .inl h0);(· right;rw [hgk,hgp h0];first|(simp only [decide_eq_true_eq,yG] at *;omega)|(simp_all;done))⟩)):G:=h
def Pl (h:G:=by
 have hno:nX rows n=false:=by rw [←Bool.not_eq_true];intro hc_;obtain ⟨h1_,h2_,h3_⟩:=LD hc_;have h4_:aF n 1 8=true:=(by simp [aF];omega);(first|omega|(simp_all;done)|(simp_all;omega))
 refine Ziy ?_
 exact Zmg):G:=h
def Zj0 (h:G:=by
 have hr:fD e id=(FG,false):=by
  cases hoe:aU e with
  | false=>exact aow hoe
  | true=>exact aov hoe (by have hkL:k=e.Done.length:=me;rw [hkL,Nat.sub_self,List.drop_zero] at ha;exact ha)
 refine be ?_
 refine sT [1,2,4,6] [2,4] ?_
 refine rA ?_ (x:=cz (qs:=[]) (cs:=vb) ak qB EW aBW aj ao rfl aj)
 refine Zmf ?_
 refine vf (d:=4) vc aj LZ aQ ?_
 exact Zme):G:=h
def Pm (h:G:=by
 refine ox ?_
 refine dI ?_
 exact (aI (by refine bC ?_;first|rfl|(unfold jo;rfl)) (aI (by refine dQ ?_;first|(unfold nZ;simp_all;done)|(unfold nZ;simp_all;omega)|(symm;unfold nZ;simp_all;done)|(symm;unfold nZ;simp_all;omega)) tI))):G:=h
def Pn (h:G:=by
 exact absurd hba wP):G:=h
def HT (h:G:=by
 refine cP ?_
 exact (aI (by refine eY ?_;first|(rw [hr];done)|(rw [hr];exact rfl)|(rw [hr,hend,bG];done)|(rw [hr,hend,bG];exact rfl)) tI)):G:=h
def CK (h:G:=by
 refine rS ?_
 exact HT):G:=h
def Zj8 (h:G:=by
 refine sG [1,2,4,5,6,7,8] [2] ?_
 refine rM ?_
 refine iO ?_
 refine zN ?_
 refine Qy ?_
 refine sG [1,2,4,5,6,7,8] [2] ?_
 refine bO ?_
 refine nx (k+1) ab (e:=(by exact aI (by first|exact congrArg (fun z=>some (RV.sc (.string (B z)))) (aBy hlt hk0).symm|exact congrArg (fun z=>some (RV.sc (.string (B z)))) (by subst hk0;rw [aBz hlt];rfl)) (aI aj tI)))):G:=h
def Zjk (h:G:=by
 exact absurd gd wP):G:=h
def HU (h:G:=by
 have hc9:¬(ws.length=2∧ws.getD 0 []=([115,101,103,109,101,110,116]:an)∧aF (bT (ws.getD 1 [])) 0 (e.Store.aC5.length - 1)=true):=kF
 have hr:=aBt hc1 hc2 hc3 hc7 hc9
 refine aK ?_
 refine wa ?_
 refine rK ?_
 exact HT):G:=h
def Zja (h:G:=by
 have hc3:¬(ws.length=1∧ws.getD 0 []=([97,99,116,105,118,101]:an)):=kF
 refine nr ?_
 refine cx 78 ?_ ?_<;>intro gd sgd
 exact Zjk
 refine vz ?_
 refine rM ?_
 refine rN 84 ?_
 refine dz ?_
 refine qe ?_
 have hc7:¬(ws.length=2∧ws.getD 0 []=([114,101,115,117,108,116]:an)∧0≤bT (ws.getD 1 [])):=kF
 refine nr ?_
 refine cx 102 ?_ ?_<;>intro ge sge
 exact absurd ge wP
 refine Aj ?_
 refine rM ?_
 refine rN 108 ?_
 refine dz ?_
 refine qe ?_
 exact HU):G:=h
def Po (h:G:=by
 exact absurd gc wP):G:=h
def Pp (h:G:=by
 exact absurd gb wP):G:=h
def Pq (h:G:=by
 exact absurd ga wP):G:=h
def Zjg (h:G:=by
 have hc9:(ws.length=2∧ws.getD 0 []=([115,101,103,109,101,110,116]:an)∧aF (bT (ws.getD 1 [])) 0 (e.Store.aC5.length - 1)=true):=kF
 have hr:=aBs hc9
 refine wa ?_
 refine zV ?_
 refine rM ?_
 refine rA ?_ (x:=cL [(true,jM),(false,[val _])] Hb aur (hs:=by exact (aAJ (s:=e.Store) (i:=bT (ws.getD 1 [])) ab)))
 exact CK):G:=h
def Zji (h:G:=by
 refine zf gg ?_
 refine rA ?_ (x:=bF gg)
 refine qe ?_
 exact HU):G:=h
def Zjj (h:G:=by
 exact absurd gf wP):G:=h
def CL (h:G:=by
 refine cP ?_
 exact (bi 6 (bi _ (aI aj (aI (by refine dS ?_;first|(simp only [hr];done)|(rw [hr];first|done|exact rfl)) (aI dg (aI (fun h=>nomatch h) (aI (by refine dQ ?_;first|(rw [hh,hr];done)|(rw [hh,hr];exact rfl)|(rw [hh];exact aBu hsg hg)|exact (decide_eq_true hg).symm) (aI (by refine eY ?_;first|(simp only [hr];done)|(rw [hr];first|done|exact rfl)) tI))))))))):G:=h
def Zjm (h:G:=by
 refine rK ?_
 refine Zhk ?_
 exact CL):G:=h
def Pr (h:G:=by
 refine Dk ?_
 refine Ij ?_
 refine rK ?_
 exact CL):G:=h
def Zjo (h:G:=by
 have hr:=aoT hit hsz
 refine yc ?_
 exact Pr):G:=h
def Zmq (h:G:=by
 refine Zlv ?_
 refine Ij ?_
 exact Zjm):G:=h
def Zjs (h:G:=by
 refine sS [1,2,3,6,7,8,9,14,15,16,17] [3,6,14,16] ?_
 exact Zmq):G:=h
def Zjt (h:G:=by
 refine aK ?_
 refine sS [1,2,3,6,7,8,9,14,15,16,17] [3,6,14,16] ?_
 exact Pr):G:=h
def Zjx (h:G:=by
 have ho3:=aoL (LU hoc).1
 have hr:=hr0.trans (aoY (e:=e) (LU hoc).1 (LU hoc).2.1 (LU hoc).2.2)
 refine Qs ?_
 refine cv ?_
 refine rA ?_ (x:=cL Ch Ci al0 (hs:=by exact (aoG (e:=e) (o:=jo (aq 32 l)) ab ab)))
 refine xL ?_
 refine sV [1,2,3,6,7,8,9,14,15,18,19,20,21] [3,6,14] [20] ?_
 exact Zmq):G:=h
def Zjz (h:G:=by
 have hof:fZ e ((aq 32 l).getD 0 [])=(fP e,itoa ((fP e).Steps - e.Steps)):=by rw [hlf.2];exact ao0 e
 have hr:=(hr0.trans (LR hlf.1)).trans hof
 have hs1:=BD hi
 have hs2:=BD (LK hi)
 refine Qs ?_
 refine rA ?_ (x:=cL fi fu at1 (hs:=by exact (aBD (e:=e) ab)))
 refine kR ?_
 refine sU [1,2,3,6,7,8,9,14,15,18,19,22] [3,6,14] [22] ?_
 refine vf (d:=22) lB aj BF aQ ?_
 refine sU [1,2,3,6,7,8,9,14,15,18,19,22] [3,6,14] [22] ?_
 refine DV ?_
 refine vV ?_
 refine dA 4 ?_ (x:=lD [val _] aV)
 refine vV ?_
 refine dA 16 ?_ (x:=lD [val _] aV)
 refine dA 60 ?_ (x:=hP)
 refine dA 124 ?_ (x:=cL aM aM iG (hs:=iw))
 refine dA 253 ?_ (x:=bR (ag:=true) (vs:=dV) dg ao aj ay)
 refine dA 511 ?_ (x:=sA)
 refine dA 1023 ?_ (x:=sA)
 exact CL):G:=h
def Zk0 (h:G:=by
 have hof:fZ e ((aq 32 l).getD 0 [])=(fC e,yI (fC e).Order):=by rw [hla.2];exact aoZ e
 have hr:=(hr0.trans (LR hla.1)).trans hof
 have hoo:cb (fC e).Order=true:=(fO.1 (FI hi (oK e)).ok).od
 have hol3:=VR hoo
 have hoa:=VJ hoo
 have hi0:(itoa ((fC e).Order.getD 0 0)).length≤21:=bv br
 have hi1:(itoa ((fC e).Order.getD 1 0)).length≤21:=bv br
 have hi2:(itoa ((fC e).Order.getD 2 0)).length≤21:=bv br
 refine Qs ?_
 refine rA ?_ (x:=cL fi fu at2 (hs:=by exact (aAS (e:=e) ab)))
 refine kR ?_
 refine sU [1,2,3,6,7,8,9,14,15,18,19,23] [3,6,14] [23] ?_
 refine vf (d:=23) lB aj BF aQ ?_
 refine sU [1,2,3,6,7,8,9,14,15,18,19,23] [3,6,14] [23] ?_
 refine DV ?_
 refine AH ?_
 refine dA 4 ?_ (x:=lD [sl .v _] bZ)
 refine dA 12 ?_ (x:=aS (k:=0) ak bY (bq rfl) eb (by exact eQ ab (by rw [dM (l:=(fC e).Order) (i:=0) (d:=(0:Int)) ab])) aj)
 refine dA 28 ?_ (x:=lE [val _] aV)
 refine dA 60 ?_ (x:=cL aM aM iG (hs:=iw))
 refine dA 124 ?_ (x:=cZ (h:=BN))
 refine AH ?_
 refine dA 256 ?_ (x:=lD [sl .v _] bZ)
 refine dA 768 ?_ (x:=aS (k:=1) ak bY (bq rfl) eb (by exact eQ ab (by rw [dM (l:=(fC e).Order) (i:=1) (d:=(0:Int)) ab])) aj)
 refine dA 1792 ?_ (x:=lE [val _] aV)
 refine dA 3964 ?_ (x:=cL aM aM iG (hs:=iw))
 refine dA 8188 ?_ (x:=cZ (h:=BN))
 refine dA 16380 ?_ (x:=cZ (h:=BN))
 refine AH ?_
 refine dA 32768 ?_ (x:=lD [sl .v _] bZ)
 refine dA 98304 ?_ (x:=aS (k:=2) ak bY (bq rfl) eb (by exact eQ ab (by rw [dM (l:=(fC e).Order) (i:=2) (d:=(0:Int)) ab])) aj)
 refine dA 229376 ?_ (x:=lE [val _] aV)
 refine dA 499580 ?_ (x:=cL aM aM iG (hs:=iw))
 refine dA 1048572 ?_ (x:=cZ (h:=BN))
 refine dA 1023869 ?_ (x:=bR (ag:=true) (vs:=dV) dg ao aj ay)
 refine dA 3121023 ?_ (x:=sA)
 refine dA 8388607 ?_ (x:=sA)
 exact CL):G:=h
def Zk1 (h:G:=by
 have hr:=hr0.trans (aBn (e:=e) hna hnf hoc)
 refine cg ?_
 refine sP [1,2,3,6,7,8,9,14,15,18,19] [3,6,14] ?_
 refine DV ?_
 refine Zmk ?_
 refine dA 12 ?_ (x:=cL Ch Ci at3 (hs:=by exact (aB3 (e:=e) (ws:=(aq 32 l)) ab hi h0w (fun j=>Nat.le_trans (ij 32 l j) ab) ab)))
 refine dA 29 ?_ (x:=bR (ag:=true) (vs:=dV) dg ao aj ay)
 refine dA 63 ?_ (x:=sA)
 refine dA 127 ?_ (x:=sA)
 exact CL):G:=h
def Zms (h:G:=by
 refine bO ?_
 refine nx (k+1) ab (e:=(by exact aI (by first|exact congrArg (fun z=>some (RV.bool z)) (by rw [hcs])|exact congrArg (fun z=>some (RV.bool z)) (by rw [hcs];rfl)) (aI (by exact congrArg (fun z=>some (RV.sc (.string (B z)))) (by first|(rw [hcs];done)|(rw [hcs];exact bn _ _ _)|(rw [hcs,bn]))) (aI aj tI)))) (f:=XA)):G:=h
def Zk2 (h:G:=by
 refine bg ?_
 refine qk ?_
 refine nn ?_
 refine ov ?_
 refine sc ?_ ?_<;>intro hbc
 have hr:=VP (s:=s) (.inr (by rw [hle];omega))
 refine qk ?_
 exact zC
 have h60:ls.length≤60:=ab
 have hr:=apa h30 (by rw [hle];exact h60)
 rw [hle] at hr
 refine aK ?_
 refine qk ?_
 refine rA ?_ (x:=cz (qs:=[]) (cs:=dV) ak sk sq aBV aj ao rfl aj)
 refine kR ?_
 refine sQ [0,2,3,4] [4] ?_
 refine Zmn ?_
 refine sH [0,2,3,4] [4] ?_
 refine rK ?_
 refine sS [0,2,3,4,5] [4] ?_
 refine dp ?_
 refine sS [0,2,3,4,5,6] [4] ?_
 refine cm ?_
 refine sP [0,2,3,4,5,6,7] [4] ?_
 refine sL [0,2,3,4] [] (fun k:Nat=>k≤ls.length) (fun k:Nat=>[(5,RV.bool (decide (0 < (eE ls k).1.Store.aC5.length))),(6,RV.sc (.string (B (eE ls k).2))),(7,RV.int (k:Int))]) (fun k:Nat=>[(4,(46,[sl .v ((eE ls k).1.Store.aC5.map (aG .v .v)),val (vI (eE ls k).1.Store.Now),val (vI (eE ls k).1.aDa),sl .v ((eE ls k).1.Order.map ar),sl .v ((eE ls k).1.aC6.map (aO .v .v .v .v .v)),sl .v ((eE ls k).1.Done.map (bd .v .v .v .v)),sl .v ((eE ls k).1.aDi.map (ba .v .v .v)),val (vI (eE ls k).1.Steps)]))]) (fun k:Nat=>ls.length - k) 0 ab qW bu ?_
 rintro k hk
 have hcb:=aoP h60 k hk
 refine bI ?_
 refine Aq ?_
 refine sc ?_ ?_<;>intro hbd
 have hlt:k < ls.length:=Xd
 have hlm:=apd (s:=s) WF
 have hcs0:=VF hlt
 have hcl:=VK hcb.1 ls[k]
 refine fT ?_
 refine sT [0,2,3,4,5,6,7] [4] ?_
 refine iO ?_
 refine zN ?_
 refine vZ ?_
 refine sc ?_ ?_<;>intro hbe
 have hcs:eE ls (k+1)=eE ls k:=by rw [hcs0,show ls[k]=[] by simpa using hbe,ao8]
 refine be ?_
 refine sG [0,2,3,4,5,6,7] [4] ?_
 exact Zms
 have hcs:=hcs0.trans (ao9 sI)
 refine cg ?_
 refine sP [0,2,3,4,5,6,7] [4] ?_
 refine DV ?_
 refine gC ?_
 refine Zmt ?_
 refine dA 63 ?_ (x:=cL YQ YR ats (hs:=by exact (aB4 (e:=(eE ls k).1) (has:=(decide (0 < (eE ls k).1.Store.aC5.length))) (l:=ls[k]) ab hcb.1 rfl ab)))
 refine dA 127 ?_ (x:=tM)
 refine dA 255 ?_ (x:=rp (cs:=dV) ak aj aQ)
 refine Zmu ?_
 refine Zmu ?_
 refine RM ?_
 refine dA 2559 ?_ (x:=bR (ag:=true) (vs:=dV) dg ao aj ay)
 refine dA 7167 ?_ (x:=sA)
 refine dA 16383 ?_ (x:=sA)
 refine sV [0,2,3,4,5,6,7,8,9,10] [4] [8] ?_
 refine Ic ?_
 refine sV [0,2,3,4,5,6,7,8,9,10] [8] [4] ?_
 refine tP ?_
 refine sG [0,2,3,4,5,6,7,8,9,10] [4,8] ?_
 refine gn ?_
 refine Zmv ?_
 refine Qy ?_
 refine sG [0,2,3,4,5,6,7,8,9,10] [4,8] ?_
 exact Zms
 have hend:k=ls.length:=Xd
 subst hend
 refine be ?_
 refine sT [0,2,3,4,5,6,7] [4] ?_
 refine tP ?_
 exact CH):G:=h
def ph (w:ae G H:=by
 intro z
 refine Sk ?_
 exact ub z.g):=ah w h
def xg (w:ae G H:=by
 intro z
 refine rA ?_ (x:=cB (qs:=aM) ak bY jy ak rfl rfl rfl rfl rfl ay cN rfl)
 exact rA z.g (x:=eL ak bY jy rfl rfl ak rfl bm bm)):=ah w h
def vi (w:ae G H:=by
 intro z
 refine rA ?_ (x:=rj (cs:=dV) (qs:=lB) ak aj FN aQ)
 exact oz z.g):=ah w h
def Ps (w:ae G H:=by
 intro z
 refine oz ?_
 exact oz z.g):=ah w h
def tt (w:ae G H:=by
 intro z
 refine En ?_
 exact ub z.g):=ah w h
def io (w:ae G H:=by
 intro z
 refine sR ?_
 exact rX z.g (x:=(kH (ag:=true) (cs:=dV) ak ao))):=ah w h
def cg (w:ae G H:=by
 intro z
 refine aK ?_
 exact bg z.g):=ah w h
def tu (w:ae G H:=by
 intro z
 refine rA ?_ (x:=aS ak bY ao aj bD aj)
 exact AK z.g):=ah w h
def aY (w:ae G H:=by
 intro z
 refine cg ?_
 exact jH z.g):=ah w h
def CM (w:ae G H:=by
 intro z
 refine Ef ?_
 exact dJ z.g):=ah w h
def nn (w:ae G H:=by
 intro z
 refine cv ?_
 exact rA z.g (x:=lN dc)):=ah w h
def HV (w:ae G H:=by
 intro z
 refine rA ?_ (x:=mi (qs:=NH) ak nJ (fun h=>nomatch h) ay LY aQ)
 exact rA z.g (x:=cB (qs:=YP) ak cY mL ak rfl rfl rfl rfl rfl ay cN rfl)):=ah w h
def Zkh (w:ae G H:=by
 intro z
 refine Ei ?_
 exact Ej z.g):=ah w h
def HW (w:ae G H:=by
 intro z
 refine RI ?_
 exact rA z.g (x:=cB (qs:=Hc) ak cY mL ak rfl rfl rfl rfl rfl ay cN rfl)):=ah w h
def CN (w:ae G H:=by
 intro z
 refine JZ ?_
 exact JZ z.g):=ah w h
def qb (w:ae G H:=by
 intro z
 refine rM ?_
 exact rA z.g (x:=mq)):=ah w h
def HX (w:ae G H:=by
 intro z
 refine rA ?_ (x:=rj (cs:=tl) (qs:=wZ) ak aj VY aQ)
 exact oz z.g):=ah w h
def CO (w:ae G H:=by
 intro z
 refine sU [0,2,3,4,5] [2] [5] ?_
 exact Sb z.g):=ah w h
def HY (w:ae G H:=by
 intro z
 refine je ?_
 exact rA z.g (x:=cL fi fu Tq (hs:=by exact (TG ab)))):=ah w h
def gC (w:ae G H:=by
 intro z
 refine my ?_
 exact dt z.g):=ah w h
def Pt (w:ae G H:=by
 intro z
 refine Sl ?_
 exact bg z.g):=ah w h
def dm (w:ae G H:=by
 intro z
 refine rA ?_ (x:=kM)
 exact jH z.g):=ah w h
def zD (w:ae G H:=by
 intro z
 refine vT ?_
 exact Ej z.g):=ah w h
def HZ (w:ae G H:=by
 intro z
 refine Sm ?_
 exact rA z.g (x:=ri (qs:=NH) ak nJ (fun h=>nomatch h) ay LY aQ)):=ah w h
def jv (w:ae G H:=by
 intro z
 refine cv ?_
 exact rA z.g (x:=lN bY)):=ah w h
def zE (w:ae G H:=by
 intro z
 refine rA ?_ (x:=lF mH)
 exact rA z.g (x:=lD [sl .v _] mK)):=ah w h
def CP (w:ae G H:=by
 intro z
 refine rA ?_ (x:=cB (qs:=jK) ak iu jh ak rfl rfl rfl rfl rfl ay cN rfl)
 exact rA z.g (x:=eL ak iu jh rfl rfl ak rfl bm bm)):=ah w h
def CQ (w:ae G H:=by
 intro z
 refine rA ?_ (x:=rj (cs:=pd) (qs:=tm) ak aj Ws aQ)
 exact oz z.g):=ah w h
def zx7 (w:ae G H:=by
 intro z
 refine sP [1,2,3,4,5,6,14,57,58,59,145,146,147,6200] [1,2,4,6] ?_
 exact sL [1,2,3,4,5,6,57,58,59,145,146] [1,2,6] (fun m:Nat=>m≤e.aC6.length) (fun m:Nat=>[(14,RV.slc ct ((mP e (parts e).length m).map (aO aH ai ai aJ ai))),(147,RV.int (m:Int)),(6200,RV.gh (bz 10 (za.drop m)) (ca (aO aH ai ai aJ ai) (za.drop m)))]) (fun m:Nat=>[(4,(46,[sl bH (e.Store.aC5.map (aG bc ai)),val (vI e.Store.Now),val (vI e.aDa),sl ai (e.Order.map ar),sl .v (za.map hI),sl ck ((e.Done++jB e (parts e).length m).map (bd aH ai aJ ai)),sl cl ((jC e (parts e).length).map (ba ai ai ai)),val (vI e.Steps)]))]) (fun m:Nat=>e.aC6.length - m) 0 ab qW (by exact aI (by show _=some (46,[sl bH (e.Store.aC5.map (aG bc ai)),val (vI e.Store.Now),val (vI e.aDa),sl ai (e.Order.map ar),sl .v (za.map hI),sl ck ((e.Done++jB e (parts e).length 0).map (bd aH ai aJ ai)),sl cl ((jC e (parts e).length).map (ba ai ai ai)),val (vI e.Steps)]);rw [show jB e (parts e).length 0=[] from rfl,gj];first|(rw [hled];simp only [bo];exact rfl)|(rw [hled];exact rfl)) tI) z.g):=ah w h
def cm (w:ae G H:=by
 intro z
 refine rK ?_
 exact jH z.g):=ah w h
def Pu (w:ae G H:=by
 intro z
 refine Eg ?_
 exact RJ z.g):=ah w h
def dz (w:ae G H:=by
 intro z
 refine zf rfl ?_
 exact rA z.g (x:=bF rfl)):=ah w h
def CR (w:ae G H:=by
 intro z
 refine JR ?_
 exact rA z.g (x:=cz (qs:=dl) (cs:=tl) ak ER EU LJ aj Gw rfl aj)):=ah w h
def Pv (w:ae G H:=by
 intro z
 refine Sm ?_
 exact zqi z.g):=ah w h
def cc (w:ae G H:=by
 intro z
 refine rA ?_ (x:=mq)
 exact rM z.g):=ah w h
def zF (w:ae G H:=by
 intro z
 refine je ?_
 exact rA z.g (x:=cL fi fu EN (hs:=MG))):=ah w h
def Pw (w:ae G H:=by
 intro z
 refine eJ ?_
 exact JJ z.g):=ah w h
def zG (w:ae G H:=by
 intro z
 refine je ?_
 exact rA z.g (x:=cL fi fu Th (hs:=by exact (TI ab)))):=ah w h
def dp (w:ae G H:=by
 intro z
 refine rK ?_
 exact bg z.g):=ah w h
def lG (w:ae G H:=by
 intro z
 refine zf ga ?_
 exact jQ z.g):=ah w h
def ry (w:ae G H:=by
 intro z
 refine rA ?_ (x:=lF gP)
 exact rA z.g (x:=lD [sl .v _] fe)):=ah w h
def mr (w:ae G H:=by
 intro z
 refine sR ?_
 exact rX z.g (x:=(kH (ag:=true) (cs:=jM) ak ao))):=ah w h
def om (w:ae G H:=by
 intro z
 refine sR ?_
 exact RW z.g):=ah w h
def Ia (w:ae G H:=by
 intro z
 refine zt ga ?_
 exact iq z.g):=ah w h
def bI (w:ae G H:=by
 intro z
 refine bg ?_
 refine sR ?_
 exact rM z.g):=ah w h
def Px (w:ae G H:=by
 intro z
 refine JO ?_
 exact RL z.g):=ah w h
def tv (w:ae G H:=by
 intro z
 refine cJ ?_
 exact JY z.g):=ah w h
def cn (w:ae G H:=by
 intro z
 refine rK ?_
 exact cP z.g):=ah w h
def mu (w:ae G H:=by
 intro z
 refine jw ?_
 exact rS z.g):=ah w h
def CS (w:ae G H:=by
 intro z
 refine je ?_
 exact rA z.g (x:=cL fi fu alS (hs:=by exact (amN ab)))):=ah w h
def lH (w:ae G H:=by
 intro z
 refine zt rfl ?_
 exact rA z.g (x:=cd rfl)):=ah w h
def iO (w:ae G H:=by
 intro z
 refine cv ?_
 exact rM z.g):=ah w h
def bO (w:ae G H:=by
 intro z
 refine qb ?_
 exact rS z.g):=ah w h
def xh (w:ae G H:=by
 intro z
 refine zmf ?_
 exact rA z.g (x:=lE zq pB)):=ah w h
def zH (w:ae G H:=by
 intro z
 refine rX ?_ (x:=(gW ak AZ Ba))
 exact Ep z.g):=ah w h
def CT (w:ae G H:=by
 intro z
 refine Zmz ?_
 exact dJ z.g):=ah w h
def Py (w:ae G H:=by
 intro z
 refine eI (d:=920) aj (rq (s.aC5[i].set k (mT (s.Now+1) s.aC5[i][k])) hi aj) ?_
 exact tf (d:=6) (D:=920) (G:=2920) (e:=1) (A:=[]) (B:=[val _]) (es:=((s.aC5).set i (s.aC5[i].set k (mT (s.Now+1) s.aC5[i][k]))).map (aG bc ai)) aj aj aj rfl sD pM (by rw [aX];exact hjk920) z.g):=ah w h
def CU (w:ae G H:=by
 intro z
 refine rB ga ?_ (x:=cL cF cF rT (hs:=qV))
 exact rB ga z.g (x:=nT)):=ah w h
def qc (w:ae G H:=by
 intro z
 refine rL ?_
 exact rA z.g (x:=lN bY)):=ah w h
def vj (w:ae G H:=by
 intro z
 refine zga ?_
 exact xT z.g):=ah w h
def hY (w:ae G H:=by
 intro z
 refine zf gb ?_
 exact ql z.g):=ah w h
def iP (w:ae G H:=by
 intro z
 refine dJ ?_
 exact bg z.g):=ah w h
def zv8 (w:ae G H:=by
 intro z
 refine RP ?_
 exact RD z.g):=ah w h
def dq (w:ae G H:=by
 intro z
 refine eZ ?_
 exact rM z.g):=ah w h
def CV (w:ae G H:=by
 intro z
 refine JN ?_
 exact RK z.g):=ah w h
def Pz (w:ae G H:=by
 intro z
 refine rA ?_ (x:=lE [sl .v _] bZ)
 exact RN z.g):=ah w h
def PA (w:ae G H:=by
 intro z
 refine eI (d:=921) aj (rq (mT (s.Now+1) s.aC5[i][k]) hk aj) ?_
 exact tf (d:=920) (D:=921) (G:=2921) (e:=4) (A:=_) (B:=[]++_) (es:=((s.aC5[i]).set k (mT (s.Now+1) s.aC5[i][k])).map (ia ai)) aj aj aj rfl sD pM (by rw [aX];exact hjk921) z.g):=ah w h
def bP (w:ae G H:=by
 intro z
 refine sR ?_
 refine dC ?_
 exact bg z.g):=ah w h
def xi (w:ae G H:=by
 intro z
 refine El ?_
 exact RZ z.g):=ah w h
def zI (w:ae G H:=by
 intro z
 refine zwz ?_
 exact rA z.g (x:=lE mo jg)):=ah w h
def zJ (w:ae G H:=by
 intro z
 refine tT ?_
 exact rA z.g (x:=cL il ju EA (hs:=by exact KK))):=ah w h
def zK (w:ae G H:=by
 intro z
 refine rA ?_ (x:=lF gP)
 exact rA z.g (x:=bR (ag:=false) (vs:=[sl _ _]) fe ao aj ay)):=ah w h
def PB (w:ae G H:=by
 intro z
 refine Zn0 ?_
 exact rB ga z.g (x:=nT)):=ah w h
def zL (w:ae G H:=by
 intro z
 refine AF ?_
 exact xR z.g):=ah w h
def Ib (w:ae G H:=by
 intro z
 refine Eg ?_
 exact rA z.g (x:=bR (ag:=true) (vs:=pV) nJ ao aj ay)):=ah w h
def zM (w:ae G H:=by
 intro z
 refine Zn1 ?_
 exact rA z.g (x:=lE iB gD)):=ah w h
def iC (w:ae G H:=by
 intro z
 refine jw ?_
 exact rM z.g):=ah w h
def pi (w:ae G H:=by
 intro z
 refine sR ?_
 exact rP z.g):=ah w h
def CW (w:ae G H:=by
 intro z
 refine sR ?_
 exact rX z.g (x:=(kH (ag:=true) (cs:=[sl (.lo _) _,val _,val _,sl (.lo _) _,sl (.lo _) _,sl (.lo _) _,sl (.lo _) _,val _]) ak ao))):=ah w h
def CX (w:ae G H:=by
 intro z
 refine zx5 ?_
 exact rM z.g):=ah w h
def dI (w:ae G H:=by
 intro z
 refine rS ?_
 exact cP z.g):=ah w h
def xj (w:ae G H:=by
 intro z
 refine rA ?_ (x:=cB (qs:=[]) ak fz iV ak rfl rfl rfl rfl rfl ay ao rfl)
 exact iP z.g):=ah w h
def vk (w:ae G H:=by
 intro z
 refine sR ?_
 exact rX z.g (x:=(kH (ag:=true) (cs:=pf) ak ao))):=ah w h
def PC (w:ae G H:=by
 intro z
 refine RX ?_
 exact rB ga z.g (x:=gL tg th au5 (hs:=by exact (aAq (x:=eX s))))):=ah w h
def PD (w:ae G H:=by
 intro z
 refine JT ?_
 exact rA z.g (x:=cL tg th Tm (hs:=by exact (UL (x:=eX s))))):=ah w h
def vl (w:ae G H:=by
 intro z
 refine rA ?_ (x:=lF SC)
 exact eJ z.g):=ah w h
def Zcs (w:ae G H:=by
 intro z
 refine sP [0,2,3,4,5,6,7,8,9,11,12,13,14,7000] [2,12] ?_
 exact sL [0,2,3,4,5,6,7,8,9,11,12,7000] [2] (fun k:Nat=>k≤(((aq 32 s).length - 4) / 2)) (fun k:Nat=>[(13,RV.bool (wG (aq 32 s) k)),(14,RV.int (2+2 * (k:Int)))]) (fun k:Nat=>[(12,(25,[val (vI (sx 113 ((aq 32 s).getD 0 []))),val (vI (sx 116 ((aq 32 s).getD 1 []))),sl aH ((wF (aq 32 s) k).map bM),sl ai ((uD ((aq 32 s).getD ((aq 32 s).length - 1) [])).map ar)]))]) (fun k:Nat=>(((aq 32 s).length - 4) / 2) - k) 0 ab (by exact aI (by exact dQ (by first|(simp_all [wG,Lo,sy];done)|(simp [wG,Lo,sy];simp_all;done))) (aI aj tI)) bu z.g):=ah w h
def zzk (w:ae G H:=by
 intro z
 refine sP [1,2,4,5,6] [2,4,5] ?_
 exact sL [1,2,4,5] [2,4] (fun k:Nat=>k≤qF n) (fun k:Nat=>[(6,RV.int (k:Int))]) (fun k:Nat=>[(5,(46,[sl bH ((lh e k).Store.aC5.map (aG bc ai)),val (vI (lh e k).Store.Now),val (vI (lh e k).aDa),sl ai ((lh e k).Order.map ar),sl ct ((lh e k).aC6.map (aO aH ai ai aJ ai)),sl ck ((lh e k).Done.map (bd aH ai aJ ai)),sl cl ((lh e k).aDi.map (ba ai ai ai)),val (vI (lh e k).Steps)]))]) (fun k:Nat=>qF n - k) 0 ab bu bu z.g):=ah w h
def dr (w:ae G H:=by
 intro z
 refine rS ?_
 exact bg z.g):=ah w h
def Zh6 (w:ae G H:=by
 intro z
 refine sP [1,2,3,4] [1,2,3] ?_
 exact sL [1,2,3] [1,2] (fun k:Nat=>k≤200) (fun k:Nat=>[(4,RV.int (k:Int))]) (fun k:Nat=>[(3,(46,[sl bH ((eA e k).Store.aC5.map (aG bc ai)),val (vI (eA e k).Store.Now),val (vI (eA e k).aDa),sl ai ((eA e k).Order.map ar),sl ct ((eA e k).aC6.map (aO aH ai ai aJ ai)),sl ck ((eA e k).Done.map (bd aH ai aJ ai)),sl cl ((eA e k).aDi.map (ba ai ai ai)),val (vI (eA e k).Steps)]))]) (fun k:Nat=>200 - k) 0 ab bu bu z.g):=ah w h
def qd (w:ae G H:=by
 intro z
 refine rA ?_ (x:=cM Cp.ptr)
 exact xX z.g):=ah w h
def CY (w:ae G H:=by
 intro z
 refine rX ?_ (x:=(gW ak mM yv))
 exact zp1 z.g):=ah w h
def CZ (w:ae G H:=by
 intro z
 refine tT ?_
 exact rA z.g (x:=cL il ju Kk (hs:=Gg))):=ah w h
def PE (w:ae G H:=by
 intro z
 refine rA ?_ (x:=cz (qs:=[(false,[val _]),(true,iA)]) (cs:=pd) ak AZ Ba VB aj Gw rfl aj)
 exact Ep z.g):=ah w h
def Ic (w:ae G H:=by
 intro z
 refine je ?_
 exact ub z.g):=ah w h
def zN (w:ae G H:=by
 intro z
 refine rA ?_ (x:=aS ak dc ao aj bD aj)
 exact pn z.g):=ah w h
def Da (w:ae G H:=by
 intro z
 refine eJ ?_
 exact JI z.g):=ah w h
def zjk (w:ae G H:=by
 intro z
 refine eI (d:=900) aj (rq (⟨((db l f k).getD ((db l f k).length - 1) nD).From,(k:Int),((db l f k).getD ((db l f k).length - 1) nD).Set⟩) hl1 (by rw [dM (d:=nD) hl1];exact rfl)) ?_
 exact YH (s:=5) (D:=900) (G:=2900) (e:=3) (es:=(((db l f k)).set ((db l f k).length - 1) (⟨((db l f k).getD ((db l f k).length - 1) nD).From,(k:Int),((db l f k).getD ((db l f k).length - 1) nD).Set⟩)).map (kT ai)) aj aj aj rfl ak sD pM yK z.g):=ah w h
def Ie (w:ae G H:=by
 intro z
 refine JV ?_
 exact Sl z.g):=ah w h
def np (w:ae G H:=by
 intro z
 refine io ?_
 exact En z.g):=ah w h
def PF (w:ae G H:=by
 intro z
 refine Zn2 ?_
 exact rA z.g (x:=aqt (f:=sg) (e:=1) (k:=i) (qs:=[sl .v _]) (fun _=>rfl) rfl ab ak nK (fun _=>rfl) gS fp)):=ah w h
def zg1 (w:ae G H:=by
 intro z
 refine Zn0 ?_
 exact iq z.g):=ah w h
def PG (w:ae G H:=by
 intro z
 refine AO ?_
 exact rA z.g (x:=cL [(true,[sl (.lo _) _,val _,val _,sl (.lo _) _,sl (.lo _) _,sl (.lo _) _,sl (.lo _) _,val _])] fu alS (hs:=by exact (amN ab)))):=ah w h
def PH (w:ae G H:=by
 intro z
 refine AO ?_
 exact rA z.g (x:=cL [(true,[sl (.lo _) _,val _,val _,sl (.lo _) _,sl (.lo _) _,sl (.lo _) _,sl (.lo _) _,val _])] fu Tq (hs:=by exact (TG ab)))):=ah w h
def PI (w:ae G H:=by
 intro z
 refine AO ?_
 exact rA z.g (x:=cL [(true,[sl (.lo _) _,val _,val _,sl (.lo _) _,sl (.lo _) _,sl (.lo _) _,sl (.lo _) _,val _])] fu EN (hs:=MG))):=ah w h
def PJ (w:ae G H:=by
 intro z
 refine AO ?_
 exact rA z.g (x:=cL [(true,[sl (.lo _) _,val _,val _,sl (.lo _) _,sl (.lo _) _,sl (.lo _) _,sl (.lo _) _,val _])] fu Th (hs:=by exact (TI ab)))):=ah w h
def xk (w:ae G H:=by
 intro z
 refine tZ ?_
 exact bg z.g):=ah w h
def PK (w:ae G H:=by
 intro z
 refine dA 7 ?_ (x:=lx (k:=i) (G:=2920) ak gG ao ab (by first|(rw [aX];exact hi)|exact hi))
 exact dA 15 z.g (x:=wW (o:=0) (qs:=[val _]) ab ak nK (fun _=>rfl) ay uI mZ)):=ah w h
def vm (w:ae G H:=by
 intro z
 refine cv ?_
 exact rA z.g (x:=lN iu)):=ah w h
def If (w:ae G H:=by
 intro z
 refine rB gb ?_ (x:=lD tm mD)
 exact rB gb z.g (x:=cL ti pR alR (hs:=by exact (aoB (u:=iI s))))):=ah w h
def Zlk (w:ae G H:=by
 intro z
 refine dA 8160 ?_ (x:=cz (qs:=[(true,[nv _ (val _),nv _ (val _),nv _ (sl _ _),nv _ (sl _ _)]),(false,[val _]),(false,[val _]),(false,[nv _ (sl _ _)])]) (cs:=Zg) ak qB EW ayo aj wQ rfl aj)
 exact dA 16352 z.g (x:=cB (qs:=[(true,Zg)]) ak mJ qB ak rfl rfl rfl rfl rfl ay cN rfl)):=ah w h
def vn (w:ae G H:=by
 intro z
 refine sR ?_
 exact rX z.g (x:=(kH (ag:=true) (cs:=oi) ak ao))):=ah w h
def hZ (w:ae G H:=by
 intro z
 refine jP ?_
 exact rM z.g):=ah w h
def Db (w:ae G H:=by
 intro z
 refine JL ?_
 exact Sd z.g):=ah w h
def rz (w:ae G H:=by
 intro z
 refine vZ ?_
 exact rM z.g):=ah w h
def zwy (w:ae G H:=by
 intro z
 refine bg ?_
 exact sO [(1,_),(2,_),(3,_),(4,_),(5,_),(6,_),(8,_),(9,_),(10,_),(11,_),(57,_),(58,_),(59,_),(77,_),(78,_),(79,_),(2900,_),(6100,_)] [(1,(46,[sl (.lo _) _,val _,val _,sl (.lo _) _,sl (.lo _) _,sl (.lo _) _,sl (.lo _) _,val _])),(2,(46,dV)),(4,(46,Cm)),(6,(149,pf)),(10,(102,ki)),(900,(102,_++(ki++_)))] z.g):=ah w h
def Dc (w:ae G H:=by
 intro z
 refine vR ?_
 exact rB ga z.g (x:=aS (k:=0) ak dc (bq rfl) eb sE aj)):=ah w h
def kl (w:ae G H:=by
 intro z
 refine zf gc ?_
 exact rA z.g (x:=bF gc)):=ah w h
def vo (w:ae G H:=by
 intro z
 refine rB ga ?_ (x:=kL)
 exact iq z.g):=ah w h
def Ig (w:ae G H:=by
 intro z
 refine je ?_
 exact JT z.g):=ah w h
def kP (w:ae G H:=by
 intro z
 refine rB ga ?_ (x:=nT)
 exact jQ z.g):=ah w h
def Dd (w:ae G H:=by
 intro z
 refine dA 3 ?_ (x:=aS ak bY ao aj bD aj)
 exact dA 7 z.g (x:=lE [val _] aV)):=ah w h
def Ih (w:ae G H:=by
 intro z
 refine rA ?_ (x:=aS ak mJ ao aj bD aj)
 exact rA z.g (x:=lE vc ux)):=ah w h
def gk (w:ae G H:=by
 intro z
 refine be ?_
 exact bg z.g):=ah w h
def xl (w:ae G H:=by
 intro z
 refine rA ?_ (x:=lF AX)
 exact JS z.g):=ah w h
def zO (w:ae G H:=by
 intro z
 refine sR ?_
 exact zy8 z.g):=ah w h
def PL (w:ae G H:=by
 intro z
 refine rA ?_ (x:=lx (k:=u.Field.toNat) (G:=2930) ak bY ao ab (by first|(rw [aX];exact hfl)|exact hfl))
 exact rA z.g (x:=rn (o:=0) (ag:=false) (vs:=[val _]) ab aV ao aj ay)):=ah w h
def xm (w:ae G H:=by
 intro z
 refine sR ?_
 exact JK z.g):=ah w h
def fT (w:ae G H:=by
 intro z
 refine aY ?_
 exact bg z.g):=ah w h
def zub (w:ae G H:=by
 intro z
 refine sO [(2,_),(3,_),(4,_),(6,_),(7,_),(8,_),(9,_),(11,_),(54,_),(55,_),(67,_),(68,_),(69,_),(6200,_),(6300,_)] [(3,(46,dV)),(4,(25,jL)),(6,(46,dV)),(8,(46,dV)),(9,(102,pV))] ?_
 exact fh z.g):=ah w h
def PM (w:ae G H:=by
 intro z
 refine Zn3 ?_
 exact oz z.g):=ah w h
def zsz (w:ae G H:=by
 intro z
 refine eI (d:=900) aj (congrArg (fun z_=>bW (aG bc ai) z_ jk900) (show (kw zss keep i).map (List.map Prod.fst)=s.aC5.map (un keep) from by rw [hend,alD];exact as1 hzss)) ?_
 exact tf (d:=6) (D:=900) (G:=2900) (e:=1) (A:=[]) (B:=[val _]) (es:=((s.aC5.map (un keep))).map (aG bc ai)) aj aj aj rfl aP pM yK z.g):=ah w h
def zQ (w:ae G H:=by
 intro z
 refine rA ?_ (x:=lF oL)
 exact rA z.g (x:=lD [sl .v _] nL)):=ah w h
def PN (w:ae G H:=by
 intro z
 refine rA ?_ (x:=eL ak fz iV rfl rfl ak rfl bm bm)
 exact dJ z.g):=ah w h
def De (w:ae G H:=by
 intro z
 refine zup ?_
 exact iP z.g):=ah w h
def zuq (w:ae G H:=by
 intro z
 refine bg ?_
 exact sO [(2,_),(3,_),(4,_),(6,_),(7,_),(8,_),(9,_),(10,_),(11,_),(12,_),(13,_),(6200,_),(6300,_)] [(3,(46,dV)),(4,(25,jL)),(6,(46,dV)),(8,(46,dV)),(9,(102,pV))] z.g):=ah w h
def Df (w:ae G H:=by
 intro z
 refine Zn4 ?_
 exact vX z.g):=ah w h
def Dg (w:ae G H:=by
 intro z
 refine sR ?_
 exact Zn5 z.g):=ah w h
def zR (w:ae G H:=by
 intro z
 refine cv ?_
 exact vP z.g):=ah w h
def Zf3 (w:ae G H:=by
 intro z
 refine sU [0,2,3,4,5,6,7,18,7000] [2] [7] ?_
 exact Zex z.g):=ah w h
def Dh (w:ae G H:=by
 intro z
 refine Zat ?_
 exact iP z.g):=ah w h
def tw (w:ae G H:=by
 intro z
 refine zE ?_
 exact rA z.g (x:=lN gG)):=ah w h
def PO (w:ae G H:=by
 intro z
 refine Zmz ?_
 exact zK z.g):=ah w h
def Ii (w:ae G H:=by
 intro z
 refine sR ?_
 exact Zn6 z.g):=ah w h
def vp (w:ae G H:=by
 intro z
 refine cv ?_
 refine rA ?_ (x:=aS (k:=1) ak dc (bq rfl) eb FU aj)
 exact pn z.g):=ah w h
def zwe (w:ae G H:=by
 intro z
 refine dA 48 ?_ (x:=lD [sl (.lo _) _] bZ)
 exact dA 120 z.g (x:=ml ak bY jy rfl rfl ak oW sC bm bm)):=ah w h
def zk1 (w:ae G H:=by
 intro z
 refine dA 512 ?_ (x:=lD [sl .v _] bZ)
 exact dA 2032 z.g (x:=ml ak bY jy rfl rfl ak oW sC bm bm)):=ah w h
def Di (w:ae G H:=by
 intro z
 refine ry ?_
 exact rA z.g (x:=lN cY)):=ah w h
def Ij (w:ae G H:=by
 intro z
 refine ub ?_
 exact rS z.g):=ah w h
def Ik (w:ae G H:=by
 intro z
 refine rB gc ?_ (x:=vM false [sl .v _])
 exact rB gc z.g (x:=aS (k:=0) ak dc (bq rfl) eb sE aj)):=ah w h
def jd (w:ae G H:=by
 intro z
 refine dp ?_
 exact sT [1,2] [1] z.g):=ah w h
def zsu (w:ae G H:=by
 intro z
 refine zst ?_
 exact rA z.g (x:=cB (qs:=[(true,xb)]) ak fz iV ak rfl rfl rfl rfl rfl ay cN rfl)):=ah w h
def Il (w:ae G H:=by
 intro z
 refine wa ?_
 exact nn z.g):=ah w h
def rC (w:ae G H:=by
 intro z
 refine cv ?_
 exact rA z.g (x:=lN kz)):=ah w h
def PP (w:ae G H:=by
 intro z
 refine Ze5 ?_
 exact sG [0,2,3,4,5] [2,5] z.g):=ah w h
def Zjr (w:ae G H:=by
 intro z
 refine rA ?_ (x:=cL YS YT atZ (hs:=by exact (ayA (e:=e) (x:=(bE l).getD cH) ab ab)))
 exact bL z.g):=ah w h
def Zi6 (w:ae G H:=by
 intro z
 refine rA ?_ (x:=cL YS YT au6 (hs:=by exact (ayz (e:=e) (x:=(bE l).getD cH) ab ab)))
 exact bL z.g):=ah w h
def Im (w:ae G H:=by
 intro z
 refine JK ?_
 exact rP z.g):=ah w h
def zu3 (w:ae G H:=by
 intro z
 refine dA 63 ?_ (x:=cz (qs:=NC) (cs:=ki) ak mL Ty ax9 aj sJ rfl aj)
 exact cu.step 0 ao ao (dj.of rfl (gW ak mL Ty)) (uT (en.of_ rfl)) au z.g):=ah w h
def xn (w:ae G H:=by
 intro z
 refine ou ?_
 exact rB gb z.g (x:=kL)):=ah w h
def Dj (w:ae G H:=by
 intro z
 refine Ps ?_
 exact oz z.g):=ah w h
def Zlz (w:ae G H:=by
 intro z
 refine Zn7 ?_
 exact Ep z.g):=ah w h
def Zif (w:ae G H:=by
 intro z
 refine sP [1,2,4,5,6,11,12,15,74,99,100,101,7000] [2,4,11] ?_
 exact sL [1,2,4,5,6,11,12,74,99,100,7000] [2,4,11] (fun k:Nat=>k≤((aq 32 l).drop 1).length) (fun k:Nat=>[(15,RV.slc ai (((((((aq 32 l).drop 1).take k).filter cQ).map bJ)).map ar)),(101,RV.int (k:Int))]) (fun k:Nat=>[]) (fun k:Nat=>((aq 32 l).drop 1).length - k) 0 ab ej ao z.g):=ah w h
def Zei (w:ae G H:=by
 intro z
 refine dA 8191 ?_ (x:=cz (qs:=[(false,[val _]),(true,iA),(false,[val _]),(false,[val _])]) (cs:=pd) ak AZ Ba VB aj (by exact (aI (bq rfl) (aI ao (aI ao (aI ao tI))))) rfl aj)
 exact dA 16383 z.g (x:=bR (ag:=true) (vs:=pd) mD ao aj ay)):=ah w h
def zqc (w:ae G H:=by
 intro z
 refine rA ?_ (x:=cB (qs:=zm) ak mJ qB ak rfl rfl rfl rfl rfl ay cN rfl)
 exact rA z.g (x:=eL ak mJ qB rfl rfl ak rfl bm bm)):=ah w h
def Zlv (w:ae G H:=by
 intro z
 refine Sk ?_
 exact rM z.g):=ah w h
def tx (w:ae G H:=by
 intro z
 refine zt gb ?_
 exact jP z.g):=ah w h
def PQ (w:ae G H:=by
 intro z
 refine rA ?_ (x:=lF gP)
 exact rA z.g (x:=eP (ms:=[sl _ _]) (qs:=[sl .v _]) ak fe (fun _=>rfl) ay aj gS fp)):=ah w h
def In (w:ae G H:=by
 intro z
 refine rA ?_ (x:=aS (k:=k2) ak bY ao eb bD aj)
 exact AK z.g):=ah w h
def zwg (w:ae G H:=by
 intro z
 refine dA 1023 ?_ (x:=cz (qs:=Cg) (cs:=pU) ak iV yu anS aj WZ rfl aj)
 exact cu.step 0 ao ao (dj.of rfl (gW ak iV yu)) (uT (en.of_ rfl)) au z.g):=ah w h
def zrx (w:ae G H:=by
 intro z
 refine Zmd ?_
 exact cu.stepC 2047 oT ao (dj.of rfl (mh (.inr rfl) ak (by exact Cp.sc))) mm au uH z.g):=ah w h
def zyz (w:ae G H:=by
 intro z
 refine rA ?_ (x:=cz (qs:=[]) (cs:=pd) ak AZ Ba asa aj ao rfl aj)
 exact rA z.g (x:=cL [(true,pd),(true,pd)] [(true,tm),(true,tm)] arY (hs:=by exact (ays (x:=x.aC9) (y:=⟨0,⟨0,[]⟩,0,0⟩))))):=ah w h
def PR (w:ae G H:=by
 intro z
 refine rM ?_
 exact rA z.g (x:=aS (k:=e.Done.length - 1 - k) ak mJ ao ab bD aj)):=ah w h
def zS (w:ae G H:=by
 intro z
 refine rA ?_ (x:=cr ak jf ay)
 exact AK z.g):=ah w h
def zk8 (w:ae G H:=by
 intro z
 refine rA ?_ (x:=cB (qs:=il) ak lT lM ak rfl rfl rfl rfl rfl ay cN rfl)
 exact rA z.g (x:=eL ak lT lM rfl rfl ak rfl bm bm)):=ah w h
def Io (w:ae G H:=by
 intro z
 refine tQ ?_
 exact dA 3 z.g (x:=gL aM aM jV (hs:=jE))):=ah w h
def Ip (w:ae G H:=by
 intro z
 refine tQ ?_
 exact dA 3 z.g (x:=cL aM aM iG (hs:=iw))):=ah w h
def Zl6 (w:ae G H:=by
 intro z
 refine eI (d:=930) aj (rq u.Value hfl aj) ?_
 exact tf (d:=10) (D:=930) (G:=2930) (e:=1) (A:=[val _]) (B:=ng) (es:=(((gH s u)).set u.Field.toNat u.Value).map ar) aj aj aj rfl sD pM WE z.g):=ah w h
def Zd2 (w:ae G H:=by
 intro z
 refine rA ?_ (x:=cz (qs:=cF) (cs:=tn) ak pp Km aoC aj sJ rfl aj)
 exact rA z.g (x:=cB (qs:=zo) ak ic pp ak rfl rfl rfl rfl rfl ay cN rfl)):=ah w h
def Zkb (w:ae G H:=by
 intro z
 refine rA ?_ (x:=cB (qs:=[(true,Ck)]) ak kz yt ak rfl rfl rfl rfl rfl ay cN rfl)
 exact rA z.g (x:=eL ak kz yt rfl rfl ak rfl bm bm)):=ah w h
def PS (w:ae G H:=by
 intro z
 refine JM ?_
 exact rA z.g (x:=cL oh tj atA (hs:=by exact av6))):=ah w h
def zx8 (w:ae G H:=by
 intro z
 refine sO [(1,_),(2,_),(3,_),(4,_),(5,_),(6,_),(14,_),(57,_),(58,_),(59,_),(145,_),(146,_),(147,_),(6200,_)] [(1,(46,[sl (.lo _) _,val _,val _,sl (.lo _) _,sl (.lo _) _,sl (.lo _) _,sl (.lo _) _,val _])),(2,(46,dV)),(4,(46,dV)),(6,(149,Hh))] ?_
 exact fh z.g):=ah w h
def zot (w:ae G H:=by
 intro z
 refine RF ?_
 exact xR z.g):=ah w h
def Iq (w:ae G H:=by
 intro z
 refine eJ ?_
 exact JW z.g):=ah w h
def PT (w:ae G H:=by
 intro z
 refine rB gc ?_ (x:=lD tm mD)
 exact rB gc z.g (x:=cL ti pR arV (hs:=by exact ayu))):=ah w h
def tz (w:ae G H:=by
 intro z
 refine En ?_
 exact rK z.g):=ah w h
def rD (w:ae G H:=by
 intro z
 refine eJ ?_
 exact rA z.g (x:=mq)):=ah w h
def Zbf (w:ae G H:=by
 intro z
 refine dA 124 ?_ (x:=cB (qs:=aM) ak bY jy ak rfl rfl rfl rfl rfl ay cN rfl)
 exact dA 255 z.g (x:=eL ak bY jy rfl rfl ak rfl bm bm)):=ah w h
def zpm (w:ae G H:=by
 intro z
 refine rA ?_ (x:=cB (qs:=cf) ak gG EP ak rfl rfl rfl rfl rfl ay cN rfl)
 exact rA z.g (x:=eL ak gG EP rfl rfl ak rfl bm bm)):=ah w h
def Ir (w:ae G H:=by
 intro z
 refine xM ?_
 exact zh0 z.g):=ah w h
def Is (w:ae G H:=by
 intro z
 refine tX ?_
 exact Ej z.g):=ah w h
def It (w:ae G H:=by
 intro z
 refine rM ?_
 exact rA z.g (x:=cL dl dl KE (hs:=by exact (aAk ab)))):=ah w h
def Iu (w:ae G H:=by
 intro z
 refine zrh ?_
 exact iP z.g):=ah w h
def Iv (w:ae G H:=by
 intro z
 refine RO ?_
 exact iP z.g):=ah w h
def Zfj (w:ae G H:=by
 intro z
 refine rB gc ?_ (x:=lD wZ si)
 exact rB gc z.g (x:=cL tg th Tl (hs:=Mf))):=ah w h
def zh6 (w:ae G H:=by
 intro z
 refine sP [1,3,5,7,23,24,25,32,33,34,66,67,68] [1,7] ?_
 exact sL [1,3,5,7,23,24,25,32,33,34,66,67] [1,7] (fun m:Nat=>m≤(eC s k).length+j∧ix (bQ s) ((eC s k).length+j) m=true) (fun m:Nat=>[(68,RV.int (m:Int))]) (fun m:Nat=>[]) (fun m:Nat=>(eC s k).length+j - m) 0 fS bu ao z.g):=ah w h
def oo (w:ae G H:=by
 intro z
 refine xg ?_
 exact dJ z.g):=ah w h
def Iw (w:ae G H:=by
 intro z
 refine rA ?_ (x:=lF lS)
 exact xS z.g):=ah w h
def PU (w:ae G H:=by
 intro z
 refine eJ ?_
 exact rA z.g (x:=aS (k:=e.aDa.toNat) ak gG ao ab (by exact eQ hcl (by rw [dM (d:=([]:List bb)) hcl])) aj)):=ah w h
def kQ (w:ae G H:=by
 intro z
 refine dC ?_
 exact rM z.g):=ah w h
def Ix (w:ae G H:=by
 intro z
 refine rA ?_ (x:=lF EB)
 exact tT z.g):=ah w h
def Iy (w:ae G H:=by
 intro z
 refine sG [2,3,4,5,6,7,20] [2,3,4,6] ?_
 exact je z.g):=ah w h
def PW (w:ae G H:=by
 intro z
 refine pk ?_
 exact rB gc z.g (x:=cL cF cF rT (hs:=qV))):=ah w h
def PX (w:ae G H:=by
 intro z
 refine Ee ?_
 exact rA z.g (x:=cL uY [(true,pc)] amf (hs:=by exact amu ab))):=ah w h
def PY (w:ae G H:=by
 intro z
 refine ou ?_
 exact zty z.g):=ah w h
def PZ (w:ae G H:=by
 intro z
 refine xO ?_
 exact rB gd z.g (x:=cL cF cF rT (hs:=qV))):=ah w h
def Zh4 (w:ae G H:=by
 intro z
 refine Yz (c:=3) (AI:=[(7,⟨[],[],[(3,some (RV.ptr 3 0))],[(3,some (46,[sl bH [],val (.int .i64 0),val (.int .i64 0),sl ai [],sl ct [],sl ck [],sl cl [],val (.int .i64 0)]))],some 3⟩)]) Sx rfl rfl rfl rfl au (fun j L h o ho=>by have h:=mg h;simp only [jq,List.not_mem_nil,or_false,Prod.mk.injEq] at h;obtain ⟨rfl,rfl⟩:=h;(· cases (show some ⟨some 3,.alloc 46,_,_,_,none⟩=some o from ho);apply dj.of rfl;exact gW (d:=3) ak sk sq)) (fun j L h d hd=>by have h:=mg h;simp only [jq,List.not_mem_nil,or_false,Prod.mk.injEq] at h;obtain ⟨rfl,rfl⟩:=h;(· cases (show some _=some d from hd);exact en.of_ rfl)) ?_
 refine Zn8 ?_
 exact Zn8 z.g):=ah w h
def Qa (w:ae G H:=by
 intro z
 refine xO ?_
 exact rB gd z.g (x:=cL cF cF mC (hs:=md))):=ah w h
def vq (w:ae G H:=by
 intro z
 refine cv ?_
 exact rA z.g (x:=lN lT)):=ah w h
def Zgo (w:ae G H:=by
 intro z
 refine CN ?_
 exact rA z.g (x:=cB (qs:=[(false,[sl _ _]),(false,[sl _ _]),(false,[sl _ _]),(false,[sl _ _]),(false,[sl _ _]),(false,[sl _ _])]) ak Bl avm ak rfl rfl rfl rfl rfl ay (by exact (aI ao (aI ao (aI ao (aI ao (aI ao (aI ao tI))))))) rfl)):=ah w h
def gn (w:ae G H:=by
 intro z
 refine rM ?_
 exact rM z.g):=ah w h
def tB (w:ae G H:=by
 intro z
 refine xN ?_
 exact rA z.g (x:=lF kW)):=ah w h
def Qb (w:ae G H:=by
 intro z
 refine dt ?_
 exact dA 992 z.g (x:=lx (k:=i) (G:=2900) ak cY ao yX wK)):=ah w h
def Dk (w:ae G H:=by
 intro z
 refine je ?_
 exact rM z.g):=ah w h
def vr (w:ae G H:=by
 intro z
 refine rA ?_ (x:=lF yo)
 exact eJ z.g):=ah w h
def xo (w:ae G H:=by
 intro z
 refine zt gc ?_
 exact tS z.g):=ah w h
def gY (w:ae G H:=by
 intro z
 refine Ia ?_
 exact fH z.g):=ah w h
def Zew (w:ae G H:=by
 intro z
 refine rA ?_ (x:=rj (cs:=jL) (qs:=iB) ak aj Md aQ)
 exact oz z.g):=ah w h
def vt (w:ae G H:=by
 intro z
 refine rA ?_ (x:=lF jf)
 exact eJ z.g):=ah w h
def Qc (w:ae G H:=by
 intro z
 refine dA 64 ?_ (x:=lD [val _] aV)
 exact dA 255 z.g (x:=lx (k:=k) (G:=2921) ak fz ao ab (by first|(rw [aX];exact hk)|exact hk))):=ah w h
def Iz (w:ae G H:=by
 intro z
 refine sS [2,3,4,5,17] [2,3,4] ?_
 exact je z.g):=ah w h
def IA (w:ae G H:=by
 intro z
 refine rA ?_ (x:=cL aM aM au9 (hs:=by exact (aAz ab)))
 exact bL z.g):=ah w h
def Qd (w:ae G H:=by
 intro z
 refine rA ?_ (x:=aS (k:=k) ak fz ao ab (by exact eQ hk rfl) aj)
 exact rA z.g (x:=cr ak qz ay)):=ah w h
def Qe (w:ae G H:=by
 intro z
 refine rA ?_ (x:=aS (k:=(3+2 * k)) ak dc ao ab Me aj)
 exact pn z.g):=ah w h
def Zgy (w:ae G H:=by
 intro z
 refine rA ?_ (x:=rj (cs:=oi) (qs:=va) ak aj Mi aQ)
 exact Zn3 z.g):=ah w h
def zkd (w:ae G H:=by
 intro z
 refine sP [0,2,3,4] [2,3] ?_
 exact sL [0,2,3] [2] (fun k:Nat=>k≤3) (fun k:Nat=>[(4,RV.int (k:Int))]) (fun k:Nat=>[(3,(260,(Sr nd aH ai wT pO ai) ⟨l,wk l k⟩))]) (fun k:Nat=>3 - k) 0 ab bu bu z.g):=ah w h
def zsx (w:ae G H:=by
 intro z
 refine Zn2 ?_
 exact rA z.g (x:=aqu (f:=sg) (e:=1) (k:=i) (ag:=false) (vs:=[sl _ _]) _ (fun _=>rfl) rfl (by first|omega|(simp only [List.length_set];omega)) nK ao aj)):=ah w h
def Qf (w:ae G H:=by
 intro z
 refine vW ?_
 exact rA z.g (x:=cL [(true,[sl (.lo _) _,val _])] lA alW (hs:=by exact (amM ab)))):=ah w h
def nq (w:ae G H:=by
 intro z
 refine jQ ?_
 exact rM z.g):=ah w h
def Qg (w:ae G H:=by
 intro z
 refine zuo ?_
 exact hZ z.g):=ah w h
def Dl (w:ae G H:=by
 intro z
 refine rB gc ?_ (x:=kL)
 exact tS z.g):=ah w h
def zsr (w:ae G H:=by
 intro z
 refine rA ?_ (x:=ri (qs:=NI) ak lV (fun h=>nomatch h) ay FS aQ)
 exact JO z.g):=ah w h
def Qh (w:ae G H:=by
 intro z
 refine pm ?_
 exact rB gb z.g (x:=aS (k:=0) ak dc (bq rfl) eb sE aj)):=ah w h
def Dm (w:ae G H:=by
 intro z
 refine cv ?_
 refine rA ?_ (x:=aS (k:=0) ak dc (bq rfl) eb sE aj)
 exact pn z.g):=ah w h
def Zil (w:ae G H:=by
 intro z
 refine cv ?_
 exact rA z.g (x:=cL Ch Ci alV (hs:=by exact (aoF (e:=e) (o:=oR (aq 32 l)) ab ab)))):=ah w h
def Qi (w:ae G H:=by
 intro z
 refine rA ?_ (x:=aS ak ic ao aj bD aj)
 exact rA z.g (x:=lE tn AY)):=ah w h
def Qj (w:ae G H:=by
 intro z
 refine my ?_
 exact dA 1 z.g (x:=aS (k:=1) ak dc (bq rfl) eb FU aj)):=ah w h
def Qk (w:ae G H:=by
 intro z
 refine dA 511 ?_ (x:=lF la)
 exact dA 1023 z.g (x:=rn (o:=3) (ag:=false) (vs:=[val _]) ab aV ao aj ay)):=ah w h
def zqr (w:ae G H:=by
 intro z
 refine rA ?_ (x:=lD vd nJ)
 exact rA z.g (x:=cL Hc YU avc (hs:=by exact awz))):=ah w h
def jN (w:ae G H:=by
 intro z
 refine bL ?_
 refine dJ ?_
 exact cP z.g):=ah w h
def jO (w:ae G H:=by
 intro z
 refine CM ?_
 exact bg z.g):=ah w h
def ip (w:ae G H:=by
 intro z
 refine lG ?_
 exact rM z.g):=ah w h
def zT (w:ae G H:=by
 intro z
 refine lJ ?_
 exact vo z.g):=ah w h
def zU (w:ae G H:=by
 intro z
 refine dB 1023 gb ?_ (x:=vM false [sl .v _])
 exact dB 1023 gb z.g (x:=sM)):=ah w h
def IB (w:ae G H:=by
 intro z
 refine cJ ?_
 exact dA 0 z.g (x:=cM Cp.ptr)):=ah w h
def Ql (w:ae G H:=by
 intro z
 refine rA ?_ (x:=aS (k:=i.toNat) ak gG ao ab (by exact eQ hil rfl) aj)
 exact xT z.g):=ah w h
def zV (w:ae G H:=by
 intro z
 refine tX ?_
 exact AQ z.g):=ah w h
def Zlg (w:ae G H:=by
 intro z
 refine dA 0 ?_ (x:=lF kx)
 exact dA 32 z.g (x:=mi (qs:=[nv _ (val _),nv _ (val _),nv _ (sl .v _),nv _ (sl .v _)]) ak gD (fun h=>nomatch h) ay FS aQ)):=ah w h
def Qm (w:ae G H:=by
 intro z
 refine dA 48 ?_ (x:=aS ak bY ao aj bD aj)
 exact dA 112 z.g (x:=lE [val _] aV)):=ah w h
def tC (w:ae G H:=by
 intro z
 refine sR ?_
 refine dp ?_
 exact lI z.g):=ah w h
def Zmt (w:ae G H:=by
 intro z
 refine dA 12 ?_ (x:=aS ak dc ao aj bD aj)
 exact dA 28 z.g (x:=lE [val _] jA)):=ah w h
def Qn (w:ae G H:=by
 intro z
 refine rB ga ?_ (x:=lF oH)
 exact rB ga z.g (x:=lD [sl .v _] bZ)):=ah w h
def zjb (w:ae G H:=by
 intro z
 refine sP [0,1,4,5,6] [] ?_
 exact sL [0,1,4] [] (fun k:Nat=>k≤100) (fun k:Nat=>[(5,RV.slc pO ((db l f k).map (kT ai))),(6,RV.int (k:Int))]) (fun k:Nat=>[]) (fun k:Nat=>100 - k) 0 ab ej ao z.g):=ah w h
def zqt (w:ae G H:=by
 intro z
 refine JX ?_
 exact rB ga z.g (x:=cL fi fu EN (hs:=MG))):=ah w h
def Zll (w:ae G H:=by
 intro z
 refine dA 32766 ?_ (x:=eL ak mJ qB rfl rfl ak rfl bm bm)
 exact dA 65535 z.g (x:=rt ak)):=ah w h
def zri (w:ae G H:=by
 intro z
 refine je ?_
 exact rA z.g (x:=cL fi fu auF (hs:=by exact (awD ab)))):=ah w h
def zru (w:ae G H:=by
 intro z
 refine Yz (c:=6) (AI:=[]) Sx rfl rfl rfl rfl au (fun j L h=>nomatch h) (fun j L h=>nomatch h) ?_
 exact dX 0 z.g (x:=(mi (qs:=va) ak uw (fun h=>nomatch h) ay Mi aQ))):=ah w h
def IC (w:ae G H:=by
 intro z
 refine sR ?_
 exact rX z.g (x:=(kH (ag:=true) (cs:=[sl (.lo _) _,val _]) ak ao))):=ah w h
def Zie (w:ae G H:=by
 intro z
 refine cv ?_
 exact rA z.g (x:=zi (i:=1) (j:=(aq 32 l).length) (ys:=((aq 32 l).drop 1)) (r:=(((aq 32 l).length:Nat):Int)) ak dc (by exact (bq rfl)) aj eb eb ab ab (fun _=>rfl) yL)):=ah w h
def Qo (w:ae G H:=by
 intro z
 refine sS [1,2,3,6,7,8,9,14,15,18,19] [3,6,14] ?_
 exact rM z.g):=ah w h
def oq (w:ae G H:=by
 intro z
 refine rS ?_
 exact rS z.g):=ah w h
def rE (w:ae G H:=by
 intro z
 refine cJ ?_
 exact dA 0 z.g (x:=tM)):=ah w h
def tD (w:ae G H:=by
 intro z
 refine vY ?_
 exact nn z.g):=ah w h
def Zdm (w:ae G H:=by
 intro z
 refine rA ?_ (x:=rj (cs:=iA) (qs:=mo) ak aj FW aQ)
 exact oz z.g):=ah w h
def zW (w:ae G H:=by
 intro z
 refine Kb ?_
 exact mu z.g):=ah w h
def Qp (w:ae G H:=by
 intro z
 refine eJ ?_
 exact Zn4 z.g):=ah w h
def kR (w:ae G H:=by
 intro z
 refine tt ?_
 exact bg z.g):=ah w h
def xp (w:ae G H:=by
 intro z
 refine bL ?_
 exact Ps z.g):=ah w h
def Qq (w:ae G H:=by
 intro z
 refine Ix ?_
 exact rA z.g (x:=cL il ju arW (hs:=by exact ayt))):=ah w h
def Qr (w:ae G H:=by
 intro z
 refine rM ?_
 exact rA z.g (x:=gL dl dl Tw (hs:=by exact (Vu 32 ab)))):=ah w h
def Qs (w:ae G H:=by
 intro z
 refine sS [1,2,3,6,7,8,9,14,15,18,19] [3,6,14] ?_
 exact je z.g):=ah w h
def vu (w:ae G H:=by
 intro z
 refine bL ?_
 exact rM z.g):=ah w h
def Zd3 (w:ae G H:=by
 intro z
 refine rA ?_ (x:=eL ak ic pp rfl rfl ak rfl bm bm)
 exact rA z.g (x:=lF kV)):=ah w h
def zin (w:ae G H:=by
 intro z
 refine sP [0,1,4,12,13] [] ?_
 exact sL [0,1,12] [] (fun k:Nat=>k≤x.length∧x.take k=y.take k) (fun k:Nat=>[(13,RV.int (k:Int))]) (fun k:Nat=>[]) (fun k:Nat=>x.length - k) 0 jp bu ao z.g):=ah w h
def Zee (w:ae G H:=by
 intro z
 refine Zfa ?_
 exact dA 15 z.g (x:=cz (qs:=aM) (cs:=iA) ak jh nB aoE aj cN rfl aj)):=ah w h
def Qt (w:ae G H:=by
 intro z
 refine rA ?_ (x:=lF nI)
 exact rA z.g (x:=lD [sl .v _] nM)):=ah w h
def Zeb (w:ae G H:=by
 intro z
 refine JR ?_
 exact rA z.g (x:=cz (qs:=aM) (cs:=iA) ak jh nB aoE aj cN rfl aj)):=ah w h
def zsk (w:ae G H:=by
 intro z
 refine eI (d:=900) aj (show _=bW (aG bc ai) (s.aC5) jk900 from rfl) ?_
 exact sO [(1,_),(2,_),(4,_),(5,_),(6,_),(2900,_)] [(2,_),(4,_),(6,(41,ng)),(900,(114,bW (aG bc ai) _ _))] z.g):=ah w h
def zuz (w:ae G H:=by
 intro z
 refine rA ?_ (x:=cL [(true,[sl (.lo _) _,val _,val _,sl (.lo _) _,sl (.lo _) _,sl (.lo _) _,sl (.lo _) _,val _]),(false,[val _])] kK Td (hs:=Mo))
 exact dr z.g):=ah w h
def zsp (w:ae G H:=by
 intro z
 refine sO [(1,_),(2,_),(4,_),(5,_),(6,_),(7,_),(8,_),(9,_),(19,_),(20,_),(21,_),(27,_),(28,_),(29,_),(2900,_),(6000,_)] [(2,(41,[sl (.lo _) _,val _])),(4,(41,jM)),(6,(41,ng)),(900,(114,bW sg _ _))] ?_
 exact fh z.g):=ah w h
def Qu (w:ae G H:=by
 intro z
 refine rB gd ?_ (x:=sM)
 exact rB gd z.g (x:=cL aM aM iG (hs:=iw))):=ah w h
def zhb (w:ae G H:=by
 intro z
 refine RE ?_
 exact rB ge z.g (x:=cL YV YW atG (hs:=by exact avF))):=ah w h
def Qv (w:ae G H:=by
 intro z
 refine Ef ?_
 refine cv ?_
 exact RN z.g):=ah w h
def zih (w:ae G H:=by
 intro z
 refine sP [0,1,4,5] [] ?_
 exact sL [0,1] [] (fun k:Nat=>k≤x.length∧x.take k=y.take k) (fun k:Nat=>[(5,RV.int (k:Int))]) (fun k:Nat=>[]) (fun k:Nat=>x.length - k) 0 jp bu ao z.g):=ah w h
def Zer (w:ae G H:=by
 intro z
 refine Zm6 ?_
 exact JV z.g):=ah w h
def Zit (w:ae G H:=by
 intro z
 refine rA ?_ (x:=zi (i:=0) (j:=(ws.length - 1)) (ys:=ls) (q:=(0:Int)) ak dc aj ao eb ab ab ab (fun _=>rfl) (by rw [←hls,List.dropLast_eq_take];simp))
 exact ox z.g):=ah w h
def ID (w:ae G H:=by
 intro z
 refine rP ?_
 exact sT [1,2] [1] z.g):=ah w h
def zX (w:ae G H:=by
 intro z
 refine rA ?_ (x:=lF mH)
 exact rA z.g (x:=lD [val _] mK)):=ah w h
def Qw (w:ae G H:=by
 intro z
 refine sR ?_
 exact rX z.g (x:=(kH (ag:=true) (cs:=vb) ak ao))):=ah w h
def Qx (w:ae G H:=by
 intro z
 refine rA ?_ (x:=lF mI)
 exact tZ z.g):=ah w h
def zzs (w:ae G H:=by
 intro z
 refine sS [2,3,4,5,6,7,8] [2,3,4,6,7] ?_
 exact rA z.g (x:=eP (ms:=jM) (qs:=[any,val _]) ak iH (fun h=>nomatch h) ay aj (by exact (az.cons PV.to_any (aB az.nil))) aQ)):=ah w h
def Qy (w:ae G H:=by
 intro z
 refine Zmv ?_
 exact rS z.g):=ah w h
def zY (w:ae G H:=by
 intro z
 refine ql ?_
 exact rM z.g):=ah w h
def qe (w:ae G H:=by
 intro z
 refine rS ?_
 exact gB z.g):=ah w h
def IE (w:ae G H:=by
 intro z
 refine rM ?_
 exact Sn z.g):=ah w h
def Dn (w:ae G H:=by
 intro z
 refine dA 0 ?_ (x:=cM Cp.ptr)
 exact dA 32 z.g (x:=rt ak)):=ah w h
def Qz (w:ae G H:=by
 intro z
 refine rA ?_ (x:=lF uq)
 exact So z.g):=ah w h
def zjg (w:ae G H:=by
 intro z
 refine rB gb ?_ (x:=aS (k:=(db l f k).length - 1) ak kz ao ab (by exact eQ ab (by rw [dM (d:=nD) ab])) aj)
 exact rB gb z.g (x:=cr ak yr ay)):=ah w h
def QA (w:ae G H:=by
 intro z
 refine rM ?_
 exact Sm z.g):=ah w h
def QB (w:ae G H:=by
 intro z
 refine rA ?_ (x:=lF SC)
 exact So z.g):=ah w h
def Zl2 (w:ae G H:=by
 intro z
 refine eI (d:=10) aj (show _=[val (vI u.Row.Id),sl ai ((jY s u).map ar),val (vI (s.Now+1)),val (vI (-1))] from by first|(rw [hv2];done)|(rw [hv2];exact rfl)) ?_
 exact Sg z.g):=ah w h
def rF (w:ae G H:=by
 intro z
 refine rM ?_
 exact vX z.g):=ah w h
def xq (w:ae G H:=by
 intro z
 refine rB gc ?_ (x:=iN)
 exact rA z.g (x:=bF gc)):=ah w h
def IF (w:ae G H:=by
 intro z
 refine vZ ?_
 exact rS z.g):=ah w h
def zwl (w:ae G H:=by
 intro z
 refine sO [(2,_),(3,_),(4,_),(5,_),(6,_),(7,_),(8,_),(9,_),(10,_),(2920,_),(2921,_)] [(2,_),(3,_),(4,_),(6,_),(10,_),(920,(114,_++([val _]++_))),(921,(116,_++(pU++_)))] ?_
 exact cJ z.g):=ah w h
def qf (w:ae G H:=by
 intro z
 refine ov ?_
 exact rM z.g):=ah w h
def IG (w:ae G H:=by
 intro z
 refine rP ?_
 exact bg z.g):=ah w h
def Do (w:ae G H:=by
 intro z
 refine rB gb ?_ (x:=lF kV)
 exact rB gb z.g (x:=lD [sl .v _] kq)):=ah w h
def Dp (w:ae G H:=by
 intro z
 refine rB ga ?_ (x:=lF mH)
 exact rB ga z.g (x:=lD [sl .v _] mK)):=ah w h
def QC (w:ae G H:=by
 intro z
 refine rM ?_
 exact rA z.g (x:=aS (k:=i) ak gG ao ab (by exact eQ hi rfl) aj)):=ah w h
def QD (w:ae G H:=by
 intro z
 refine sS [1,2,4,5,8,7000] [2,4] ?_
 exact je z.g):=ah w h
def vv (w:ae G H:=by
 intro z
 refine ua ?_
 exact mu z.g):=ah w h
def Dq (w:ae G H:=by
 intro z
 refine rA ?_ (x:=lF mH)
 exact rA z.g (x:=lD [sl (.lo _) _] mK)):=ah w h
def IH (w:ae G H:=by
 intro z
 refine rB gd ?_ (x:=sM)
 refine rB gd ?_ (x:=to)
 exact tV z.g):=ah w h
def kS (w:ae G H:=by
 intro z
 refine lH ?_
 exact fH z.g):=ah w h
def QE (w:ae G H:=by
 intro z
 refine AO ?_
 exact rM z.g):=ah w h
def ot (w:ae G H:=by
 intro z
 refine bg ?_
 exact bg z.g):=ah w h
def ko (w:ae G H:=by
 intro z
 refine Ia ?_
 exact rM z.g):=ah w h
def zke (w:ae G H:=by
 intro z
 refine dA 0 ?_ (x:=lF Bj)
 exact dA 1 z.g (x:=eP (ms:=[sl _ _]) (qs:=[sl .v _]) ak Bm (fun _=>rfl) ay aj gS fp)):=ah w h
def Zlf (w:ae G H:=by
 intro z
 refine dA 6 ?_ (x:=lF oL)
 exact dA 14 z.g (x:=eP (ms:=[sl _ _]) (qs:=[sl .v _]) ak nL (fun _=>rfl) ay aj gS fp)):=ah w h
def zpx (w:ae G H:=by
 intro z
 refine xV ?_
 exact dA 1 z.g (x:=eP (ms:=[sl _ _]) (qs:=[sl .v _]) ak fe (fun _=>rfl) ay aj gS fp)):=ah w h
def zpz (w:ae G H:=by
 intro z
 refine dA 0 ?_ (x:=lF nI)
 exact dA 1 z.g (x:=eP (ms:=[sl _ _]) (qs:=[sl .v _]) ak nM (fun _=>rfl) ay aj gS fp)):=ah w h
def rG (w:ae G H:=by
 intro z
 refine iq ?_
 exact rM z.g):=ah w h
def zx1 (w:ae G H:=by
 intro z
 refine rA ?_ (x:=lF py)
 exact rA z.g (x:=eP (ms:=[sl _ _]) (qs:=[sl .v _]) ak iU (fun _=>rfl) ay aj gS fp)):=ah w h
def Dr (w:ae G H:=by
 intro z
 refine rA ?_ (x:=lF amh)
 exact rA z.g (x:=lD [sl .v _] amk)):=ah w h
def zpl (w:ae G H:=by
 intro z
 refine rA ?_ (x:=lF mH)
 exact rA z.g (x:=eP (ms:=[sl _ _]) (qs:=[sl .v _]) ak mK (fun _=>rfl) ay aj gS fp)):=ah w h
def zqb (w:ae G H:=by
 intro z
 refine rA ?_ (x:=lF oL)
 exact rA z.g (x:=eP (ms:=[sl _ _]) (qs:=[sl .v _]) ak nL (fun _=>rfl) ay aj gS fp)):=ah w h
def Zd1 (w:ae G H:=by
 intro z
 refine rA ?_ (x:=lF kV)
 exact rA z.g (x:=eP (ms:=[sl _ _]) (qs:=[sl .v _]) ak kq (fun _=>rfl) ay aj gS fp)):=ah w h
def zt7 (w:ae G H:=by
 intro z
 refine sO [(1,_),(2,_),(4,_),(5,_),(6,_),(7,_),(8,_),(9,_),(10,_),(2900,_),(6000,_)] [(2,(41,[sl (.lo _) _,val _])),(4,(41,jM)),(6,(41,ng)),(900,(114,bW sg _ _))] ?_
 exact fh z.g):=ah w h
def rH (w:ae G H:=by
 intro z
 refine rK ?_
 exact sT [1,2] [1] z.g):=ah w h
def qg (w:ae G H:=by
 intro z
 refine cJ ?_
 exact gC z.g):=ah w h
def zZ (w:ae G H:=by
 intro z
 refine IB ?_
 exact dA 1 z.g (x:=rt ak)):=ah w h
def qh (w:ae G H:=by
 intro z
 refine sR ?_
 exact rK z.g):=ah w h
def Zlj (w:ae G H:=by
 intro z
 refine dA 0 ?_ (x:=lF py)
 exact dA 2048 z.g (x:=mi (qs:=Cl) ak iU (fun _=>rfl) ay uI Mb)):=ah w h
def Zjv (w:ae G H:=by
 intro z
 refine rA ?_ (x:=rp (cs:=[sl _ _]) ak aj fp)
 exact oz z.g):=ah w h
def xr (w:ae G H:=by
 intro z
 refine sG [0,2,3,4,5] [2,5] ?_
 exact vp z.g):=ah w h
def qi (w:ae G H:=by
 intro z
 refine rM ?_
 exact eZ z.g):=ah w h
def zrw (w:ae G H:=by
 intro z
 refine cu.stepC 127 oT ao (dj.of rfl (GN (.inl rfl) ak)) mm au uH ?_
 refine Znb ?_
 exact Znb z.g):=ah w h
def Zlh (w:ae G H:=by
 intro z
 refine dA 0 ?_ (x:=lF ww)
 exact dA 128 z.g (x:=mi (qs:=[val _]) ak aV (fun _=>rfl) ay FQ mZ)):=ah w h
def Zli (w:ae G H:=by
 intro z
 refine dA 0 ?_ (x:=lF KG)
 exact dA 512 z.g (x:=mi (qs:=[val _]) ak aV (fun _=>rfl) ay FQ mZ)):=ah w h
def Zbd (w:ae G H:=by
 intro z
 refine zxh ?_
 exact gC z.g):=ah w h
def tE (w:ae G H:=by
 intro z
 refine sR ?_
 refine dp ?_
 exact mw z.g):=ah w h
def tF (w:ae G H:=by
 intro z
 refine qk ?_
 refine cm ?_
 exact sP [0,2,3,4] [] z.g):=ah w h
def Ds (w:ae G H:=by
 intro z
 refine rA ?_ (x:=lF yp)
 exact eJ z.g):=ah w h
def Zju (w:ae G H:=by
 intro z
 refine cv ?_
 exact rA z.g (x:=cL cf cC at0 (hs:=by exact (aBZ (ws:=(aq 32 l)) h0w (fun j=>Nat.le_trans (ij 32 l j) ab) ab)))):=ah w h
def zej (w:ae G H:=by
 intro z
 refine gn ?_
 exact rA z.g (x:=cL NC YX ar6 (hs:=by exact avC))):=ah w h
def Dt (w:ae G H:=by
 intro z
 refine rA ?_ (x:=lF mI)
 exact eJ z.g):=ah w h
def Zd4 (w:ae G H:=by
 intro z
 refine zor ?_
 exact sW [0,2,3,4,5,6,7,8,9,11,12,13,14,15,16,17,18,19,20,21,22,23,7000] [2] [12] z.g):=ah w h
def Du (w:ae G H:=by
 intro z
 refine vP ?_
 exact dC z.g):=ah w h
def qj (w:ae G H:=by
 intro z
 refine rM ?_
 exact rz z.g):=ah w h
def Zl5 (w:ae G H:=by
 intro z
 refine sO [(2,_),(3,_),(4,_),(5,_),(6,_),(7,_),(8,_),(9,_),(10,_),(2930,_)] [(2,_),(3,_),(4,_),(6,_),(10,(116,[val _,val _,val _,val _])),(930,(3,_++([val _]++_)))] ?_
 exact fh z.g):=ah w h
def zp4 (w:ae G H:=by
 intro z
 refine dA 1 ?_ (x:=lD iB gD)
 exact dA 3 z.g (x:=cL il ju Te (hs:=MH))):=ah w h
def zpj (w:ae G H:=by
 intro z
 refine eJ ?_
 exact rA z.g (x:=cz (qs:=aM) (cs:=jM) ak ES EV aws aj cN rfl aj)):=ah w h
def xt (w:ae G H:=by
 intro z
 refine rA ?_ (x:=gL aM aM Tp (hs:=by exact (Vy ab)))
 refine bL ?_
 exact Ps z.g):=ah w h
def nr (w:ae G H:=by
 intro z
 refine Il ?_
 exact iC z.g):=ah w h
def vw (w:ae G H:=by
 intro z
 refine bg ?_
 refine sQ [1,2] [1,2] ?_
 exact cJ z.g):=ah w h
def Zl3 (w:ae G H:=by
 intro z
 refine Zks ?_
 refine Er ?_
 exact eI (d:=10) aj (show _=[val (vI u.Row.Id),sl ai ((gH s u).map ar),val (vI (s.Now+1)),val (vI (-1))] from by first|(rw [hu2];done)|(rw [hu2];exact rfl)) z.g):=ah w h
def Aa (w:ae G H:=by
 intro z
 refine fI ?_
 exact rB ga z.g (x:=xc)):=ah w h
def Zm7 (w:ae G H:=by
 intro z
 refine Sl ?_
 exact cn z.g):=ah w h
def zgq (w:ae G H:=by
 intro z
 refine dA 3 ?_ (x:=aS (k:=i) ak fz ao eb (by exact eQ hlt2 (by rw [dM (d:=v0) hlt2])) aj)
 exact dA 7 z.g (x:=lE pc lV)):=ah w h
def vz (w:ae G H:=by
 intro z
 refine zf gd ?_
 exact tV z.g):=ah w h
def vC (w:ae G H:=by
 intro z
 refine zt gd ?_
 exact rO z.g):=ah w h
def zq2 (w:ae G H:=by
 intro z
 refine tT ?_
 exact zk5 z.g):=ah w h
def tG (w:ae G H:=by
 intro z
 refine cg ?_
 exact oy z.g):=ah w h
def xu (w:ae G H:=by
 intro z
 refine cJ ?_
 exact dt z.g):=ah w h
def zx6 (w:ae G H:=by
 intro z
 refine xS ?_
 exact sW [1,2,3,4,5,6,8,9,10,11,57,58,59,77,78,79,6100] [1,2,4,10] [6] z.g):=ah w h
def zzt (w:ae G H:=by
 intro z
 refine sO [(2,_),(3,_),(4,_),(5,_),(6,_),(7,_),(8,_)] [(2,_),(3,_),(4,_),(6,(46,dV)),(7,(41,[any,val _]))] ?_
 exact uW z.g):=ah w h
def zh7 (w:ae G H:=by
 intro z
 refine sT [1,3,5,7,23,24,25,32,33,34,66,67,68] [1,7] ?_
 exact rA z.g (x:=aS (k:=m) ak fz ao eb (by exact eQ ab (by rw [hsg])) aj)):=ah w h
def zmn (w:ae G H:=by
 intro z
 refine rB ga ?_ (x:=lD iB gD)
 exact rB ga z.g (x:=cL il ju EA (hs:=by exact KK))):=ah w h
def nt (w:ae G H:=by
 intro z
 refine lG ?_
 exact gB z.g):=ah w h
def zfd (w:ae G H:=by
 intro z
 refine pk ?_
 exact Znc z.g):=ah w h
def zlq (w:ae G H:=by
 intro z
 refine rB ge ?_ (x:=lD [val _] aV)
 exact rB ge z.g (x:=cL cF cF mC (hs:=md))):=ah w h
def zpg (w:ae G H:=by
 intro z
 refine dA 192 ?_ (x:=aS ak fz ao aj bD aj)
 exact dA 448 z.g (x:=cr ak qz ay)):=ah w h
def xv (w:ae G H:=by
 intro z
 refine tX ?_
 exact tw z.g):=ah w h
def zu4 (w:ae G H:=by
 intro z
 refine dA 255 ?_ (x:=bR (ag:=true) (vs:=ki) nJ ao aj ay)
 exact bg z.g):=ah w h
def Zcp (w:ae G H:=by
 intro z
 refine rA ?_ (x:=aS (k:=((aq 32 s).length - 1)) ak dc ao ab (by exact eQ hlw (by rw [←yE hlw])) aj)
 exact pn z.g):=ah w h
def zpf (w:ae G H:=by
 intro z
 refine dA 6 ?_ (x:=aS ak fz ao aj bD aj)
 exact dA 14 z.g (x:=cr ak yo ay)):=ah w h
def zld (w:ae G H:=by
 intro z
 refine dA 7 ?_ (x:=aS (k:=k) ak bY ao eb Mz aj)
 exact dA 15 z.g (x:=lE [val _] aV)):=ah w h
def II (w:ae G H:=by
 intro z
 refine dA 0 ?_ (x:=cM Cp.ptr)
 exact dA 2 z.g (x:=rt ak)):=ah w h
def Zhl (w:ae G H:=by
 intro z
 refine dA 127 ?_ (x:=bR (ag:=true) (vs:=dV) dg ao aj ay)
 exact dA 255 z.g (x:=sA)):=ah w h
def IJ (w:ae G H:=by
 intro z
 refine rB gc ?_ (x:=lF AV)
 exact rB gc z.g (x:=lD [sl .v _] bZ)):=ah w h
def IK (w:ae G H:=by
 intro z
 refine bg ?_
 exact Er z.g):=ah w h
def zxk (w:ae G H:=by
 intro z
 refine zxe ?_
 exact dt z.g):=ah w h
def Ab (w:ae G H:=by
 intro z
 refine sG [0,2,3,4,5] [2,5] ?_
 exact qj z.g):=ah w h
def Ac (w:ae G H:=by
 intro z
 refine bS.s0f rfl ?_
 exact rA z.g (x:=bF rfl)):=ah w h
def Zcv (w:ae G H:=by
 intro z
 refine pn ?_
 exact rA z.g (x:=gL dl dl KD (hs:=by exact (LI (l:=[102]) ab)))):=ah w h
def zni (w:ae G H:=by
 intro z
 refine rS ?_
 exact RJ z.g):=ah w h
def Zjf (w:ae G H:=by
 intro z
 refine rB gg ?_ (x:=hP)
 exact zo9 z.g):=ah w h
def vD (w:ae G H:=by
 intro z
 refine tS ?_
 exact rM z.g):=ah w h
def zwi (w:ae G H:=by
 intro z
 refine sS [2,3,4,5,6,7,8,9,10] [2,3,4,6,10] ?_
 exact Ef z.g):=ah w h
def IL (w:ae G H:=by
 intro z
 refine rB gc ?_ (x:=lF la)
 exact pk z.g):=ah w h
def zg4 (w:ae G H:=by
 intro z
 refine ow ?_
 exact Znc z.g):=ah w h
def zhq (w:ae G H:=by
 intro z
 refine dA 15 ?_ (x:=cL cF cF mC (hs:=md))
 exact dA 31 z.g (x:=nT)):=ah w h
def Dv (w:ae G H:=by
 intro z
 refine mx ?_
 exact rA z.g (x:=lF ur)):=ah w h
def QF (w:ae G H:=by
 intro z
 refine xV ?_
 exact dA 2 z.g (x:=lD [sl .v _] fe)):=ah w h
def zsb (w:ae G H:=by
 intro z
 refine rM ?_
 exact zfk z.g):=ah w h
def zzw (w:ae G H:=by
 intro z
 refine io ?_
 exact Zn6 z.g):=ah w h
def pj (w:ae G H:=by
 intro z
 refine bI ?_
 refine jv ?_
 exact dC z.g):=ah w h
def Zeg (w:ae G H:=by
 intro z
 refine dA 239 ?_ (x:=cL dl dl KC (hs:=by exact (aoD ab)))
 exact my z.g):=ah w h
def vE (w:ae G H:=by
 intro z
 refine rM ?_
 exact jw z.g):=ah w h
def vF (w:ae G H:=by
 intro z
 refine rA ?_ (x:=mq)
 exact rS z.g):=ah w h
def zbd (w:ae G H:=by
 intro z
 refine JI ?_
 exact eZ z.g):=ah w h
def zxi (w:ae G H:=by
 intro z
 refine rA ?_ (x:=mh (r':=RV.sv false [sl .v _]) (.inl rfl) ak LX)
 exact Du z.g):=ah w h
def Zdi (w:ae G H:=by
 intro z
 refine Zm4 ?_
 exact zH z.g):=ah w h
def QG (w:ae G H:=by
 intro z
 refine sG [1,2,4,5,6,7,8,9,10,11,12,13,2900,6000] [2,4,6,11,900] ?_
 exact bO z.g):=ah w h
def Dw (w:ae G H:=by
 intro z
 refine sS [1,2,4,5,8,7000] [2,4] ?_
 exact IF z.g):=ah w h
def ze3 (w:ae G H:=by
 intro z
 refine rX ?_ (x:=(gW ak pp Km))
 exact zds z.g):=ah w h
def IM (w:ae G H:=by
 intro z
 refine dA 1 ?_ (x:=lF kW)
 exact dA 3 z.g (x:=lD [val _] aV)):=ah w h
def zzl (w:ae G H:=by
 intro z
 refine bL ?_
 refine vi ?_
 exact ub z.g):=ah w h
def Ziz (w:ae G H:=by
 intro z
 refine ub ?_
 exact cn z.g):=ah w h
def zm0 (w:ae G H:=by
 intro z
 refine rA ?_ (x:=cL oh tj alU (hs:=by exact amE))
 exact eZ z.g):=ah w h
def ahK (w:ae G H:=by
 intro z
 refine rA ?_ (x:=bR (ag:=true) (vs:=xb) lV ao aj ay)
 exact bg z.g):=ah w h
def Ad (w:ae G H:=by
 intro z
 refine sS [0,2,3,4,5,6] [] ?_
 exact rM z.g):=ah w h
def zol (w:ae G H:=by
 intro z
 refine zjs ?_
 exact rA z.g (x:=lE [val _,val _,sl .v _] aml)):=ah w h
def Za3 (w:ae G H:=by
 intro z
 refine ub ?_
 exact rK z.g):=ah w h
def xw (w:ae G H:=by
 intro z
 refine rJ ?_
 exact mu z.g):=ah w h
def xx (w:ae G H:=by
 intro z
 refine mx ?_
 refine cm ?_
 exact sP [1,2,3,4] [1] z.g):=ah w h
def zgu (w:ae G H:=by
 intro z
 refine JJ ?_
 exact dq z.g):=ah w h
def xy (w:ae G H:=by
 intro z
 refine qm ?_
 exact rM z.g):=ah w h
def zt2 (w:ae G H:=by
 intro z
 refine vW ?_
 exact rA z.g (x:=cL [(true,[sl (.lo _) _,val _])] lA Tg (hs:=MI))):=ah w h
def Zbk (w:ae G H:=by
 intro z
 refine Em ?_
 exact rB ga z.g (x:=cL jK ly Tj (hs:=by exact (Vw (r:=lY s))))):=ah w h
def Zcy (w:ae G H:=by
 intro z
 refine rA ?_ (x:=gL dl dl Tn (hs:=by exact (Vt (sep:=[46,46]) ab)))
 exact bL z.g):=ah w h
def Ziy (w:ae G H:=by
 intro z
 refine sS [0,1,4,5] [4] ?_
 exact rA z.g (x:=cz (qs:=[]) (cs:=jM) ak ES EV aBP aj ao rfl aj)):=ah w h
def Zje (w:ae G H:=by
 intro z
 refine rB gf ?_ (x:=vM false [sl .v _])
 exact rB gf z.g (x:=aS (k:=0) ak dc (bq rfl) eb sE aj)):=ah w h
def za2 (w:ae G H:=by
 intro z
 refine rM ?_
 exact JJ z.g):=ah w h
def Zdf (w:ae G H:=by
 intro z
 refine my ?_
 exact dA 16 z.g (x:=aS (k:=1) ak dc (bq rfl) eb FU aj)):=ah w h
def Zef (w:ae G H:=by
 intro z
 refine my ?_
 exact dA 32 z.g (x:=aS (k:=2) ak dc (bq rfl) eb FT aj)):=ah w h
def zsh (w:ae G H:=by
 intro z
 refine vW ?_
 exact rA z.g (x:=cL [(true,[sl (.lo _) _,val _])] lA ame (hs:=by exact amw ab))):=ah w h
def zt3 (w:ae G H:=by
 intro z
 refine vW ?_
 exact rA z.g (x:=cL [(true,[sl (.lo _) _,val _])] lA amg (hs:=by exact amv ab))):=ah w h
def zve (w:ae G H:=by
 intro z
 refine Znd ?_
 exact vT z.g):=ah w h
def Zdd (w:ae G H:=by
 intro z
 refine my ?_
 exact dA 1 z.g (x:=aS (k:=0) ak dc (bq rfl) eb sE aj)):=ah w h
def zwj (w:ae G H:=by
 intro z
 refine xS ?_
 exact Sh z.g):=ah w h
def Zeq (w:ae G H:=by
 intro z
 refine rA ?_ (x:=gL dl dl Tn (hs:=by exact (Vt (sep:=[32]) ab)))
 exact bL z.g):=ah w h
def xz (w:ae G H:=by
 intro z
 refine aK ?_
 exact sG [0,3] [] z.g):=ah w h
def xA (w:ae G H:=by
 intro z
 refine be ?_
 exact sS [0,3] [] z.g):=ah w h
def xB (w:ae G H:=by
 intro z
 refine bI ?_
 exact dC z.g):=ah w h
def IN (w:ae G H:=by
 intro z
 refine cv ?_
 exact rA z.g (x:=lN lU)):=ah w h
def IP (w:ae G H:=by
 intro z
 refine rA ?_ (x:=lF la)
 exact eJ z.g):=ah w h
def IQ (w:ae G H:=by
 intro z
 refine xY ?_
 exact eJ z.g):=ah w h
def Ae (w:ae G H:=by
 intro z
 refine sS [1,2,3,16] [1] ?_
 exact mu z.g):=ah w h
def Dx (w:ae G H:=by
 intro z
 refine pk ?_
 exact Dl z.g):=ah w h
def Zis (w:ae G H:=by
 intro z
 refine rA ?_ (x:=aS (k:=ws.length - 1) ak dc ao ab (by exact eQ hlw rfl) aj)
 exact pn z.g):=ah w h
def Zmf (w:ae G H:=by
 intro z
 refine RK ?_
 exact rK z.g):=ah w h
def Zeu (w:ae G H:=by
 intro z
 refine Kd ?_
 refine rA ?_ (x:=lF ak0)
 exact So z.g):=ah w h
def Zik (w:ae G H:=by
 intro z
 refine Sc ?_
 exact je z.g):=ah w h
def zwd (w:ae G H:=by
 intro z
 refine tR ?_
 exact dA 0 z.g (x:=lF AW)):=ah w h
def IR (w:ae G H:=by
 intro z
 refine dA 255 ?_ (x:=cZ)
 exact dA 511 z.g (x:=cZ)):=ah w h
def zrt (w:ae G H:=by
 intro z
 refine rB ga ?_ (x:=lD va uw)
 exact rB ga z.g (x:=cL [(true,oi)] [(true,va)] auM (hs:=by exact avY))):=ah w h
def zz8 (w:ae G H:=by
 intro z
 refine xl ?_
 exact Zby z.g):=ah w h
def Dy (w:ae G H:=by
 intro z
 refine ir ?_
 exact jP z.g):=ah w h
def QH (w:ae G H:=by
 intro z
 refine dA 0 ?_ (x:=lD va uw)
 exact my z.g):=ah w h
def zp3 (w:ae G H:=by
 intro z
 refine sR ?_
 exact RG z.g):=ah w h
def Af (w:ae G H:=by
 intro z
 refine dp ?_
 exact sT [1,2,7000] [1] z.g):=ah w h
def Zcu (w:ae G H:=by
 intro z
 refine iO ?_
 exact rA z.g (x:=aS (k:=(2+2 * k)) ak dc ao ab FT aj)):=ah w h
def Zgf (w:ae G H:=by
 intro z
 refine AQ ?_
 exact znv z.g):=ah w h
def Zgp (w:ae G H:=by
 intro z
 refine rA ?_ (x:=aS ak Bl ao aj bD aj)
 exact rA z.g (x:=lE [sl .v _] bZ)):=ah w h
def zgm (w:ae G H:=by
 intro z
 refine AQ ?_
 exact rA z.g (x:=cL tk lA atE (hs:=by exact avI ab))):=ah w h
def zsa (w:ae G H:=by
 intro z
 refine dA 32 ?_ (x:=lD [val _] aV)
 exact dA 103 z.g (x:=cL aM aM iG (hs:=iw))):=ah w h
def Zbr (w:ae G H:=by
 intro z
 refine dA 16 ?_ (x:=lD [val _] aV)
 exact dA 55 z.g (x:=gL aM aM jV (hs:=jE))):=ah w h
def Ag (w:ae G H:=by
 intro z
 refine rA ?_ (x:=lF kV)
 refine rA ?_ (x:=lD [sl .v _] kq)
 exact rA z.g (x:=lN ic)):=ah w h
def xC (w:ae G H:=by
 intro z
 refine rM ?_
 exact rA z.g (x:=hP)):=ah w h
def Ah (w:ae G H:=by
 intro z
 refine zQ ?_
 exact rA z.g (x:=lN mJ)):=ah w h
def zrm (w:ae G H:=by
 intro z
 refine JP ?_
 exact rA z.g (x:=cL [(true,oi)] [(true,va)] auQ (hs:=by exact awp))):=ah w h
def Zg6 (w:ae G H:=by
 intro z
 refine cv ?_
 exact rA z.g (x:=cL cf cC ave (hs:=by exact (aAC ab ab)))):=ah w h
def Zbs (w:ae G H:=by
 intro z
 refine dA 2 ?_ (x:=lD [val _] aV)
 exact dA 6 z.g (x:=gL aM aM jV (hs:=jE))):=ah w h
def Zlm (w:ae G H:=by
 intro z
 refine dA 131071 ?_ (x:=lF oL)
 exact dA 262143 z.g (x:=bR (ag:=false) (vs:=[sl _ _]) nL ao aj ay)):=ah w h
def zee (w:ae G H:=by
 intro z
 refine Em ?_
 exact rB ga z.g (x:=cL jK ly SA (hs:=by exact Tz))):=ah w h
def Dz (w:ae G H:=by
 intro z
 refine sS [0,2,3,7000] [2,3] ?_
 exact Dm z.g):=ah w h
def IS (w:ae G H:=by
 intro z
 refine dA 7 ?_ (x:=cZ)
 exact dA 15 z.g (x:=cZ)):=ah w h
def zwh (w:ae G H:=by
 intro z
 refine dA 4095 ?_ (x:=bR (ag:=true) (vs:=pU) lV ao aj ay)
 exact bg z.g):=ah w h
def Ai (w:ae G H:=by
 intro z
 refine rK ?_
 exact sT [2,3,4] [2,3] z.g):=ah w h
def Aj (w:ae G H:=by
 intro z
 refine zf ge ?_
 exact rA z.g (x:=bF ge)):=ah w h
def xD (w:ae G H:=by
 intro z
 refine qh ?_
 exact lI z.g):=ah w h
def QI (w:ae G H:=by
 intro z
 refine cJ ?_
 exact dA 0 z.g (x:=lD iB gD)):=ah w h
def tH (w:ae G H:=by
 intro z
 refine Pt ?_
 exact bg z.g):=ah w h
def IT (w:ae G H:=by
 intro z
 refine sW [0,2,3,4,5,9,10] [2,5] [9] ?_
 refine Zn7 ?_
 exact rA z.g (x:=cz (qs:=[(false,[val _]),(true,pd)]) (cs:=tl) ak ER EU LJ aj Gw rfl aj)):=ah w h
def zqo (w:ae G H:=by
 intro z
 refine dA 7 ?_ (x:=gL aM aM jV (hs:=jE))
 exact dA 15 z.g (x:=cZ)):=ah w h
def zqu (w:ae G H:=by
 intro z
 refine dA 7 ?_ (x:=cL aM aM iG (hs:=iw))
 exact dA 15 z.g (x:=cZ)):=ah w h
def zc5 (w:ae G H:=by
 intro z
 refine dA 4 ?_ (x:=lD [sl .v _] bZ)
 exact dA 12 z.g (x:=cL cf cC wd (hs:=uN))):=ah w h
def zox (w:ae G H:=by
 intro z
 refine Ed ?_
 exact dA 31 z.g (x:=cL cf cC wd (hs:=uN))):=ah w h
def zda (w:ae G H:=by
 intro z
 refine dt ?_
 exact dA 7 z.g (x:=aS ak ic ao aj bD aj)):=ah w h
def zf8 (w:ae G H:=by
 intro z
 refine xM ?_
 exact Zne z.g):=ah w h
def IU (w:ae G H:=by
 intro z
 refine rB ga ?_ (x:=lN gG)
 exact rB ga z.g (x:=hP)):=ah w h
def IV (w:ae G H:=by
 intro z
 refine sU [0,2,3,4,5,9,10] [2] [5,9] ?_
 refine Sb ?_
 exact sG [0,2,3,4,5,9,10] [2,5,9] z.g):=ah w h
def Ak (w:ae G H:=by
 intro z
 refine cm ?_
 exact sP [1,2,3] [1] z.g):=ah w h
def Al (w:ae G H:=by
 intro z
 refine aK ?_
 exact sG [1,3] [1] z.g):=ah w h
def DA (w:ae G H:=by
 intro z
 refine aK ?_
 exact oy z.g):=ah w h
def Am (w:ae G H:=by
 intro z
 refine dF 1023 gb ?_
 exact dF 1023 gb z.g):=ah w h
def An (w:ae G H:=by
 intro z
 refine fI ?_
 refine rB ga ?_ (x:=to)
 exact jQ z.g):=ah w h
def Zm1 (w:ae G H:=by
 intro z
 refine tZ ?_
 exact sV [0,2,3,7000] [2] [3] z.g):=ah w h
def zjj (w:ae G H:=by
 intro z
 refine rA ?_ (x:=lx (k:=((db l f k).length - 1)) (G:=2900) ak kz ao ab (by first|(rw [aX];exact hl1)|exact hl1))
 refine rA ?_ (x:=lF yq)
 exact rA z.g (x:=rn (o:=1) (ag:=false) (vs:=[val _]) ab aV ao aj ay)):=ah w h
def IW (w:ae G H:=by
 intro z
 refine aK ?_
 exact sS [2,3,4,5,6] [2,3,4,6] z.g):=ah w h
def zon (w:ae G H:=by
 intro z
 refine rL ?_
 exact Zh2 z.g):=ah w h
def zaq (w:ae G H:=by
 intro z
 refine iO ?_
 exact rA z.g (x:=cL gJ gK akX (hs:=by exact amn))):=ah w h
def DB (w:ae G H:=by
 intro z
 refine be ?_
 exact sT [1,2,3,4] [1] z.g):=ah w h
def zq6 (w:ae G H:=by
 intro z
 refine rA ?_ (x:=lF py)
 exact zqa z.g):=ah w h
def QJ (w:ae G H:=by
 intro z
 refine tX ?_
 exact vW z.g):=ah w h
def DC (w:ae G H:=by
 intro z
 refine AP ?_
 exact mu z.g):=ah w h
def Ao (w:ae G H:=by
 intro z
 refine rB gb ?_ (x:=nT)
 exact zY z.g):=ah w h
def IX (w:ae G H:=by
 intro z
 refine dT 4194303 ga ?_
 exact dA 8388607 z.g (x:=cd ga)):=ah w h
def zjh (w:ae G H:=by
 intro z
 refine sO [(0,_),(1,_),(4,_),(5,_),(6,_),(7,_),(8,_),(2900,_)] [(900,(307,_++(Ck++_)))] ?_
 exact fh z.g):=ah w h
def Ap (w:ae G H:=by
 intro z
 refine Di ?_
 exact dC z.g):=ah w h
def zpn (w:ae G H:=by
 intro z
 refine rA ?_ (x:=lF mH)
 exact rA z.g (x:=bR (ag:=false) (vs:=[sl _ _]) mK ao aj ay)):=ah w h
def zq5 (w:ae G H:=by
 intro z
 refine rA ?_ (x:=lD [sl .v _] iU)
 exact rA z.g (x:=cL cf cC auz (hs:=by exact avx ab))):=ah w h
def zqd (w:ae G H:=by
 intro z
 refine rA ?_ (x:=lF oL)
 exact rA z.g (x:=bR (ag:=false) (vs:=[sl _ _]) nL ao aj ay)):=ah w h
def Aq (w:ae G H:=by
 intro z
 refine nn ?_
 exact dC z.g):=ah w h
def QK (w:ae G H:=by
 intro z
 refine xU ?_
 exact dA 1 z.g (x:=lD rr iH)):=ah w h
def zsl (w:ae G H:=by
 intro z
 refine sO [(1,_),(2,_),(4,_),(5,_),(6,_),(2900,_),(6000,_)] [(2,_),(4,_),(6,_),(900,(114,bW sg _ _))] ?_
 exact fh z.g):=ah w h
def zy0 (w:ae G H:=by
 intro z
 refine rA ?_ (x:=lF sh)
 exact tZ z.g):=ah w h
def DD (w:ae G H:=by
 intro z
 refine aY ?_
 exact sS [0,1,4,5,6] [] z.g):=ah w h
def DE (w:ae G H:=by
 intro z
 refine rA ?_ (x:=lF lS)
 exact qc z.g):=ah w h
def zbr (w:ae G H:=by
 intro z
 refine vR ?_
 exact rB ga z.g (x:=cL cf cC ar0 (hs:=by exact avu))):=ah w h
def zro (w:ae G H:=by
 intro z
 refine vR ?_
 exact rB ga z.g (x:=cL cf cC alT (hs:=by exact amF))):=ah w h
def zj2 (w:ae G H:=by
 intro z
 refine iO ?_
 exact Zn1 z.g):=ah w h
def Ar (w:ae G H:=by
 intro z
 refine rA ?_ (x:=cd ge)
 exact rM z.g):=ah w h
def Zkc (w:ae G H:=by
 intro z
 refine Sd ?_
 exact cP z.g):=ah w h
def tJ (w:ae G H:=by
 intro z
 refine Di ?_
 exact dm z.g):=ah w h
def zrl (w:ae G H:=by
 intro z
 refine cv ?_
 exact rA z.g (x:=cL cf cC auL (hs:=by exact avX))):=ah w h
def QL (w:ae G H:=by
 intro z
 refine cv ?_
 exact ox z.g):=ah w h
def rI (w:ae G H:=by
 intro z
 refine tu ?_
 exact rS z.g):=ah w h
def IY (w:ae G H:=by
 intro z
 refine rB gb ?_ (x:=iN)
 exact ql z.g):=ah w h
def IZ (w:ae G H:=by
 intro z
 refine ox ?_
 exact bg z.g):=ah w h
def vG (w:ae G H:=by
 intro z
 refine zD ?_
 exact bg z.g):=ah w h
def zzq (w:ae G H:=by
 intro z
 refine CW ?_
 exact Znd z.g):=ah w h
def Zko (w:ae G H:=by
 intro z
 refine Ej ?_
 exact cn z.g):=ah w h
def Zly (w:ae G H:=by
 intro z
 refine RZ ?_
 exact cn z.g):=ah w h
def Zmk (w:ae G H:=by
 intro z
 refine JY ?_
 exact my z.g):=ah w h
def DF (w:ae G H:=by
 intro z
 refine sG [1,2,3,4] [1] ?_
 exact bO z.g):=ah w h
def QM (w:ae G H:=by
 intro z
 refine dA 0 ?_ (x:=lF Bj)
 exact dA 1 z.g (x:=lD [sl .v _] Bm)):=ah w h
def zl1 (w:ae G H:=by
 intro z
 refine vu ?_
 exact JW z.g):=ah w h
def zr7 (w:ae G H:=by
 intro z
 refine JL ?_
 exact RQ z.g):=ah w h
def Zb2 (w:ae G H:=by
 intro z
 refine rA ?_ (x:=gL aM aM atx (hs:=by exact (aAn ab)))
 exact bL z.g):=ah w h
def zi3 (w:ae G H:=by
 intro z
 refine rL ?_
 exact rA z.g (x:=cL cf cC akY (hs:=by exact amx))):=ah w h
def zn8 (w:ae G H:=by
 intro z
 refine rA ?_ (x:=cL tk lA ame (hs:=by exact amw ab))
 exact dq z.g):=ah w h
def Ja (w:ae G H:=by
 intro z
 refine cJ ?_
 exact dA 0 z.g (x:=lF AW)):=ah w h
def QN (w:ae G H:=by
 intro z
 refine dB 2097151 gb ?_ (x:=mp)
 exact dB 4194303 ga z.g (x:=cd gb)):=ah w h
def QO (w:ae G H:=by
 intro z
 refine dA 96 ?_ (x:=lF gP)
 exact dA 224 z.g (x:=lD [val _] fe)):=ah w h
def Zhs (w:ae G H:=by
 intro z
 refine oz ?_
 exact CV z.g):=ah w h
def Zi1 (w:ae G H:=by
 intro z
 refine rA ?_ (x:=gL aM aM atm (hs:=by exact (aAA ab)))
 exact bL z.g):=ah w h
def DG (w:ae G H:=by
 intro z
 refine aK ?_
 exact sG [0,1,5] [] z.g):=ah w h
def DH (w:ae G H:=by
 intro z
 refine be ?_
 exact sS [0,1,5] [] z.g):=ah w h
def Jb (w:ae G H:=by
 intro z
 refine lJ ?_
 exact zg1 z.g):=ah w h
def tK (w:ae G H:=by
 intro z
 refine tx ?_
 exact fH z.g):=ah w h
def DI (w:ae G H:=by
 intro z
 refine sS [0,1,4,5] [] ?_
 exact cm z.g):=ah w h
def tL (w:ae G H:=by
 intro z
 refine hY ?_
 exact gB z.g):=ah w h
def DJ (w:ae G H:=by
 intro z
 refine sG [0,2,3,4] [] ?_
 exact bO z.g):=ah w h
def As (w:ae G H:=by
 intro z
 refine rA ?_ (x:=cB (qs:=aM) ak dc qC ak rfl rfl rfl rfl rfl ay cN rfl)
 refine RY ?_
 exact dJ z.g):=ah w h
def At (w:ae G H:=by
 intro z
 refine bL ?_
 refine rA ?_ (x:=rj (cs:=jM) (qs:=rr) ak aj (by exact (bf (aB az.nil))) aQ)
 exact oz z.g):=ah w h
def xE (w:ae G H:=by
 intro z
 refine rA ?_ (x:=lF ak0)
 refine eJ ?_
 exact jH z.g):=ah w h
def DK (w:ae G H:=by
 intro z
 refine vX ?_
 exact dI z.g):=ah w h
def QP (w:ae G H:=by
 intro z
 refine vR ?_
 exact rB ga z.g (x:=lN dc)):=ah w h
def QQ (w:ae G H:=by
 intro z
 refine rB gc ?_ (x:=vM false [sl .v _])
 exact rB gc z.g (x:=lN dc)):=ah w h
def Zjp (w:ae G H:=by
 intro z
 refine rA ?_ (x:=cL aM aM c_9 (hs:=by exact (aAB ab)))
 exact bL z.g):=ah w h
def zu0 (w:ae G H:=by
 intro z
 refine rB gc ?_ (x:=lD lB dg)
 exact rB gc z.g (x:=lF jf)):=ah w h
def QR (w:ae G H:=by
 intro z
 refine rB ga ?_ (x:=lF ED)
 exact lJ z.g):=ah w h
def QT (w:ae G H:=by
 intro z
 refine rB gb ?_ (x:=lF we)
 exact ou z.g):=ah w h
def QU (w:ae G H:=by
 intro z
 refine dB 4194303 ga ?_ (x:=bF gb)
 exact dA 8388607 z.g (x:=bF ga)):=ah w h
def QV (w:ae G H:=by
 intro z
 refine lJ ?_
 exact rB ga z.g (x:=lF uu)):=ah w h
def QW (w:ae G H:=by
 intro z
 refine dA 0 ?_ (x:=lF ky)
 exact dA 256 z.g (x:=lD [val _] aV)):=ah w h
def Jc (w:ae G H:=by
 intro z
 refine rB gd ?_ (x:=sM)
 exact rO z.g):=ah w h
def Jd (w:ae G H:=by
 intro z
 refine bg ?_
 exact sP [0,2,3,4,5] [2,5] z.g):=ah w h
def QX (w:ae G H:=by
 intro z
 refine dA 3 ?_ (x:=lF gP)
 exact dA 7 z.g (x:=lD [val _] fe)):=ah w h
def zxy (w:ae G H:=by
 intro z
 refine Sn ?_
 exact xX z.g):=ah w h
def Je (w:ae G H:=by
 intro z
 refine rL ?_
 exact rM z.g):=ah w h
def QY (w:ae G H:=by
 intro z
 refine dA 0 ?_ (x:=lF mI)
 exact dA 8 z.g (x:=lD [val _] aV)):=ah w h
def Jf (w:ae G H:=by
 intro z
 refine sV [0,2,3,4,5] [2] [5] ?_
 exact nn z.g):=ah w h
def QZ (w:ae G H:=by
 intro z
 refine rB gb ?_ (x:=lE [val _] jA)
 exact rB gb z.g (x:=ve)):=ah w h
def zts (w:ae G H:=by
 intro z
 refine io ?_
 exact RW z.g):=ah w h
def Zeh (w:ae G H:=by
 intro z
 refine dA 512 ?_ (x:=aS (k:=3) ak dc (bq rfl) eb Me aj)
 refine dA 1536 ?_ (x:=lE [val _] jA)
 exact dA 4079 z.g (x:=cL aM aM up (hs:=GB))):=ah w h
def DL (w:ae G H:=by
 intro z
 refine be ?_
 exact sT [1,3] [1] z.g):=ah w h
def Ra (w:ae G H:=by
 intro z
 refine El ?_
 exact vw z.g):=ah w h
def tN (w:ae G H:=by
 intro z
 refine dz ?_
 exact rM z.g):=ah w h
def zfh (w:ae G H:=by
 intro z
 refine Dg ?_
 exact Zn5 z.g):=ah w h
def tO (w:ae G H:=by
 intro z
 refine zE ?_
 exact rM z.g):=ah w h
def DM (w:ae G H:=by
 intro z
 refine dp ?_
 exact sT [1,2,4] [2] z.g):=ah w h
def Rb (w:ae G H:=by
 intro z
 refine dA 16383 ?_ (x:=cZ)
 exact dA 32767 z.g (x:=cZ)):=ah w h
def DN (w:ae G H:=by
 intro z
 refine rM ?_
 refine xt ?_
 exact oq z.g):=ah w h
def DO (w:ae G H:=by
 intro z
 refine sS [1,2,7] [1] ?_
 exact mu z.g):=ah w h
def Zj5 (w:ae G H:=by
 intro z
 refine wa ?_
 exact je z.g):=ah w h
def Zbe (w:ae G H:=by
 intro z
 refine Zmt ?_
 exact dA 60 z.g (x:=cL aM aM up (hs:=GB))):=ah w h
def zbx (w:ae G H:=by
 intro z
 refine zI ?_
 exact Zne z.g):=ah w h
def Au (w:ae G H:=by
 intro z
 refine dU 1023 ?_
 exact dU 1023 z.g):=ah w h
def Rc (w:ae G H:=by
 intro z
 refine ou ?_
 exact rB gb z.g (x:=mp)):=ah w h
def DP (w:ae G H:=by
 intro z
 refine tw ?_
 exact dC z.g):=ah w h
def DQ (w:ae G H:=by
 intro z
 refine cg ?_
 exact mw z.g):=ah w h
def Jg (w:ae G H:=by
 intro z
 refine be ?_
 exact sS [0,1,4,5,6] [] z.g):=ah w h
def Rd (w:ae G H:=by
 intro z
 refine rA ?_ (x:=lF ww)
 exact eJ z.g):=ah w h
def DR (w:ae G H:=by
 intro z
 refine vl ?_
 exact jw z.g):=ah w h
def Re (w:ae G H:=by
 intro z
 refine cv ?_
 exact rA z.g (x:=lN ic)):=ah w h
def Rf (w:ae G H:=by
 intro z
 refine xO ?_
 exact rB gd z.g (x:=kL)):=ah w h
def Rg (w:ae G H:=by
 intro z
 refine ow ?_
 exact rB gc z.g (x:=pg pI)):=ah w h
def Zd0 (w:ae G H:=by
 intro z
 refine DN ?_
 exact sS [0,2,3,4,5,6,7,8,9,11,12,13,14,15,16,17,18,19,20,21,22,23,7000] [2,12] z.g):=ah w h
def Rh (w:ae G H:=by
 intro z
 refine sR ?_
 exact rX z.g (x:=(gW ak AZ Ba))):=ah w h
def DS (w:ae G H:=by
 intro z
 refine ir ?_
 refine rB gb ?_ (x:=to)
 exact ql z.g):=ah w h
def Ri (w:ae G H:=by
 intro z
 refine Zeu ?_
 exact sW [0,2,3,4,5,6,7,18,7000] [2] [7] z.g):=ah w h
def Zm2 (w:ae G H:=by
 intro z
 refine vp ?_
 exact rA z.g (x:=gL aM aM Tp (hs:=by exact (Vy (hw 1))))):=ah w h
def Rj (w:ae G H:=by
 intro z
 refine dA 511 ?_ (x:=cZ)
 exact dA 1023 z.g (x:=cZ)):=ah w h
def Rk (w:ae G H:=by
 intro z
 refine Kd ?_
 exact IF z.g):=ah w h
def Rl (w:ae G H:=by
 intro z
 refine rA ?_ (x:=lF we)
 exact eJ z.g):=ah w h
def Rm (w:ae G H:=by
 intro z
 refine rA ?_ (x:=lF qp)
 exact eJ z.g):=ah w h
def Jh (w:ae G H:=by
 intro z
 refine rB gb ?_ (x:=lF we)
 exact xn z.g):=ah w h
def vH (w:ae G H:=by
 intro z
 refine xo ?_
 exact fH z.g):=ah w h
def Ji (w:ae G H:=by
 intro z
 refine sV [1,2,3] [1,2] [3] ?_
 exact cm z.g):=ah w h
def Jj (w:ae G H:=by
 intro z
 refine rB ga ?_ (x:=lF wg)
 exact zT z.g):=ah w h
def Jk (w:ae G H:=by
 intro z
 refine bS.s0f gd ?_
 exact tV z.g):=ah w h
def Jl (w:ae G H:=by
 intro z
 refine vY ?_
 exact rM z.g):=ah w h
def Jm (w:ae G H:=by
 intro z
 refine bS.s0f gb ?_
 exact ql z.g):=ah w h
def zcn (w:ae G H:=by
 intro z
 refine rX ?_ (x:=(kH (ag:=true) (cs:=tn) ak ao))
 exact rH z.g):=ah w h
def DT (w:ae G H:=by
 intro z
 refine rK ?_
 exact sT [1,2,4] [2] z.g):=ah w h
def DU (w:ae G H:=by
 intro z
 refine rA ?_ (x:=bF gc)
 exact rM z.g):=ah w h
def DV (w:ae G H:=by
 intro z
 refine tv ?_
 exact dt z.g):=ah w h
def DW (w:ae G H:=by
 intro z
 refine dA 0 ?_ (x:=lF mH)
 refine dA 1 ?_ (x:=lD [val _] mK)
 exact dt z.g):=ah w h
def Zcw (w:ae G H:=by
 intro z
 refine sS [0,2,3,4,5,6,7,8,9,11,12,13,14,15,16,7000] [2,12] ?_
 exact cv z.g):=ah w h
def DX (w:ae G H:=by
 intro z
 refine jP ?_
 exact rS z.g):=ah w h
def Zld (w:ae G H:=by
 intro z
 refine rA ?_ (x:=lN gG)
 exact Sn z.g):=ah w h
def DY (w:ae G H:=by
 intro z
 refine rM ?_
 exact dC z.g):=ah w h
def zuh (w:ae G H:=by
 intro z
 refine sS [2,3,4,6,7,8,9,11,14,54,55,67,68,69,6200,6300] [3,4,6,8,9] ?_
 exact bL z.g):=ah w h
def Rn (w:ae G H:=by
 intro z
 refine sS [2,3,4,5,6,7,20] [2,3,4,6] ?_
 exact mu z.g):=ah w h
def Jn (w:ae G H:=by
 intro z
 refine dm ?_
 exact sP [0,2,5,6,7] [] z.g):=ah w h
def Jo (w:ae G H:=by
 intro z
 refine be ?_
 exact sS [0,5,6,7] [] z.g):=ah w h
def Jp (w:ae G H:=by
 intro z
 refine Qn ?_
 exact rB ga z.g (x:=lN bY)):=ah w h
def zr9 (w:ae G H:=by
 intro z
 refine QF ?_
 exact JY z.g):=ah w h
def Ro (w:ae G H:=by
 intro z
 refine dB 127 ga ?_ (x:=sM)
 exact dB 255 ga z.g (x:=iN)):=ah w h
def vJ (w:ae G H:=by
 intro z
 refine lH ?_
 exact rM z.g):=ah w h
def vK (w:ae G H:=by
 intro z
 refine rM ?_
 exact dI z.g):=ah w h
def Zgx (w:ae G H:=by
 intro z
 refine DA ?_
 exact je z.g):=ah w h
def xF (w:ae G H:=by
 intro z
 refine iO ?_
 exact tu z.g):=ah w h
def xG (w:ae G H:=by
 intro z
 refine qc ?_
 exact dm z.g):=ah w h
def DZ (w:ae G H:=by
 intro z
 refine sS [0,3] [] ?_
 exact cn z.g):=ah w h
def Jq (w:ae G H:=by
 intro z
 refine sS [1,2,3,16] [1] ?_
 exact gn z.g):=ah w h
def Ea (w:ae G H:=by
 intro z
 refine HY ?_
 exact eZ z.g):=ah w h
def Jr (w:ae G H:=by
 intro z
 refine rK ?_
 exact sT [1,2,4,5] [2,4] z.g):=ah w h
def xH (w:ae G H:=by
 intro z
 refine Zkh ?_
 exact cn z.g):=ah w h
def tP (w:ae G H:=by
 intro z
 refine rM ?_
 exact rS z.g):=ah w h
def xI (w:ae G H:=by
 intro z
 refine xp ?_
 exact oq z.g):=ah w h
def Js (w:ae G H:=by
 intro z
 refine rK ?_
 exact sT [0,2,3,7000] [2] z.g):=ah w h
def xJ (w:ae G H:=by
 intro z
 refine rB gd ?_ (x:=lD wZ si)
 refine rB gd ?_ (x:=cL tg th Tl (hs:=Mf))
 exact IH z.g):=ah w h
def Jt (w:ae G H:=by
 intro z
 refine dr ?_
 exact sS [1,2,3,4] [1] z.g):=ah w h
def zxl (w:ae G H:=by
 intro z
 refine bg ?_
 exact sP [0,1,5,6,7,8,9,10,11,12,13,14,15,2900,5000] [0,6,8,13,900] z.g):=ah w h
def Ju (w:ae G H:=by
 intro z
 refine rA ?_ (x:=cM Cp.ptr)
 exact qd z.g):=ah w h
def Zcz (w:ae G H:=by
 intro z
 refine sS [0,2,3,4,5,6,7,8,9,11,12,13,14,15,16,17,18,19,7000] [2,12] ?_
 refine DN ?_
 exact sS [0,2,3,4,5,6,7,8,9,11,12,13,14,15,16,17,18,19,20,21,7000] [2,12] z.g):=ah w h
def zca (w:ae G H:=by
 intro z
 refine RQ ?_
 exact lI z.g):=ah w h
def Jv (w:ae G H:=by
 intro z
 refine aY ?_
 exact sG [0,2,3,4] [] z.g):=ah w h
def zk3 (w:ae G H:=by
 intro z
 refine rA ?_ (x:=pN (.inr rfl) ak (sZ (t:=25) (e:=4)))
 exact lI z.g):=ah w h
def Jw (w:ae G H:=by
 intro z
 refine qh ?_
 exact sS [0,2,7000] [] z.g):=ah w h
def Jx (w:ae G H:=by
 intro z
 refine Qt ?_
 exact rA z.g (x:=lN lU)):=ah w h
def Rp (w:ae G H:=by
 intro z
 refine rB gc ?_ (x:=to)
 exact rA z.g (x:=bF gc)):=ah w h
def Zim (w:ae G H:=by
 intro z
 refine sV [1,2,4,5,6,11,12,15,20,21,74,99,100,101,7000] [2,4,11] [20] ?_
 exact Dm z.g):=ah w h
def Jy (w:ae G H:=by
 intro z
 refine Qo ?_
 exact vZ z.g):=ah w h
def Eb (w:ae G H:=by
 intro z
 refine dU 4095 ?_
 exact dU 8191 z.g):=ah w h
def Rq (w:ae G H:=by
 intro z
 refine dJ ?_
 exact sS [0,1,4,5,6,7] [] z.g):=ah w h
def Rr (w:ae G H:=by
 intro z
 refine dt ?_
 exact dA 0 z.g (x:=lF ky)):=ah w h
def Jz (w:ae G H:=by
 intro z
 refine zt gf ?_
 exact rA z.g (x:=cd gf)):=ah w h
def Rs (w:ae G H:=by
 intro z
 refine rB gc ?_ (x:=cd gd)
 exact rA z.g (x:=bF gc)):=ah w h
def Rt (w:ae G H:=by
 intro z
 refine rB gc ?_ (x:=bF gd)
 exact rA z.g (x:=bF gc)):=ah w h
def Zhe (w:ae G H:=by
 intro z
 refine PR ?_
 exact rA z.g (x:=lE vc ux)):=ah w h
def xK (w:ae G H:=by
 intro z
 refine Pw ?_
 exact rM z.g):=ah w h
def JA (w:ae G H:=by
 intro z
 refine PB ?_
 exact jQ z.g):=ah w h
def Ru (w:ae G H:=by
 intro z
 refine cJ ?_
 exact dA 0 z.g (x:=lF qA)):=ah w h
def xL (w:ae G H:=by
 intro z
 refine bL ?_
 refine vi ?_
 refine tt ?_
 exact rS z.g):=ah w h
def Zca (w:ae G H:=by
 intro z
 refine dA 0 ?_ (x:=lF EB)
 exact dA 32 z.g (x:=lD iB gD)):=ah w h
def JB (w:ae G H:=by
 intro z
 refine rB ga ?_ (x:=lE [val _] jA)
 refine rB ga ?_ (x:=ve)
 exact iq z.g):=ah w h
def JC (w:ae G H:=by
 intro z
 refine rB gc ?_ (x:=lE [val _] jA)
 refine rB gc ?_ (x:=ve)
 exact tS z.g):=ah w h
def JD (w:ae G H:=by
 intro z
 refine rM ?_
 exact vZ z.g):=ah w h
def zj7 (w:ae G H:=by
 intro z
 refine rA ?_ (x:=pN (.inr rfl) ak (sZ (t:=307) (e:=3)))
 refine mw ?_
 exact rA z.g (x:=cB (qs:=[]) ak kz yt ak rfl rfl rfl rfl rfl ay ao rfl)):=ah w h
def Rv (w:ae G H:=by
 intro z
 refine cJ ?_
 exact dA 0 z.g (x:=lF kV)):=ah w h
def Rw (w:ae G H:=by
 intro z
 refine rB gc ?_ (x:=kN)
 exact ow z.g):=ah w h
def Rx (w:ae G H:=by
 intro z
 refine ir ?_
 exact rB gb z.g (x:=iN)):=ah w h
def Ry (w:ae G H:=by
 intro z
 refine ir ?_
 exact rB gb z.g (x:=hP)):=ah w h
def Rz (w:ae G H:=by
 intro z
 refine sS [2,3,4,5,17] [2,3,4] ?_
 exact mu z.g):=ah w h
def JE (w:ae G H:=by
 intro z
 refine vm ?_
 exact rA z.g (x:=mp)):=ah w h
def JF (w:ae G H:=by
 intro z
 refine vm ?_
 exact dC z.g):=ah w h
def JG (w:ae G H:=by
 intro z
 refine fT ?_
 exact sP [0,1,5] [] z.g):=ah w h
def zql (w:ae G H:=by
 intro z
 refine io ?_
 exact rA z.g (x:=pN (.inr rfl) ak (sZ (t:=9) (e:=1)))):=ah w h
def Zih (w:ae G H:=by
 intro z
 refine sS [1,2,4,5,6,11,12,15,17,74,99,100,101,7000] [2,4,11] ?_
 refine DN ?_
 exact sS [1,2,4,5,6,11,12,15,17,18,19,74,99,100,101,7000] [2,4,11] z.g):=ah w h
def JH (w:ae G H:=by
 intro z
 refine cv ?_
 refine nn ?_
 exact rA z.g (x:=hP)):=ah w h
def Av (w:ae G H:=by
 intro z
 refine jv ?_
 exact dm z.g):=ah w h
def Aw (w:ae G H:=by
 intro z
 refine tC ?_
 refine cm ?_
 exact sP [0,2,3] [] z.g):=ah w h
def RA (w:ae G H:=by
 intro z
 refine lJ ?_
 exact CU z.g):=ah w h
def Ec (w:ae G H:=by
 intro z
 refine vl ?_
 exact jH z.g):=ah w h
def Ax (w:ae G H:=by
 intro z
 refine zR ?_
 exact dm z.g):=ah w h
def Ay (w:ae G H:=by
 intro z
 refine zv8 ?_
 exact Px z.g):=ah w h
def Az (w:ae G H:=by
 intro z
 refine vu ?_
 exact oo z.g):=ah w h
def RB (w:ae G H:=by
 intro z
 refine dA 30 ?_ (x:=lE [val _] aV)
 exact gC z.g):=ah w h
def AA (w:ae G H:=by
 intro z
 refine Pv ?_
 exact Pu z.g):=ah w h
def RC (w:ae G H:=by
 intro z
 refine aK ?_
 exact vY z.g):=ah w h
def AB (w:ae G H:=by
 intro z
 refine hY ?_
 exact qe z.g):=ah w h
def AC (w:ae G H:=by
 intro z
 refine kl ?_
 exact qe z.g):=ah w h
def AD (w:ae G H:=by
 intro z
 refine ph ?_
 exact cn z.g):=ah w h
def jw (w:ae G H:=by
 intro z
 exact rA z.g (x:=kL)):=ah w h
def aK (w:ae G H:=by
 intro z
 exact ap2 z.g):=ah w h
def be (w:ae G H:=by
 intro z
 exact ap3 z.g):=ah w h
def mw (w:ae G H:=by
 intro z
 exact sS [0,1,4] [] z.g):=ah w h
def lI (w:ae G H:=by
 intro z
 exact sS [0,2] [] z.g):=ah w h
def dJ (w:ae G H:=by
 intro z
 exact rA z.g (x:=tA)):=ah w h
def eZ (w:ae G H:=by
 intro z
 exact rA z.g (x:=nT)):=ah w h
def dC (w:ae G H:=by
 intro z
 exact rA z.g (x:=xc)):=ah w h
def iq (w:ae G H:=by
 intro z
 exact rA z.g (x:=cd ga)):=ah w h
def tQ (w:ae G H:=by
 intro z
 exact dA 1 z.g (x:=lD [val _] aV)):=ah w h
def vL (w:ae G H:=by
 intro z
 exact dA 0 z.g (x:=lF oH)):=ah w h
def tR (w:ae G H:=by
 intro z
 exact dA 0 z.g (x:=cB (qs:=[]) ak bY jy ak rfl rfl rfl rfl rfl ay ao rfl)):=ah w h
def Ed (w:ae G H:=by
 intro z
 exact dA 8 z.g (x:=lD [sl .v _] bZ)):=ah w h
def qk (w:ae G H:=by
 intro z
 exact sS [0,2,3] [] z.g):=ah w h
def bL (w:ae G H:=by
 intro z
 exact rA z.g (x:=tM)):=ah w h
def xM (w:ae G H:=by
 intro z
 exact rA z.g (x:=lD mo jg)):=ah w h
def eJ (w:ae G H:=by
 intro z
 exact rA z.g (x:=lD [val _] aV)):=ah w h
def ou (w:ae G H:=by
 intro z
 exact rB gb z.g (x:=lD [val _] aV)):=ah w h
def pk (w:ae G H:=by
 intro z
 exact rB gc z.g (x:=lD [val _] aV)):=ah w h
def tS (w:ae G H:=by
 intro z
 exact rA z.g (x:=cd gc)):=ah w h
def jP (w:ae G H:=by
 intro z
 exact rA z.g (x:=cd gb)):=ah w h
def JI (w:ae G H:=by
 intro z
 exact rA z.g (x:=cL cF cF mC (hs:=md))):=ah w h
def zds (w:ae G H:=by
 intro z
 exact rA z.g (x:=bR (ag:=true) (vs:=tn) AY ao aj ay)):=ah w h
def bg (w:ae G H:=by
 intro z
 exact BX z.g):=ah w h
def cJ (w:ae G H:=by
 intro z
 exact ap1 Sx z.g):=ah w h
def vO (w:ae G H:=by
 intro z
 exact rA z.g (x:=lF AV)):=ah w h
def JJ (w:ae G H:=by
 intro z
 exact rA z.g (x:=cL cF cF rT (hs:=qV))):=ah w h
def fI (w:ae G H:=by
 intro z
 exact rB ga z.g (x:=sM)):=ah w h
def JK (w:ae G H:=by
 intro z
 exact rX z.g (x:=(kH (ag:=true) (cs:=iA) ak ao))):=ah w h
def tT (w:ae G H:=by
 intro z
 exact rA z.g (x:=lD iB gD)):=ah w h
def AE (w:ae G H:=by
 intro z
 exact rB ga z.g (x:=lF AW)):=ah w h
def mx (w:ae G H:=by
 intro z
 exact sS [1,2,3] [1] z.g):=ah w h
def rJ (w:ae G H:=by
 intro z
 exact sS [1,2,4] [1] z.g):=ah w h
def xN (w:ae G H:=by
 intro z
 exact rA z.g (x:=lF AW)):=ah w h
def Ee (w:ae G H:=by
 intro z
 exact rA z.g (x:=lD pc lV)):=ah w h
def zfk (w:ae G H:=by
 intro z
 exact rA z.g (x:=cL He Cj al2 (hs:=by exact ams))):=ah w h
def lJ (w:ae G H:=by
 intro z
 exact rB ga z.g (x:=lD [val _] aV)):=ah w h
def jQ (w:ae G H:=by
 intro z
 exact rA z.g (x:=bF ga)):=ah w h
def nu (w:ae G H:=by
 intro z
 exact rA z.g (x:=kN)):=ah w h
def xO (w:ae G H:=by
 intro z
 exact rB gd z.g (x:=lD [val _] aV)):=ah w h
def rL (w:ae G H:=by
 intro z
 exact rA z.g (x:=lD [sl .v _] bZ)):=ah w h
def ir (w:ae G H:=by
 intro z
 exact rB gb z.g (x:=sM)):=ah w h
def zga (w:ae G H:=by
 intro z
 exact rA z.g (x:=aS ak gG ao aj bD aj)):=ah w h
def vP (w:ae G H:=by
 intro z
 exact rA z.g (x:=lN fz)):=ah w h
def ov (w:ae G H:=by
 intro z
 exact rA z.g (x:=iN)):=ah w h
def zh0 (w:ae G H:=by
 intro z
 exact rA z.g (x:=cL jK ly SA (hs:=by exact Tz))):=ah w h
def RD (w:ae G H:=by
 intro z
 exact rA z.g (x:=lE pc lV)):=ah w h
def RE (w:ae G H:=by
 intro z
 exact rB ge z.g (x:=lD pc lV)):=ah w h
def ow (w:ae G H:=by
 intro z
 exact rB gc z.g (x:=sM)):=ah w h
def ql (w:ae G H:=by
 intro z
 exact rA z.g (x:=bF gb)):=ah w h
def vQ (w:ae G H:=by
 intro z
 exact dB 511 ga z.g (x:=sM)):=ah w h
def qm (w:ae G H:=by
 intro z
 exact sS [0,2,3,4] [] z.g):=ah w h
def vR (w:ae G H:=by
 intro z
 exact rB ga z.g (x:=vM false [sl .v _])):=ah w h
def pm (w:ae G H:=by
 intro z
 exact rB gb z.g (x:=vM false [sl .v _])):=ah w h
def cv (w:ae G H:=by
 intro z
 exact rA z.g (x:=vM false [sl .v _])):=ah w h
def dt (w:ae G H:=by
 intro z
 exact dA 0 z.g (x:=sM)):=ah w h
def xP (w:ae G H:=by
 intro z
 exact rA z.g (x:=vM false [sl (.lo _) _])):=ah w h
def xQ (w:ae G H:=by
 intro z
 exact sG [0,1,4,5,6,7,8] [] z.g):=ah w h
def Ef (w:ae G H:=by
 intro z
 exact rA z.g (x:=cB (qs:=[]) ak bY jy ak rfl rfl rfl rfl rfl ay ao rfl)):=ah w h
def zjs (w:ae G H:=by
 intro z
 exact rA z.g (x:=aS ak kz ao aj bD aj)):=ah w h
def cP (w:ae G H:=by
 intro z
 exact ap4 z.g):=ah w h
def AF (w:ae G H:=by
 intro z
 exact rX z.g (x:=(gW ak lM yg))):=ah w h
def zk5 (w:ae G H:=by
 intro z
 exact rA z.g (x:=cL il ju al5 (hs:=by exact amA ab))):=ah w h
def RF (w:ae G H:=by
 intro z
 exact rA z.g (x:=eP (ms:=jL) (qs:=iB) ak gD (fun h=>nomatch h) ay aj Md aQ)):=ah w h
def JL (w:ae G H:=by
 intro z
 exact rX z.g (x:=(gW ak EQ ET))):=ah w h
def zka (w:ae G H:=by
 intro z
 exact rA z.g (x:=cL cf cC Tk (hs:=Mp))):=ah w h
def tU (w:ae G H:=by
 intro z
 exact sS [0,2,3,7000] [] z.g):=ah w h
def AG (w:ae G H:=by
 intro z
 exact rB gb z.g (x:=lD [sl .v _] bZ)):=ah w h
def rO (w:ae G H:=by
 intro z
 exact rA z.g (x:=cd gd)):=ah w h
def tV (w:ae G H:=by
 intro z
 exact rA z.g (x:=bF gd)):=ah w h
def vS (w:ae G H:=by
 intro z
 exact rA z.g (x:=lF ut)):=ah w h
def JM (w:ae G H:=by
 intro z
 exact rA z.g (x:=lD zq pB)):=ah w h
def zmf (w:ae G H:=by
 intro z
 exact rA z.g (x:=aS ak lU ao aj bD aj)):=ah w h
def RG (w:ae G H:=by
 intro z
 exact rX z.g (x:=(kH (ag:=true) (cs:=ki) ak ao))):=ah w h
def tW (w:ae G H:=by
 intro z
 exact rA z.g (x:=lF kx)):=ah w h
def Eg (w:ae G H:=by
 intro z
 exact rX z.g (x:=(gW ak mL Ty))):=ah w h
def znk (w:ae G H:=by
 intro z
 exact dA 0 z.g (x:=lD vd nJ)):=ah w h
def znv (w:ae G H:=by
 intro z
 exact rA z.g (x:=cL tk lA amg (hs:=by exact amv ab))):=ah w h
def zny (w:ae G H:=by
 intro z
 exact rB gb z.g (x:=cL cf cC Tc (hs:=by exact TD))):=ah w h
def zo9 (w:ae G H:=by
 intro z
 exact rB gg z.g (x:=cL cF cF mC (hs:=md))):=ah w h
def xR (w:ae G H:=by
 intro z
 exact rA z.g (x:=bR (ag:=true) (vs:=jL) gD ao aj ay)):=ah w h
def zom (w:ae G H:=by
 intro z
 exact rA z.g (x:=bR (ag:=true) (vs:=Ck) aml ao aj ay)):=ah w h
def rP (w:ae G H:=by
 intro z
 exact rA z.g (x:=pN (.inr rfl) ak (sZ (t:=3) (e:=1)))):=ah w h
def zor (w:ae G H:=by
 intro z
 exact rA z.g (x:=bR (ag:=false) (vs:=[sl _ _]) kq ao aj ay)):=ah w h
def xS (w:ae G H:=by
 intro z
 exact rA z.g (x:=bR (ag:=false) (vs:=[sl _ _]) bZ ao aj ay)):=ah w h
def zou (w:ae G H:=by
 intro z
 exact rA z.g (x:=cL cf cC amb (hs:=by exact amH))):=ah w h
def ox (w:ae G H:=by
 intro z
 exact rA z.g (x:=vA false [sl .v _])):=ah w h
def RH (w:ae G H:=by
 intro z
 exact dA 1023 z.g (x:=bR (ag:=false) (vs:=[sl _ _]) bZ ao aj ay)):=ah w h
def zoz (w:ae G H:=by
 intro z
 exact dA 4095 z.g (x:=bR (ag:=false) (vs:=[sl _ _]) bZ ao aj ay)):=ah w h
def zp0 (w:ae G H:=by
 intro z
 exact dA 16383 z.g (x:=bR (ag:=false) (vs:=[sl _ _]) bZ ao aj ay)):=ah w h
def zp1 (w:ae G H:=by
 intro z
 exact rA z.g (x:=bR (ag:=true) (vs:=pf) pB ao aj ay)):=ah w h
def zp5 (w:ae G H:=by
 intro z
 exact dA 1023 z.g (x:=bR (ag:=true) (vs:=jL) gD ao aj ay)):=ah w h
def RI (w:ae G H:=by
 intro z
 exact rA z.g (x:=eP (ms:=ki) (qs:=vd) ak nJ (fun h=>nomatch h) ay aj Wc aQ)):=ah w h
def RJ (w:ae G H:=by
 intro z
 exact rA z.g (x:=bR (ag:=true) (vs:=ki) nJ ao aj ay)):=ah w h
def JN (w:ae G H:=by
 intro z
 exact rX z.g (x:=(gW ak qB EW))):=ah w h
def zpa (w:ae G H:=by
 intro z
 exact rA z.g (x:=eP (ms:=vb) (qs:=vc) ak ux (fun h=>nomatch h) ay aj LZ aQ)):=ah w h
def RK (w:ae G H:=by
 intro z
 exact rA z.g (x:=bR (ag:=true) (vs:=vb) ux ao aj ay)):=ah w h
def JO (w:ae G H:=by
 intro z
 exact rX z.g (x:=(gW ak iV yu))):=ah w h
def RL (w:ae G H:=by
 intro z
 exact rA z.g (x:=bR (ag:=true) (vs:=pU) lV ao aj ay)):=ah w h
def vT (w:ae G H:=by
 intro z
 exact rX z.g (x:=(gW ak ES EV))):=ah w h
def vU (w:ae G H:=by
 intro z
 exact rA z.g (x:=lF ky)):=ah w h
def AH (w:ae G H:=by
 intro z
 exact dA 0 z.g (x:=lF EO)):=ah w h
def vV (w:ae G H:=by
 intro z
 exact dA 0 z.g (x:=lF sh)):=ah w h
def RM (w:ae G H:=by
 intro z
 exact cu.step 0 ao ao (dj.of rfl (gW ak sk sq)) (uT (en.of_ rfl)) au z.g):=ah w h
def RN (w:ae G H:=by
 intro z
 exact rA z.g (x:=ml ak bY jy rfl rfl ak oW sC bm bm)):=ah w h
def zqa (w:ae G H:=by
 intro z
 exact rA z.g (x:=bR (ag:=false) (vs:=[sl _ _]) iU ao aj ay)):=ah w h
def zqi (w:ae G H:=by
 intro z
 exact rA z.g (x:=lE vd nJ)):=ah w h
def AJ (w:ae G H:=by
 intro z
 exact sS [1,2,3,7000] [1] z.g):=ah w h
def je (w:ae G H:=by
 intro z
 exact rA z.g (x:=lD lB dg)):=ah w h
def tX (w:ae G H:=by
 intro z
 exact rA z.g (x:=lF uu)):=ah w h
def xT (w:ae G H:=by
 intro z
 exact rA z.g (x:=lE [sl .v _] nK)):=ah w h
def zrh (w:ae G H:=by
 intro z
 exact rA z.g (x:=cB (qs:=[]) ak lT lM ak rfl rfl rfl rfl rfl ay ao rfl)):=ah w h
def RO (w:ae G H:=by
 intro z
 exact rA z.g (x:=cB (qs:=[]) ak iu jh ak rfl rfl rfl rfl rfl ay ao rfl)):=ah w h
def JP (w:ae G H:=by
 intro z
 exact rA z.g (x:=lD va uw)):=ah w h
def zrv (w:ae G H:=by
 intro z
 exact dX 0 z.g (x:=(mh (r':=RV.sv false [sl .v _]) (.inl rfl) ak (by exact Cp.sv (bf az.nil) (aW.cons (bor_sl _) aW.nil))))):=ah w h
def tY (w:ae G H:=by
 intro z
 exact sS [1,2,7000] [1] z.g):=ah w h
def xU (w:ae G H:=by
 intro z
 exact dA 0 z.g (x:=lF uu)):=ah w h
def xV (w:ae G H:=by
 intro z
 exact dA 0 z.g (x:=lF gP)):=ah w h
def oy (w:ae G H:=by
 intro z
 exact sS [1,2] [1] z.g):=ah w h
def xW (w:ae G H:=by
 intro z
 exact sV [1,2,4,5,6] [2,4] [6] z.g):=ah w h
def Eh (w:ae G H:=by
 intro z
 exact sS [1,2,4,5,6] [2,4,6] z.g):=ah w h
def zsn (w:ae G H:=by
 intro z
 exact sO [(1,_),(2,_),(4,_),(5,_),(6,_),(19,_),(20,_),(21,_),(2900,_),(6000,_)] [(2,(41,[sl (.lo _) _,val _])),(4,(41,jM)),(6,(41,ng)),(900,(114,bW sg _ _))] z.g):=ah w h
def RP (w:ae G H:=by
 intro z
 exact rA z.g (x:=aS ak fz ao aj bD aj)):=ah w h
def zst (w:ae G H:=by
 intro z
 exact rA z.g (x:=mi (qs:=NI) ak lV (fun h=>nomatch h) ay FS aQ)):=ah w h
def zsy (w:ae G H:=by
 intro z
 exact aq0 (d:=900) (t:=116) (e:=4) (G:=6000) (f:=(ia ai)) (g:=(fun v:bb=>[val (vI v.Id),sl .v (v.Values.map ar),val (vI v.aDk),val (vI v.aDg)])) (fN:=wv) (zss:=(kw zss keep i)) aj aj (fun _ _=>rfl) (fun _=>rfl) (fun _=>rfl) (by rw [hend,alD];exact as0) z.g):=ah w h
def zt0 (w:ae G H:=by
 intro z
 exact eI (d:=6) aj (show _=[sl bH ((ig s keep).aC5.map (aG bc ai)),val (vI (ig s keep).Now)] from by first|(rw [hst];done)|(rw [hst];exact rfl)) z.g):=ah w h
def zt1 (w:ae G H:=by
 intro z
 exact dA 0 z.g (x:=mi (qs:=[nv _ (sl .v _),nv _ (val _)]) ak iH (fun h=>nomatch h) ay (by exact (aB (aB az.nil))) aQ)):=ah w h
def zt5 (w:ae G H:=by
 intro z
 exact sO [(1,_),(2,_),(4,_),(5,_),(6,_),(7,_),(8,_),(2900,_),(6000,_)] [(2,(41,[sl (.lo _) _,val _])),(4,(41,jM)),(6,(41,ng)),(900,(114,bW sg _ _))] z.g):=ah w h
def zt8 (w:ae G H:=by
 intro z
 exact rA z.g (x:=mi (qs:=[val _]) ak aV (fun _=>rfl) ay FQ mZ)):=ah w h
def zt9 (w:ae G H:=by
 intro z
 exact sO [(1,_),(2,_),(4,_),(5,_),(6,_),(7,_),(8,_),(9,_),(10,_),(11,_),(12,_),(13,_),(2900,_),(6000,_)] [(2,(41,[sl (.lo _) _,val _])),(4,(41,jM)),(6,(41,ng)),(11,(116,xb)),(900,(114,bW sg _ _))] z.g):=ah w h
def Ei (w:ae G H:=by
 intro z
 exact rA z.g (x:=eP (ms:=jM) (qs:=rr) ak iH (fun h=>nomatch h) ay aj (by exact (bf (aB az.nil))) aQ)):=ah w h
def Ej (w:ae G H:=by
 intro z
 exact rA z.g (x:=bR (ag:=true) (vs:=jM) iH ao aj ay)):=ah w h
def RQ (w:ae G H:=by
 intro z
 exact rA z.g (x:=pN (.inr rfl) ak (sZ (t:=27) (e:=2)))):=ah w h
def AK (w:ae G H:=by
 intro z
 exact rA z.g (x:=lE [val _] aV)):=ah w h
def xX (w:ae G H:=by
 intro z
 exact rA z.g (x:=rt ak)):=ah w h
def zty (w:ae G H:=by
 intro z
 exact rB gb z.g (x:=cL cF cF rT (hs:=qV))):=ah w h
def zuj (w:ae G H:=by
 intro z
 exact aqW (G:=6300) (H:=6200) (e:=10) (f:=(aO aH ai ai aJ ai)) aj aj aj z.g):=ah w h
def zuk (w:ae G H:=by
 intro z
 exact ZO (d:=8) (t:=102) (e:=10) (G:=6300) (A:=nh) (B:=ni) (f:=(aO aH ai ai aJ ai)) (g:=(fun z:aC6=>[val (vI z.aC7.Id),val (vI z.aC7.aDb),sl .v (z.aC7.aC8.map bM),sl .v (z.aC7.Out.map ar),val (vI z.Time),sl .v (z.aDf.map ar),val (vI z.Age),val (vI z.Sent),val (vI z.Cap),sl .v (z.Rows.map (ci ai))])) (fN:=hI) (ys:=(za.take (eN e.aC6 q.Id)++(eM e q l,kNew)::za.drop (eN e.aC6 q.Id))) [] (nN e q l) aj aj (fun _ _=>rfl) (fun _=>rfl) (fun _=>rfl) (axq) (axr hoe hza) z.g):=ah w h
def zuo (w:ae G H:=by
 intro z
 exact rB gb z.g (x:=cL cF cF mC (hs:=md))):=ah w h
def zup (w:ae G H:=by
 intro z
 exact rA z.g (x:=cB (qs:=[]) ak cY mL ak rfl rfl rfl rfl rfl ay ao rfl)):=ah w h
def RR (w:ae G H:=by
 intro z
 exact sP [2,3,4,6,7,8,9,10,11,12,13,6200,6300] [3,4,6,8,9] z.g):=ah w h
def AL (w:ae G H:=by
 intro z
 exact sT [2,3,4,5] [2,3,4] z.g):=ah w h
def Ek (w:ae G H:=by
 intro z
 exact sV [2,3,4,5,6] [2,3,4] [6] z.g):=ah w h
def vW (w:ae G H:=by
 intro z
 exact rA z.g (x:=lD [sl (.lo _) _,val _] iH)):=ah w h
def JQ (w:ae G H:=by
 intro z
 exact sS [2,3,4,5,6,7,8] [2,3,4,6] z.g):=ah w h
def tZ (w:ae G H:=by
 intro z
 exact rA z.g (x:=bR (ag:=false) (vs:=[val _]) aV ao aj ay)):=ah w h
def zvs (w:ae G H:=by
 intro z
 exact rA z.g (x:=cL [(false,[sl (.lo _) _])] cC wd (hs:=uN))):=ah w h
def AM (w:ae G H:=by
 intro z
 exact sS [2,3,4,5,6,7,8,9] [2,3,4,6] z.g):=ah w h
def AN (w:ae G H:=by
 intro z
 exact sP [2,3,4,5,6,7,8,9] [2,3,4,6] z.g):=ah w h
def RS (w:ae G H:=by
 intro z
 exact eI (d:=920) aj (pb (k:=i) hi) z.g):=ah w h
def RT (w:ae G H:=by
 intro z
 exact eI (d:=921) aj (pb (k:=k) hk) z.g):=ah w h
def zwk (w:ae G H:=by
 intro z
 exact sO [(2,_),(3,_),(4,_),(5,_),(6,_),(7,_),(8,_),(9,_),(10,_),(2920,_)] [(2,_),(3,_),(4,_),(6,(41,ng)),(10,_),(920,(114,_++([sl _ _]++_)))] z.g):=ah w h
def AO (w:ae G H:=by
 intro z
 exact rA z.g (x:=lD [sl (.lo _) _,val _,val _,sl (.lo _) _,sl (.lo _) _,sl (.lo _) _,sl (.lo _) _,val _] dg)):=ah w h
def zwv (w:ae G H:=by
 intro z
 exact eI (d:=900) aj (congrArg (fun z_=>((((cG e k)).take i).map (aO aH ai ai aJ ai)).flatten++((aO aH ai ai aJ ai) z_++(((((cG e k)).drop (i+1)).map (aO aH ai ai aJ ai)).flatten++jk900.map val))) (awR hoe hlt hi hid hil)) z.g):=ah w h
def zww (w:ae G H:=by
 intro z
 exact rA z.g (x:=lx (k:=i) (G:=2900) ak cY ao ab wK)):=ah w h
def zwz (w:ae G H:=by
 intro z
 exact rA z.g (x:=aS ak iu ao aj bD aj)):=ah w h
def El (w:ae G H:=by
 intro z
 exact rX z.g (x:=(gW ak jh nB))):=ah w h
def RU (w:ae G H:=by
 intro z
 exact rA z.g (x:=eP (ms:=iA) (qs:=mo) ak jg (fun h=>nomatch h) ay aj FW aQ)):=ah w h
def zx4 (w:ae G H:=by
 intro z
 exact sV [1,2,3,4,5,6,8,9,10,11,57,58,59,77,78,79,2900,6100] [1,2,4,6,900] [10] z.g):=ah w h
def zx5 (w:ae G H:=by
 intro z
 exact rA z.g (x:=eP (ms:=[sl _ _]) (qs:=[sl .v _]) ak bZ (fun _=>rfl) ay aj gS fp)):=ah w h
def zxe (w:ae G H:=by
 intro z
 exact dA 0 z.g (x:=mh (r':=RV.sv false [sl .v _]) (.inl rfl) ak LX)):=ah w h
def my (w:ae G H:=by
 intro z
 exact dA 0 z.g (x:=vM false [sl .v _])):=ah w h
def zxg (w:ae G H:=by
 intro z
 exact xd (s:=7) [val zP.2] aj (by exact (az.cons PV.nv_val az.nil)) mZ z.g):=ah w h
def zxh (w:ae G H:=by
 intro z
 exact dA 1 z.g (x:=eP (ms:=[sl _ _]) (qs:=[sl .v _]) ak bZ (fun _=>rfl) ay aj gS fp)):=ah w h
def zxj (w:ae G H:=by
 intro z
 exact sO [(0,_),(1,_),(5,_),(6,_),(7,_),(8,_),(9,_),(10,_),(11,_),(12,_),(2900,_),(5000,_)] [(0,(46,Cm)),(6,(260,oi)),(8,(149,pf)),(900,(102,_++(ki++_)))] z.g):=ah w h
def zxr (w:ae G H:=by
 intro z
 exact eI (d:=0) aj (show _=[sl bH (e.Store.aC5.map (aG bc ai)),val (vI e.Store.Now),val (vI e.aDa),sl ai (e.Order.map ar),sl ct ((cG e (parts e).length).map (aO aH ai ai aJ ai)),sl ck (e.Done.map (bd aH ai aJ ai)),sl cl ((jC e (parts e).length).map (ba ai ai ai)),val (vI e.Steps)] from by first|(rw [hled];done)|(rw [hled];exact rfl)|(rw [hled,hsv];done)|(rw [hled,hsv];exact rfl)) z.g):=ah w h
def zxs (w:ae G H:=by
 intro z
 exact NP (d:=6) (G:=6200) (e:=10) (f:=(aO aH ai ai aJ ai)) (z:=za[m]) (zs:=(za.drop (m+1))) aj VZ (fun _=>rfl) My z.g):=ah w h
def xY (w:ae G H:=by
 intro z
 exact rA z.g (x:=lF KG)):=ah w h
def RW (w:ae G H:=by
 intro z
 exact rX z.g (x:=(kH (ag:=true) (cs:=jL) ak ao))):=ah w h
def zy8 (w:ae G H:=by
 intro z
 exact rX z.g (x:=(kH (ag:=true) (cs:=pd) ak ao))):=ah w h
def Em (w:ae G H:=by
 intro z
 exact rB ga z.g (x:=lD mo jg)):=ah w h
def ua (w:ae G H:=by
 intro z
 exact sS [1,2,3,4,19] [1] z.g):=ah w h
def xZ (w:ae G H:=by
 intro z
 exact rA z.g (x:=lF wh)):=ah w h
def ya (w:ae G H:=by
 intro z
 exact rA z.g (x:=lF EC)):=ah w h
def En (w:ae G H:=by
 intro z
 exact rX z.g (x:=(gW ak sk sq))):=ah w h
def RX (w:ae G H:=by
 intro z
 exact rB ga z.g (x:=lD wZ si)):=ah w h
def ub (w:ae G H:=by
 intro z
 exact rA z.g (x:=bR (ag:=true) (vs:=dV) dg ao aj ay)):=ah w h
def oz (w:ae G H:=by
 intro z
 exact rA z.g (x:=rp (cs:=[val _]) ak aj mZ)):=ah w h
def Zat (w:ae G H:=by
 intro z
 exact rA z.g (x:=cB (qs:=[]) ak dc qC ak rfl rfl rfl rfl rfl ay ao rfl)):=ah w h
def vX (w:ae G H:=by
 intro z
 exact rA z.g (x:=cZ)):=ah w h
def pn (w:ae G H:=by
 intro z
 exact rA z.g (x:=lE [val _] jA)):=ah w h
def JR (w:ae G H:=by
 intro z
 exact rA z.g (x:=cL aM aM up (hs:=GB))):=ah w h
def vY (w:ae G H:=by
 intro z
 exact sS [0,2,3,4,5] [2,5] z.g):=ah w h
def Zbb (w:ae G H:=by
 intro z
 exact rA z.g (x:=cL dl dl KE (hs:=by exact (aAl ab)))):=ah w h
def Zbh (w:ae G H:=by
 intro z
 exact eI (d:=5) aj (show _=[val (vI (lY s).Id),sl ai ((lY s).Values.map ar)] from by rw [hrs]<;>rfl) z.g):=ah w h
def Zbt (w:ae G H:=by
 intro z
 exact rA z.g (x:=cB (qs:=dl) ak dc qC ak rfl rfl rfl rfl rfl ay Gw rfl)):=ah w h
def RY (w:ae G H:=by
 intro z
 exact rA z.g (x:=eL ak dc qC rfl rfl ak rfl bm bm)):=ah w h
def JS (w:ae G H:=by
 intro z
 exact rA z.g (x:=lD tm mD)):=ah w h
def Zby (w:ae G H:=by
 intro z
 exact rA z.g (x:=cL ti pR Sz (hs:=by exact TB))):=ah w h
def AP (w:ae G H:=by
 intro z
 exact sS [1,2,7,7000] [1] z.g):=ah w h
def JT (w:ae G H:=by
 intro z
 exact rA z.g (x:=lD wZ si)):=ah w h
def vZ (w:ae G H:=by
 intro z
 exact rA z.g (x:=ve)):=ah w h
def JU (w:ae G H:=by
 intro z
 exact sT [0,2,3,4,5,6,7,8,9,11,12,13,14,7000] [2,12] z.g):=ah w h
def Eo (w:ae G H:=by
 intro z
 exact dA 3 z.g (x:=lE [val _] jA)):=ah w h
def RZ (w:ae G H:=by
 intro z
 exact rA z.g (x:=bR (ag:=true) (vs:=iA) jg ao aj ay)):=ah w h
def Ze5 (w:ae G H:=by
 intro z
 exact eI (d:=5) aj (show _=[val (vI (iI s).Kind),val (vI (iI s).Row.Id),sl ai ((iI s).Row.Values.map ar),val (vI (iI s).Field),val (vI (iI s).Value)] from by rw [hr]<;>rfl) z.g):=ah w h
def JV (w:ae G H:=by
 intro z
 exact rX z.g (x:=(gW ak ER EU))):=ah w h
def Sa (w:ae G H:=by
 intro z
 exact sS [0,2,3,4,5,6,7,8,9,10,18,7000] [2,7] z.g):=ah w h
def Zex (w:ae G H:=by
 intro z
 exact eI (d:=7) aj (show _=[val (vI (eX s).Kind),val (vI (eX s).aC7.Id),val (vI (eX s).aC7.aDb),sl aH ((eX s).aC7.aC8.map bM),sl ai ((eX s).aC7.Out.map ar),val (vI (eX s).Limit),val (vI (eX s).Id),val (vI (eX s).aC9.Kind),val (vI (eX s).aC9.Row.Id),sl ai ((eX s).aC9.Row.Values.map ar),val (vI (eX s).aC9.Field),val (vI (eX s).aC9.Value),val (vI (eX s).Steps)] from by rw [hr]<;>rfl) z.g):=ah w h
def Ep (w:ae G H:=by
 intro z
 exact rA z.g (x:=bR (ag:=true) (vs:=pd) mD ao aj ay)):=ah w h
def Zfa (w:ae G H:=by
 intro z
 exact dA 7 z.g (x:=cL aM aM up (hs:=GB))):=ah w h
def Sb (w:ae G H:=by
 intro z
 exact eI (d:=5) aj (show _=[val (vI (fL s).Kind),val (vI (fL s).aC7.Id),val (vI (fL s).aC7.aDb),sl aH ((fL s).aC7.aC8.map bM),sl ai ((fL s).aC7.Out.map ar),val (vI (fL s).Limit),val (vI (fL s).Id),val (vI (fL s).aC9.Kind),val (vI (fL s).aC9.Row.Id),sl ai ((fL s).aC9.Row.Values.map ar),val (vI (fL s).aC9.Field),val (vI (fL s).aC9.Value),val (vI (fL s).Steps)] from by rw [hr]<;>rfl) z.g):=ah w h
def AQ (w:ae G H:=by
 intro z
 exact rA z.g (x:=lD rr iH)):=ah w h
def wa (w:ae G H:=by
 intro z
 exact sS [1,2,4,5] [2] z.g):=ah w h
def JW (w:ae G H:=by
 intro z
 exact rA z.g (x:=gL aM aM jV (hs:=jE))):=ah w h
def Zh2 (w:ae G H:=by
 intro z
 exact rA z.g (x:=cL cf cC wd (hs:=uN))):=ah w h
def JX (w:ae G H:=by
 intro z
 exact rB ga z.g (x:=lD lB dg)):=ah w h
def Zhk (w:ae G H:=by
 intro z
 exact vf (d:=6) lB aj BF aQ z.g):=ah w h
def JY (w:ae G H:=by
 intro z
 exact dA 0 z.g (x:=lD lB dg)):=ah w h
def AR (w:ae G H:=by
 intro z
 exact sS [1,2,3,6,7,8,22,7000] [3] z.g):=ah w h
def yb (w:ae G H:=by
 intro z
 exact sS [1,2,4,5,6,7000] [2,4] z.g):=ah w h
def JZ (w:ae G H:=by
 intro z
 exact rA z.g (x:=cB (qs:=cF) ak bY jy ak rfl rfl rfl rfl rfl ay (by exact (aI (bq rfl) (aI (bq rfl) (aI (bq rfl) tI)))) rfl)):=ah w h
def Ka (w:ae G H:=by
 intro z
 exact sS [1,2,4,5,6,11,12,7000] [2,4,11] z.g):=ah w h
def Kb (w:ae G H:=by
 intro z
 exact sS [1,2,4,5,6,11,12,74,7000] [2,4,11] z.g):=ah w h
def Sc (w:ae G H:=by
 intro z
 exact sT [1,2,4,5,6,11,12,15,74,99,100,101,7000] [2,4,11] z.g):=ah w h
def yc (w:ae G H:=by
 intro z
 exact sS [1,2,3,6,7,8,9] [3,6] z.g):=ah w h
def Kc (w:ae G H:=by
 intro z
 exact sS [1,2,3,6,7,8,9,14,15] [3,6,14] z.g):=ah w h
def Sd (w:ae G H:=by
 intro z
 exact rA z.g (x:=bR (ag:=true) (vs:=oi) uw ao aj ay)):=ah w h
def Zkq (w:ae G H:=by
 intro z
 exact sO [(2,_),(3,_),(4,_),(6,_),(7,_),(8,_),(9,_),(87,_),(88,_),(89,_),(2910,_)] [(2,(41,[sl (.lo _) _,val _])),(3,(29,[val _,val _,sl (.lo _) _,val _,val _])),(4,(41,jM)),(6,(41,ng)),(910,(114,bW (aG bc ai) _ _))] z.g):=ah w h
def Se (w:ae G H:=by
 intro z
 exact sP [2,3,4,6,7,8,9,10,11,87,88,89,2910] [2,3,4,6,910] z.g):=ah w h
def Zks (w:ae G H:=by
 intro z
 exact eI (d:=6) aj (show _=[sl bH ((dP s u).map (aG bc ai)),val (vI (s.Now+1))] from by first|(rw [hu1];done)|(rw [hu1];exact rfl)) z.g):=ah w h
def Sf (w:ae G H:=by
 intro z
 exact eI (d:=930) aj (pb (k:=u.Field.toNat) hfl) z.g):=ah w h
def Er (w:ae G H:=by
 intro z
 exact sP [2,3,4,5,6,7,8,9,10] [2,3,4,6,10] z.g):=ah w h
def Sg (w:ae G H:=by
 intro z
 exact sG [2,3,4,5,6,7,8,9,10] [2,3,4,6,10] z.g):=ah w h
def Sh (w:ae G H:=by
 intro z
 exact sU [2,3,4,5,6,7,8,9,10] [2,3,4,6] [10] z.g):=ah w h
def Si (w:ae G H:=by
 intro z
 exact sG [1,2,3,4,5,6,14,16,57,58,59,145,146,147,6200] [1,2,4,6,16] z.g):=ah w h
def Sj (w:ae G H:=by
 intro z
 exact sV [1,2,3,4,5,6,14,16,57,58,59,145,146,147,6200] [1,2,4,6] [16] z.g):=ah w h
def Zln (w:ae G H:=by
 intro z
 exact ZD (d:=0) (G:=6300) (A:=[sl _ _,val _,val _,sl _ _,sl _ _]) (B:=jM) (p:=sl ck (((e.Done++jB e (parts e).length m).map (bd aH ai aJ ai))++[[val (vI (⟨za[m].1.aC7,za[m].1.Time,za[m].1.Age+1,za[m].1.Rows⟩:gZ).aC7.Id),val (vI (⟨za[m].1.aC7,za[m].1.Time,za[m].1.Age+1,za[m].1.Rows⟩:gZ).aC7.aDb),sl aH ((⟨za[m].1.aC7,za[m].1.Time,za[m].1.Age+1,za[m].1.Rows⟩:gZ).aC7.aC8.map bM),sl ai ((⟨za[m].1.aC7,za[m].1.Time,za[m].1.Age+1,za[m].1.Rows⟩:gZ).aC7.Out.map ar),val (vI (⟨za[m].1.aC7,za[m].1.Time,za[m].1.Age+1,za[m].1.Rows⟩:gZ).Time),val (vI (⟨za[m].1.aC7,za[m].1.Time,za[m].1.Age+1,za[m].1.Rows⟩:gZ).Steps),sl aJ ((⟨za[m].1.aC7,za[m].1.Time,za[m].1.Age+1,za[m].1.Rows⟩:gZ).Rows.map (ci ai))]])) aj aj (fun z k_=>aq8 (by exact (Nm.nv (Nm.nv (Nm.nv (Nm.nv (Nm.val (Nm.val (Nm.nv Nm.nil)))))))) (by exact (hR.keep (hR.keep (hR.keep (hR.keep (hR.lit rfl (hR.lit rfl (hR.drop (hR.drop (hR.drop (hR.drop (hR.drop (hR.keep hR.nil))))))))))))) z k_) z.g):=ah w h
def Sk (w:ae G H:=by
 intro z
 exact rA z.g (x:=eP (ms:=dV) (qs:=lB) ak dg (fun h=>nomatch h) ay aj FN aQ)):=ah w h
def Zm4 (w:ae G H:=by
 intro z
 exact rA z.g (x:=cz (qs:=[]) (cs:=pd) ak AZ Ba VB aj ao rfl aj)):=ah w h
def Zm6 (w:ae G H:=by
 intro z
 exact rA z.g (x:=cz (qs:=[]) (cs:=tl) ak ER EU LJ aj ao rfl aj)):=ah w h
def Kd (w:ae G H:=by
 intro z
 exact sS [0,2,3,4,5,6,7,18,7000] [2,7] z.g):=ah w h
def Zmd (w:ae G H:=by
 intro z
 exact cu.stepC 511 oT ao (dj.of rfl (mh (.inr rfl) ak (by exact Cp.sc))) mm au uH z.g):=ah w h
def Zmn (w:ae G H:=by
 intro z
 exact vf (d:=4) [sl .v [],val (.int .i64 0),val (.int .i64 0),sl .v [],sl .v [],sl .v [],sl .v [],val (.int .i64 0)] aj FN aQ z.g):=ah w h
def Zmo (w:ae G H:=by
 intro z
 exact rA z.g (x:=cZ (h:=BN))):=ah w h
def Zmu (w:ae G H:=by
 intro z
 exact dA 255 z.g (x:=rp (cs:=[val _]) ak aj mZ)):=ah w h
def Zmv (w:ae G H:=by
 intro z
 exact rA z.g (x:=cZ (h:=(by first|omega|(simp only [bV,List.length_cons,List.length_nil];omega))))):=ah w h
def Sl (w:ae G H:=by
 intro z
 exact rA z.g (x:=bR (ag:=true) (vs:=tl) si ao aj ay)):=ah w h
def Sm (w:ae G H:=by
 intro z
 exact rA z.g (x:=aS ak cY ao aj bD aj)):=ah w h
def Zmz (w:ae G H:=by
 intro z
 exact rA z.g (x:=eL ak cY mL rfl rfl ak rfl bm bm)):=ah w h
def Zn0 (w:ae G H:=by
 intro z
 exact rB ga z.g (x:=cL cF cF mC (hs:=md))):=ah w h
def Zn1 (w:ae G H:=by
 intro z
 exact rA z.g (x:=aS ak lT ao aj bD aj)):=ah w h
def Zn2 (w:ae G H:=by
 intro z
 exact rA z.g (x:=lx (k:=i) (G:=2900) ak gG ao MK (by simp only [aX];omega))):=ah w h
def Zn3 (w:ae G H:=by
 intro z
 exact rA z.g (x:=rj (cs:=[sl _ _]) (qs:=[sl .v _]) ak aj gS fp)):=ah w h
def Zn4 (w:ae G H:=by
 intro z
 exact rA z.g (x:=cL aM aM iG (hs:=iw))):=ah w h
def Zn5 (w:ae G H:=by
 intro z
 exact rX z.g (x:=(kH (ag:=true) (cs:=pU) ak ao))):=ah w h
def Zn6 (w:ae G H:=by
 intro z
 exact rX z.g (x:=(kH (ag:=true) (cs:=tl) ak ao))):=ah w h
def Zn7 (w:ae G H:=by
 intro z
 exact rA z.g (x:=eP (ms:=pd) (qs:=tm) ak mD (fun h=>nomatch h) ay aj Ws aQ)):=ah w h
def Zn8 (w:ae G H:=by
 intro z
 exact dX 0 z.g (x:=(mi (qs:=lB) ak dg (fun h=>nomatch h) ay FN aQ))):=ah w h
def Sn (w:ae G H:=by
 intro z
 exact rA z.g (x:=Np ak ao ao ab)):=ah w h
def So (w:ae G H:=by
 intro z
 exact rA z.g (x:=bR (ag:=false) (vs:=[val _]) aV (bq rfl) aj ay)):=ah w h
def Znb (w:ae G H:=by
 intro z
 exact cu.stepC 255 oT ao (dj.of rfl (rp (cs:=[val _]) ak aj mZ)) mm au uH z.g):=ah w h
def Znc (w:ae G H:=by
 intro z
 exact rB gc z.g (x:=cL cF cF mC (hs:=md))):=ah w h
def Znd (w:ae G H:=by
 intro z
 exact rX z.g (x:=(kH (ag:=true) (cs:=[val _,val _,sl (.lo _) _,val _,val _]) ak ao))):=ah w h
def Zne (w:ae G H:=by
 intro z
 exact rA z.g (x:=cL jK ly Kl (hs:=by exact KJ))):=ah w h
end Go.Proofs.YtmekkgdboplbjaaGreatDoor.M
