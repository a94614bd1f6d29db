/- Short names for what the printed proofs say often. No condition. -/
import Derived.Test.YtmekkgdboplbjaaGreatDoorDC0
set_option linter.all false
namespace Go.Proofs.YtmekkgdboplbjaaGreatDoor.M
open Go Go.RowKit
variable{G H:Prop}
def AG (h:G:=by
 refine cW ?_
 exact rb (by simp [aE, *])):G:=h
def HZ (h:G:=by
 refine mx ?_
 refine sS [0,1,2,6] [] ?_
 refine fv ?_
 refine rA ?_ (x:=ll)
 refine rM ?_
 refine cx 10 (fun ga sga=>?_) (fun ga sga=>?_)
 refine gv ?_
 refine gv ?_
 refine rB ga ?_ (x:=nq)
 refine jx ?_
 exact AG
 refine iA ?_
 exact AG):G:=h
def AH (h:G:=by
 refine cv ?_
 exact (aI aj tI)):G:=h
def Ia (h:G:=by
 refine bG ?_
 exact rb (by simp [bf,MG,mC (P:=ja) hlt hno])):G:=h
def Ib (h:G:=by
 refine nx (k+1) (by exact ⟨ab,ym ha hlt hyes⟩)):G:=h
def ur (h:G:=by
 refine cf ?_
 exact Ib):G:=h
def AJ (h:G:=by
 refine cW ?_
 exact rb (by simp [bf,MG,hall, *])):G:=h
def Ic (h:G:=by
 refine xL ?_
 refine rB ga ?_ (x:=lN ej)
 refine qk ?_
 exact AJ):G:=h
def AK (h:G:=by
 refine jV ?_
 exact Ib):G:=h
def Ie (h:G:=by
 refine cW ?_
 exact rb (by simp [fZ, *])):G:=h
def If (h:G:=by
 refine cv ?_
 exact (ba 2 (ba _ (aI aj (aI aj (aI gM (aI (fun h=>nomatch h) tI))))))):G:=h
def Ig (h:G:=by
 refine dA 63 ?_ (x:=bZ (ag:=true) (vs:=cO) gM au aj aH)
 exact If):G:=h
def xi (h:G:=by
 refine se ?_
 refine cv ?_
 exact (aI (by refine cU ?_;rw [hend,cC]) tI)):G:=h
def qa (h:G:=by
 refine cW ?_
 exact rb (by first|(simp_all [iD,aE];done)|(simp_all [iD,aE];omega))):G:=h
def Ih (h:G:=by
 have hbad:eS ⟨0,0,0⟩ iD mH x.ada=false:=yq hlt (Bool.eq_false_iff.2 fun hx=>by
  have hx:=oS.1 hx
  rw [hgk] at hx
  obtain ⟨hx1,hx2⟩:=hx
  first
  | (simp_all;done)
  | (simp only [decide_eq_true_eq,mH] at *;by_cases h0:k=0<;>(try rw [hgp ab] at hx2)<;>omega))
 refine sS [1,3] [1] ?_
 refine bG ?_
 exact rb (by simp [aQ,jA,hbad])):G:=h
def Ii (h:G:=by
 refine nx (k+1) (by exact ⟨ab,by rw [CX,ha,Bool.true_and];refine oS.2 ⟨zY,?_⟩;rcases Nat.eq_zero_or_pos k with h0|h0;(· exact .inl h0);(· right;rw [hgk,hgp h0];first|(simp only [decide_eq_true_eq,mH] at *;omega)|(simp_all;done))⟩)):G:=h
def Ij (h:G:=by
 refine bd ?_
 refine sG [1,3] [1] ?_
 refine jV ?_
 exact Ii):G:=h
def xj (h:G:=by
 refine cW ?_
 exact rb (by first|(simp_all [aQ,jA];done)|(simp_all [aQ,jA];rfl)|(simp_all [aQ,jA];omega)|(simp_all [aQ,jA];intros;omega))):G:=h
def xk (h:G:=by
 refine cv ?_
 exact rb (by first|exact hbad0.symm|(simp [aQ,jA,hbad];done)|(simp [aQ,kc,hn3];done)|(simp_all [aQ,jA,kc];done)|(simp_all [aQ,jA,kc];rfl)|(simp_all [aQ,jA,kc];omega)|(simp_all [aQ,jA,kc];intros;omega))):G:=h
def AL (h:G:=by
 have hbad0:aQ x=false:=by first|(simp_all [aQ];done)|(simp_all [aQ];rfl)|(simp_all [aQ];omega)|(simp_all [aQ];intros;omega)
 refine sS [1,2] [1] ?_
 refine rK ?_
 exact xk):G:=h
def Ik (h:G:=by
 have hbad:eS ⟨0,0,0⟩ iD mH x.ada=false:=yq hlt (Bool.eq_false_iff.2 fun hx=>by
  have hx:=oS.1 hx
  rw [hgk] at hx
  obtain ⟨hx1,hx2⟩:=hx
  first
  | (simp_all;done)
  | (simp only [decide_eq_true_eq,mH] at *;by_cases h0:k=0<;>(try rw [hgp ab] at hx2)<;>omega))
 refine sS [1,3,4,24,25,26] [1,4] ?_
 refine rK ?_
 exact xk):G:=h
def Il (h:G:=by
 refine bd ?_
 refine sG [1,3,4,24,25,26] [1,4] ?_
 refine cf ?_
 exact Ii):G:=h
def Im (h:G:=by
 have hyes:mJ f v q.ada[k]=true:=by simp_all [mJ]
 refine bd ?_
 refine sG [1,2,3,8,10,11,12] [3,8] ?_
 exact ur):G:=h
def qb (h:G:=by
 refine bG ?_
 exact rb (hbad.symm)):G:=h
def In (h:G:=by
 have hbad:eh q r=false:=by simp_all [eh]
 refine sS [2,3,4] [2,3] ?_
 exact qb):G:=h
def xl (h:G:=by
 refine cW ?_
 exact rb (by first|(simp_all [eh];done)|(unfold eh;simp_all))):G:=h
def Io (h:G:=by
 have hend:bf r=true→aQ q=true→q.ada.all (mI r)=true:=fun h1 h2=>kH Gg
 refine bv ?_
 refine sT [2,3,5] [2,3] ?_
 refine BN ?_
 refine rM ?_
 refine cx 41 (fun gc sgc=>?_) (fun gc sgc=>?_)
 refine rB gc ?_ (x:=lD cI gi)
 refine rB gc ?_ (x:=cL [(true,cD)] [(true,cI)] De (hs:=by exact Ef))
 refine my ?_
 exact xl
 refine kE ?_
 exact xl):G:=h
def Ip (h:G:=by
 refine cv ?_
 exact rb (by first|(simp_all [ci,lH];done)|(simp_all [ci,lH];rfl)|(simp_all [ci,lH];omega)|(simp_all [ci,lH];intros;omega))):G:=h
def nz (h:G:=by
 refine rS ?_
 exact Ip):G:=h
def Iq (h:G:=by
 refine rB gc ?_ (x:=lF qB)
 refine BT ?_
 exact nz):G:=h
def AM (h:G:=by
 refine kE ?_
 exact nz):G:=h
def Ir (h:G:=by
 refine uF ?_
 refine rB gb ?_ (x:=iV)
 refine kD ?_
 refine cx 27 (fun gc sgc=>?_) (fun gc sgc=>?_)
 exact Iq
 exact AM):G:=h
def Is (h:G:=by
 refine bd ?_
 refine sS [1,2,3,16] [1] ?_
 refine rK ?_
 exact Ip):G:=h
def AN (h:G:=by
 refine cW ?_
 exact rb (by first|(simp_all [eB];done)|(simp_all [eB];rfl)|(simp_all [eB];omega)|(simp_all [eB];intros;omega))):G:=h
def It (h:G:=by
 refine cW ?_
 exact rb (by first|(simp_all [qG];done)|(simp_all [qG];rfl)|(simp_all [qG];omega)|(simp_all [qG];intros;omega))):G:=h
def Iu (h:G:=by
 have hbad:bV s=false:=by first|(simp_all [bV,oX];done)|(simp_all [bV,oX];omega)
 refine sS [1,2] [1] ?_
 exact qb):G:=h
def AO (h:G:=by
 have hvo:en s.Now s.ac7[k][j]=false:=zS
 have hbad:=MT hag.1 (Ua (by rw [hag.2];exact hvo))
 refine sS [1,3,5,7,23,24,25,32,33,34] [1,7] ?_
 exact qb):G:=h
def Iv (h:G:=by
 have hap:gj ((aY s).getD ((cX s k).length+j) v0) ((aY s).getD m v0)=false:=by
  rw [hag.2] at hma ⊢
  by_cases hid:s.ac7[k][j].Id=((aY s).getD m v0).Id
  ·rw [beq_iff_eq.2 hid,Bool.true_and] at hma;simp_all
  ·simp_all
 have hbad:=MT hag.1 (Ub hlt3 hap)
 refine sS [1,3,5,7,9,23,24,25,32,33,34,66,67,68] [1,7,9] ?_
 exact qb):G:=h
def AP (h:G:=by
 have hap:gj ((aY s).getD ((cX s k).length+j) v0) ((aY s).getD m v0)=true:=by
  rw [hag.2] at hma ⊢
  by_cases hid:s.ac7[k][j].Id=((aY s).getD m v0).Id
  ·rw [beq_iff_eq.2 hid,Bool.true_and] at hma;simp_all
  ·rw [beq_false_of_ne hid,Bool.false_and] at hma;simpa using hma.symm
 refine bd ?_
 refine sG [1,3,5,7,9,23,24,25,32,33,34,66,67,68] [1,7,9] ?_
 refine cf ?_
 refine nx (m+1) (by refine ⟨ab,?_⟩;rw [TY,hfr,Bool.true_and];exact hap)):G:=h
def Iw (h:G:=by
 refine zf ge ?_
 refine rA ?_ (x:=aK ge)
 refine fW ?_
 exact AP):G:=h
def Ix (h:G:=by
 have hend3:m=(cX s k).length+j:=ab
 refine bv ?_
 refine sH [1,3,5,7,23,24,25,32,33,34,66,67,68] [1,7] ?_
 refine bW ?_
 refine uV ?_
 refine rA ?_ (x:=dq (qs:=[(true,gG)]) ae iM kj ae rfl rfl rfl rfl rfl aH eW rfl)
 refine Ky ?_
 refine sG [1,3,5,7,23,24,25,32,33,34,66,67,68] [1,7] ?_
 refine cf ?_
 refine nx (j+1) (by refine ⟨ab,?_⟩;rw [←Nat.add_assoc,TZ,hg,Bool.true_and];unfold lL;rw [hag.2,hvo,Bool.true_and,←hend3];rw [hend3] at hfr ⊢;exact hfr) (e:=(by exact aI (by exact cU (by rw [cG hlt2];simp only [bL,aW];rfl)) (aI aj tI)))):G:=h
def AQ (h:G:=by
 refine sS [0,3,4,5,6,7] [] ?_
 refine bG ?_
 exact rb (by exact (TD hlt (Bool.eq_false_iff.2 fun hx=>by have hx:=MH.1 hx;rw [hgk] at hx;(try simp only [aE,Bool.and_eq_false_iff,decide_eq_false_iff_not] at *);omega)).symm)):G:=h
def Iy (h:G:=by
 refine bd ?_
 refine sG [0,3,4,5,6,7] [] ?_
 refine cf ?_
 refine nx (k+1) (by exact ⟨ab,by rw [TC,ha,Bool.true_and];exact MH.2 (by rw [hgk];(try simp only [aE,aT,decide_eq_true_eq] at *);omega)⟩)):G:=h
def Iz (h:G:=by
 refine sS [0,1,4] [] ?_
 refine bG ?_
 exact rb (by exact (CV (fun e=>by subst e;simp at *)).symm)):G:=h
def IA (h:G:=by
 refine sS [0,1,5,12,13] [] ?_
 refine bG ?_
 exact rb (by exact (CV (Ts hlt hlt2 (by intro e;simp [e,Tw] at *))).symm)):G:=h
def IB (h:G:=by
 refine bv ?_
 refine sS [0,1,12,13] [] ?_
 refine bG ?_
 exact rb (by exact (CU (Tt hl zX)).symm)):G:=h
def IC (h:G:=by
 refine cW ?_
 exact rb (by rw [Bool.eq_iff_iff];simp only [mD,TB];simp_all [mD])):G:=h
def ut (h:G:=by
 refine rS ?_
 exact AH):G:=h
def ID (h:G:=by
 refine sS [0,2,3,4,5] [] ?_
 refine rM ?_
 refine iZ ?_
 refine rA ?_ (x:=Hv Xn Ot (by first|exact (congrArg (IntKind.wrap .u8) Sn).trans (IntWalk.u8_in _ ab)|exact IntWalk.u8_in _ ab))
 refine rA ?_ (x:=dq (qs:=[(false,[val _])]) ae Df WV ae rfl rfl rfl rfl rfl aH eW rfl)
 refine rA ?_ (x:=Sv Xp Ot Xo)
 refine rM ?_
 refine oO ?_
 refine rS ?_
 refine sG [0,2,3,4,5] [] ?_
 refine rM ?_
 refine rA ?_ (x:=Sw)
 refine rS ?_
 refine nx (q.1.tdiv 10,jv [48+((q.1.natAbs%10:Nat):Int)]++q.2) (by exact ⟨by have:=tj q.1;unfold cq;omega,Ug hto hq0 rfl⟩) (b:=(by have:=tj q.1;dsimp only;omega)) (e:=(by exact aI aj (aI (by exact congrArg (fun z=>some (RV.sc (.string (B (jv [48+z]++q.2))))) hd_) tI)))):G:=h
def IE (h:G:=by
 refine sG [0,2,3,4] [] ?_
 refine rM ?_
 refine iz ?_
 refine qd ?_
 refine rA ?_ (x:=cL [(false,[val _])] [(false,[val _])] tq (hs:=rq))
 refine oO ?_
 refine rS ?_
 refine sG [0,2,3,4] [] ?_
 refine jV ?_
 refine nx (k+1) ab (e:=(by exact aI (by first|exact congrArg (fun z=>some (RV.sc (.string (B z)))) (by rw [hsc,if_neg hk0])|exact congrArg (fun z=>some (RV.sc (.string (B z)))) (by rw [hsc,if_pos hk0];subst hk0;rfl)) (aI aj tI)))):G:=h
def xm (h:G:=by
 have hbad:gk x=false:=by first|(simp_all [gk,mP,aE];done)|(simp_all [gk,mP,aE];rfl)|(simp_all [gk,mP,aE];omega)|(simp_all [gk,mP,aE];intros;omega)
 refine jX ?_
 exact qb):G:=h
def IF (h:G:=by
 have hno:pf x k=false:=by simp_all [pf]
 refine sS [1,3,4,33,34] [1] ?_
 refine bG ?_
 exact rb ((Um hlt hno).symm)):G:=h
def IG (h:G:=by
 refine cW ?_
 exact rb (by simp_all [gk])):G:=h
def IH (h:G:=by
 have hbad:eS 0 (mQ s.ac7.length) mR a.adi=false:=yq hlt (Bool.eq_false_iff.2 fun hx=>by
  have hx:=oS.1 hx
  rw [hgk] at hx
  obtain ⟨hx1,hx2⟩:=hx
  first
  | (simp_all;done)
  | (simp only [decide_eq_true_eq,mR,mQ,aE,aT,Bool.and_eq_false_iff,decide_eq_false_iff_not] at *;by_cases h0:k=0<;>(try rw [hgp ab] at hx2)<;>omega))
 refine sS [2,3,5,6,8,9,10] [2,3] ?_
 refine bG ?_
 exact rb (by simp [gn,ph,hbad])):G:=h
def II (h:G:=by
 refine bd ?_
 refine sG [2,3,5,6,8,9,10] [2,3] ?_
 refine cf ?_
 refine nx (k+1) (by exact ⟨ab,by rw [CX,ha,Bool.true_and];refine oS.2 ⟨zY,?_⟩;rcases Nat.eq_zero_or_pos k with h0|h0;(· exact .inl h0);(· right;rw [hgk,hgp h0];first|(simp only [decide_eq_true_eq,mR,mQ,aE,aT,Bool.and_eq_false_iff,decide_eq_false_iff_not] at *;omega)|(simp_all;done))⟩)):G:=h
def qc (h:G:=by
 refine cW ?_
 exact rb (by first|(simp_all [gn,ph];done)|(simp_all [gn,ph];rfl)|(simp_all [gn,ph];omega)|(simp_all [gn,ph];intros;omega))):G:=h
def IJ (h:G:=by
 have hbad:=Un hpr
 refine sS [1,2] [1] ?_
 exact qb):G:=h
def xn (h:G:=by
 have hpr:kd e=false:=by first|(simp_all [kd];done)|(simp_all [kd];omega)|(rw [←Bool.not_eq_true];intro hc_;simp [kd] at hc_;simp_all;done)|(rw [←Bool.not_eq_true];intro hc_;simp [kd] at hc_;omega)
 exact IJ):G:=h
def AR (h:G:=by
 have hpr:kd e=false:=Gk
 exact IJ):G:=h
def AS (h:G:=by
 refine bG ?_
 exact rb (hbad2.symm)):G:=h
def IK (h:G:=by
 have hbad:eS nN (gn e.Store) nO e.ac8=false:=yq hlt (Bool.eq_false_iff.2 fun hx=>by
  have hx:=oS.1 hx
  rw [hgk] at hx
  obtain ⟨hx1,hx2⟩:=hx
  first
  | (simp_all;done)
  | (simp only [decide_eq_true_eq,nO] at *;by_cases h0:k=0<;>(try rw [hgp ab] at hx2)<;>omega))
 have hbad2:=Uo hbad
 refine sS [1,3,4,53,54,55] [1,4] ?_
 exact AS):G:=h
def IL (h:G:=by
 refine bd ?_
 refine sG [1,3,4,53,54,55] [1,4] ?_
 refine cf ?_
 refine nx (k+1) (by exact ⟨ab,by rw [CX,ha,Bool.true_and];refine oS.2 ⟨zY,?_⟩;rcases Nat.eq_zero_or_pos k with h0|h0;(· exact .inl h0);(· right;rw [hgk,hgp h0];first|(simp only [decide_eq_true_eq,nO] at *;omega)|(simp_all;done))⟩)):G:=h
def xo (h:G:=by
 have hno:(jB e.Store.Now) e.Done[k]=false:=Gn
 have hbad2:=Up (mC hlt hno)
 refine sS [1,6,53,54,55,85,86,87] [1,6] ?_
 exact AS):G:=h
def AT (h:G:=by
 refine bh ?_
 refine cf ?_
 refine nx (k+1) ab (f:=(by exact aI (by rw [sZ hlt];simp only [bL];exact rfl) tI))):G:=h
def IM (h:G:=by
 refine cW ?_
 exact rb (by first|(simp_all [mS];done)|(simp_all [mS];rfl)|(simp_all [mS];omega)|(simp_all [mS];intros;omega))):G:=h
def IN (h:G:=by
 refine sG [1,2,3,5,12,13,14] [1,5] ?_
 refine cf ?_
 refine nx (k+1) ab (e:=(by exact aI (by first|exact cU (by rw [Us hlt hc,bL];rfl)|exact cU (by rw [Ut hlt hc])) (aI aj tI)))):G:=h
def IP (h:G:=by
 have hc:eC e e.ac8[k]=false:=by simp_all [eC]
 refine bd ?_
 exact IN):G:=h
def IQ (h:G:=by
 refine sG [1,2,4,5,6,7,8,9,11,19,20,21,27,28,29,2900,6000] [2,4,6,11,900] ?_
 refine cf ?_
 refine nx (j+1) ab (e:=(by exact aI (by first|exact cU (by rw [UI hlj (by rw [hz3];exact hnd),bL];exact rfl)|exact cU (by rw [UJ hlj (by rw [hz3];exact hnd)])) (aI mb tI)))):G:=h
def IR (h:G:=by
 refine sG [0,1,4,5,7,9,10,11] [] ?_
 refine cf ?_
 refine nx (k+1) ab (e:=(by exact aI (by first|exact cU (by rw [Vb hlt hne,bL];rfl)|exact cU (by rw [Vc hlt hne])) (aI aj tI)))):G:=h
def IS (h:G:=by
 refine sG [1,2,3,6,7,9,15,16,17] [3,9] ?_
 refine cf ?_
 refine nx (k+1) ab (e:=(by exact aI (by first|exact cU (by rw [Vd hlt hv,bL];rfl)|exact cU (by rw [Ve hlt hv])) (aI aj tI)))):G:=h
def uu (h:G:=by
 have hno:iH e q l=false:=by first|(simp_all [iH];done)|(simp_all [iH];omega)|(rw [←Bool.not_eq_true];intro hc_;obtain ⟨h1_,h2_,h3_,h4_,h5_⟩:=qL hc_;first|omega|(simp_all;done)|(simp_all [aE];omega))
 refine sS [2,3,4,6,7,8] [3,4,6,8] ?_
 refine mr ?_
 refine bG ?_
 exact (ba 6 (ba _ (aI aj (aI (by refine cV ?_;rw [tm hno];exact rfl) (aI dl (aI (fun h=>nomatch h) (aI (by refine dh ?_;rw [tm hno]) tI)))))))):G:=h
def IT (h:G:=by
 refine sG [2,3,4,6,7,8,9,11,13,54,55,67,68,69,6200,6300] [3,4,6,8,9,13] ?_
 refine cf ?_
 refine nx (m+1) ab (e:=(by exact aI (by first|exact cU (by rw [Vp hmz hlz,bL];rfl)|exact cU (by rw [Vq hmz hlz])) (aI mb tI)))):G:=h
def IU (h:G:=by
 have hno:kR e id=false:=by first|(simp_all [kR];done)|(simp_all [kR];omega)|(rw [←Bool.not_eq_true];intro hc_;unfold kR at hc_;simp only [aT,decide_eq_true_eq] at hc_;obtain ⟨h1_,h2_⟩:=hc_;first|omega|(simp_all;done)|(simp_all;omega))
 refine sS [1,2,4,5,6,7] [2,4,6] ?_
 refine mr ?_
 refine bG ?_
 exact (ba 4 (ba _ (aI aj (aI (by refine cV ?_;rw [Dx hno];exact rfl) (aI dl (aI (fun h=>nomatch h) (aI (by refine dh ?_;rw [Dx hno]) tI)))))))):G:=h
def IV (h:G:=by
 have hno2:jE id s.ac7[i][j]=false:=Gl
 refine bd ?_
 refine sG [1,2,6,7,8,9,11,12,13,18,19,20] [2,9] ?_
 refine cf ?_
 refine nx (j+1) (by exact ⟨ab,sW hc hlt2 hno2⟩) (e:=oj)):G:=h
def IW (h:G:=by
 refine Ly ?_
 exact (ba 4 (ba _ (aI aj (aI (by refine cV ?_;rw [qN hno];exact rfl) (aI gy (aI (fun h=>nomatch h) (aI (by refine dh ?_;rw [qN hno]) tI)))))))):G:=h
def IX (h:G:=by
 refine CO ?_
 exact IW):G:=h
def AU (h:G:=by
 have hno:eD s u=false:=Gb
 refine sS [2,3,4,5,6] [2,3,4,6] ?_
 exact IX):G:=h
def IY (h:G:=by
 refine eO ?_
 refine sK ?_
 refine xf (s:=9) aj (show _=RV.slc ak ((ji s u).map ax) from by first|(rw [hv2];done)|(rw [hv2];exact rfl)) ?_
 refine sG [2,3,4,5,6,7,8,9] [2,3,4,6] ?_
 refine oD ?_
 refine jw ?_
 refine sc ?_ ?_<;>intro hbe
 have hk2:u.Kind=2:=by first|exact hbe|simpa using hbe
 have hok:=to hos hou hnw hkd (.inl hk2)
 refine sS [2,3,4,5,6,7,8,9] [2,3,4,6] ?_
 refine uw ?_
 refine bG ?_
 exact (ba 4 (ba _ (aI aj (aI (by refine cV ?_;rw [qP hok hk2];exact rfl) (aI gy (aI (fun h=>nomatch h) (aI (by refine dh ?_;rw [qP hok hk2]) tI)))))))
 have hk2:¬u.Kind=2:=by first|exact hbe|simpa using hbe
 have hu0:0 < (co s u).length:=ab
 refine dH ?_
 refine aU ?_
 refine sK ?_
 refine rH (d:=6) (t:=41) (D:=910) (G:=2910) (E:=114) (e:=1) (L:=(Lw w0.heap.size)) (A:=[]) (B:=[val _]) (es:=((co s u)).map (be bJ ak)) aj (pS hu0) aj aj rfl aj (fun x hx=>hx) bn bn (by exact az.nil) tX (az.map fun x=>(az.cons (lcl_own (az.map fun x=>(az.cons lcl_val (az.cons (lcl_own (az.map fun x=>(az.cons lcl_val az.nil))) (az.cons lcl_val (az.cons lcl_val az.nil)))))) az.nil)) fun uu910 cp910 jk910 hlD910 hcp910 hjk910=>?_
 rw [aO] at hlD910 hcp910 hjk910
 refine fV (d:=910) aj (show _=bo (be bJ ak) ((co s u)) jk910 from rfl) ?_
 refine sO [(2,_),(3,_),(4,_),(5,_),(6,_),(7,_),(8,_),(9,_),(2910,_)] [(2,_),(3,_),(4,_),(6,(41,rO)),(910,(114,bo (be bJ ak) _ _))] ?_
 refine bh ?_
 refine Cl ?_
 refine rA ?_ (x:=Hq (G:=2910) ae iN)
 refine dM ?_
 refine sP [2,3,4,5,6,7,8,9,87,88,89,2910] [2,3,4,6,910] ?_
 refine sL [2,3,4,6,7,8,9,87,88,2910] [2,3,4,6,910] (fun m:Nat=>m≤s.ac7.length∧(s.ac7.take m).any ia=false) (fun m:Nat=>[(89,RV.int (m:Int))]) (fun m:Nat=>[]) (fun m:Nat=>s.ac7.length - m) 0 jM cb au ?_
 rintro m ⟨hm,ha⟩
 refine bO ?_
 refine sc ?_ ?_<;>intro hbf
 try simp only [aO] at hbf
 have hlt:m < s.ac7.length:=ab
 have hum:m < (co s u).length:=ab
 have hua:=DB s u hum hlt
 have hs4m:=hs4 _ (List.getElem_mem hlt)
 refine bA ?_
 refine Kt ?_
 refine fV (d:=910) aj (ow (f:=(be bJ ak)) (xs:=(co s u)) (k:=m) hum) ?_
 have hA910:=rL (f:=(be bJ ak)) (e:=1) (xs:=(co s u)) (k:=m) (fun _=>rfl) (Nat.le_of_lt hum)
 refine sO [(2,_),(3,_),(4,_),(6,_),(7,_),(8,_),(9,_),(87,_),(88,_),(89,_),(2910,_)] [(2,_),(3,_),(4,_),(6,_),(910,(114,_++([sl _ _]++_)))] ?_
 refine SX (d:=910) (A:=_) (B:=[]++_) aj fun vN=>?_
 refine sO [(2,_),(3,_),(4,_),(6,_),(7,_),(8,_),(9,_),(87,_),(88,_),(89,_),(2910,_)] [(2,_),(3,_),(4,_),(6,_),(910,(114,_++([nv _ (sl _ _)]++_)))] ?_
 refine oK ?_
 refine rA ?_ (x:=pT (k:=m) (G:=2910) ae iN au ab FK)
 refine rA ?_ (x:=At (o:=0) (qs:=[nv _ (sl .v _)]) ab ae nS (fun _=>rfl) aH zM (by exact (aB.cons (bor_nv (bor_sl _)) aB.nil)))
 refine rS ?_
 refine rA ?_ (x:=rr (r':=RV.sv false [nv _ (sl .v _)]) (.inr rfl) ae (by exact Cp.sv (aD aA.nil) (aB.cons (bor_nv (bor_sl _)) aB.nil)))
 refine sS [2,3,4,6,7,8,9,10,11,87,88,89,2910] [2,3,4,6,910] ?_
 refine rA ?_ (x:=rr (r':=RV.sv false [sl .v _]) (.inl rfl) ae (by exact Cp.sv (aA.cons (PV.nv_to rN) aA.nil) (aB.cons (bor_sl _) aB.nil)))
 refine rA ?_ (x:=lN iM)
 refine fx ?_
 refine sc ?_ ?_<;>intro hbg
 have hsm:ia s.ac7[m]=true:=by unfold ia;rw [decide_eq_true_eq];omega
 have hrm:=VE hlt ha hsm
 have hok:=to hos hou hnw hkd (.inr ab)
 have hpv:=po (v:=iK s u) hum
 refine aU ?_
 refine CP ?_
 refine SZ (d:=910) (G:=6400) (A:=_) (B:=[]++_) aj aj rN (bor_sl _) ?_
 refine sO [(2,_),(3,_),(4,_),(6,_),(7,_),(8,_),(9,_),(10,_),(11,_),(87,_),(88,_),(89,_),(2910,_),(6400,_)] [(2,_),(3,_),(4,_),(6,_),(910,(114,_++([sl _ _]++_)))] ?_
 refine RO (s:=11) (G:=6400) aj (by exact (Nm.nv Nm.nil)) rfl ae aj ?_
 refine CP ?_
 refine dr ?_
 refine dA 0 ?_ (x:=lF nQ)
 refine dA 1 ?_ (x:=lD [val _] nU)
 refine jy ?_
 refine dA 0 ?_ (x:=tM)
 refine dA 0 ?_ (x:=lF tf)
 refine dA 16 ?_ (x:=lF mM)
 refine dA 48 ?_ (x:=lD [val _] bB)
 refine dA 0 ?_ (x:=tM)
 refine dA 0 ?_ (x:=lF kS)
 refine dA 256 ?_ (x:=lD [val _] bB)
 refine dA 1008 ?_ (x:=dZ (qs:=[(false,[val _]),(false,[sl _ _]),(false,[val _]),(false,[val _])]) (cs:=gG) ae kj vG XK aj (by exact (aI au (aI au (aI au (aI (bI rfl) tI))))) rfl aj)
 refine dA 2032 ?_ (x:=dq (qs:=[(true,gG)]) ae iM kj ae rfl rfl rfl rfl rfl aH eW rfl)
 refine dA 4088 ?_ (x:=ir ae iM kj rfl rfl ae rfl ck ck)
 refine dA 8191 ?_ (x:=pT (k:=m) (G:=2910) ae iN au ab FK)
 refine dA 16383 ?_ (x:=uk (o:=0) (ag:=false) (vs:=[sl _ _]) ab nS au aj aH)
 refine fV (d:=910) aj (rJ ((co s u)[m]++[iK s u]) hum (by simp only [be,bL];exact rfl)) ?_
 refine rI (d:=6) (D:=910) (G:=2910) (e:=1) (A:=[]) (B:=[val _]) (es:=(((co s u)).set m ((co s u)[m]++[iK s u])).map (be bJ ak)) aj aj aj rfl tW pJ (by rw [aO];exact hjk910) ?_
 refine aU ?_
 refine sO [(2,_),(3,_),(4,_),(6,_),(7,_),(8,_),(10,_),(87,_),(88,_),(89,_)] [(2,_),(3,_),(4,_),(6,(41,dE))] ?_
 refine bh ?_
 refine uw ?_
 refine bG ?_
 exact (ba 4 (ba _ (aI aj (aI (by refine cV ?_;rw [vr hok hk2 hrm,hpv];exact rfl) (aI gy (aI (fun h=>nomatch h) (aI (by refine dh ?_;rw [vr hok hk2 hrm]) tI)))))))
 have hns:ia s.ac7[m]=false:=by unfold ia;rw [decide_eq_false_iff_not];omega
 refine bd ?_
 refine CP ?_
 refine SY (d:=910) (A:=_) (B:=[]++_) aj ?_
 refine sO [(2,_),(3,_),(4,_),(6,_),(7,_),(8,_),(9,_),(10,_),(11,_),(87,_),(88,_),(89,_),(2910,_)] [(2,_),(3,_),(4,_),(6,_),(910,(114,_++([sl _ _]++_)))] ?_
 refine fV (d:=910) aj (show _=bo (be bJ ak) (co s u) jk910 from (ow (f:=(be bJ ak)) (xs:=(co s u)) (k:=m) hum).symm) ?_
 refine sO [(2,_),(3,_),(4,_),(6,_),(7,_),(8,_),(9,_),(10,_),(11,_),(87,_),(88,_),(89,_),(2910,_)] [(2,_),(3,_),(4,_),(6,_),(910,(114,bo (be bJ ak) _ _))] ?_
 refine bh ?_
 refine cf ?_
 refine nx (m+1) (by exact ⟨ab,sW ha hlt hns⟩) (e:=oj)
 try simp only [aO] at hbf
 have hend:m=s.ac7.length:=ab
 have hrn:=VF FR
 have hno:eD s u=false:=Gb
 refine bv ?_
 refine Kt ?_
 refine bh ?_
 refine BC ?_
 exact IW):G:=h
def IZ (h:G:=by
 refine eO ?_
 refine sK ?_
 refine fV (d:=6) aj (show _=[sl dg ((co s u).map (be bJ ak)),val (vI (s.Now+1))] from by first|(rw [hu1];done)|(rw [hu1];exact rfl)) ?_
 refine sK ?_
 refine xf (s:=9) aj (show _=RV.slc ak ((iJ s u).map ax) from by first|(rw [hu2];done)|(rw [hu2];exact rfl)) ?_
 refine sG [2,3,4,5,6,7,8,9] [2,3,4,6] ?_
 refine oD ?_
 refine jw ?_
 refine sc ?_ ?_<;>intro hbd
 have hk3:u.Kind=3:=wo
 have hge3:0≤bX s u.Row.Id:=ab
 have hv3:=NJ (u:=u) hos hge3
 have hf3:=VI hou hk3
 have hfl:u.Field.toNat < (iJ s u).length:=ab
 have hv2:ji s u=(iJ s u).set u.Field.toNat u.Value:=if_pos hk3
 refine sK ?_
 refine RT (s:=9) (D:=930) (G:=2930) (E:=3) (e:=1) (L:=(Lw w0.heap.size)) (es:=((iJ s u)).map ax) aj (pS hfl) aj aj rfl aj (fun x hx=>hx) bn bn (az.map fun x=>(az.cons lcl_val az.nil)) fun uu930 cp930 jk930 hlD930 hcp930 hjk930=>?_
 rw [aO] at hlD930 hcp930 hjk930
 refine fV (d:=930) aj (ow (k:=u.Field.toNat) hfl) ?_
 have hA930:=rL (f:=ax) (e:=1) (xs:=(iJ s u)) (k:=u.Field.toNat) (fun _=>rfl) (Nat.le_of_lt hfl)
 refine sO [(2,_),(3,_),(4,_),(5,_),(6,_),(7,_),(8,_),(9,_),(2930,_)] [(2,_),(3,_),(4,_),(6,_),(930,(3,_++([val _]++_)))] ?_
 refine bh ?_
 refine rA ?_ (x:=vM false [val _])
 refine rA ?_ (x:=lF yv)
 refine eA ?_
 refine rA ?_ (x:=lF qB)
 refine eA ?_
 refine rA ?_ (x:=pT (k:=u.Field.toNat) (G:=2930) ae ej au ab (by first|(rw [aO];exact hfl)|exact hfl))
 refine rA ?_ (x:=uk (o:=0) (ag:=false) (vs:=[val _]) ab bB au aj aH)
 refine fV (d:=930) aj (rJ u.Value hfl aj) ?_
 refine RU (s:=9) (D:=930) (G:=2930) (e:=1) (es:=(((iJ s u)).set u.Field.toNat u.Value).map ax) aj aj aj rfl ae tW pJ (by rw [aO];exact hjk930) ?_
 exact IY
 have hk3n:¬u.Kind=3:=wo
 have hv2:ji s u=iJ s u:=if_neg hk3n
 refine bd ?_
 exact IY):G:=h
def xp (h:G:=by
 have hno:jg e=false:=by first|(simp_all [jg];done)|(simp_all [jg];omega)|(rw [←Bool.not_eq_true];intro hc_;obtain ⟨h1_,h2_,h3_,h4_⟩:=yF hc_;first|omega|(simp_all;done)|(simp_all;omega))
 refine sS [1,2,3,4] [1,2,4] ?_
 refine mr ?_
 refine bG ?_
 exact (ba 2 (ba _ (aI aj (aI (by refine cV ?_;rw [Nj hno];exact rfl) (aI dl (aI (fun h=>nomatch h) (aI (by refine dh ?_;rw [hno]) tI)))))))):G:=h
def Ja (h:G:=by
 refine sG [1,2,3,4,5,6,8,9,10,11,13,57,58,59,77,78,79,2900,6100] [1,2,4,6,10,13,900] ?_
 refine cf ?_
 refine nx (j+1) ab (e:=(by exact aI (by first|exact fU (by rw [Nn hjv hm,aZ];simp only [List.length_cons,List.length_nil];omega)|exact fU (by rw [No hjv hm])) (aI mb (aI aj tI)))) (f:=(by exact aI (by first|(rw [Nn hjv hm,←hz3];simp only [bL,aW];exact rfl)|(rw [No hjv hm];exact rfl)) tI))):G:=h
def Jb (h:G:=by
 refine bh ?_
 refine cf ?_
 refine nx (m+1) ab (e:=(by exact aI (by first|exact cU (by rw [UV hm1 hep,hga,bL];exact rfl)|exact cU (by rw [UW hm1 hep])) (aI mb (aI aj tI)))) (f:=(by exact aI (by first|(rw [UX hm1 hep,hga];simp only [bL,aW];exact rfl)|(rw [UY hm1 hep];exact rfl)) tI))):G:=h
def Jc (h:G:=by
 refine qz ?_
 refine qi ?_
 refine jw ?_
 refine sc ?_ ?_<;>intro hbf
 have hep:cc (cj e (parts e).length)[m]=true:=by rw [hga];simpa [cc] using hbf
 refine CQ ?_
 refine rA ?_ (x:=lF qR)
 refine rA ?_ (x:=fa (ms:=[sl _ _]) (qs:=[sl .v _]) ae qT (fun _=>rfl) aH aj la kq)
 refine rA ?_ (x:=lF lS)
 refine Mx ?_
 refine Cm ?_
 refine Cr ?_
 refine KD ?_
 refine rA ?_ (x:=dZ (qs:=[(true,cD),(false,[val _]),(false,[val _]),(false,[sl _ _])]) (cs:=iW) ae nV vJ XP aj zT rfl aj)
 refine rA ?_ (x:=dq (qs:=[(true,iW)]) ae lT nV ae rfl rfl rfl rfl rfl aH eW rfl)
 refine rA ?_ (x:=ir ae lT nV rfl rfl ae rfl ck ck)
 refine rA ?_ (x:=lF qR)
 refine rA ?_ (x:=bZ (ag:=false) (vs:=[sl _ _]) qT au aj aH)
 refine sO [(1,_),(2,_),(3,_),(4,_),(5,_),(6,_),(14,_),(16,_),(57,_),(58,_),(59,_),(145,_),(146,_),(147,_),(6200,_)] [(1,_),(2,_),(4,(46,bj)),(6,_),(16,(102,dG))] ?_
 exact Jb
 have hep:cc (cj e (parts e).length)[m]=false:=by rw [hga];simpa [cc] using hbf
 refine CQ ?_
 refine bW ?_
 refine CD ?_
 refine rA ?_ (x:=dq (qs:=[(true,dG)]) ae gR na ae rfl rfl rfl rfl rfl aH eW rfl)
 refine Bl ?_
 refine My ?_
 exact Jb):G:=h
def Jd (h:G:=by
 refine bh ?_
 refine Kg ?_
 refine Kv ?_
 refine sO [(1,_),(2,_),(3,_),(4,_),(5,_),(6,_),(14,_),(16,_),(57,_),(58,_),(59,_),(145,_),(146,_),(147,_),(6200,_)] [(1,_),(2,_),(4,_),(6,_),(16,(102,rP))] ?_
 refine HI (d:=16) (G:=6200) (e:=10) (f:=(bz bb ak ak bc ak)) (z:=za[m]) (zs:=(za.drop (m+1))) aj (by exact (Nm.nv (Nm.nv (Nm.nv (Nm.nv (Nm.nv (Nm.nv (Nm.nv (Nm.nv (Nm.nv (Nm.nv Nm.nil))))))))))) (fun _=>rfl) Gp ?_
 refine Bm ?_
 refine bh ?_
 refine Cr ?_
 refine iZ ?_
 refine rA ?_ (x:=lF DS)
 refine qf ?_
 refine Bm ?_
 refine bh ?_
 refine Cr ?_
 refine lB ?_
 refine xM ?_
 refine LI ?_
 refine jw ?_
 refine sc ?_ ?_<;>intro hbe
 have hga:(cj e (parts e).length)[m]=(⟨za[m].1.ac9,za[m].1.Time,za[m].1.adi,za[m].1.Age+1,0,za[m].1.Cap,za[m].1.Rows⟩:ac8):=by rw [Nq hm1 hm2,←hz3];exact UZ hbe
 refine CQ ?_
 refine rA ?_ (x:=lF vw)
 refine CR ?_
 refine Bm ?_
 refine bh ?_
 exact Jc
 have hga:(cj e (parts e).length)[m]=(⟨za[m].1.ac9,za[m].1.Time,za[m].1.adi,za[m].1.Age+1,za[m].1.Sent,za[m].1.Cap,za[m].1.Rows⟩:ac8):=by rw [Nq hm1 hm2,←hz3];exact Va hbe
 refine bd ?_
 refine sS [1,2,3,4,5,6,14,16,57,58,59,145,146,147,6200] [1,2,4,6,16] ?_
 exact Jc):G:=h
def Je (h:G:=by
 refine bh ?_
 refine bW ?_
 refine Ls ?_
 refine aU ?_
 refine KE ?_
 refine uI ?_
 refine iZ ?_
 refine lB ?_
 refine xM ?_
 refine LI ?_
 refine rA ?_ (x:=lF vC)
 refine qf ?_
 refine KE ?_
 refine rA ?_ (x:=lF vD)
 refine eA ?_
 refine iZ ?_
 refine rA ?_ (x:=lF vD)
 refine qf ?_
 refine sO [(1,_),(2,_),(3,_),(4,_),(5,_),(6,_),(57,_),(58,_),(59,_),(146,_),(147,_)] [(1,_),(2,_),(4,(46,bj)),(6,_)] ?_
 refine As ?_
 refine wA ?_ (x:=fa (ms:=bj) (qs:=[any,val _,val _,any,any,any,any,val _]) ae dl (fun h=>nomatch h) aH aj zE bn)
 refine wO [(1,_),(2,_),(3,_),(4,_),(5,_),(6,_),(57,_),(58,_),(59,_),(146,_),(147,_),(202,_)] [(1,_),(2,_),(4,(46,[any,val _,val _,any,any,any,any,val _])),(6,_)] ?_
 refine Az (L:=(Lw w0.heap.size)) (qs:=[(true,bj)]) (as_:=[(true,bj)]) ae DK zL eW ae bn (by exact (El (e:=ke e) ab)) (fun x hx=>hx) bn bn ?_
 refine wA ?_ (x:=bZ (ag:=true) (vs:=bj) dl au aj aH)
 refine wA ?_ (x:=kA)
 refine Ar ?_
 refine cv ?_
 exact (ba 2 (ba _ (aI aj (aI (by refine cV ?_;rw [tl hok];exact rfl) (aI dl (aI (fun h=>nomatch h) (aI (by refine dh ?_;rw [hok]) tI)))))))):G:=h
def xq (h:G:=by
 refine cW ?_
 exact rb (by rw [Bool.eq_iff_iff];simp only [mD,TH];simp_all [mD,MJ])):G:=h
def xr (h:G:=by
 refine cW ?_
 exact rb (by rw [Bool.eq_iff_iff];simp only [mD,TI];simp_all [mD,MJ])):G:=h
def Jf (h:G:=by
 refine cv ?_
 exact rb (by first|(simp_all [ca,ve,vf];done)|(simp_all [ca,ve,vf];rfl)|(simp_all [ca,ve,vf];omega)|(simp_all [ca,ve,vf];intros;omega))):G:=h
def eN (h:G:=by
 refine rS ?_
 exact Jf):G:=h
def Jg (h:G:=by
 refine xU ?_
 refine rM ?_
 refine cx 38 (fun ge sge=>?_) (fun ge sge=>?_)
 refine rB ge ?_ (x:=lF qC)
 refine rB ge ?_ (x:=lD [val _] bB)
 refine rB ge ?_ (x:=iV)
 refine rA ?_ (x:=bF ge)
 exact eN
 refine zf ge ?_
 refine rA ?_ (x:=aK ge)
 exact eN):G:=h
def Jh (h:G:=by
 refine rB gd ?_ (x:=lF qC)
 refine rB gd ?_ (x:=lD [val _] bB)
 refine rB gd ?_ (x:=iV)
 refine rA ?_ (x:=bF gd)
 exact eN):G:=h
def Ji (h:G:=by
 refine bd ?_
 refine mA ?_
 refine rK ?_
 exact Jf):G:=h
def Jj (h:G:=by
 have hend:k=mW n:=by unfold mW at hk ⊢;first|omega|(simp_all;omega)
 refine bv ?_
 refine sT [1,2,4,5,6] [2,4,5] ?_
 refine mr ?_
 refine cv ?_
 exact (ba 4 (ba _ (aI aj (aI (by refine cV ?_;unfold iL;rw [←hend];exact rfl) (aI dl (aI (fun h=>nomatch h) tI))))))):G:=h
def Jk (h:G:=by
 have hno:(aP e&&(dw e.Store u).2)=false:=Ge
 refine sS [2,3,4,5,6,7,8] [2,3,4,6,7] ?_
 refine mr ?_
 refine bG ?_
 exact (ba 4 (ba _ (aI aj (aI (by refine cV ?_;rw [yM hno];exact rfl) (aI dl (aI (fun h=>nomatch h) (aI (by refine dh ?_;rw [yM hno]) tI)))))))):G:=h
def Jl (h:G:=by
 have hno:(aP e&&ca x)=false:=Gh
 refine sS [2,3,4,5] [2,3,4] ?_
 refine Bj ?_
 refine sV ?_
 refine bG ?_
 exact (ba 4 (ba _ (aI aj (aI (by refine cV ?_;rw [DD hno];exact rfl) (aI dl (aI (fun h=>nomatch h) (aI (by refine dh ?_;rw [DD hno]) tI)))))))):G:=h
def Jm (h:G:=by
 refine cv ?_
 exact (ba 4 (ba _ (aI aj (aI (by refine cV ?_;first|(rw [yO hok hk1];first|done|exact rfl)|(rw [DE hok hk2];first|done|exact rfl)|(rw [DF hok hk3];first|done|exact rfl)|(rw [yP hok hk1n hk2n hk3n];first|done|exact rfl)) (aI dl (aI (fun h=>nomatch h) (aI (by refine dh ?_;first|(rw [yO hok hk1];first|done|exact rfl)|(rw [DE hok hk2];first|done|exact rfl)|(rw [DF hok hk3];first|done|exact rfl)|(rw [yP hok hk1n hk2n hk3n];first|done|exact rfl)) tI)))))))):G:=h
def AV (h:G:=by
 refine Lb ?_
 refine rS ?_
 exact Jm):G:=h
def Jn (h:G:=by
 refine bG ?_
 exact (aI (by refine eb ?_;exact fK (by unfold dN;rw [if_neg rn])) tI)):G:=h
def Jo (h:G:=by
 refine dA 127 ?_ (x:=dL)
 refine dA 255 ?_ (x:=sA)
 refine cv ?_
 exact (aI (by refine eb ?_;exact fK (by unfold dN;rw [if_pos hok])) tI)):G:=h
def xt (h:G:=by
 have hno:ic s=none:=YL wn
 refine sS [0,2,3,4,5,7000] [] ?_
 refine rK ?_
 refine bG ?_
 exact (aI (by refine fU ?_;exact (YN hno).symm) (aI (by refine dh ?_;exact (YP hno).symm) tI))):G:=h
def xu (h:G:=by
 have hno:jG s=none:=Yr (by unfold yX;simp_all)
 refine sS [0,2,3,4,5,6,7,8,10,11,7000] [2,11] ?_
 refine rA ?_ (x:=dZ (qs:=[]) (cs:=cO) ae lK qF PE aj au rfl aj)
 refine Lx ?_
 exact (ba 2 (ba _ (aI aj (aI (by refine cV ?_;rw [hno];exact rfl) (aI gM (aI (fun h=>nomatch h) (aI (by refine dh ?_;rw [hno];rfl) tI)))))))):G:=h
def Jp (h:G:=by
 refine bG ?_
 exact (aI (by refine eb ?_;exact fK (by unfold cw;rw [if_neg rn])) tI)):G:=h
def Jq (h:G:=by
 refine rS ?_
 refine cW ?_
 exact (aI (by refine fU ?_;exact rfl) (aI (by refine dh ?_;first|exact rfl|(simp_all;done)) tI))):G:=h
def Jr (h:G:=by
 refine rA ?_ (x:=dZ (qs:=[]) (cs:=cD) ae qD qE PH aj au rfl aj)
 refine yi ?_
 refine bG ?_
 exact (ba 2 (ba _ (aI aj (aI (by refine cV ?_;rw [hno];exact rfl) (aI gi (aI (fun h=>nomatch h) (aI (by refine dh ?_;rw [hno];rfl) tI)))))))):G:=h
def AW (h:G:=by
 have hno:gA s=none:=Pd (Or.inl (by have hx_:¬(4≤(aw 32 s).length∧(aw 32 s).length%2=0∧(aw 32 s).length≤10):=(by rintro ⟨a_,b_,c_⟩;first|omega|(simp_all;omega)|(simp_all;done));unfold tK;rw [decide_eq_false hx_];rfl))
 refine sS [0,2,3,4,5,7000] [2] ?_
 exact Jr):G:=h
def mq (h:G:=by
 refine rS ?_
 refine sG [0,2,3,4,5,6,7,8,9,11,12,13,14,15,16,17,18,19,20,21,22,23,7000] [2,12] ?_
 refine jV ?_
 refine nx (k+1) ab (e:=(by exact aI (by exact dh (by rw [YA];first|(simp_all [qW,nc,dm,fg];done)|(simp_all [qW,nc];done)|(simp [qW,nc];simp_all;done))) (aI mb tI))) (f:=(by exact aI (by rw [Yz,bL];exact rfl) tI))):G:=h
def Js (h:G:=by
 refine rB gf ?_ (x:=sM)
 refine rA ?_ (x:=bF gf)
 refine rM ?_
 refine cx 124 (fun gg sgg=>?_) (fun gg sgg=>?_)
 refine rB gg ?_ (x:=sM)
 refine rA ?_ (x:=bF gg)
 exact mq
 refine av.s0f gg ?_
 refine rA ?_ (x:=aK gg)
 exact mq):G:=h
def Jt (h:G:=by
 have hno:gA s=none:=Pd (by unfold tK;simp_all)
 refine sS [0,2,3,4,5,6,7,8,9,11,12,13,14,7000] [2,12] ?_
 exact Jr):G:=h
def uv (h:G:=by
 refine cd ?_
 exact Jt):G:=h
def Ju (h:G:=by
 refine sc ?_ ?_<;>intro hbc
 exact Jt
 have hys:=YH (s:=s) eX eX
 refine bd ?_
 refine sS [0,2,3,4,5,6,7,8,9,11,12,13,14,7000] [2,12] ?_
 refine Kq ?_
 refine bG ?_
 exact (ba 2 (ba _ (aI aj (aI (by refine cV ?_;rw [hys];exact rfl) (aI gi (aI (fun h=>nomatch h) (aI (by refine dh ?_;rw [hys];rfl) tI)))))))):G:=h
def Jv (h:G:=by
 refine rB ge ?_ (x:=lD cI gi)
 refine rB ge ?_ (x:=cL [(true,cD)] [(true,cI)] yu (hs:=FT))
 refine rB ge ?_ (x:=nT)
 refine uR ?_
 refine cx 134 (fun gf sgf=>?_) (fun gf sgf=>?_)
 refine zt gf ?_
 refine rA ?_ (x:=bF gf)
 exact uv
 refine rB gf ?_ (x:=lD cI gi)
 refine rB gf ?_ (x:=gL [(true,cD)] [(true,cI)] DJ (hs:=FQ))
 refine rB gf ?_ (x:=sM)
 refine rB gf ?_ (x:=wX)
 refine rA ?_ (x:=aK gf)
 exact Ju):G:=h
def Jw (h:G:=by
 refine Kl ?_
 refine cv ?_
 exact (ba 2 (ba _ (aI aj (aI (by refine cV ?_;rw [hr];exact rfl) (aI nK (aI (fun h=>nomatch h) tI))))))):G:=h
def Jx (h:G:=by
 refine aU ?_
 refine qh ?_
 exact Jw):G:=h
def Jy (h:G:=by
 refine uZ ?_
 exact Jx):G:=h
def Jz (h:G:=by
 have hc1:(ws.getD 0 []=[100,101,108,101,116,101]∧ws.length=2):=kr
 have hr:=YZ hc0 hc1
 have h1w:1 < ws.length:=ab
 refine sS [0,2,3,7000] [2,3] ?_
 refine BP ?_
 refine qh ?_
 refine LF ?_
 refine lv ?_
 refine Ct ?_
 exact Jy):G:=h
def AX (h:G:=by
 have hc2:(ws.getD 0 []=[115,101,116]∧ws.length=4):=kr
 have hr:=Za hc0 hc1 hc2
 have h1w:1 < ws.length:=ab
 have h2w:2 < ws.length:=ab
 have h3w:3 < ws.length:=ab
 refine sS [0,2,3,7000] [2,3] ?_
 refine BP ?_
 refine aU ?_
 refine qh ?_
 refine LF ?_
 refine lv ?_
 refine Ct ?_
 refine qf ?_
 refine qh ?_
 refine fc ?_
 refine rA ?_ (x:=bT (k:=2) ae eo (bI rfl) jo FW aj)
 refine mB ?_
 refine rA ?_ (x:=gL [(false,[val _]),(false,[val _])] [(false,[val _]),(false,[val _])] yQ (hs:=by exact (zq (l:=[102]) (hw 2))))
 refine lv ?_
 refine rA ?_ (x:=lF yv)
 refine uZ ?_
 refine qh ?_
 refine fc ?_
 refine rA ?_ (x:=bT (k:=3) ae eo (bI rfl) jo FX aj)
 refine mB ?_
 refine rA ?_ (x:=gL [(false,[val _])] [(false,[val _])] DN (hs:=by exact (EV (hw 3))))
 refine lv ?_
 refine rA ?_ (x:=lF qB)
 exact Jy):G:=h
def xv (h:G:=by
 have hc2:¬(ws.getD 0 []=[115,101,116]∧ws.length=4):=kr
 have hr:=Zb hc0 hc1 hc2
 refine bd ?_
 refine sS [0,2,3,7000] [2,3] ?_
 exact Jw):G:=h
def AY (h:G:=by
 refine kE ?_
 refine rS ?_
 refine fW ?_
 exact xv):G:=h
def JA (h:G:=by
 have hc1:¬(ws.getD 0 []=[100,101,108,101,116,101]∧ws.length=2):=kr
 refine uJ ?_
 refine qv ?_
 refine cx 49 (fun gc sgc=>?_) (fun gc sgc=>?_)
 refine Cf ?_
 refine xI ?_
 refine rS ?_
 refine sc ?_ ?_<;>intro hbb
 exact AX
 exact xv
 exact AY):G:=h
def JB (h:G:=by
 have hno:gz s=none:=Yx Ab
 refine sS [0,2,3,4,7000] [2,4] ?_
 refine Ms ?_
 refine yj ?_
 refine bG ?_
 exact (ba 2 (ba _ (aI aj (aI (by refine cV ?_;rw [hno];exact rfl) (aI nK (aI (fun h=>nomatch h) (aI (by refine dh ?_;rw [hno];rfl) tI)))))))):G:=h
def JC (h:G:=by
 refine Mt ?_
 refine KM ?_
 exact (ba 2 (ba _ (aI aj (aI (by refine cV ?_;rw [hno];exact rfl) (aI tz (aI (fun h=>nomatch h) (aI (by refine dh ?_;rw [hno];rfl) tI)))))))):G:=h
def JD (h:G:=by
 have hno:bq s=none:=Pg eX
 refine CN ?_
 exact JC):G:=h
def JE (h:G:=by
 refine rA ?_ (x:=fa (ms:=ju) (qs:=nu) ae tz (fun h=>nomatch h) aH aj Fy bn)
 refine KM ?_
 exact (ba 2 (ba _ (aI aj (aI (by refine cV ?_;rw [hys];exact rfl) (aI tz (aI (fun h=>nomatch h) (aI (by refine dh ?_;rw [hys];rfl) tI)))))))):G:=h
def AZ (h:G:=by
 have hno:bq s=none:=Pg eX
 refine yk ?_
 exact JC):G:=h
def JF (h:G:=by
 refine jT ?_
 exact AZ):G:=h
def JG (h:G:=by
 have hys:=Ph (s:=s) eX eX
 refine bd ?_
 refine yk ?_
 exact JE):G:=h
def JH (h:G:=by
 refine eO ?_
 refine Ke ?_
 refine sG [0,2,3,4,5,6,7,18,7000] [2,7] ?_
 refine Bg ?_
 refine fj ?_
 refine cx 68 (fun ga sga=>?_) (fun ga sga=>?_)
 exact JF
 refine Bf ?_
 refine sq ?_
 refine sc ?_ ?_<;>intro hbd
 exact AZ
 exact JG):G:=h
def JI (h:G:=by
 have hok:(bf r&&aQ q)=false:=by cases h1:bf r<;>cases h2:aQ q<;>simp_all
 refine sS [2,3,4,5] [2,3] ?_
 refine se ?_
 refine cv ?_
 exact (aI (by refine cU ?_;unfold qQ;rw [if_neg rn];rfl) tI)):G:=h
def JJ (h:G:=by
 have hbad:(aQ x.ac9&&fZ x.Rows)=false:=by cases h1:aQ x.ac9<;>cases h2:fZ x.Rows<;>simp_all
 refine oQ ?_
 refine bG ?_
 exact (aI (by refine eb ?_;exact fK (by unfold eG;rw [if_neg (by rw [hbad];simp)])) tI)):G:=h
def JK (h:G:=by
 refine CF ?_
 refine bG ?_
 exact (ba 4 (ba _ (aI aj (aI (by refine cV ?_;rw [hr];try exact rfl) (aI px (aI (fun h=>nomatch h) (aI (by refine dh ?_;rw [hr]) tI)))))))):G:=h
def JL (h:G:=by
 refine rA ?_ (x:=dZ (qs:=[]) (cs:=iW) ae nV vJ abL aj au rfl aj)
 exact JK):G:=h
def Ba (h:G:=by
 have hno:ob [] n=false:=by rw [←Bool.not_eq_true];intro hc_;obtain ⟨h1_,h2_,h3_⟩:=Zx hc_;first|omega|(simp_all [aE];done)|(simp_all [aE];omega)
 refine sS [0,1,4,5] [4] ?_
 refine rA ?_ (x:=dZ (qs:=[]) (cs:=dE) ae tB tC QC aj au rfl aj)
 refine Ly ?_
 exact (ba 4 (ba _ (aI aj (aI (by refine cV ?_;rw [Px hno];exact rfl) (aI gy (aI (fun h=>nomatch h) (aI (by refine dh ?_;rw [Px hno]) tI)))))))):G:=h
def Bb (h:G:=by
 refine cv ?_
 exact (aI (by refine eb ?_;rw [hr];try exact rfl) tI)):G:=h
def JM (h:G:=by
 have hr:kY e s=_:=if_neg (by rintro ⟨a_,b_⟩;first|omega|(simp_all;done)|(simp_all;omega))
 refine sS [1,2,3,6,7,8,7000] [3] ?_
 refine rK ?_
 exact Bb):G:=h
def JN (h:G:=by
 refine cv ?_
 exact (ba 4 (ba _ (aI aj (aI (by refine cV ?_;rw [hrE,hx1];try exact rfl) (aI dl (aI (fun h=>nomatch h) (aI (by refine eb ?_;rw [hrT,hx2];try exact rfl) tI)))))))):G:=h
def JO (h:G:=by
 refine sS [1,2,4,5,6,11,12,13,14,7000] [2,4,11,13] ?_
 refine mr ?_
 refine rK ?_
 refine JZ ?_
 exact (ba 4 (ba _ (aI aj (aI (by refine cV ?_;rw [hrE];try exact rfl) (aI dl (aI (fun h=>nomatch h) (aI (by refine eb ?_;rw [hrT,if_neg (by rw [hd_];simp)];try exact rfl) tI)))))))):G:=h
def JP (h:G:=by
 refine bd ?_
 refine sS [1,2,4,5,6,11,12,13,14,7000] [2,4,11,13] ?_
 refine mr ?_
 refine rK ?_
 refine JZ ?_
 exact (ba 4 (ba _ (aI aj (aI (by refine cV ?_;rw [hrE];try exact rfl) (aI dl (aI (fun h=>nomatch h) (aI (by refine eb ?_;rw [hrT,if_pos hd_];try exact rfl) tI)))))))):G:=h
def JQ (h:G:=by
 exact absurd hbd Ac):G:=h
def JR (h:G:=by
 refine aU ?_
 refine sP [1,2,4,5,6,11,12,74,7000] [2,4,11] ?_
 refine dr ?_
 refine dA 0 ?_ (x:=lD fb dl)
 refine dA 0 ?_ (x:=lD fb dl)
 refine dA 0 ?_ (x:=vM false [sl .v _])
 refine dA 4 ?_ (x:=bT (k:=0) ae eo (bI rfl) jo FY aj)
 refine dA 12 ?_ (x:=lE [val _] DW)
 refine dA 0 ?_ (x:=vM false [sl .v _])
 refine dA 32 ?_ (x:=bT (k:=1) ae eo (bI rfl) jo FZ aj)
 refine dA 96 ?_ (x:=lE [val _] DW)
 refine dA 254 ?_ (x:=gL [(true,bj),(false,[val _]),(false,[val _])] [(true,fb),(false,[val _]),(false,[val _])] Wj (hs:=by exact (abR (e:=e) (s:=(aw 32 l).getD 1 []) ab hres.2 ab)))
 refine dA 511 ?_ (x:=bZ (ag:=true) (vs:=bj) dl au aj aH)
 refine dA 1023 ?_ (x:=sA)
 refine cv ?_
 exact (ba 4 (ba _ (aI aj (aI (by refine cV ?_;rw [hrE];try exact rfl) (aI dl (aI (fun h=>nomatch h) (aI (by refine eb ?_;rw [hrT];try exact rfl) tI)))))))):G:=h
def JS (h:G:=by
 refine cW ?_
 exact (aI (by refine fU ?_;rw [hr];try rfl) tI)):G:=h
def JT (h:G:=by
 have hend:k=x.length∨k=y.length:=ab
 refine bv ?_
 refine sS [0,1,5] [] ?_
 refine mu ?_
 refine mu ?_
 refine fx ?_
 refine cW ?_
 exact rb (by rw [ha.2,decide_eq_decide];rcases Nat.lt_or_ge k x.length with h1|h1<;>rcases Nat.lt_or_ge k y.length with h2|h2<;>(first|omega|(rw [aaj h1 h2];omega)|(rw [aak h1 h2];omega)|(rw [aal h1 h2];omega)))):G:=h
def JU (h:G:=by
 refine cW ?_
 exact rb (by unfold ct ce eH;dsimp only;(first|rw [decide_eq_decide]|skip);repeat' split;all_goals (first|omega|rfl|simp_all))):G:=h
def JV (h:G:=by
 have hins:cZ (ct ce) (x.take (i+1))=(cZ (ct ce) (x.take i)).take j++x[i]::(cZ (ct ce) (x.take i)).drop j:=by rw [cG hlt,zu,aad (pD).ord (EX (pD).ord (pD).irr _) ab haj hst]
 refine bv ?_
 refine sS [0,2,3,4,5] [] ?_
 refine Mz ?_
 refine iz ?_
 refine rA ?_ (x:=wT (i:=0) (j:=j) (ys:=((cZ (ct ce) (x.take i)).take j)) (q:=(0:Int)) ae jb aj au ab ab ab ab (fun _=>rfl) aF)
 refine Kj ?_
 refine sS [0,2,3,4,5,6] [] ?_
 refine bW ?_
 refine iz ?_
 refine uB ?_
 refine rA ?_ (x:=cL [(true,cO)] [(true,dK)] MK (hs:=by exact (aS.view (ag:=true) (aD (bK aA.nil)) (aB.cons (bor_val _) (aB.cons (bor_sl _) aB.nil)) ((Ol ab)))))
 refine uS ?_
 refine sG [0,2,3,4,5,6] [] ?_
 refine bW ?_
 refine iz ?_
 refine rA ?_ (x:=wT (i:=j) (j:=(cZ (ct ce) (x.take i)).length) (ys:=((cZ (ct ce) (x.take i)).drop j)) (r:=(((cZ (ct ce) (x.take i)).length:Nat):Int)) ae jb au aj ab ab ab ab (fun _=>rfl) (by rw [cC]))
 refine Kj ?_
 refine sG [0,2,3,4,5] [] ?_
 refine jV ?_
 refine nx (i+1) ab (e:=(by exact aI (by exact cU (by rw [hins];simp only [bL,List.map_cons,List.map_nil,aW,List.nil_append,List.cons_append];try rfl)) (aI mb tI)))):G:=h
def JW (h:G:=by
 refine sG [1,2,4,5,6] [2] ?_
 refine jV ?_
 refine nx (k+1) ab (e:=(by exact aI (by first|exact cU (by rw [aam hlt hc,bL];rfl)|exact cU (by rw [aan hlt hc])) (aI aj tI)))):G:=h
def JX (h:G:=by
 refine kF ?_
 refine bG ?_
 exact (aI (by refine fU ?_;first|(simp_all;done)|rfl) tI)):G:=h
def Bc (h:H) (w:ah G H:=by
 intro z
 refine kG ?_
 refine kG ?_
 exact z.g):G:=ai w h
def mr (h:H) (w:ah G H:=by
 intro z
 refine rA ?_ (x:=fa (ms:=bj) (qs:=fb) ae dl (fun h=>nomatch h) aH aj zF bn)
 refine sV ?_
 exact z.g):G:=ai w h
def zip (h:H) (w:ah G H:=by
 intro z
 refine rA ?_ (x:=dq (qs:=[(false,[val _])]) ae ej nL ae rfl rfl rfl rfl rfl aH eW rfl)
 refine rA ?_ (x:=ir ae ej nL rfl rfl ae rfl ck ck)
 exact z.g):G:=ai w h
def JY (h:H) (w:ah G H:=by
 intro z
 refine rA ?_ (x:=dq (qs:=[(true,cO)]) ae jb lK ae rfl rfl rfl rfl rfl aH eW rfl)
 refine rA ?_ (x:=ir ae jb lK rfl rfl ae rfl ck ck)
 exact z.g):G:=ai w h
def xw (h:H) (w:ah G H:=by
 intro z
 refine rA ?_ (x:=np (cs:=bj) (qs:=fb) ae aj zF bn)
 refine kG ?_
 exact z.g):G:=ai w h
def dH (h:H) (w:ah G H:=by
 intro z
 refine bd ?_
 refine aU ?_
 exact z.g):G:=ai w h
def qd (h:H) (w:ah G H:=by
 intro z
 refine rA ?_ (x:=bT ae ej au aj dW aj)
 refine rA ?_ (x:=lE [val _] bB)
 exact z.g):G:=ai w h
def JZ (h:H) (w:ah G H:=by
 intro z
 refine xg (d:=4) fb aj (by exact (aA.cons (PV.to_map (fun _=>(aA.cons (PV.to_map (fun _=>(aD (aA.cons (PV.to_map (fun _=>(aD aA.nil))) (aD (aD aA.nil)))))) aA.nil))) (aD (aD (aA.cons (PV.to_map (fun _=>(aD aA.nil))) (aA.cons (PV.to_map (fun _=>(aD (aD (aA.cons (PV.to_map (fun _=>(aD (aD (aD aA.nil))))) (aA.cons (PV.to_map (fun _=>(aD aA.nil))) (aD (aA.cons (PV.to_map (fun _=>(aD aA.nil))) (aD (aD (aD (aA.cons (PV.to_map (fun _=>(aD (aA.cons (PV.to_map (fun _=>(aD aA.nil))) aA.nil)))) aA.nil)))))))))))) (aA.cons (PV.to_map (fun _=>(aD (aD (aA.cons (PV.to_map (fun _=>(aD (aD (aD aA.nil))))) (aA.cons (PV.to_map (fun _=>(aD aA.nil))) (aD (aD (aA.cons (PV.to_map (fun _=>(aD (aA.cons (PV.to_map (fun _=>(aD aA.nil))) aA.nil)))) aA.nil))))))))) (aA.cons (PV.to_map (fun _=>(aD (aD (aA.cons (PV.to_map (fun _=>(aD aA.nil))) (aA.cons (PV.to_map (fun _=>(aD aA.nil))) (aA.cons (PV.to_map (fun _=>(aD aA.nil))) aA.nil))))))) (aD aA.nil))))))))) bn ?_
 refine cv ?_
 exact z.g):G:=ai w h
def nA (h:H) (w:ah G H:=by
 intro z
 refine yg ?_
 refine sV ?_
 exact z.g):G:=ai w h
def Ka (h:H) (w:ah G H:=by
 intro z
 refine sP [1,2,3,4,5,6,14,57,58,59,145,146,147,6200] [1,2,4,6] ?_
 refine sL [1,2,3,4,5,6,57,58,59,145,146] [1,2,6] (fun m:Nat=>m≤e.ac8.length) (fun m:Nat=>[(14,RV.slc fq ((jf e (parts e).length m).map (bz bb ak ak bc ak))),(147,RV.int (m:Int)),(6200,RV.gh (aV 10 (za.drop m)) (bp (bz bb ak ak bc ak) (za.drop m)))]) (fun m:Nat=>[(4,(46,[sl dg (e.Store.ac7.map (be bJ ak)),val (vI e.Store.Now),val (vI e.adc),sl ak (e.Order.map ax),sl .v (za.map kf),sl ft ((e.Done++hP e (parts e).length m).map (cn bb ak bc ak)),sl fu ((kP e (parts e).length).map (cm ak ak ak)),val (vI e.Steps)]))]) (fun m:Nat=>e.ac8.length - m) 0 ab Gz (by exact aI (by show _=some (46,[sl dg (e.Store.ac7.map (be bJ ak)),val (vI e.Store.Now),val (vI e.adc),sl ak (e.Order.map ax),sl .v (za.map kf),sl ft ((e.Done++hP e (parts e).length 0).map (cn bb ak bc ak)),sl fu ((kP e (parts e).length).map (cm ak ak ak)),val (vI e.Steps)]);rw [show hP e (parts e).length 0=[] from rfl,dJ];first|(rw [hled];simp only [bL];exact rfl)|(rw [hled];exact rfl)) tI) ?_
 exact z.g):G:=ai w h
def uw (h:H) (w:ah G H:=by
 intro z
 refine CO ?_
 refine yl ?_
 exact z.g):G:=ai w h
def Bd (h:H) (w:ah G H:=by
 intro z
 refine sP [0,2,3,4,5,6,7,8,9,11,12,13,14,7000] [2,12] ?_
 refine sL [0,2,3,4,5,6,7,8,9,11,12,7000] [2] (fun k:Nat=>k≤(((aw 32 s).length - 4) / 2)) (fun k:Nat=>[(13,RV.bool (pB (aw 32 s) k)),(14,RV.int (2+2 * (k:Int)))]) (fun k:Nat=>[(12,(25,[val (vI (nb 113 ((aw 32 s).getD 0 []))),val (vI (nb 116 ((aw 32 s).getD 1 []))),sl bb ((pA (aw 32 s) k).map bU),sl ak ((nZ ((aw 32 s).getD ((aw 32 s).length - 1) [])).map ax)]))]) (fun k:Nat=>(((aw 32 s).length - 4) / 2) - k) 0 ab (by exact aI (by exact dh (by first|(simp_all [pB,ze,nc];done)|(simp [pB,ze,nc];simp_all;done))) (aI aj tI)) cb ?_
 exact z.g):G:=ai w h
def oB (h:H) (w:ah G H:=by
 intro z
 refine sR ?_
 refine rX ?_ (x:=(jr (ag:=true) (cs:=bj) ae au))
 exact z.g):G:=ai w h
def dM (h:H) (w:ah G H:=by
 intro z
 refine rA ?_ (x:=kM)
 refine fG ?_
 exact z.g):G:=ai w h
def Kb (h:H) (w:ah G H:=by
 intro z
 refine eA ?_
 refine yd ?_
 exact z.g):G:=ai w h
def bA (h:H) (w:ah G H:=by
 intro z
 refine dH ?_
 refine fG ?_
 exact z.g):G:=ai w h
def qe (h:H) (w:ah G H:=by
 intro z
 refine qx ?_
 refine rA ?_ (x:=cL [(true,cD)] [(true,cI)] yu (hs:=by exact Eg))
 exact z.g):G:=ai w h
def xx (h:H) (w:ah G H:=by
 intro z
 refine fc ?_
 refine rA ?_ (x:=bT (k:=0) ae eo (bI rfl) jo FY aj)
 exact z.g):G:=ai w h
def nB (h:H) (w:ah G H:=by
 intro z
 refine sR ?_
 refine CH ?_
 exact z.g):G:=ai w h
def xy (h:H) (w:ah G H:=by
 intro z
 refine rA ?_ (x:=cL [(false,[sl _ _]),(false,[val _])] [(false,[sl .v _]),(false,[val _])] WC (hs:=by exact (abW ab ab)))
 refine CC ?_
 exact z.g):G:=ai w h
def cf (h:H) (w:ah G H:=by
 intro z
 refine iZ ?_
 refine rM ?_
 exact z.g):G:=ai w h
def bG (h:H) (w:ah G H:=by
 intro z
 refine rK ?_
 refine cv ?_
 exact z.g):G:=ai w h
def rU (h:H) (w:ah G H:=by
 intro z
 refine rB ga ?_ (x:=cL [(false,[val _]),(false,[val _]),(false,[val _])] [(false,[val _]),(false,[val _]),(false,[val _])] mL (hs:=ma))
 refine rB ga ?_ (x:=nT)
 exact z.g):G:=ai w h
def xz (h:H) (w:ah G H:=by
 intro z
 refine oP ?_
 refine rA ?_ (x:=cL [(true,bj)] [(true,fb)] Ob (hs:=by exact (Ov ab)))
 exact z.g):G:=ai w h
def ux (h:H) (w:ah G H:=by
 intro z
 refine MA ?_
 refine rA ?_ (x:=lE ox kT)
 exact z.g):G:=ai w h
def Be (h:H) (w:ah G H:=by
 intro z
 refine rA ?_ (x:=dZ (qs:=[(false,[val _]),(false,[val _]),(false,[val _])]) (cs:=gH) ae oW yw ZR aj tY rfl aj)
 refine Mw ?_
 exact z.g):G:=ai w h
def Kc (h:H) (w:ah G H:=by
 intro z
 refine rA ?_ (x:=rt (qs:=HD) ae kT (fun h=>nomatch h) aH FC bn)
 refine rA ?_ (x:=dq (qs:=[(true,rP)]) ae gR na ae rfl rfl rfl rfl rfl aH eW rfl)
 exact z.g):G:=ai w h
def rV (h:H) (w:ah G H:=by
 intro z
 refine rX ?_ (x:=(ew ae tB tC))
 refine yl ?_
 exact z.g):G:=ai w h
def Bf (h:H) (w:ah G H:=by
 intro z
 refine Mq ?_
 refine rB ga ?_ (x:=gL [(true,ju)] [(true,nu)] WI (hs:=by exact (ZQ (x:=cK s))))
 exact z.g):G:=ai w h
def Bg (h:H) (w:ah G H:=by
 intro z
 refine CL ?_
 refine rA ?_ (x:=cL [(true,ju)] [(true,nu)] DL (hs:=by exact (Em (x:=cK s))))
 exact z.g):G:=ai w h
def mu (h:H) (w:ah G H:=by
 intro z
 refine fc ?_
 refine rA ?_ (x:=lN ej)
 exact z.g):G:=ai w h
def gJ (h:H) (w:ah G H:=by
 intro z
 refine rK ?_
 refine aU ?_
 exact z.g):G:=ai w h
def uy (h:H) (w:ah G H:=by
 intro z
 refine bh ?_
 refine CJ ?_
 exact z.g):G:=ai w h
def Bh (h:H) (w:ah G H:=by
 intro z
 refine LZ ?_
 refine sO [(0,_),(2,_),(3,_),(4,_),(5,_),(6,_),(7,_),(8,_),(9,_),(11,_),(12,_),(13,_),(14,_),(15,_),(16,_),(17,_),(18,_),(19,_),(20,_),(21,_),(22,_),(23,_),(7000,_)] [(2,_),(12,(25,cD))] ?_
 exact z.g):G:=ai w h
def Kd (h:H) (w:ah G H:=by
 intro z
 refine rA ?_ (x:=np (cs:=ju) (qs:=nu) ae aj Fy bn)
 refine kG ?_
 exact z.g):G:=ai w h
def uz (h:H) (w:ah G H:=by
 intro z
 refine rX ?_ (x:=(ew ae kj vG))
 refine Mi ?_
 exact z.g):G:=ai w h
def xA (h:H) (w:ah G H:=by
 intro z
 refine zt ga ?_
 refine jx ?_
 exact z.g):G:=ai w h
def qf (h:H) (w:ah G H:=by
 intro z
 refine uZ ?_
 refine aU ?_
 exact z.g):G:=ai w h
def Ke (h:H) (w:ah G H:=by
 intro z
 refine MB ?_
 refine Mv ?_
 exact z.g):G:=ai w h
def bO (h:H) (w:ah G H:=by
 intro z
 refine sR ?_
 refine fx ?_
 refine aU ?_
 exact z.g):G:=ai w h
def oC (h:H) (w:ah G H:=by
 intro z
 refine jw ?_
 refine rS ?_
 exact z.g):G:=ai w h
def Bi (h:H) (w:ah G H:=by
 intro z
 refine rA ?_ (x:=np (cs:=dE) (qs:=gW) ae aj (by exact (bK (aD aA.nil))) FG)
 refine kG ?_
 exact z.g):G:=ai w h
def xB (h:H) (w:ah G H:=by
 intro z
 refine uX ?_
 refine CE ?_
 exact z.g):G:=ai w h
def qg (h:H) (w:ah G H:=by
 intro z
 refine sR ?_
 refine CS ?_
 exact z.g):G:=ai w h
def Kf (h:H) (w:ah G H:=by
 intro z
 refine aU ?_
 refine sO [(1,_),(2,_),(3,_),(4,_),(5,_),(6,_),(8,_),(9,_),(10,_),(11,_),(57,_),(58,_),(59,_),(77,_),(78,_),(79,_),(2900,_),(6100,_)] [(1,(46,[sl (.lo _) _,val _,val _,sl (.lo _) _,sl (.lo _) _,sl (.lo _) _,sl (.lo _) _,val _])),(2,(46,bj)),(4,(46,AD)),(6,(149,gX)),(10,(102,dG)),(900,(102,_++(dG++_)))] ?_
 exact z.g):G:=ai w h
def uA (h:H) (w:ah G H:=by
 intro z
 refine yh ?_
 refine CM ?_
 exact z.g):G:=ai w h
def qh (h:H) (w:ah G H:=by
 intro z
 refine sO [(0,_),(2,_),(3,_),(7000,_)] [(2,_),(3,(29,iX))] ?_
 refine bh ?_
 exact z.g):G:=ai w h
def Kg (h:H) (w:ah G H:=by
 intro z
 refine MA ?_
 refine rA ?_ (x:=wJ (qs:=HD) ae kT (fun h=>nomatch h) aH FC bn)
 exact z.g):G:=ai w h
def iz (h:H) (w:ah G H:=by
 intro z
 refine fc ?_
 refine rM ?_
 exact z.g):G:=ai w h
def uB (h:H) (w:ah G H:=by
 intro z
 refine Ml ?_
 refine rA ?_ (x:=lE dK gM)
 exact z.g):G:=ai w h
def xC (h:H) (w:ah G H:=by
 intro z
 refine MB ?_
 refine bh ?_
 exact z.g):G:=ai w h
def eO (h:H) (w:ah G H:=by
 intro z
 refine aU ?_
 refine aU ?_
 exact z.g):G:=ai w h
def Bj (h:H) (w:ah G H:=by
 intro z
 refine oP ?_
 refine rA ?_ (x:=cL [(true,bj)] [(true,fb)] NU (hs:=by exact (Oz ab)))
 exact z.g):G:=ai w h
def iA (h:H) (w:ah G H:=by
 intro z
 refine zf ga ?_
 refine jY ?_
 exact z.g):G:=ai w h
def rW (h:H) (w:ah G H:=by
 intro z
 refine rA ?_ (x:=aK gb)
 refine rM ?_
 exact z.g):G:=ai w h
def Kh (h:H) (w:ah G H:=by
 intro z
 refine CL ?_
 refine rA ?_ (x:=cL [(true,bj),(true,ju)] [(true,fb),(true,nu)] WJ (hs:=by exact (XW (e:=e) (x:=(bq l).getD cY) ab ab)))
 exact z.g):G:=ai w h
def qi (h:H) (w:ah G H:=by
 intro z
 refine uW ?_
 refine rA ?_ (x:=lN ej)
 exact z.g):G:=ai w h
def xD (h:H) (w:ah G H:=by
 intro z
 refine nG ?_
 refine Mh ?_
 exact z.g):G:=ai w h
def uC (h:H) (w:ah G H:=by
 intro z
 refine Mz ?_
 refine fY ?_
 exact z.g):G:=ai w h
def uD (h:H) (w:ah G H:=by
 intro z
 refine LP ?_
 refine fY ?_
 exact z.g):G:=ai w h
def Ki (h:H) (w:ah G H:=by
 intro z
 refine aU ?_
 refine sO [(2,_),(3,_),(4,_),(6,_),(7,_),(8,_),(9,_),(11,_),(54,_),(55,_),(67,_),(68,_),(69,_),(6200,_),(6300,_)] [(3,(46,bj)),(4,(25,cD)),(6,(46,bj)),(8,(46,bj)),(9,(102,rP))] ?_
 exact z.g):G:=ai w h
def kD (h:H) (w:ah G H:=by
 intro z
 refine rA ?_ (x:=bF gb)
 refine rM ?_
 exact z.g):G:=ai w h
def Bk (h:H) (w:ah G H:=by
 intro z
 refine rA ?_ (x:=ir ae gK oW rfl rfl ae rfl ck ck)
 refine rA ?_ (x:=lF kK)
 exact z.g):G:=ai w h
def rY (h:H) (w:ah G H:=by
 intro z
 refine rM ?_
 refine CT ?_
 exact z.g):G:=ai w h
def Bl (h:H) (w:ah G H:=by
 intro z
 refine rA ?_ (x:=ir ae gR na rfl rfl ae rfl ck ck)
 refine fY ?_
 exact z.g):G:=ai w h
def fj (h:H) (w:ah G H:=by
 intro z
 refine fw ?_
 refine rM ?_
 exact z.g):G:=ai w h
def Bm (h:H) (w:ah G H:=by
 intro z
 refine aU ?_
 refine My ?_
 exact z.g):G:=ai w h
def cW (h:H) (w:ah G H:=by
 intro z
 refine rS ?_
 refine cv ?_
 exact z.g):G:=ai w h
def xE (h:H) (w:ah G H:=by
 intro z
 refine Md ?_
 refine CA ?_
 exact z.g):G:=ai w h
def Bn (h:H) (w:ah G H:=by
 intro z
 refine uy ?_
 refine rA ?_ (x:=cL [(true,[sl (.lo _) _,val _,val _,sl (.lo _) _,sl (.lo _) _,sl (.lo _) _,sl (.lo _) _,val _])] [(true,fb)] NU (hs:=by exact (Oz ab)))
 exact z.g):G:=ai w h
def Kj (h:H) (w:ah G H:=by
 intro z
 refine rA ?_ (x:=ue ae jb lK rfl rfl ae wm (by first|(intro cs hcs;obtain ⟨x,_,rfl⟩:=List.mem_map.1 hcs;exact (aB.cons (bor_val _) (aB.cons (bor_sl _) aB.nil)))|simp) ck ck)
 refine fY ?_
 exact z.g):G:=ai w h
def Bo (h:H) (w:ah G H:=by
 intro z
 refine rA ?_ (x:=cL [(true,[sl (.lo _) _,val _,val _,sl (.lo _) _,sl (.lo _) _,sl (.lo _) _,sl (.lo _) _,val _])] [(true,fb)] Ob (hs:=by exact (Ov ab)))
 refine fj ?_
 exact z.g):G:=ai w h
def Kk (h:H) (w:ah G H:=by
 intro z
 refine sO [(1,_),(2,_),(3,_),(4,_),(5,_),(6,_),(8,_),(9,_),(10,_),(11,_),(57,_),(58,_),(59,_),(77,_),(78,_),(79,_),(6100,_)] [(1,_),(2,_),(4,_),(6,(149,gX)),(10,_)] ?_
 refine bh ?_
 exact z.g):G:=ai w h
def xF (h:H) (w:ah G H:=by
 intro z
 refine rA ?_ (x:=bT ae gK au aj dW aj)
 refine rA ?_ (x:=lE gH ti)
 exact z.g):G:=ai w h
def Bp (h:H) (w:ah G H:=by
 intro z
 refine rX ?_ (x:=(ew ae DY Eb))
 refine MC ?_
 exact z.g):G:=ai w h
def Kl (h:H) (w:ah G H:=by
 intro z
 refine rA ?_ (x:=fa (ms:=iX) (qs:=jQ) ae nK (fun h=>nomatch h) aH aj FN bn)
 refine yj ?_
 exact z.g):G:=ai w h
def rZ (h:H) (w:ah G H:=by
 intro z
 refine sR ?_
 refine rX ?_ (x:=(jr (ag:=true) (cs:=dE) ae au))
 exact z.g):G:=ai w h
def Bq (h:H) (w:ah G H:=by
 intro z
 refine rA ?_ (x:=lF kK)
 refine rA ?_ (x:=fa (ms:=[sl _ _]) (qs:=[sl .v _]) ae lJ (fun _=>rfl) aH aj la kq)
 exact z.g):G:=ai w h
def Km (h:H) (w:ah G H:=by
 intro z
 refine rA ?_ (x:=bT ae iN au aj dW aj)
 refine rA ?_ (x:=lE [sl .v _] nS)
 exact z.g):G:=ai w h
def Kn (h:H) (w:ah G H:=by
 intro z
 refine rA ?_ (x:=dZ (qs:=[]) (cs:=iX) ae vj vk TW aj au rfl aj)
 refine rA ?_ (x:=cL [(true,iX),(true,iX)] [(true,jQ),(true,jQ)] TL (hs:=by exact (XT (x:=x.adb) (y:=⟨0,⟨0,[]⟩,0,0⟩))))
 exact z.g):G:=ai w h
def Ko (h:H) (w:ah G H:=by
 intro z
 refine aU ?_
 refine sO [(1,_),(2,_),(3,_),(4,_),(5,_),(6,_),(14,_),(57,_),(58,_),(59,_),(145,_),(146,_),(147,_),(6200,_)] [(1,(46,[sl (.lo _) _,val _,val _,sl (.lo _) _,sl (.lo _) _,sl (.lo _) _,sl (.lo _) _,val _])),(2,(46,bj)),(4,(46,bj)),(6,(149,gX))] ?_
 exact z.g):G:=ai w h
def Kp (h:H) (w:ah G H:=by
 intro z
 refine aU ?_
 refine sO [(1,_),(2,_),(3,_),(4,_),(5,_),(6,_),(14,_),(57,_),(58,_),(59,_),(145,_),(146,_),(147,_),(6200,_)] [(1,(46,[sl (.lo _) _,val _,val _,sl (.lo _) _,sl (.lo _) _,sl (.lo _) _,sl (.lo _) _,val _])),(2,(46,bj)),(4,(46,bj)),(6,(149,[val _,val _,any,any,any]))] ?_
 exact z.g):G:=ai w h
def Kq (h:H) (w:ah G H:=by
 intro z
 refine Mx ?_
 refine yi ?_
 exact z.g):G:=ai w h
def nC (h:H) (w:ah G H:=by
 intro z
 refine fc ?_
 refine rA ?_ (x:=lN jb)
 exact z.g):G:=ai w h
def Br (h:H) (w:ah G H:=by
 intro z
 refine Mn ?_
 refine rM ?_
 exact z.g):G:=ai w h
def xG (h:H) (w:ah G H:=by
 intro z
 refine qw ?_
 refine LU ?_
 exact z.g):G:=ai w h
def nD (h:H) (w:ah G H:=by
 intro z
 refine rA ?_ (x:=lF mM)
 refine eA ?_
 exact z.g):G:=ai w h
def uE (h:H) (w:ah G H:=by
 intro z
 refine rA ?_ (x:=lF MQ)
 refine CK ?_
 exact z.g):G:=ai w h
def nE (h:H) (w:ah G H:=by
 intro z
 refine dA 0 ?_ (x:=vM false [sl .v _])
 refine jy ?_
 exact z.g):G:=ai w h
def Kr (h:H) (w:ah G H:=by
 intro z
 refine sP [1,3,5,7,23,24,25,32,33,34,66,67,68] [1,7] ?_
 refine sL [1,3,5,7,23,24,25,32,33,34,66,67] [1,7] (fun m:Nat=>m≤(cX s k).length+j∧iU (aY s) ((cX s k).length+j) m=true) (fun m:Nat=>[(68,RV.int (m:Int))]) (fun m:Nat=>[]) (fun m:Nat=>(cX s k).length+j - m) 0 jM cb au ?_
 exact z.g):G:=ai w h
def Bs (h:H) (w:ah G H:=by
 intro z
 refine rX ?_ (x:=(ew ae nV vJ))
 refine CF ?_
 exact z.g):G:=ai w h
def Ks (h:H) (w:ah G H:=by
 intro z
 refine sO [(1,_),(2,_),(3,_),(4,_),(5,_),(6,_),(57,_),(58,_),(59,_)] [(1,(46,[sl (.lo _) _,val _,val _,sl (.lo _) _,sl (.lo _) _,sl (.lo _) _,sl (.lo _) _,val _])),(2,(46,bj)),(4,(46,bj)),(6,(149,gX))] ?_
 refine bh ?_
 exact z.g):G:=ai w h
def Bt (h:H) (w:ah G H:=by
 intro z
 refine rA ?_ (x:=lF kK)
 refine rA ?_ (x:=lD [sl .v _] lJ)
 exact z.g):G:=ai w h
def Bu (h:H) (w:ah G H:=by
 intro z
 refine sJ ?_
 refine rB gc ?_ (x:=cL [(false,[val _]),(false,[val _]),(false,[val _])] [(false,[val _]),(false,[val _]),(false,[val _])] mL (hs:=ma))
 exact z.g):G:=ai w h
def Bv (h:H) (w:ah G H:=by
 intro z
 refine rB gd ?_ (x:=lD [val _] bB)
 refine rB gd ?_ (x:=cL [(false,[val _]),(false,[val _]),(false,[val _])] [(false,[val _]),(false,[val _]),(false,[val _])] mL (hs:=ma))
 exact z.g):G:=ai w h
def Bw (h:H) (w:ah G H:=by
 intro z
 refine fc ?_
 refine rA ?_ (x:=lN iM)
 exact z.g):G:=ai w h
def Bx (h:H) (w:ah G H:=by
 intro z
 refine rX ?_ (x:=(ew ae qU Ea))
 refine Mb ?_
 exact z.g):G:=ai w h
def oD (h:H) (w:ah G H:=by
 intro z
 refine rA ?_ (x:=lF MO)
 refine eA ?_
 exact z.g):G:=ai w h
def By (h:H) (w:ah G H:=by
 intro z
 refine mB ?_
 refine rA ?_ (x:=gL [(false,[val _]),(false,[val _])] [(false,[val _]),(false,[val _])] yQ (hs:=by exact (zq (l:=[102]) ab)))
 exact z.g):G:=ai w h
def xH (h:H) (w:ah G H:=by
 intro z
 refine sS [2,3,4,5,17] [2,3,4] ?_
 refine oP ?_
 exact z.g):G:=ai w h
def Bz (h:H) (w:ah G H:=by
 intro z
 refine mB ?_
 refine rA ?_ (x:=gL [(false,[val _]),(false,[val _])] [(false,[val _]),(false,[val _])] DM (hs:=by exact (ET (sep:=[46,46]) ab)))
 exact z.g):G:=ai w h
def BA (h:H) (w:ah G H:=by
 intro z
 refine sR ?_
 refine rX ?_ (x:=(jr (ag:=true) (cs:=[sl (.lo _) _,val _,val _,sl (.lo _) _,sl (.lo _) _,sl (.lo _) _,sl (.lo _) _,val _]) ae au))
 exact z.g):G:=ai w h
def BB (h:H) (w:ah G H:=by
 intro z
 refine rX ?_ (x:=(ew ae oW yw))
 refine LQ ?_
 exact z.g):G:=ai w h
def BC (h:H) (w:ah G H:=by
 intro z
 refine uY ?_
 refine rA ?_ (x:=cL [(true,[sl (.lo _) _,val _])] [(true,gW)] NV (hs:=by exact (Oy ab)))
 exact z.g):G:=ai w h
def BD (h:H) (w:ah G H:=by
 intro z
 refine sV ?_
 refine rK ?_
 exact z.g):G:=ai w h
def gu (h:H) (w:ah G H:=by
 intro z
 refine rS ?_
 refine aU ?_
 exact z.g):G:=ai w h
def xI (h:H) (w:ah G H:=by
 intro z
 refine rB gc ?_ (x:=iV)
 refine my ?_
 exact z.g):G:=ai w h
def BE (h:H) (w:ah G H:=by
 intro z
 refine iZ ?_
 refine rA ?_ (x:=bT (k:=(3+2 * k)) ae eo au ab FX aj)
 exact z.g):G:=ai w h
def xJ (h:H) (w:ah G H:=by
 intro z
 refine sR ?_
 refine LR ?_
 exact z.g):G:=ai w h
def BF (h:H) (w:ah G H:=by
 intro z
 refine Cz ?_
 refine rM ?_
 exact z.g):G:=ai w h
def qj (h:H) (w:ah G H:=by
 intro z
 refine fc ?_
 refine rA ?_ (x:=lN eo)
 exact z.g):G:=ai w h
def kE (h:H) (w:ah G H:=by
 intro z
 refine zf gc ?_
 refine lA ?_
 exact z.g):G:=ai w h
def Kt (h:H) (w:ah G H:=by
 intro z
 refine aU ?_
 refine sO [(2,_),(3,_),(4,_),(6,_),(7,_),(8,_),(9,_),(87,_),(88,_),(89,_),(2910,_)] [(2,(41,[sl (.lo _) _,val _])),(3,(29,[val _,val _,sl (.lo _) _,val _,val _])),(4,(41,dE)),(6,(41,rO)),(910,(114,bo (be bJ ak) _ _))] ?_
 exact z.g):G:=ai w h
def BG (h:H) (w:ah G H:=by
 intro z
 refine dA 48 ?_ (x:=bT ae ej au aj dW aj)
 refine dA 112 ?_ (x:=lE [val _] bB)
 exact z.g):G:=ai w h
def BH (h:H) (w:ah G H:=by
 intro z
 refine iz ?_
 refine rA ?_ (x:=bT (k:=(2+2 * k)) ae eo au ab FW aj)
 exact z.g):G:=ai w h
def BI (h:H) (w:ah G H:=by
 intro z
 refine dA 3 ?_ (x:=bT ae ej au aj dW aj)
 refine dA 7 ?_ (x:=lE [val _] bB)
 exact z.g):G:=ai w h
def Ku (h:H) (w:ah G H:=by
 intro z
 refine sO [(1,_),(2,_),(3,_),(4,_),(5,_),(6,_),(8,_),(9,_),(10,_),(11,_),(57,_),(58,_),(59,_),(77,_),(78,_),(79,_),(2900,_),(6100,_)] [(1,_),(2,_),(4,_),(6,_),(10,(102,dG)),(900,_)] ?_
 refine bh ?_
 exact z.g):G:=ai w h
def BJ (h:H) (w:ah G H:=by
 intro z
 refine uU ?_
 refine dA 3 ?_ (x:=gL [(false,[val _])] [(false,[val _])] mY (hs:=me))
 exact z.g):G:=ai w h
def Kv (h:H) (w:ah G H:=by
 intro z
 refine uX ?_
 refine rA ?_ (x:=bZ (ag:=true) (vs:=rP) kT au aj aH)
 exact z.g):G:=ai w h
def BK (h:H) (w:ah G H:=by
 intro z
 refine rA ?_ (x:=dq (qs:=[]) ae iM kj ae rfl rfl rfl rfl rfl aH au rfl)
 refine fY ?_
 exact z.g):G:=ai w h
def BL (h:H) (w:ah G H:=by
 intro z
 refine rA ?_ (x:=dq (qs:=[]) ae gR na ae rfl rfl rfl rfl rfl aH au rfl)
 refine fY ?_
 exact z.g):G:=ai w h
def fv (h:H) (w:ah G H:=by
 intro z
 refine rM ?_
 refine rM ?_
 exact z.g):G:=ai w h
def BM (h:H) (w:ah G H:=by
 intro z
 refine rM ?_
 refine rA ?_ (x:=gL [(false,[val _]),(false,[val _])] [(false,[val _]),(false,[val _])] DR (hs:=by exact (EU 32 ab)))
 exact z.g):G:=ai w h
def Kw (h:H) (w:ah G H:=by
 intro z
 refine sP [0,1,4,12,13] [] ?_
 refine sL [0,1,12] [] (fun k:Nat=>k≤x.length∧x.take k=y.take k) (fun k:Nat=>[(13,RV.int (k:Int))]) (fun k:Nat=>[]) (fun k:Nat=>x.length - k) 0 kt cb au ?_
 exact z.g):G:=ai w h
def Kx (h:H) (w:ah G H:=by
 intro z
 refine rA ?_ (x:=np (cs:=[sl _ _]) (qs:=[sl .v _]) ae aj la kq)
 refine kG ?_
 exact z.g):G:=ai w h
def BN (h:H) (w:ah G H:=by
 intro z
 refine qw ?_
 refine rA ?_ (x:=cL [(true,cO)] [(true,dK)] MN (hs:=by exact Ok))
 exact z.g):G:=ai w h
def Ky (h:H) (w:ah G H:=by
 intro z
 refine rA ?_ (x:=ir ae iM kj rfl rfl ae rfl ck ck)
 refine fY ?_
 exact z.g):G:=ai w h
def Kz (h:H) (w:ah G H:=by
 intro z
 refine rA ?_ (x:=cL [(true,[sl (.lo _) _,val _,val _,sl (.lo _) _,sl (.lo _) _,sl (.lo _) _,sl (.lo _) _,val _]),(false,[val _])] [(true,fb),(false,[val _])] NX (hs:=by exact OA))
 refine gu ?_
 exact z.g):G:=ai w h
def jS (h:H) (w:ah G H:=by
 intro z
 refine rS ?_
 refine rS ?_
 exact z.g):G:=ai w h
def KA (h:H) (w:ah G H:=by
 intro z
 refine sO [(1,_),(2,_),(4,_),(5,_),(6,_),(7,_),(8,_),(9,_),(19,_),(20,_),(21,_),(27,_),(28,_),(29,_),(2900,_),(6000,_)] [(2,(41,[sl (.lo _) _,val _])),(4,(41,dE)),(6,(41,rO)),(900,(114,bo tk _ _))] ?_
 refine bh ?_
 exact z.g):G:=ai w h
def BO (h:H) (w:ah G H:=by
 intro z
 refine LV ?_
 refine oO ?_
 exact z.g):G:=ai w h
def KB (h:H) (w:ah G H:=by
 intro z
 refine CB ?_
 refine rB ge ?_ (x:=cL [(true,gG),(true,gG)] [(true,mn),(true,mn)] Wh (hs:=by exact Xk))
 exact z.g):G:=ai w h
def oE (h:H) (w:ah G H:=by
 intro z
 refine rB ga ?_ (x:=nT)
 refine jY ?_
 exact z.g):G:=ai w h
def sa (h:H) (w:ah G H:=by
 intro z
 refine aU ?_
 refine sR ?_
 exact z.g):G:=ai w h
def sb (h:H) (w:ah G H:=by
 intro z
 refine rA ?_ (x:=lF nJ)
 refine eA ?_
 exact z.g):G:=ai w h
def mw (h:H) (w:ah G H:=by
 intro z
 refine zt g2 ?_
 refine rA ?_ (x:=bF g2)
 exact z.g):G:=ai w h
def BP (h:H) (w:ah G H:=by
 intro z
 refine rA ?_ (x:=lF MO)
 refine CR ?_
 exact z.g):G:=ai w h
def iY (h:H) (w:ah G H:=by
 intro z
 refine rK ?_
 refine fG ?_
 exact z.g):G:=ai w h
def qk (h:H) (w:ah G H:=by
 intro z
 refine rB ga ?_ (x:=iV)
 refine jx ?_
 exact z.g):G:=ai w h
def oF (h:H) (w:ah G H:=by
 intro z
 refine mA ?_
 refine oC ?_
 exact z.g):G:=ai w h
def BQ (h:H) (w:ah G H:=by
 intro z
 refine CI ?_
 refine aU ?_
 exact z.g):G:=ai w h
def nF (h:H) (w:ah G H:=by
 intro z
 refine rA ?_ (x:=lF nQ)
 refine rA ?_ (x:=lD [sl .v _] nU)
 refine rA ?_ (x:=lN iN)
 exact z.g):G:=ai w h
def KC (h:H) (w:ah G H:=by
 intro z
 refine rA ?_ (x:=lF kh)
 refine rA ?_ (x:=lD [sl .v _] ki)
 refine rA ?_ (x:=lN gR)
 exact z.g):G:=ai w h
def lv (h:H) (w:ah G H:=by
 intro z
 refine bW ?_
 refine Bc ?_
 exact z.g):G:=ai w h
def uF (h:H) (w:ah G H:=by
 intro z
 refine rB gb ?_ (x:=lF yv)
 refine nG ?_
 exact z.g):G:=ai w h
def BR (h:H) (w:ah G H:=by
 intro z
 refine sR ?_
 refine Mo ?_
 exact z.g):G:=ai w h
def KD (h:H) (w:ah G H:=by
 intro z
 refine rA ?_ (x:=lF vz)
 refine rA ?_ (x:=fa (ms:=[sl _ _]) (qs:=[sl .v _]) ae mZ (fun _=>rfl) aH aj la kq)
 exact z.g):G:=ai w h
def KE (h:H) (w:ah G H:=by
 intro z
 refine sO [(1,_),(2,_),(3,_),(4,_),(5,_),(6,_),(57,_),(58,_),(59,_),(145,_),(146,_),(147,_),(6200,_)] [(1,_),(2,_),(4,(46,bj)),(6,_)] ?_
 refine bh ?_
 exact z.g):G:=ai w h
def KF (h:H) (w:ah G H:=by
 intro z
 refine CT ?_
 refine rS ?_
 exact z.g):G:=ai w h
def KG (h:H) (w:ah G H:=by
 intro z
 refine aU ?_
 refine sO [(1,_),(2,_),(4,_),(5,_),(6,_),(19,_),(20,_),(21,_),(2900,_),(6000,_)] [(2,(41,[sl (.lo _) _,val _])),(4,(41,dE)),(6,(41,rO)),(900,(114,bo tk _ _))] ?_
 exact z.g):G:=ai w h
def uG (h:H) (w:ah G H:=by
 intro z
 refine rA ?_ (x:=lF qR)
 refine rA ?_ (x:=lD [sl .v _] qT)
 exact z.g):G:=ai w h
def uH (h:H) (w:ah G H:=by
 intro z
 refine rA ?_ (x:=lF DU)
 refine eA ?_
 exact z.g):G:=ai w h
def BS (h:H) (w:ah G H:=by
 intro z
 refine jS ?_
 refine sS [0,2,3,4,5,6,7,8,9,11,12,13,14,15,16,17,18,19,20,21,22,23,7000] [2,12] ?_
 exact z.g):G:=ai w h
def uI (h:H) (w:ah G H:=by
 intro z
 refine rA ?_ (x:=lF vC)
 refine eA ?_
 exact z.g):G:=ai w h
def KH (h:H) (w:ah G H:=by
 intro z
 refine sO [(1,_),(2,_),(3,_),(4,_),(5,_),(6,_),(14,_),(57,_),(58,_),(59,_),(6200,_)] [(1,_),(2,_),(4,(46,bj)),(6,_)] ?_
 refine bh ?_
 exact z.g):G:=ai w h
def KI (h:H) (w:ah G H:=by
 intro z
 refine sO [(1,_),(2,_),(4,_),(5,_),(6,_),(11,_),(12,_),(7000,_)] [(2,_),(4,_),(11,(31,ju))] ?_
 refine bh ?_
 exact z.g):G:=ai w h
def ql (h:H) (w:ah G H:=by
 intro z
 refine sQ [1,2] [1,2] ?_
 refine dr ?_
 exact z.g):G:=ai w h
def KJ (h:H) (w:ah G H:=by
 intro z
 refine dA 1 ?_ (x:=lD cI gi)
 refine dA 3 ?_ (x:=cL [(true,cD)] [(true,cI)] NY (hs:=by exact Ow ab))
 exact z.g):G:=ai w h
def KK (h:H) (w:ah G H:=by
 intro z
 refine rA ?_ (x:=gL [(false,[val _])] [(false,[val _])] DN (hs:=by exact (EV ab)))
 refine bW ?_
 refine Bc ?_
 exact z.g):G:=ai w h
def KL (h:H) (w:ah G H:=by
 intro z
 refine sO [(1,_),(2,_),(4,_),(5,_),(6,_),(11,_),(12,_),(13,_),(14,_),(7000,_)] [(2,_),(4,_),(11,_),(13,(46,bj))] ?_
 refine bh ?_
 exact z.g):G:=ai w h
def KM (h:H) (w:ah G H:=by
 intro z
 refine MC ?_
 refine bG ?_
 exact z.g):G:=ai w h
def BT (h:H) (w:ah G H:=by
 intro z
 refine sJ ?_
 refine xI ?_
 exact z.g):G:=ai w h
def BU (h:H) (w:ah G H:=by
 intro z
 refine jS ?_
 refine sS [0,2,3,4,5,6,7,8,9,11,12,13,14,15,16,17,18,19,20,21,7000] [2,12] ?_
 exact z.g):G:=ai w h
def KN (h:H) (w:ah G H:=by
 intro z
 refine rA ?_ (x:=bT ae lT au aj dW aj)
 refine rA ?_ (x:=lE ny px)
 exact z.g):G:=ai w h
def KO (h:H) (w:ah G H:=by
 intro z
 refine aU ?_
 refine sO [(1,_),(3,_),(5,_),(7,_),(9,_),(23,_),(24,_),(25,_),(32,_),(33,_),(34,_),(66,_),(67,_),(68,_)] [(1,_),(7,_),(9,(116,gG))] ?_
 exact z.g):G:=ai w h
def KP (h:H) (w:ah G H:=by
 intro z
 refine sT [1,3,5,7,23,24,25,32,33,34,66,67,68] [1,7] ?_
 refine rA ?_ (x:=bT (k:=m) ae iM au jo (by exact iu ab (by rw [hsg])) aj)
 exact z.g):G:=ai w h
def BV (h:H) (w:ah G H:=by
 intro z
 refine nB ?_
 refine CS ?_
 exact z.g):G:=ai w h
def KQ (h:H) (w:ah G H:=by
 intro z
 refine rB gb ?_ (x:=lD cI gi)
 refine rB gb ?_ (x:=cL [(true,cD)] [(true,cI)] De (hs:=by exact Ef))
 exact z.g):G:=ai w h
def KR (h:H) (w:ah G H:=by
 intro z
 refine rB ga ?_ (x:=lD cI gi)
 refine rB ga ?_ (x:=cL [(true,cD)] [(true,cI)] yu (hs:=by exact Eg))
 exact z.g):G:=ai w h
def KS (h:H) (w:ah G H:=by
 intro z
 refine uV ?_
 refine rA ?_ (x:=cL [(true,gG)] [(true,mn)] WN (hs:=by exact Xj ab))
 exact z.g):G:=ai w h
def KT (h:H) (w:ah G H:=by
 intro z
 refine jz ?_
 refine rB ga ?_ (x:=cL [(false,[val _]),(false,[val _]),(false,[val _])] [(false,[val _]),(false,[val _]),(false,[val _])] Dd (hs:=by exact Ec))
 exact z.g):G:=ai w h
def KU (h:H) (w:ah G H:=by
 intro z
 refine CE ?_
 refine aU ?_
 exact z.g):G:=ai w h
def xK (h:H) (w:ah G H:=by
 intro z
 refine rB gb ?_ (x:=lF kK)
 refine rB gb ?_ (x:=lD [sl .v _] lJ)
 exact z.g):G:=ai w h
def xL (h:H) (w:ah G H:=by
 intro z
 refine rB ga ?_ (x:=lF lI)
 refine rB ga ?_ (x:=lD [sl .v _] ek)
 exact z.g):G:=ai w h
def KV (h:H) (w:ah G H:=by
 intro z
 refine rA ?_ (x:=bT ae nR au aj dW aj)
 refine rA ?_ (x:=lE rQ qS)
 exact z.g):G:=ai w h
def KW (h:H) (w:ah G H:=by
 intro z
 refine rX ?_ (x:=(ew ae vj vk))
 refine yj ?_
 exact z.g):G:=ai w h
def xM (h:H) (w:ah G H:=by
 intro z
 refine rA ?_ (x:=lF nQ)
 refine rA ?_ (x:=lD [sl (.lo _) _] nU)
 exact z.g):G:=ai w h
def jT (h:H) (w:ah G H:=by
 intro z
 refine xA ?_
 refine cd ?_
 exact z.g):G:=ai w h
def KX (h:H) (w:ah G H:=by
 intro z
 refine rX ?_ (x:=(ew ae qD qE))
 refine yi ?_
 exact z.g):G:=ai w h
def BW (h:H) (w:ah G H:=by
 intro z
 refine rS ?_
 refine sS [0,2,3,4,5,6,7,8,9,11,12,13,14,15,16,17,18,19,7000] [2,12] ?_
 exact z.g):G:=ai w h
def KY (h:H) (w:ah G H:=by
 intro z
 refine rM ?_
 refine LS ?_
 exact z.g):G:=ai w h
def xN (h:H) (w:ah G H:=by
 intro z
 refine sS [1,2,4,5,6,11,12,74,7000] [2,4,11] ?_
 refine oC ?_
 exact z.g):G:=ai w h
def oG (h:H) (w:ah G H:=by
 intro z
 refine gJ ?_
 refine sT [1,2] [1] ?_
 exact z.g):G:=ai w h
def oH (h:H) (w:ah G H:=by
 intro z
 refine jw ?_
 refine rM ?_
 exact z.g):G:=ai w h
def KZ (h:H) (w:ah G H:=by
 intro z
 refine sR ?_
 refine Mp ?_
 exact z.g):G:=ai w h
def La (h:H) (w:ah G H:=by
 intro z
 refine Cz ?_
 refine fw ?_
 exact z.g):G:=ai w h
def qm (h:H) (w:ah G H:=by
 intro z
 refine zt gc ?_
 refine my ?_
 exact z.g):G:=ai w h
def qn (h:H) (w:ah G H:=by
 intro z
 refine zt g3 ?_
 refine rA ?_ (x:=bF g3)
 exact z.g):G:=ai w h
def Lb (h:H) (w:ah G H:=by
 intro z
 refine xw ?_
 refine sV ?_
 exact z.g):G:=ai w h
def lx (h:H) (w:ah G H:=by
 intro z
 refine zf gb ?_
 refine rW ?_
 exact z.g):G:=ai w h
def jU (h:H) (w:ah G H:=by
 intro z
 refine sa ?_
 refine rM ?_
 exact z.g):G:=ai w h
def xO (h:H) (w:ah G H:=by
 intro z
 refine rA ?_ (x:=lF lI)
 refine uW ?_
 exact z.g):G:=ai w h
def oI (h:H) (w:ah G H:=by
 intro z
 refine sR ?_
 refine gJ ?_
 refine kF ?_
 exact z.g):G:=ai w h
def qo (h:H) (w:ah G H:=by
 intro z
 refine bv ?_
 refine aU ?_
 exact z.g):G:=ai w h
def Lc (h:H) (w:ah G H:=by
 intro z
 refine yd ?_
 refine fj ?_
 exact z.g):G:=ai w h
def jV (h:H) (w:ah G H:=by
 intro z
 refine rM ?_
 refine iZ ?_
 refine rS ?_
 exact z.g):G:=ai w h
def xP (h:H) (w:ah G H:=by
 intro z
 refine oB ?_
 refine yg ?_
 exact z.g):G:=ai w h
def xQ (h:H) (w:ah G H:=by
 intro z
 refine yg ?_
 refine gJ ?_
 exact z.g):G:=ai w h
def jW (h:H) (w:ah G H:=by
 intro z
 refine rM ?_
 refine KK ?_
 exact z.g):G:=ai w h
def Ld (h:H) (w:ah G H:=by
 intro z
 refine rM ?_
 refine yd ?_
 exact z.g):G:=ai w h
def Le (h:H) (w:ah G H:=by
 intro z
 refine uY ?_
 refine rA ?_ (x:=cL [(true,[sl (.lo _) _,val _])] [(true,gW)] Od (hs:=by exact Oo ab))
 exact z.g):G:=ai w h
def Lf (h:H) (w:ah G H:=by
 intro z
 refine rA ?_ (x:=gL [(false,[val _]),(false,[val _])] [(false,[val _]),(false,[val _])] DM (hs:=by exact (ET (sep:=[32]) ab)))
 refine bW ?_
 exact z.g):G:=ai w h
def sd (h:H) (w:ah G H:=by
 intro z
 refine sS [1,2,3,16] [1] ?_
 refine oC ?_
 exact z.g):G:=ai w h
def se (h:H) (w:ah G H:=by
 intro z
 refine bW ?_
 refine fY ?_
 exact z.g):G:=ai w h
def BX (h:H) (w:ah G H:=by
 intro z
 refine jS ?_
 refine sS [0,2,3,4,5,6,7,8,9,11,12,13,14,15,16,7000] [2,12] ?_
 exact z.g):G:=ai w h
def xR (h:H) (w:ah G H:=by
 intro z
 refine rA ?_ (x:=lF MP)
 refine eA ?_
 exact z.g):G:=ai w h
def xS (h:H) (w:ah G H:=by
 intro z
 refine yk ?_
 refine rA ?_ (x:=lF MP)
 refine CR ?_
 exact z.g):G:=ai w h
def BY (h:H) (w:ah G H:=by
 intro z
 refine sR ?_
 refine yf ?_
 exact z.g):G:=ai w h
def qp (h:H) (w:ah G H:=by
 intro z
 refine jY ?_
 refine rM ?_
 exact z.g):G:=ai w h
def Lg (h:H) (w:ah G H:=by
 intro z
 refine uE ?_
 refine Mr ?_
 exact z.g):G:=ai w h
def Lh (h:H) (w:ah G H:=by
 intro z
 refine sR ?_
 refine LX ?_
 exact z.g):G:=ai w h
def Li (h:H) (w:ah G H:=by
 intro z
 refine rM ?_
 refine rA ?_ (x:=bT (k:=e.Done.length - 1 - k) ae lT au ab dW aj)
 exact z.g):G:=ai w h
def sf (h:H) (w:ah G H:=by
 intro z
 refine Bt ?_
 refine rA ?_ (x:=lN gK)
 exact z.g):G:=ai w h
def Lj (h:H) (w:ah G H:=by
 intro z
 refine rA ?_ (x:=bT ae eo au aj dW aj)
 refine mB ?_
 exact z.g):G:=ai w h
def Lk (h:H) (w:ah G H:=by
 intro z
 refine uU ?_
 refine dA 3 ?_ (x:=cL [(false,[val _])] [(false,[val _])] tq (hs:=rq))
 exact z.g):G:=ai w h
def Ll (h:H) (w:ah G H:=by
 intro z
 refine dA 2 ?_ (x:=lD [val _] bB)
 refine dA 6 ?_ (x:=gL [(false,[val _])] [(false,[val _])] mY (hs:=me))
 exact z.g):G:=ai w h
def Lm (h:H) (w:ah G H:=by
 intro z
 refine ye ?_
 refine rB ga ?_ (x:=cL [(true,cO)] [(true,dK)] Db (hs:=by exact Ee))
 exact z.g):G:=ai w h
def xT (h:H) (w:ah G H:=by
 intro z
 refine fc ?_
 refine rA ?_ (x:=bT (k:=1) ae eo (bI rfl) jo FZ aj)
 refine mB ?_
 exact z.g):G:=ai w h
def uJ (h:H) (w:ah G H:=by
 intro z
 refine sS [0,2,3,7000] [2,3] ?_
 refine xx ?_
 exact z.g):G:=ai w h
def Ln (h:H) (w:ah G H:=by
 intro z
 refine rA ?_ (x:=dq (qs:=[]) ae eo nW ae rfl rfl rfl rfl rfl aH au rfl)
 refine fY ?_
 exact z.g):G:=ai w h
def BZ (h:H) (w:ah G H:=by
 intro z
 refine bA ?_
 refine sT [0,2,3,4,5,6,7,8,9,11,12,13,14,7000] [2,12] ?_
 exact z.g):G:=ai w h
def Ca (h:H) (w:ah G H:=by
 intro z
 refine qo ?_
 refine sT [0,2,3,4,5,6,7,8,9,11,12,13,14,7000] [2,12] ?_
 exact z.g):G:=ai w h
def Lo (h:H) (w:ah G H:=by
 intro z
 refine dA 4 ?_ (x:=lD [sl .v _] ek)
 refine dA 12 ?_ (x:=cL [(false,[sl _ _])] [(false,[sl .v _])] oT (hs:=oi))
 exact z.g):G:=ai w h
def Lp (h:H) (w:ah G H:=by
 intro z
 refine dA 8 ?_ (x:=lD [sl .v _] ek)
 refine dA 31 ?_ (x:=cL [(false,[sl _ _])] [(false,[sl .v _])] oT (hs:=oi))
 exact z.g):G:=ai w h
def Lq (h:H) (w:ah G H:=by
 intro z
 refine lB ?_
 refine yl ?_
 exact z.g):G:=ai w h
def ly (h:H) (w:ah G H:=by
 intro z
 refine xA ?_
 refine rM ?_
 exact z.g):G:=ai w h
def sh (h:H) (w:ah G H:=by
 intro z
 refine sS [0,2,3,4] [] ?_
 refine rM ?_
 exact z.g):G:=ai w h
def uK (h:H) (w:ah G H:=by
 intro z
 refine av.s0f gd ?_
 refine rA ?_ (x:=aK gd)
 exact z.g):G:=ai w h
def si (h:H) (w:ah G H:=by
 intro z
 refine rK ?_
 refine sT [1,2] [1] ?_
 exact z.g):G:=ai w h
def uL (h:H) (w:ah G H:=by
 intro z
 refine sN ?_
 refine oC ?_
 exact z.g):G:=ai w h
def Cb (h:H) (w:ah G H:=by
 intro z
 refine gu ?_
 refine sS [0,2,3,4,5,6,7,8,9,11,12,13,7000] [2,12] ?_
 exact z.g):G:=ai w h
def Lr (h:H) (w:ah G H:=by
 intro z
 refine sS [1,2,4,5,6,11,12,7000] [2,4,11] ?_
 refine oP ?_
 exact z.g):G:=ai w h
def Ls (h:H) (w:ah G H:=by
 intro z
 refine rA ?_ (x:=lF kh)
 refine rA ?_ (x:=bZ (ag:=false) (vs:=[sl _ _]) ki au aj aH)
 exact z.g):G:=ai w h
def sk (h:H) (w:ah G H:=by
 intro z
 refine lz ?_
 refine kD ?_
 exact z.g):G:=ai w h
def sq (h:H) (w:ah G H:=by
 intro z
 refine gv ?_
 refine rB ga ?_ (x:=wX)
 refine jY ?_
 exact z.g):G:=ai w h
def Cc (h:H) (w:ah G H:=by
 intro z
 refine yk ?_
 refine rA ?_ (x:=up)
 exact z.g):G:=ai w h
def Lt (h:H) (w:ah G H:=by
 intro z
 refine sR ?_
 refine rX ?_ (x:=(jr (ag:=true) (cs:=iW) ae au))
 exact z.g):G:=ai w h
def Lu (h:H) (w:ah G H:=by
 intro z
 refine rB ga ?_ (x:=vM false [sl .v _])
 refine rB ga ?_ (x:=cL [(false,[sl _ _])] [(false,[sl .v _])] TN (hs:=by exact WZ))
 exact z.g):G:=ai w h
def sr (h:H) (w:ah G H:=by
 intro z
 refine jx ?_
 refine rM ?_
 exact z.g):G:=ai w h
def sw (h:H) (w:ah G H:=by
 intro z
 refine rA ?_ (x:=bF ge)
 refine rM ?_
 exact z.g):G:=ai w h
def Lv (h:H) (w:ah G H:=by
 intro z
 refine rA ?_ (x:=cL [(false,[sl (.lo _) _])] [(false,[sl .v _])] oT (hs:=oi))
 refine fY ?_
 exact z.g):G:=ai w h
def sx (h:H) (w:ah G H:=by
 intro z
 refine fx ?_
 refine rM ?_
 exact z.g):G:=ai w h
def Lx (h:H) (w:ah G H:=by
 intro z
 refine CM ?_
 refine bG ?_
 exact z.g):G:=ai w h
def Ly (h:H) (w:ah G H:=by
 intro z
 refine yl ?_
 refine bG ?_
 exact z.g):G:=ai w h
def Cd (h:H) (w:ah G H:=by
 intro z
 refine rB gc ?_ (x:=lF tc)
 refine rB gc ?_ (x:=lD [sl .v _] ek)
 exact z.g):G:=ai w h
def uM (h:H) (w:ah G H:=by
 intro z
 refine gJ ?_
 refine sT [1,2,7000] [1] ?_
 exact z.g):G:=ai w h
def Lz (h:H) (w:ah G H:=by
 intro z
 refine rA ?_ (x:=gL [(false,[val _])] [(false,[val _])] Wb (hs:=by exact (ZN ab)))
 refine bW ?_
 exact z.g):G:=ai w h
def LA (h:H) (w:ah G H:=by
 intro z
 refine rA ?_ (x:=gL [(false,[val _])] [(false,[val _])] VR (hs:=by exact (ZX ab)))
 refine bW ?_
 exact z.g):G:=ai w h
def Ce (h:H) (w:ah G H:=by
 intro z
 refine rB ga ?_ (x:=vM false [sl .v _])
 refine rB ga ?_ (x:=lN eo)
 exact z.g):G:=ai w h
def Cf (h:H) (w:ah G H:=by
 intro z
 refine rB gc ?_ (x:=vM false [sl .v _])
 refine rB gc ?_ (x:=lN eo)
 exact z.g):G:=ai w h
def LB (h:H) (w:ah G H:=by
 intro z
 refine sR ?_
 refine rX ?_ (x:=(jr (ag:=true) (cs:=gX) ae au))
 exact z.g):G:=ai w h
def LC (h:H) (w:ah G H:=by
 intro z
 refine CI ?_
 refine Kk ?_
 exact z.g):G:=ai w h
def Cg (h:H) (w:ah G H:=by
 intro z
 refine rB ga ?_ (x:=lF vi)
 refine jz ?_
 exact z.g):G:=ai w h
def Ch (h:H) (w:ah G H:=by
 intro z
 refine rB ga ?_ (x:=lF vg)
 refine jz ?_
 exact z.g):G:=ai w h
def xU (h:H) (w:ah G H:=by
 intro z
 refine rB gd ?_ (x:=sM)
 refine rA ?_ (x:=bF gd)
 exact z.g):G:=ai w h
def Ci (h:H) (w:ah G H:=by
 intro z
 refine yh ?_
 refine aU ?_
 exact z.g):G:=ai w h
def uN (h:H) (w:ah G H:=by
 intro z
 refine zf gb ?_
 refine rA ?_ (x:=aK gb)
 exact z.g):G:=ai w h
def uO (h:H) (w:ah G H:=by
 intro z
 refine zt gb ?_
 refine rA ?_ (x:=bF gb)
 exact z.g):G:=ai w h
def uP (h:H) (w:ah G H:=by
 intro z
 refine zt g6 ?_
 refine rA ?_ (x:=bF g6)
 exact z.g):G:=ai w h
def sy (h:H) (w:ah G H:=by
 intro z
 refine av.s0f gb ?_
 refine rW ?_
 exact z.g):G:=ai w h
def LD (h:H) (w:ah G H:=by
 intro z
 refine CT ?_
 refine KF ?_
 exact z.g):G:=ai w h
def oJ (h:H) (w:ah G H:=by
 intro z
 refine KC ?_
 refine dM ?_
 exact z.g):G:=ai w h
def Cj (h:H) (w:ah G H:=by
 intro z
 refine rA ?_ (x:=lF tc)
 refine uW ?_
 exact z.g):G:=ai w h
def Ck (h:H) (w:ah G H:=by
 intro z
 refine rX ?_ (x:=(ew ae tB tC))
 refine gJ ?_
 exact z.g):G:=ai w h
def oK (h:H) (w:ah G H:=by
 intro z
 refine bh ?_
 refine rM ?_
 exact z.g):G:=ai w h
def mx (h:H) (w:ah G H:=by
 intro z
 refine sR ?_
 refine rK ?_
 exact z.g):G:=ai w h
def uQ (h:H) (w:ah G H:=by
 intro z
 refine sR ?_
 refine gJ ?_
 refine sS [0,1,4] [] ?_
 exact z.g):G:=ai w h
def Cl (h:H) (w:ah G H:=by
 intro z
 refine rA ?_ (x:=lF nQ)
 refine rA ?_ (x:=lD [val _] nU)
 exact z.g):G:=ai w h
def Cm (h:H) (w:ah G H:=by
 intro z
 refine rA ?_ (x:=lF Og)
 refine eA ?_
 exact z.g):G:=ai w h
def Cn (h:H) (w:ah G H:=by
 intro z
 refine fc ?_
 refine rA ?_ (x:=lN gK)
 exact z.g):G:=ai w h
def Co (h:H) (w:ah G H:=by
 intro z
 refine fc ?_
 refine rA ?_ (x:=lN Df)
 exact z.g):G:=ai w h
def Cq (h:H) (w:ah G H:=by
 intro z
 refine rM ?_
 refine rA ?_ (x:=wY wj)
 exact z.g):G:=ai w h
def Cr (h:H) (w:ah G H:=by
 intro z
 refine rA ?_ (x:=lF DS)
 refine eA ?_
 exact z.g):G:=ai w h
def LF (h:H) (w:ah G H:=by
 intro z
 refine xT ?_
 refine rA ?_ (x:=gL [(false,[val _])] [(false,[val _])] DN (hs:=by exact (EV (hw 1))))
 exact z.g):G:=ai w h
def Cs (h:H) (w:ah G H:=by
 intro z
 refine rA ?_ (x:=lF oU)
 refine eA ?_
 exact z.g):G:=ai w h
def xV (h:H) (w:ah G H:=by
 intro z
 refine rB gc ?_ (x:=lF th)
 refine BT ?_
 exact z.g):G:=ai w h
def LG (h:H) (w:ah G H:=by
 intro z
 refine rX ?_ (x:=(jr (ag:=true) (cs:=gH) ae au))
 refine si ?_
 exact z.g):G:=ai w h
def uR (h:H) (w:ah G H:=by
 intro z
 refine rA ?_ (x:=aK ge)
 refine rM ?_
 exact z.g):G:=ai w h
def qr (h:H) (w:ah G H:=by
 intro z
 refine zt gb ?_
 refine kD ?_
 exact z.g):G:=ai w h
def LH (h:H) (w:ah G H:=by
 intro z
 refine sR ?_
 refine rX ?_ (x:=(jr (ag:=true) (cs:=[sl (.lo _) _,val _]) ae au))
 exact z.g):G:=ai w h
def LI (h:H) (w:ah G H:=by
 intro z
 refine rA ?_ (x:=lN iN)
 refine rA ?_ (x:=Av ae au au ab)
 exact z.g):G:=ai w h
def LJ (h:H) (w:ah G H:=by
 intro z
 refine sS [2,3,4,6,7,8,9,11,14,54,55,67,68,69,6200,6300] [3,4,6,8,9] ?_
 refine bW ?_
 exact z.g):G:=ai w h
def oL (h:H) (w:ah G H:=by
 intro z
 refine qd ?_
 refine rS ?_
 exact z.g):G:=ai w h
def LK (h:H) (w:ah G H:=by
 intro z
 refine qg ?_
 refine CS ?_
 exact z.g):G:=ai w h
def oM (h:H) (w:ah G H:=by
 intro z
 refine rS ?_
 refine eO ?_
 exact z.g):G:=ai w h
def uS (h:H) (w:ah G H:=by
 intro z
 refine JY ?_
 refine fY ?_
 exact z.g):G:=ai w h
def Ct (h:H) (w:ah G H:=by
 intro z
 refine oN ?_
 refine rA ?_ (x:=lF mM)
 exact z.g):G:=ai w h
def xW (h:H) (w:ah G H:=by
 intro z
 refine sS [1,2,3,16] [1] ?_
 refine fv ?_
 exact z.g):G:=ai w h
def uT (h:H) (w:ah G H:=by
 intro z
 refine zip ?_
 refine fY ?_
 exact z.g):G:=ai w h
def xX (h:H) (w:ah G H:=by
 intro z
 refine rK ?_
 refine sT [0,2,3,7000] [2] ?_
 exact z.g):G:=ai w h
def LL (h:H) (w:ah G H:=by
 intro z
 refine oP ?_
 refine rM ?_
 exact z.g):G:=ai w h
def xY (h:H) (w:ah G H:=by
 intro z
 refine gJ ?_
 refine sT [2,3,4] [2,3] ?_
 exact z.g):G:=ai w h
def LM (h:H) (w:ah G H:=by
 intro z
 refine CG ?_
 refine kF ?_
 exact z.g):G:=ai w h
def sz (h:H) (w:ah G H:=by
 intro z
 refine bA ?_
 refine aU ?_
 exact z.g):G:=ai w h
def xZ (h:H) (w:ah G H:=by
 intro z
 refine zf g5 ?_
 refine rA ?_ (x:=aK g5)
 exact z.g):G:=ai w h
def ya (h:H) (w:ah G H:=by
 intro z
 refine rK ?_
 refine sT [2,3,4] [2,3] ?_
 exact z.g):G:=ai w h
def yb (h:H) (w:ah G H:=by
 intro z
 refine zf gd ?_
 refine rA ?_ (x:=aK gd)
 exact z.g):G:=ai w h
def LN (h:H) (w:ah G H:=by
 intro z
 refine sO [(1,_),(2,_)] [(1,(25,cD)),(2,_)] ?_
 refine bh ?_
 exact z.g):G:=ai w h
def qt (h:H) (w:ah G H:=by
 intro z
 refine Kb ?_
 refine rM ?_
 exact z.g):G:=ai w h
def qu (h:H) (w:ah G H:=by
 intro z
 refine iA ?_
 refine rM ?_
 exact z.g):G:=ai w h
def Cu (h:H) (w:ah G H:=by
 intro z
 refine rB gb ?_ (x:=fH)
 refine rA ?_ (x:=aK gb)
 exact z.g):G:=ai w h
def qv (h:H) (w:ah G H:=by
 intro z
 refine mB ?_
 refine rA ?_ (x:=up)
 refine rM ?_
 exact z.g):G:=ai w h
def Cv (h:H) (w:ah G H:=by
 intro z
 refine gv ?_
 refine rB ga ?_ (x:=uo)
 exact z.g):G:=ai w h
def Cw (h:H) (w:ah G H:=by
 intro z
 refine sS [2,3,4,5,17] [2,3,4] ?_
 refine oC ?_
 exact z.g):G:=ai w h
def yc (h:H) (w:ah G H:=by
 intro z
 refine rB gb ?_ (x:=nT)
 refine rW ?_
 exact z.g):G:=ai w h
def sB (h:H) (w:ah G H:=by
 intro z
 refine mu ?_
 refine dM ?_
 exact z.g):G:=ai w h
def sC (h:H) (w:ah G H:=by
 intro z
 refine qi ?_
 refine dM ?_
 exact z.g):G:=ai w h
def Cx (h:H) (w:ah G H:=by
 intro z
 refine Km ?_
 refine rA ?_ (x:=vA false [sl .v _])
 exact z.g):G:=ai w h
def sD (h:H) (w:ah G H:=by
 intro z
 refine Bw ?_
 refine dM ?_
 exact z.g):G:=ai w h
def sE (h:H) (w:ah G H:=by
 intro z
 refine Bc ?_
 refine kG ?_
 refine jS ?_
 exact z.g):G:=ai w h
def Cy (h:H) (w:ah G H:=by
 intro z
 refine fc ?_
 refine xy ?_
 exact z.g):G:=ai w h
def LO (h:H) (w:ah G H:=by
 intro z
 refine rA ?_ (x:=lF vh)
 refine qx ?_
 exact z.g):G:=ai w h
def kF (h:H) (w:ah G H:=by
 intro z
 refine sS [0,2] [] ?_
 exact z.g):G:=ai w h
def jw (h:H) (w:ah G H:=by
 intro z
 refine rA ?_ (x:=iV)
 exact z.g):G:=ai w h
def bd (h:H) (w:ah G H:=by
 intro z
 refine Rz ?_
 exact z.g):G:=ai w h
def bv (h:H) (w:ah G H:=by
 intro z
 refine RA ?_
 exact z.g):G:=ai w h
def LP (h:H) (w:ah G H:=by
 intro z
 refine rA ?_ (x:=dq (qs:=[]) ae ej nL ae rfl rfl rfl rfl rfl aH au rfl)
 exact z.g):G:=ai w h
def fc (h:H) (w:ah G H:=by
 intro z
 refine rA ?_ (x:=vM false [sl .v _])
 exact z.g):G:=ai w h
def fY (h:H) (w:ah G H:=by
 intro z
 refine rA ?_ (x:=tA)
 exact z.g):G:=ai w h
def fw (h:H) (w:ah G H:=by
 intro z
 refine rA ?_ (x:=nT)
 exact z.g):G:=ai w h
def fx (h:H) (w:ah G H:=by
 intro z
 refine rA ?_ (x:=uo)
 exact z.g):G:=ai w h
def jx (h:H) (w:ah G H:=by
 intro z
 refine rA ?_ (x:=bF ga)
 exact z.g):G:=ai w h
def uU (h:H) (w:ah G H:=by
 intro z
 refine dA 1 ?_ (x:=lD [val _] bB)
 exact z.g):G:=ai w h
def aU (h:H) (w:ah G H:=by
 intro z
 refine wP ?_
 exact z.g):G:=ai w h
def bW (h:H) (w:ah G H:=by
 intro z
 refine rA ?_ (x:=tM)
 exact z.g):G:=ai w h
def qw (h:H) (w:ah G H:=by
 intro z
 refine rA ?_ (x:=lD dK gM)
 exact z.g):G:=ai w h
def nG (h:H) (w:ah G H:=by
 intro z
 refine rB gb ?_ (x:=lD [val _] bB)
 exact z.g):G:=ai w h
def sJ (h:H) (w:ah G H:=by
 intro z
 refine rB gc ?_ (x:=lD [val _] bB)
 exact z.g):G:=ai w h
def my (h:H) (w:ah G H:=by
 intro z
 refine rA ?_ (x:=bF gc)
 exact z.g):G:=ai w h
def Cz (h:H) (w:ah G H:=by
 intro z
 refine rA ?_ (x:=cL [(false,[val _]),(false,[val _]),(false,[val _])] [(false,[val _]),(false,[val _]),(false,[val _])] Dd (hs:=by exact Ec))
 exact z.g):G:=ai w h
def dr (h:H) (w:ah G H:=by
 intro z
 refine Ry TJ ?_
 exact z.g):G:=ai w h
def jy (h:H) (w:ah G H:=by
 intro z
 refine dA 0 ?_ (x:=sM)
 exact z.g):G:=ai w h
def LQ (h:H) (w:ah G H:=by
 intro z
 refine rA ?_ (x:=bZ (ag:=true) (vs:=gH) ti au aj aH)
 exact z.g):G:=ai w h
def yd (h:H) (w:ah G H:=by
 intro z
 refine rA ?_ (x:=cL [(false,[val _]),(false,[val _]),(false,[val _])] [(false,[val _]),(false,[val _]),(false,[val _])] mL (hs:=ma))
 exact z.g):G:=ai w h
def bh (h:H) (w:ah G H:=by
 intro z
 refine rx ?_
 exact z.g):G:=ai w h
def gv (h:H) (w:ah G H:=by
 intro z
 refine rB ga ?_ (x:=sM)
 exact z.g):G:=ai w h
def jz (h:H) (w:ah G H:=by
 intro z
 refine rB ga ?_ (x:=lD [val _] bB)
 exact z.g):G:=ai w h
def qx (h:H) (w:ah G H:=by
 intro z
 refine rA ?_ (x:=lD cI gi)
 exact z.g):G:=ai w h
def ye (h:H) (w:ah G H:=by
 intro z
 refine rB ga ?_ (x:=lD dK gM)
 exact z.g):G:=ai w h
def jX (h:H) (w:ah G H:=by
 intro z
 refine sS [1,2,3] [1] ?_
 exact z.g):G:=ai w h
def oN (h:H) (w:ah G H:=by
 intro z
 refine rA ?_ (x:=lF tf)
 exact z.g):G:=ai w h
def eA (h:H) (w:ah G H:=by
 intro z
 refine rA ?_ (x:=lD [val _] bB)
 exact z.g):G:=ai w h
def lz (h:H) (w:ah G H:=by
 intro z
 refine rB gb ?_ (x:=sM)
 exact z.g):G:=ai w h
def LR (h:H) (w:ah G H:=by
 intro z
 refine rX ?_ (x:=(jr (ag:=true) (cs:=gG) ae au))
 exact z.g):G:=ai w h
def uV (h:H) (w:ah G H:=by
 intro z
 refine rA ?_ (x:=lD mn pu)
 exact z.g):G:=ai w h
def LS (h:H) (w:ah G H:=by
 intro z
 refine rA ?_ (x:=cL [(true,gG),(false,[val _])] [(true,mn),(false,[val _])] NZ (hs:=by exact On))
 exact z.g):G:=ai w h
def jY (h:H) (w:ah G H:=by
 intro z
 refine rA ?_ (x:=aK ga)
 exact z.g):G:=ai w h
def LU (h:H) (w:ah G H:=by
 intro z
 refine rA ?_ (x:=cL [(true,cO)] [(true,dK)] Db (hs:=by exact Ee))
 exact z.g):G:=ai w h
def lA (h:H) (w:ah G H:=by
 intro z
 refine rA ?_ (x:=aK gc)
 exact z.g):G:=ai w h
def CA (h:H) (w:ah G H:=by
 intro z
 refine rA ?_ (x:=lE mn pu)
 exact z.g):G:=ai w h
def CB (h:H) (w:ah G H:=by
 intro z
 refine rB ge ?_ (x:=lD mn pu)
 exact z.g):G:=ai w h
def CC (h:H) (w:ah G H:=by
 intro z
 refine rA ?_ (x:=Av ae au (bI rfl) ab)
 exact z.g):G:=ai w h
def oO (h:H) (w:ah G H:=by
 intro z
 refine rA ?_ (x:=dL)
 exact z.g):G:=ai w h
def qy (h:H) (w:ah G H:=by
 intro z
 refine sS [0,2,3,7000] [] ?_
 exact z.g):G:=ai w h
def LV (h:H) (w:ah G H:=by
 intro z
 refine rA ?_ (x:=gL [(false,[val _])] [(false,[val _])] mY (hs:=me))
 exact z.g):G:=ai w h
def LW (h:H) (w:ah G H:=by
 intro z
 refine rA ?_ (x:=ir ae eo nW rfl rfl ae rfl ck ck)
 exact z.g):G:=ai w h
def uW (h:H) (w:ah G H:=by
 intro z
 refine rA ?_ (x:=lD [sl .v _] ek)
 exact z.g):G:=ai w h
def LX (h:H) (w:ah G H:=by
 intro z
 refine rX ?_ (x:=(jr (ag:=true) (cs:=dG) ae au))
 exact z.g):G:=ai w h
def qz (h:H) (w:ah G H:=by
 intro z
 refine rA ?_ (x:=lF vv)
 exact z.g):G:=ai w h
def mz (h:H) (w:ah G H:=by
 intro z
 refine rA ?_ (x:=nr)
 exact z.g):G:=ai w h
def lB (h:H) (w:ah G H:=by
 intro z
 refine rA ?_ (x:=lF tw)
 exact z.g):G:=ai w h
def uX (h:H) (w:ah G H:=by
 intro z
 refine rX ?_ (x:=(ew ae na DZ))
 exact z.g):G:=ai w h
def LY (h:H) (w:ah G H:=by
 intro z
 refine dA 0 ?_ (x:=lD ox kT)
 exact z.g):G:=ai w h
def LZ (h:H) (w:ah G H:=by
 intro z
 refine rA ?_ (x:=bZ (ag:=false) (vs:=[sl _ _]) lJ au aj aH)
 exact z.g):G:=ai w h
def Ma (h:H) (w:ah G H:=by
 intro z
 refine dA 4095 ?_ (x:=bZ (ag:=false) (vs:=[sl _ _]) ek au aj aH)
 exact z.g):G:=ai w h
def Mb (h:H) (w:ah G H:=by
 intro z
 refine rA ?_ (x:=bZ (ag:=true) (vs:=gX) qS au aj aH)
 exact z.g):G:=ai w h
def CD (h:H) (w:ah G H:=by
 intro z
 refine rA ?_ (x:=fa (ms:=dG) (qs:=ox) ae kT (fun h=>nomatch h) aH aj FD bn)
 exact z.g):G:=ai w h
def CE (h:H) (w:ah G H:=by
 intro z
 refine rA ?_ (x:=bZ (ag:=true) (vs:=dG) kT au aj aH)
 exact z.g):G:=ai w h
def CF (h:H) (w:ah G H:=by
 intro z
 refine rA ?_ (x:=bZ (ag:=true) (vs:=iW) px au aj aH)
 exact z.g):G:=ai w h
def yf (h:H) (w:ah G H:=by
 intro z
 refine rA ?_ (x:=wH (.inr rfl) ae (GR (t:=3) (e:=1)))
 exact z.g):G:=ai w h
def iZ (h:H) (w:ah G H:=by
 intro z
 refine rA ?_ (x:=AA)
 exact z.g):G:=ai w h
def Mc (h:H) (w:ah G H:=by
 intro z
 refine rA ?_ (x:=pT (k:=i) (G:=2900) ae iN au (by first|rfl|omega) (by simp only [aO];omega))
 exact z.g):G:=ai w h
def Md (h:H) (w:ah G H:=by
 intro z
 refine rA ?_ (x:=bT ae iM au aj dW aj)
 exact z.g):G:=ai w h
def Me (h:H) (w:ah G H:=by
 intro z
 refine rA ?_ (x:=rt (qs:=[nv _ (val _),nv _ (sl .v _),nv _ (val _),nv _ (val _)]) ae pu (fun h=>nomatch h) aH FU bn)
 exact z.g):G:=ai w h
def Mf (h:H) (w:ah G H:=by
 intro z
 refine sO [(1,_),(2,_),(4,_),(5,_),(6,_),(19,_),(20,_),(21,_)] [(2,_),(4,_),(6,(41,dE))] ?_
 exact z.g):G:=ai w h
def Mg (h:H) (w:ah G H:=by
 intro z
 refine dA 0 ?_ (x:=rt (qs:=[nv _ (sl .v _),nv _ (val _)]) ae gy (fun h=>nomatch h) aH (by exact (aD (aD aA.nil))) (by exact (aB.cons (bor_nv (bor_sl _)) (aB.cons (bor_nv (bor_val _)) aB.nil))))
 exact z.g):G:=ai w h
def CG (h:H) (w:ah G H:=by
 intro z
 refine rA ?_ (x:=wH (.inr rfl) ae (GR (t:=27) (e:=2)))
 exact z.g):G:=ai w h
def CH (h:H) (w:ah G H:=by
 intro z
 refine rX ?_ (x:=(jr (ag:=true) (cs:=cD) ae au))
 exact z.g):G:=ai w h
def yg (h:H) (w:ah G H:=by
 intro z
 refine rX ?_ (x:=(ew ae vF vH))
 exact z.g):G:=ai w h
def Mh (h:H) (w:ah G H:=by
 intro z
 refine rB gb ?_ (x:=cL [(false,[val _]),(false,[val _]),(false,[val _])] [(false,[val _]),(false,[val _]),(false,[val _])] mL (hs:=ma))
 exact z.g):G:=ai w h
def CI (h:H) (w:ah G H:=by
 intro z
 refine rA ?_ (x:=bZ (ag:=false) (vs:=[sl _ _]) ek au aj aH)
 exact z.g):G:=ai w h
def CJ (h:H) (w:ah G H:=by
 intro z
 refine rA ?_ (x:=lD [sl (.lo _) _,val _,val _,sl (.lo _) _,sl (.lo _) _,sl (.lo _) _,sl (.lo _) _,val _] dl)
 exact z.g):G:=ai w h
def Mi (h:H) (w:ah G H:=by
 intro z
 refine rA ?_ (x:=bZ (ag:=true) (vs:=gG) pu au aj aH)
 exact z.g):G:=ai w h
def Mj (h:H) (w:ah G H:=by
 intro z
 refine rX ?_ (x:=(jr (ag:=true) (cs:=[val _,val _,sl (.lo _) _,val _,val _]) ae au))
 exact z.g):G:=ai w h
def uY (h:H) (w:ah G H:=by
 intro z
 refine rA ?_ (x:=lD [sl (.lo _) _,val _] gy)
 exact z.g):G:=ai w h
def sK (h:H) (w:ah G H:=by
 intro z
 refine sP [2,3,4,5,6,7,8,9] [2,3,4,6] ?_
 exact z.g):G:=ai w h
def Mk (h:H) (w:ah G H:=by
 intro z
 refine rA ?_ (x:=pT (k:=i) (G:=2900) ae gR au ab (by first|(rw [aO];exact hil)|exact hil))
 exact z.g):G:=ai w h
def Ml (h:H) (w:ah G H:=by
 intro z
 refine rA ?_ (x:=bT ae jb au aj dW aj)
 exact z.g):G:=ai w h
def yh (h:H) (w:ah G H:=by
 intro z
 refine rX ?_ (x:=(ew ae lK qF))
 exact z.g):G:=ai w h
def Mm (h:H) (w:ah G H:=by
 intro z
 refine rA ?_ (x:=fa (ms:=cO) (qs:=dK) ae gM (fun h=>nomatch h) aH aj (by exact (aD (bK aA.nil))) zI)
 exact z.g):G:=ai w h
def Mn (h:H) (w:ah G H:=by
 intro z
 refine rA ?_ (x:=fa (ms:=[sl _ _]) (qs:=[sl .v _]) ae ek (fun _=>rfl) aH aj la kq)
 exact z.g):G:=ai w h
def Mo (h:H) (w:ah G H:=by
 intro z
 refine rX ?_ (x:=(jr (ag:=true) (cs:=iX) ae au))
 exact z.g):G:=ai w h
def mA (h:H) (w:ah G H:=by
 intro z
 refine sS [1,2,3,4,19] [1] ?_
 exact z.g):G:=ai w h
def oP (h:H) (w:ah G H:=by
 intro z
 refine rA ?_ (x:=lD fb dl)
 exact z.g):G:=ai w h
def Mp (h:H) (w:ah G H:=by
 intro z
 refine rX ?_ (x:=(jr (ag:=true) (cs:=ju) ae au))
 exact z.g):G:=ai w h
def Mq (h:H) (w:ah G H:=by
 intro z
 refine rB ga ?_ (x:=lD nu tz)
 exact z.g):G:=ai w h
def oQ (h:H) (w:ah G H:=by
 intro z
 refine sS [1,2,7000] [1] ?_
 exact z.g):G:=ai w h
def kG (h:H) (w:ah G H:=by
 intro z
 refine rA ?_ (x:=RQ (cs:=[val _]) ae aj zJ)
 exact z.g):G:=ai w h
def CK (h:H) (w:ah G H:=by
 intro z
 refine rA ?_ (x:=lD jQ nK)
 exact z.g):G:=ai w h
def Mr (h:H) (w:ah G H:=by
 intro z
 refine rA ?_ (x:=cL [(true,iX)] [(true,jQ)] Da (hs:=by exact Eh))
 exact z.g):G:=ai w h
def sN (h:H) (w:ah G H:=by
 intro z
 refine sS [1,2,7,7000] [1] ?_
 exact z.g):G:=ai w h
def CL (h:H) (w:ah G H:=by
 intro z
 refine rA ?_ (x:=lD nu tz)
 exact z.g):G:=ai w h
def mB (h:H) (w:ah G H:=by
 intro z
 refine rA ?_ (x:=lE [val _] DW)
 exact z.g):G:=ai w h
def Ms (h:H) (w:ah G H:=by
 intro z
 refine rA ?_ (x:=dZ (qs:=[]) (cs:=iX) ae vj vk ZT aj au rfl aj)
 exact z.g):G:=ai w h
def CM (h:H) (w:ah G H:=by
 intro z
 refine rA ?_ (x:=bZ (ag:=true) (vs:=cO) gM au aj aH)
 exact z.g):G:=ai w h
def Mt (h:H) (w:ah G H:=by
 intro z
 refine rA ?_ (x:=dZ (qs:=[]) (cs:=ju) ae DY Eb ZW aj au rfl aj)
 exact z.g):G:=ai w h
def CN (h:H) (w:ah G H:=by
 intro z
 refine sS [0,2,3,4,5,6,7,8,9,10,18,7000] [2,7] ?_
 exact z.g):G:=ai w h
def uZ (h:H) (w:ah G H:=by
 intro z
 refine rA ?_ (x:=bZ (ag:=false) (vs:=[val _]) bB au aj aH)
 exact z.g):G:=ai w h
def Mu (h:H) (w:ah G H:=by
 intro z
 refine sO [(0,_),(2,_),(3,_),(4,_),(5,_),(6,_),(7,_),(8,_),(9,_),(10,_),(18,_),(7000,_)] [(2,_),(7,(31,ju))] ?_
 exact z.g):G:=ai w h
def yi (h:H) (w:ah G H:=by
 intro z
 refine rA ?_ (x:=bZ (ag:=true) (vs:=cD) gi au aj aH)
 exact z.g):G:=ai w h
def Mv (h:H) (w:ah G H:=by
 intro z
 refine fV (d:=7) aj (show _=[val (vI (cK s).Kind),val (vI (cK s).ac9.Id),val (vI (cK s).ac9.ade),sl bb ((cK s).ac9.ada.map bU),sl ak ((cK s).ac9.Out.map ax),val (vI (cK s).Limit),val (vI (cK s).Id),val (vI (cK s).adb.Kind),val (vI (cK s).adb.Row.Id),sl ak ((cK s).adb.Row.Values.map ax),val (vI (cK s).adb.Field),val (vI (cK s).adb.Value),val (vI (cK s).Steps)] from by rw [hr]<;>rfl) ?_
 exact z.g):G:=ai w h
def yj (h:H) (w:ah G H:=by
 intro z
 refine rA ?_ (x:=bZ (ag:=true) (vs:=iX) nK au aj aH)
 exact z.g):G:=ai w h
def sU (h:H) (w:ah G H:=by
 intro z
 refine sS [1,2,4,5,6,7000] [2,4] ?_
 exact z.g):G:=ai w h
def CO (h:H) (w:ah G H:=by
 intro z
 refine rA ?_ (x:=fa (ms:=dE) (qs:=gW) ae gy (fun h=>nomatch h) aH aj (by exact (bK (aD aA.nil))) FG)
 exact z.g):G:=ai w h
def sV (h:H) (w:ah G H:=by
 intro z
 refine rA ?_ (x:=bZ (ag:=true) (vs:=bj) dl au aj aH)
 exact z.g):G:=ai w h
def Mw (h:H) (w:ah G H:=by
 intro z
 refine rA ?_ (x:=dq (qs:=[(true,gH)]) ae gK oW ae rfl rfl rfl rfl rfl aH eW rfl)
 exact z.g):G:=ai w h
def CP (h:H) (w:ah G H:=by
 intro z
 refine sP [2,3,4,6,7,8,9,10,11,87,88,89,2910] [2,3,4,6,910] ?_
 exact z.g):G:=ai w h
def CQ (h:H) (w:ah G H:=by
 intro z
 refine sG [1,2,3,4,5,6,14,16,57,58,59,145,146,147,6200] [1,2,4,6,16] ?_
 exact z.g):G:=ai w h
def Mx (h:H) (w:ah G H:=by
 intro z
 refine rA ?_ (x:=fa (ms:=cD) (qs:=cI) ae gi (fun h=>nomatch h) aH aj FV bn)
 exact z.g):G:=ai w h
def My (h:H) (w:ah G H:=by
 intro z
 refine sO [(1,_),(2,_),(3,_),(4,_),(5,_),(6,_),(14,_),(16,_),(57,_),(58,_),(59,_),(145,_),(146,_),(147,_),(6200,_)] [(1,_),(2,_),(4,_),(6,_),(16,(102,dG))] ?_
 exact z.g):G:=ai w h
def CR (h:H) (w:ah G H:=by
 intro z
 refine rA ?_ (x:=bZ (ag:=false) (vs:=[val _]) bB (bI rfl) aj aH)
 exact z.g):G:=ai w h
def yk (h:H) (w:ah G H:=by
 intro z
 refine sS [0,2,3,4,5,6,7,18,7000] [2,7] ?_
 exact z.g):G:=ai w h
def Mz (h:H) (w:ah G H:=by
 intro z
 refine rA ?_ (x:=dq (qs:=[]) ae jb lK ae rfl rfl rfl rfl rfl aH au rfl)
 exact z.g):G:=ai w h
def yl (h:H) (w:ah G H:=by
 intro z
 refine rA ?_ (x:=bZ (ag:=true) (vs:=dE) gy au aj aH)
 exact z.g):G:=ai w h
def MA (h:H) (w:ah G H:=by
 intro z
 refine rA ?_ (x:=bT ae gR au aj dW aj)
 exact z.g):G:=ai w h
def MB (h:H) (w:ah G H:=by
 intro z
 refine sO [(0,_),(2,_),(3,_),(4,_),(5,_),(6,_),(7,_),(18,_),(7000,_)] [(2,_),(7,(31,ju))] ?_
 exact z.g):G:=ai w h
def CS (h:H) (w:ah G H:=by
 intro z
 refine rX ?_ (x:=(jr (ag:=true) (cs:=cO) ae au))
 exact z.g):G:=ai w h
def CT (h:H) (w:ah G H:=by
 intro z
 refine rA ?_ (x:=dL (h:=(by simp only [aZ,List.length_cons,List.length_nil];omega)))
 exact z.g):G:=ai w h
def MC (h:H) (w:ah G H:=by
 intro z
 refine rA ?_ (x:=bZ (ag:=true) (vs:=ju) tz au aj aH)
 exact z.g):G:=ai w h
end Go.Proofs.YtmekkgdboplbjaaGreatDoor.M
