/- What functions of the program compute. No condition. -/
import Derived.Test.YtmekkgdboplbjaaGreatDoorRJ1
import Derived.Test.YtmekkgdboplbjaaGreatDoorRZ0
set_option linter.all false
set_option maxHeartbeats 8000000
namespace Go.Proofs.YtmekkgdboplbjaaGreatDoor
open Go Go.RowKit M PV Tryz
set_option maxRecDepth 10000
attribute [local irreducible] PV.Lcl PV.LclR RV.Lcl
attribute [local irreducible] lZ BB
variable{p1:Fl}
def aBO:er prog 116=some [(0,1),(1,1),(2,1),(3,1)]:=au
def aBP:er prog 41=some [(0,1),(1,1)]:=au
def aBQ:er prog 46=some [(0,2),(2,1),(3,1),(4,1),(5,1),(6,1),(7,1)]:=au
def aBR{l:List Row}:aE prog 253 [(false,[sl .v (l.map (ci p1))])] (aA [(false,[val (.bool (ma l))])]):=by
 refine sF func253 fun h0 w0 Fz0=>?_
 refine sj 0 fun hl0=>?_
 refine Aw ?_
 refine sL [0] [] (fun k:Nat=>k≤l.length∧mA wH bA yG l k=true) (fun k:Nat=>[(3,RV.int (k:Int))]) (fun k:Nat=>[]) (fun k:Nat=>l.length - k) 0 fS bu ao ?_
 rintro k ⟨hk,ha⟩
 refine bI ?_
 refine JF ?_
 refine sc ?_ ?_<;>intro hba
 have hlt:k < l.length:=ab
 have hgk:l.getD k wH=l[k]:=fy hlt
 have hgp:0 < k→l.getD (k - 1) wH=l[k - 1]:=fun h=>fy ab
 refine fT ?_
 refine sP [0,3] [] ?_
 refine qg ?_
 refine dA 3 ?_ (x:=aS ak iu ao aj bD aj)
 refine dA 7 ?_ (x:=lE mo jg)
 refine dA 15 ?_ (x:=cL jK ly Kl (hs:=by exact KJ))
 refine dA 31 ?_ (x:=nT)
 refine dA 63 ?_ (x:=sM)
 refine dx 16 ?_ ?_<;>intro ga sga
 refine dT 127 ga ?_
 refine dT 255 ga ?_
 refine dT 511 ga ?_
 refine Au ?_
 refine Eb ?_
 refine dU 16383 ?_
 refine Au ?_
 refine dU 66559 ?_
 refine dU 230399 ?_
 refine dU 492543 ?_
 refine dU 1016831 ?_
 refine dU 2097151 ?_
 refine IX ?_
 refine fH ?_
 exact Ziv
 refine Ro ?_
 refine vQ ?_
 refine dx 19 ?_ ?_<;>intro gb sgb
 refine zU ?_
 refine dB 4095 gb ?_ (x:=aS ak iu ao aj bD aj)
 refine dB 8191 gb ?_ (x:=cr ak kW ay)
 refine dB 16383 gb ?_ (x:=lE [val _] aV)
 refine zU ?_
 refine dB 66559 gb ?_ (x:=hP)
 refine dB 230399 gb ?_ (x:=aS (k:=k - 1) ak iu ao ab bD aj)
 refine dB 492543 gb ?_ (x:=cr ak kW ay)
 refine dB 1016831 gb ?_ (x:=lE [val _] aV)
 refine QN ?_
 refine dA 8388607 ?_ (x:=bF ga)
 refine sc ?_ ?_<;>intro hbb
 exact Ziv
 exact Ziw
 refine Am ?_
 refine dF 4095 gb ?_
 refine dF 8191 gb ?_
 refine dF 16383 gb ?_
 refine Am ?_
 refine dF 66559 gb ?_
 refine dF 230399 gb ?_
 refine dF 492543 gb ?_
 refine dF 1016831 gb ?_
 refine dF 2097151 gb ?_
 refine QU ?_
 refine gB ?_
 exact Ziw
 have hend:k=l.length:=ab
 have hall:eT wH bA yG l=true:=ue ha hend
 refine xA ?_
 refine JE ?_
 refine dI ?_
 exact rb (by first|(simp_all [ma];done)|(simp_all [ma];rfl)|(simp_all [ma];omega)|(simp_all [ma];intros;omega))
def aBS{rows:List Row}{n:Int}:aE prog 203 [(false,[sl .v (rows.map (ci p1))]),(false,[val (vI n)])] (aA [(true,[sl bH ((ik rows n).1.aC5.map (aG bc ai)),val (vI (ik rows n).1.Now)]),(false,[val (.bool (ik rows n).2)])]):=by
 refine sF func203 fun h0 w0 Fz0=>?_
 refine sj 0 fun hl0=>?_
 refine sR ?_
 refine vT ?_
 refine dp ?_
 refine sT [0,1,4,5] [4] ?_
 refine cv ?_
 refine rA ?_ (x:=cL cf cC aum (hs:=by exact aBR))
 refine dq ?_
 refine cx 13 ?_ ?_<;>intro ga sga
 refine ko ?_
 refine rY 18 ?_
 refine kS ?_
 exact Pl
 refine fI ?_
 refine PB ?_
 refine nq ?_
 refine cx 18 ?_ ?_<;>intro gb sgb
 refine tK ?_
 exact Pl
 refine pm ?_
 refine rB gb ?_ (x:=lN iu)
 refine ir ?_
 refine rB gb ?_ (x:=MY ak ao (bq rfl) (by have h1_:ma rows=true∧aF n 1 8=true:=(by first|(simp_all;done)|exact ⟨cS,cS⟩);have h2_:=h1_.2;simp only [aF,aR,decide_eq_true_eq] at h2_;unfold dN;omega))
 refine IY ?_
 refine sc ?_ ?_<;>intro hba
 exact Pl
 have hok:nX rows n=true:=by unfold nX;first|(simp_all;done)|(simp_all;omega)
 obtain ⟨har,hn18,hl4⟩:=LD hok
 have hn0:0 < n.toNat:=ab
 have hr32:=azS har
 have hnn:(n.toNat:Int)=n:=ab
 refine aK ?_
 refine Ziy ?_
 refine vG ?_
 refine sV [0,1,4,5,6] [4] [6] ?_
 refine cm ?_
 refine sP [0,1,4,5,6,7] [4,6] ?_
 refine sL [0,1,4,5,6] [4] (fun k:Nat=>k≤n.toNat) (fun k:Nat=>[(7,RV.int (k:Int))]) (fun k:Nat=>[(6,(41,[sl bH ((nW rows n.toNat k).map (aG bc ai)),val (vI 0)]))]) (fun k:Nat=>n.toNat - k) 0 ab bu bu ?_
 rintro k hk
 have hsl:=Vl (rows:=rows) (n:=n.toNat) (k:=k)
 refine bI ?_
 refine DY ?_
 refine sc ?_ ?_<;>intro hbb
 have hlt:k < n.toNat:=ab
 refine aY ?_
 refine sT [0,1,4,5,6,7] [4,6] ?_
 refine xj ?_
 refine sS [0,1,4,5,6,7,8] [4,6] ?_
 refine tP ?_
 refine jH ?_
 refine sP [0,1,4,5,6,7,8,9] [4,6] ?_
 refine sL [0,1,4,5,6,7] [4,6] (fun j:Nat=>j≤qR rows.length n.toNat k) (fun j:Nat=>[(8,RV.slc bc ((qQ rows n.toNat k j).map (ia ai))),(9,RV.int ((k+j * n.toNat:Nat):Int))]) (fun j:Nat=>[]) (fun j:Nat=>qR rows.length n.toNat k - j) 0 ab (by exact aI aj (aI na tI)) ao ?_
 rintro j hj
 have htl:=Vk (rows:=rows) (n:=n.toNat) (i:=k) (k:=j)
 have hj4:j≤4:=by have h_:=aop (i:=k) hn0 (rows:=rows) ab;unfold pF at h_;rw [Vk] at h_;omega
 refine bI ?_
 refine JF ?_
 refine sc ?_ ?_<;>intro hbc
 have hlt2:k+j * n.toNat < rows.length:=ab
 have hv3:rows[k+j * n.toNat].Values.length=3:=(LB.1 (aon har hlt2)).2.1
 have hjs:j < qR rows.length n.toNat k:=(FE hn0 ab).1 hlt2
 refine aY ?_
 refine sQ [0,1,4,5,6,7,8,9] [4,6] ?_
 refine rE ?_
 refine gC ?_
 refine dA 6 ?_ (x:=aS (k:=k+j * n.toNat) ak iu ao eb (by exact eQ hlt2 rfl) aj)
 refine dA 14 ?_ (x:=cr ak kW ay)
 refine dA 30 ?_ (x:=lE [val _] aV)
 refine tR ?_
 refine gC ?_
 refine dA 384 ?_ (x:=aS (k:=k+j * n.toNat) ak iu ao eb (by exact eQ hlt2 rfl) aj)
 refine dA 896 ?_ (x:=cr ak oH ay)
 refine dA 1920 ?_ (x:=lE [sl .v _] bZ)
 refine dA 4032 ?_ (x:=ml ak bY jy rfl rfl ak oW sC bm bm)
 refine dA 8190 ?_ (x:=cz (qs:=[(false,[val _]),(false,[sl _ _]),(false,[val _])]) (cs:=pU) ak iV yu aBO aj (by exact (aI ao (aI ao (aI (bq rfl) tI)))) rfl aj)
 refine dA 16382 ?_ (x:=cB (qs:=uY) ak fz iV ak rfl rfl rfl rfl rfl ay cN rfl)
 refine dA 32767 ?_ (x:=eL ak fz iV rfl rfl ak rfl bm bm)
 refine dA 65535 ?_ (x:=tA)
 refine sG [0,1,4,5,6,7,8,9] [4,6] ?_
 refine rM ?_
 refine bO ?_
 refine nx (j+1) ab (e:=(by exact aI (by exact bC (by rw [azQ,bo,←dM hlt2];rfl)) (aI (by exact cW (by rw [Nat.succ_mul];omega)) tI)))
 have hend2:j=qR rows.length n.toNat k:=by
  by_cases hkl:k≤rows.length
  ·have h_:=FE (k:=j) hn0 hkl;omega
  ·have h_:=Vj (n:=n.toNat) hn0 (show rows.length≤k by omega);omega
 refine be ?_
 refine sH [0,1,4,5,6,7,8,9] [4,6] ?_
 refine zpl ?_
 refine bL ?_
 refine zpm ?_
 refine zpn ?_
 refine sW [0,1,4,5,6,7,9] [4] [6] ?_
 refine bO ?_
 refine nx (k+1) ab (e:=oa) (f:=(by exact aI (by rw [azR,bo];unfold pF;rw [←hend2];exact rfl) tI))
 have hend:k=n.toNat:=ab
 subst hend
 refine be ?_
 refine sT [0,1,4,5,6,7] [4,6] ?_
 refine xH ?_
 exact (bi 4 (bi _ (aI aj (aI (by refine dS ?_;rw [FD hok];exact rfl) (aI iH (aI (fun h=>nomatch h) (aI (by refine dQ ?_;rw [FD hok]) tI)))))))
def aBT{p2:Fl}{s:Store}(hs:cy s=true):aE prog 209 [(true,[sl .v (s.aC5.map (aG p1 p2)),val (vI s.Now)])] (aA [(true,[sl bH ((nY s).Store.aC5.map (aG bc ai)),val (vI (nY s).Store.Now),val (vI (nY s).aDa),sl ai ((nY s).Order.map ar),sl ct ((nY s).aC6.map (aO aH ai ai aJ ai)),sl ck ((nY s).Done.map (bd aH ai aJ ai)),sl cl ((nY s).aDi.map (ba ai ai ai)),val (vI (nY s).Steps)]),(false,[val (.bool true)])]):=by
 refine sF func209 fun h0 w0 Fz0=>?_
 refine sn 0 0 fun hl0_0=>?_
 have hb:=Vn hs
 have hbu:=hb
 simp only [da,iR,bh] at hbu
 refine mr ?_
 refine En ?_
 refine dp ?_
 refine sT [1,2,3] [1,2] ?_
 refine Zgf ?_
 refine eZ ?_
 refine sc ?_ ?_<;>intro hba
 exact absurd hba (by simp [hs])
 refine aK ?_
 refine sS [1,2,3] [1,2] ?_
 refine AQ ?_
 refine rA ?_ (x:=cL tk lA Tg (hs:=MI))
 refine JZ ?_
 refine rA ?_ (x:=cz (qs:=Hg) (cs:=dV) ak sk sq aBQ aj iY rfl aj)
 refine Ziz ?_
 exact (bi 2 (bi _ (aI aj (aI aj (aI dg (aI (fun h=>nomatch h) (aI aj tI)))))))
end Go.Proofs.YtmekkgdboplbjaaGreatDoor
