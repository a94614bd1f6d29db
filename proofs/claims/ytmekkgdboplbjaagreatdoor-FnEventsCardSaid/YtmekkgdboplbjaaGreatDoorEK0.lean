/- What functions of the program compute. No condition. -/
import Derived.Test.YtmekkgdboplbjaaGreatDoorEI0
set_option linter.all false
namespace Go.Proofs.YtmekkgdboplbjaaGreatDoor
open Go Go.RowKit M PV Tryz
set_option maxRecDepth 10000
attribute [local irreducible] PV.Lcl PV.LclR RV.Lcl
def ajc:eA prog 27=some [(0,1),(1,1)]:=ao
def ajd{v:be}{t:Int}:aQ prog 236 [(true,[val (vI v.Id),sl .v (v.Values.map ar),val (vI v.ayh),val (vI v.ayd)]),(false,[val (vI t)])] (aB [(false,[val (.bool (gk v t))])]):=by
 refine sF func236 fun h0 w0 Fz0=>?_
 exact Yi
def aje{v:be}{t:Int}:aQ prog 313 [(true,[val (vI v.Id),sl .v (v.Values.map ar),val (vI v.ayh),val (vI v.ayd)]),(false,[val (vI t)])] (aB [(false,[val (.bool (gk v t))])]):=by
 refine sF func313 fun h0 w0 Fz0=>?_
 exact Yi
def aru{v:be}(hb:dV v≤68719476736):aQ prog 83 [(true,[val (vI v.Id),sl .v (v.Values.map ar),val (vI v.ayh),val (vI v.ayd)])] (aB [(true,[val (vI (jL v).Id),sl ai ((jL v).Values.map ar)])]):=by
 refine sF func83 fun h0 w0 Fz0=>?_
 refine sn 0 1 fun hl0_1=>?_
 have hbu:=hb
 simp only [dV,gj,bo] at hbu
 refine Ci ?_
 refine HJ ?_
 refine Hz ?_
 refine dA 0 ?_ (x:=lF xO)
 refine xk ?_
 refine dA 0 ?_ (x:=lF oU)
 refine zdx ?_
 refine dA 31 ?_ (x:=cy (qs:=[(false,[val _]),(false,[sl _ _])]) (cs:=ct) aj jJ mV ajc ak ip rfl ak)
 exact XU
def arv{v:be}{w:be}:aQ prog 171 [(true,[val (vI v.Id),sl .v (v.Values.map ar),val (vI v.ayh),val (vI v.ayd)]),(true,[val (vI w.Id),sl .v (w.Values.map ar),val (vI w.ayh),val (vI w.ayd)])] (aB [(false,[val (.bool (xB v w))])]):=by
 refine sF func171 fun h0 w0 Fz0=>?_
 refine sn 0 1 fun hl0_1=>?_
 refine sn 1 1 fun hl1_1=>?_
 refine zh3 ?_
 refine wM ?_
 refine Db ?_
 refine rA ?_ (x:=lF nc)
 refine ff ?_
 refine zh6 ?_
 refine rM ?_
 refine cx 9 ?_ ?_<;>intro ga sga
 refine GZ ?_
 exact Yj
 refine rB ga ?_ (x:=lD jD mn)
 refine rB ga ?_ (x:=lF nc)
 refine kg ?_
 refine rB ga ?_ (x:=cL [(true,fe),(false,[val _])] [(true,jD),(false,[val _])] aiC (hs:=by exact ajd))
 refine lz ?_
 exact Yj
def arw{a:be}{b:be}:aQ prog 174 [(true,[val (vI a.Id),sl .v (a.Values.map ar),val (vI a.ayh),val (vI a.ayd)]),(true,[val (vI b.Id),sl .v (b.Values.map ar),val (vI b.ayh),val (vI b.ayd)])] (aB [(false,[val (.bool (gy a b))])]):=by
 refine sF func174 fun h0 w0 Fz0=>?_
 refine sn 0 1 fun hl0_1=>?_
 refine sn 1 1 fun hl1_1=>?_
 refine zh3 ?_
 refine wM ?_
 refine uz ?_
 refine uz ?_
 refine mQ ?_
 refine rM ?_
 refine cx 10 ?_ ?_<;>intro ga sga
 refine jH ?_
 refine au.cases (s:=22) rfl (fun g2=>?_) (fun g2=>nomatch g2)
 refine zb ?_
 exact yL
 refine rB ga ?_ (x:=lF ku)
 refine kg ?_
 refine rB ga ?_ (x:=ig)
 refine gN ?_
 refine cx 14 ?_ ?_<;>intro gb sgb
 refine rB gb ?_ (x:=lF ku)
 refine nK ?_
 refine rB gb ?_ (x:=lF nc)
 refine PL ?_
 refine rB ga ?_ (x:=bj gb)
 refine ly ?_
 refine cx 22 ?_ ?_<;>intro gc sgc
 refine HC ?_
 exact yL
 refine HH ?_
 refine Qj ?_
 refine cx 26 ?_ ?_<;>intro gd sgd
 refine rB gd ?_ (x:=lF ku)
 refine uQ ?_
 refine rB gd ?_ (x:=lF nc)
 refine uQ ?_
 refine rB gd ?_ (x:=kf)
 refine Qd ?_
 exact yL
 refine zf gd ?_
 refine Qe ?_
 exact yL
 refine zf gb ?_
 refine rB ga ?_ (x:=aR gb)
 refine ly ?_
 refine au.cases (s:=22) rfl (fun g6=>nomatch g6) (fun g6=>?_)
 refine rB g6 ?_ (x:=lF ku)
 refine rB g6 ?_ (x:=lD [val _] bb)
 refine rB g6 ?_ (x:=ig)
 refine rB g6 ?_ (x:=sM)
 refine cx 26 ?_ ?_<;>intro gc sgc
 refine HH ?_
 refine rB gc ?_ (x:=lF nc)
 refine oL ?_
 refine rB gc ?_ (x:=kf)
 refine rB g6 ?_ (x:=bj gc)
 refine rA ?_ (x:=aR g6)
 exact yL
 refine zf gc ?_
 refine rB g6 ?_ (x:=aR gc)
 refine rA ?_ (x:=aR g6)
 exact yL
def arx{v:be}{now:Int}(hn:now≤100000):aQ prog 173 [(true,[val (vI v.Id),sl .v (v.Values.map ar),val (vI v.ayh),val (vI v.ayd)]),(false,[val (vI now)])] (aB [(false,[val (.bool (eW now v))])]):=by
 refine sF func173 fun h0 w0 Fz0=>?_
 refine sn 0 1 fun hl0_1=>?_
 refine Ci ?_
 refine rK ?_
 refine sT [1,2,4] [2] ?_
 refine uz ?_
 refine rA ?_ (x:=lF oU)
 refine uO ?_
 refine rA ?_ (x:=cy (qs:=[(false,[val _]),(false,[sl _ _])]) (cs:=ct) aj jJ mV ajc ak ip rfl ak)
 refine rA ?_ (x:=cL [(true,ct)] [(true,fJ)] Rd (hs:=by exact (RU (x:=⟨v.Id,v.Values⟩))))
 refine rM ?_
 refine cx 11 ?_ ?_<;>intro ga sga
 refine rB ga ?_ (x:=lF nc)
 refine kg ?_
 refine gN ?_
 refine Qq ?_
 refine qZ ?_
 refine cx 17 ?_ ?_<;>intro gb sgb
 refine rB gb ?_ (x:=lF ku)
 refine wF ?_
 refine kh ?_
 refine cx 21 ?_ ?_<;>intro gc sgc
 refine zt gc ?_
 refine rB gb ?_ (x:=bj gc)
 refine kO ?_
 exact Gt
 refine HH ?_
 refine rB gc ?_ (x:=lF nc)
 refine oL ?_
 refine rB gc ?_ (x:=LJ aj an (bi rfl) VM)
 refine zhm ?_
 refine rB gb ?_ (x:=aR gc)
 refine kO ?_
 exact Gt
 refine oE ?_
 exact Gt
 refine jb ?_
 refine au.cases (s:=17) rfl (fun g4=>nomatch g4) (fun g4=>?_)
 refine zq ?_
 exact Gt
def ary{p1 p2:Fl}{s:Store}(hb:cg s≤68719476736):aQ prog 164 [(true,[sl .v (s.ax2.map (aO p1 p2)),val (vI s.Now)])] (aB [(false,[sl bc ((bu s).map (gG .v))])]):=by
 refine sF func164 fun h0 w0 Fz0=>?_
 refine sn 0 0 fun hl0_0=>?_
 refine kN ?_
 refine rA ?_ (x:=nw (.inr rfl) aj (pk (t:=116) (e:=4)))
 refine sT [1,2] [1] ?_
 refine zG ?_
 refine Ix ?_
 refine sL [1,2] [1] (fun k:Nat=>k≤s.ax2.length) (fun k:Nat=>[(3,RV.slc bc ((ek s k).map (gG .v))),(4,RV.int (k:Int))]) (fun k:Nat=>[]) (fun k:Nat=>s.ax2.length - k) 0 ab gp an ?_
 rintro k hk
 refine zJ ?_
 refine sc ?_ ?_<;>intro hba
 have hlt:k < s.ax2.length:=ab
 have hal:=vg s
 have hsp:=congrArg List.length (Jj hlt)
 simp only [bJ] at hsp
 refine bv ?_
 refine sH [1,2,3,4] [1] ?_
 refine cb ?_
 refine sV ?_
 refine rM ?_
 refine zhs ?_
 refine rA ?_ (x:=sz (qs:=[sl .v _]) aj jS (fun _=>rfl) az (by exact (aJ.cons (PV.to_map (fun _=>(aD (aJ.cons (PV.to_map (fun _=>(aD aJ.nil))) (aD (aD aJ.nil)))))) aJ.nil)) ib)
 refine rA ?_ (x:=lU aj dq iT rfl rfl aj oo (by first|(intro cs hcs;obtain ⟨x,_,rfl⟩:=List.mem_map.1 hcs;exact bg)|simp) bq bq)
 refine dJ ?_
 refine sG [1,2,3,4] [1] ?_
 refine cB ?_
 refine nx (k+1) ab (e:=(by exact aI (by exact cz (by rw [DG hlt,bK];rfl)) (aI ak tI)))
 have hend:k=s.ax2.length:=ab
 refine bI ?_
 refine sT [1,2,3,4] [1] ?_
 refine pD ?_
 exact (aI (by refine cz ?_;rw [hend,Rl]) tI)
def ajf{p1 p2:Fl}{s:Store}(hb:cg s≤68719476736):aQ prog 85 [(true,[sl .v (s.ax2.map (aO p1 p2)),val (vI s.Now)])] (aB [(false,[val (.bool (cN s))])]):=by
 refine sF func85 fun h0 w0 Fz0=>?_
 refine sn 0 0 fun hl0_0=>?_
 refine kN ?_
 refine ma ?_
 refine mP ?_
 refine IF ?_
 refine fp ?_
 refine cx 12 ?_ ?_<;>intro ga sga
 exact Yk
 refine rB ga ?_ (x:=lF lG)
 refine Ca ?_
 refine HW ?_
 refine sc ?_ ?_<;>intro hba
 exact MJ
 have hpr:ru s=true:=by simp_all [ru]
 have hnow:0≤s.Now∧s.Now≤100000:=VH
 refine wV ?_
 refine CM ?_
 refine sL [1] [1] (fun k:Nat=>k≤s.ax2.length∧(s.ax2.take k).all mW=true) (fun k:Nat=>[(3,RV.int (k:Int))]) (fun k:Nat=>[]) (fun k:Nat=>s.ax2.length - k) 0 iG bp an ?_
 rintro k ⟨hk,ha⟩
 refine zJ ?_
 refine sc ?_ ?_<;>intro hbb
 have hlt:k < s.ax2.length:=ab
 refine bv ?_
 refine sT [1,3] [1] ?_
 refine sV ?_
 refine rM ?_
 refine yV ?_
 refine rA ?_ (x:=lN dq)
 refine tn ?_
 refine sc ?_ ?_<;>intro hbc
 have hbad:cN s=false:=ahI hlt ab
 refine sS [1,3] [1] ?_
 exact oy
 have hyes:mW s.ax2[k]=true:=by simp [mW];omega
 refine CN ?_
 exact wo
 have hsm:s.ax2.all mW=true:=mc (by rw [show s.ax2.length=k by omega];exact ha)
 have hal:=vg s
 refine Iv ?_
 refine zhz ?_
 refine oD ?_
 refine sS [1,3,4] [1] ?_
 refine cl ?_
 refine sP [1,3,4,5] [1] ?_
 refine sL [1,3,4] [1] (fun i:Nat=>i≤(bu s).length∧oR s.Now (bu s) i=true) (fun i:Nat=>[(5,RV.int (i:Int))]) (fun i:Nat=>[]) (fun i:Nat=>(bu s).length - i) 0 gF bp an ?_
 rintro i ⟨hi,hg⟩
 refine cP ?_
 refine qX ?_
 refine dQ ?_
 refine sc ?_ ?_<;>intro hbc
 have hlt2:i < (bu s).length:=ab
 refine bv ?_
 refine dC ?_
 refine sQ [1,3,4,5] [1] ?_
 refine oG ?_
 refine zi3 ?_
 refine dA 0 ?_ (x:=lF lG)
 refine dA 16 ?_ (x:=lD [val _] bb)
 refine dA 63 ?_ (x:=cL [(true,fe),(false,[val _])] [(true,jD),(false,[val _])] ap2 (hs:=by exact (arx ab)))
 refine dA 127 ?_ (x:=nT)
 refine sc ?_ ?_<;>intro hbd
 have hvo:eW s.Now ((bu s).getD i v0)=false:=dO
 have hbad:=Ji hlt2 (ahG hvo)
 refine sS [1,3,4,5] [1] ?_
 exact oy
 have hvo:eW s.Now ((bu s).getD i v0)=true:=dO
 refine ba ?_
 refine sS [1,3,4,5] [1] ?_
 refine cl ?_
 refine sP [1,3,4,5,6] [1] ?_
 refine sL [1,3,4,5] [1] (fun m:Nat=>m≤i∧iq (bu s) i m=true) (fun m:Nat=>[(6,RV.int (m:Int))]) (fun m:Nat=>[]) (fun m:Nat=>i - m) 0 gF bp an ?_
 rintro m ⟨hm,hfr⟩
 refine cP ?_
 refine uJ ?_
 refine sc ?_ ?_<;>intro hbe
 have hlt3:m < i:=ab
 have hlt4:m < (bu s).length:=ab
 refine eB ?_
 refine sQ [1,3,4,5,6] [1] ?_
 refine oG ?_
 refine zi3 ?_
 refine ij ?_
 refine dA 48 ?_ (x:=aZ (k:=m) aj dq an fU (by exact fX hlt4 (by rw [kl (d:=v0) hlt4])) ak)
 refine dA 112 ?_ (x:=lE jD mn)
 refine dA 255 ?_ (x:=cL [(true,fe),(true,fe)] [(true,jD),(true,jD)] ap3 (hs:=by exact arw))
 refine dA 511 ?_ (x:=nT)
 refine sc ?_ ?_<;>intro hbf
 have hap:gy ((bu s).getD i v0) ((bu s).getD m v0)=false:=dO
 have hbad:=Ji hlt2 (ahH hlt3 hap)
 refine sS [1,3,4,5,6] [1] ?_
 exact oy
 have hap:gy ((bu s).getD i v0) ((bu s).getD m v0)=true:=dO
 refine ba ?_
 refine sG [1,3,4,5,6] [1] ?_
 refine cB ?_
 exact Yl
 have hend2:m=i:=ab
 refine bI ?_
 refine sH [1,3,4,5,6] [1] ?_
 refine cB ?_
 refine nx (i+1) (by refine ⟨ab,?_⟩;rw [ahF,hg,Bool.true_and];unfold oQ;rw [hvo,Bool.true_and,←hend2];rw [hend2] at hfr ⊢;exact hfr)
 have hend1:i=(bu s).length:=ab
 rw [hend1] at hg
 refine bI ?_
 refine sT [1,3,4,5] [1] ?_
 refine ca ?_
 exact rb (by unfold cN;rw [hpr,hsm,hg];rfl)
def ajg{p1 p2:Fl}{s:Store}(hb:cg s≤68719476736):aQ prog 81 [(true,[sl .v (s.ax2.map (aO p1 p2)),val (vI s.Now)])] (aB [(false,[val (.bool (cN s))])]):=by
 refine sF func81 fun h0 w0 Fz0=>?_
 refine sn 0 0 fun hl0_0=>?_
 have hbu:=hb
 simp only [cg,iy,bo] at hbu
 refine kN ?_
 refine ma ?_
 refine mP ?_
 refine zi7 ?_
 refine cx 15 ?_ ?_<;>intro ga sga
 exact Yk
 refine PB ?_
 refine Cd ?_
 refine lz ?_
 refine sc ?_ ?_<;>intro hba
 exact MJ
 have hpr:ru s=true:=by simp_all [ru]
 have hnow:0≤s.Now∧s.Now≤100000:=VH
 have hal:=vg s
 refine ba ?_
 refine sS [1,2] [1] ?_
 refine zG ?_
 refine pJ ?_
 refine mP ?_
 refine fK ?_
 refine sP [1,2,3,23,24,25] [1] ?_
 refine sL [1,23,24] [1] (fun k:Nat=>k≤s.ax2.length∧((s.ax2.take k).all mW=true∧oR s.Now (bu s) (ek s k).length=true)) (fun k:Nat=>[(3,RV.slc bc ((ek s k).map (gG .v))),(25,RV.int (k:Int))]) (fun k:Nat=>[]) (fun k:Nat=>s.ax2.length - k) 0 (by exact ⟨ab,⟨aM,rfl⟩⟩) gp an ?_
 rintro k ⟨hk,ha⟩
 refine cY ?_
 refine sc ?_ ?_<;>intro hbb
 have hlt:k < s.ax2.length:=ab
 have hwm:=fg (f:=dv) hlt
 have hws:dv s.ax2[k]=s.ax2[k].length+(s.ax2[k].map dV).sum:=rfl
 refine bv ?_
 refine sT [1,3,23,24,25] [1] ?_
 refine Qm ?_
 refine aU ?_
 refine sS [1,3,5,23,24,25] [1] ?_
 refine qX ?_
 refine tn ?_
 refine sc ?_ ?_<;>intro hbc
 have hbad:cN s=false:=ahI hlt ab
 refine sS [1,3,5,23,24,25] [1] ?_
 exact oy
 have hyes:mW s.ax2[k]=true:=by simp [mW];omega
 refine ba ?_
 refine sS [1,3,5,23,24,25] [1] ?_
 refine zK ?_
 refine sP [1,3,5,23,24,25,32,33,34] [1] ?_
 refine sL [1,5,23,24,25,32,33] [1] (fun j:Nat=>j≤s.ax2[k].length∧oR s.Now (bu s) ((ek s k).length+j)=true) (fun j:Nat=>[(3,RV.slc bc ((ek s k++s.ax2[k].take j).map (gG .v))),(34,RV.int (j:Int))]) (fun j:Nat=>[]) (fun j:Nat=>s.ax2[k].length - j) 0 (by exact ⟨ab,ha.2⟩) (by exact aI (by exact cz aM) (aI ak tI)) an ?_
 rintro j ⟨hj,hg⟩
 refine cY ?_
 refine sc ?_ ?_<;>intro hbd
 have hlt2:j < s.ax2[k].length:=ab
 have hwm2:=fg (f:=dV) hlt2
 have hag:=ahJ hlt hlt2
 have hat:=aoo hlt (Nat.le_of_lt hlt2)
 have hln:(ek s k++s.ax2[k].take j).length=(ek s k).length+j:=by rw [bJ,cI];omega
 have hlm:(s.ax2[k].take j).length=j:=fb
 refine bv ?_
 refine sT [1,3,5,23,24,25,32,33,34] [1] ?_
 refine Hk ?_
 refine Ce ?_
 refine dC ?_
 refine sO [(1,_),(3,_),(5,_),(7,_),(23,_),(24,_),(25,_),(32,_),(33,_),(34,_)] [(1,_),(7,(116,fe))] ?_
 refine aY ?_
 refine zie ?_
 refine zif ?_
 refine fp ?_
 refine cx 42 ?_ ?_<;>intro gb sgb
 refine nG ?_
 refine au.cases (s:=50) rfl (fun g8=>?_) (fun g8=>nomatch g8)
 refine zt g8 ?_
 refine rA ?_ (x:=bj g8)
 refine cH ?_
 exact MK
 refine rB gb ?_ (x:=lF nc)
 refine nK ?_
 refine rB gb ?_ (x:=lF lG)
 refine Hg ?_
 refine wT ?_
 refine cx 50 ?_ ?_<;>intro gc sgc
 refine xe ?_
 exact MK
 refine HH ?_
 refine Qj ?_
 refine cx 54 ?_ ?_<;>intro gd sgd
 refine rB gd ?_ (x:=lF ku)
 refine uQ ?_
 refine rB gd ?_ (x:=lF nc)
 refine uQ ?_
 refine rB gd ?_ (x:=LJ aj an (bi rfl) VM)
 refine rB gd ?_ (x:=lF lG)
 refine Oe ?_
 refine rB gd ?_ (x:=nT)
 refine Qd ?_
 refine sc ?_ ?_<;>intro hbe
 exact MK
 have hvo:eW s.Now s.ax2[k][j]=true:=Lk
 refine dp ?_
 refine sS [1,3,5,7,23,24,25,32,33,34] [1,7] ?_
 refine zK ?_
 refine zim ?_
 rintro m ⟨hm,hfr⟩
 refine cY ?_
 refine sc ?_ ?_<;>intro hbf
 have hlt3:m < (ek s k).length+j:=ab
 have hlt4:m < (ek s k++s.ax2[k].take j).length:=ab
 have hsg:(ek s k++s.ax2[k].take j)[m]=(bu s).getD m v0:=by rw [kl (d:=v0) hlt4,hat,List.getD_eq_getElem?_getD,List.getElem?_take_of_lt hlt3,←List.getD_eq_getElem?_getD]
 have hvm:=Rk hg hlt3
 have hma:=ahE hvo hvm
 rw [←hag.2] at hma
 refine bv ?_
 refine zin ?_
 refine Qr ?_
 refine Ce ?_
 refine zip ?_
 refine aY ?_
 refine uz ?_
 refine uz ?_
 refine iw ?_
 refine cx 77 ?_ ?_<;>intro ge sge
 refine Qs ?_
 refine zir ?_
 refine rA ?_ (x:=bj ge)
 refine sc ?_ ?_<;>intro hbg
 exact Ym
 exact ML
 exact Yn
 exact Yo
 refine zf gd ?_
 refine Qe ?_
 refine gv ?_
 have hvo:eW s.Now s.ax2[k][j]=true:=Lk
 refine dp ?_
 refine sS [1,3,5,7,23,24,25,32,33,34] [1,7] ?_
 refine zK ?_
 refine zim ?_
 rintro m ⟨hm,hfr⟩
 refine cY ?_
 refine sc ?_ ?_<;>intro hbe
 have hlt3:m < (ek s k).length+j:=ab
 have hlt4:m < (ek s k++s.ax2[k].take j).length:=ab
 have hsg:(ek s k++s.ax2[k].take j)[m]=(bu s).getD m v0:=by rw [kl (d:=v0) hlt4,hat,List.getD_eq_getElem?_getD,List.getElem?_take_of_lt hlt3,←List.getD_eq_getElem?_getD]
 have hvm:=Rk hg hlt3
 have hma:=ahE hvo hvm
 rw [←hag.2] at hma
 refine bv ?_
 refine zin ?_
 refine Qr ?_
 refine Ce ?_
 refine zip ?_
 refine aY ?_
 refine uz ?_
 refine uz ?_
 refine iw ?_
 refine cx 77 ?_ ?_<;>intro ge sge
 refine Qs ?_
 refine zir ?_
 refine rA ?_ (x:=bj ge)
 refine sc ?_ ?_<;>intro hbf
 exact Ym
 exact ML
 exact Yn
 exact Yo
 have hend2:j=s.ax2[k].length:=ab
 refine bI ?_
 refine sH [1,3,5,23,24,25,32,33,34] [1] ?_
 refine dI ?_
 refine nx (k+1) (by exact ⟨ab,⟨IV ha.1 hlt hyes,by rw [DG hlt,bJ,←hend2];exact hg⟩⟩) (e:=(by exact aI (by exact cz (by rw [hend2,cJ,DG hlt])) (aI ak tI)))
 have hend:k=s.ax2.length:=ab
 have hsm:s.ax2.all mW=true:=mc (by rw [←hend];exact ha.1)
 have hgd:=ha.2
 rw [hend,Rl] at hgd
 refine bI ?_
 refine sT [1,3,23,24,25] [1] ?_
 refine ca ?_
 exact rb (by unfold cN;rw [hpr,hsm,hgd];rfl)
end Go.Proofs.YtmekkgdboplbjaaGreatDoor
