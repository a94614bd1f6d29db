/- What functions of the program compute. No condition. -/
import Derived.Test.YtmekkgdboplbjaaGreatDoorDX0
set_option linter.all false
namespace Go.Proofs.YtmekkgdboplbjaaGreatDoor
open Go Go.RowKit M PV Tryz
set_option maxRecDepth 10000
attribute [local irreducible] PV.Lcl PV.LclR RV.Lcl
set_option maxHeartbeats 8000000
def XK:eL prog 116=some [(0,1),(1,1),(2,1),(3,1)]:=aq
def XL:prog.underlying 4=some .bool:=aq
def XM{p1 p2:Fl}{s:Store}{id:Int}(hb:eQ s≤68719476736):aS prog 248 [(true,[sl .v (s.ac7.map (be p1 p2)),val (vI s.Now)]),(false,[val (vI id)])] (aJ [(false,[val (vI (bX s id))]),(false,[val (vI (lO s id))])]):=by
 refine sF func248 fun h0 w0 Fz0=>?_
 refine sn 0 0 fun hl0_0=>?_
 have hbu:=hb
 simp only [eQ,kb,aX] at hbu
 refine rZ ?_
 refine rK ?_
 refine gJ ?_
 refine sT [1,2,4,5] [2] ?_
 refine nF ?_
 refine dM ?_
 refine sP [1,2,4,5,11,12,13] [2] ?_
 refine sL [1,2,11,12] [2] (fun i:Nat=>i≤s.ac7.length∧(s.ac7.take i).any (hZ id)=false) (fun i:Nat=>[(13,RV.int (i:Int))]) (fun i:Nat=>[]) (fun i:Nat=>s.ac7.length - i) 0 jM cb au ?_
 rintro i ⟨hi,ha⟩
 refine bO ?_
 refine sc ?_ ?_<;>intro hba
 have hlt:i < s.ac7.length:=ab
 have hwm:=gw (f:=dS) hlt
 have hws:dS s.ac7[i]=s.ac7[i].length+(s.ac7[i].map eP).sum:=rfl
 refine bA ?_
 refine sT [1,2,11,12,13] [2] ?_
 refine rM ?_
 refine Km ?_
 refine rS ?_
 refine rA ?_ (x:=vA false [sl .v _])
 refine sS [1,2,6,7,11,12,13] [2] ?_
 refine sD ?_
 refine sP [1,2,6,7,11,12,13,18,19,20] [2] ?_
 refine sL [1,2,6,7,11,12,13,18,19] [2] (fun j:Nat=>j≤s.ac7[i].length∧(s.ac7[i].take j).any (jE id)=false) (fun j:Nat=>[(20,RV.int (j:Int))]) (fun j:Nat=>[]) (fun j:Nat=>s.ac7[i].length - j) 0 jM cb au ?_
 rintro j ⟨hj,hc⟩
 refine bO ?_
 refine sc ?_ ?_<;>intro hbb
 have hlt2:j < s.ac7[i].length:=ab
 refine bA ?_
 refine sT [1,2,6,7,11,12,13,18,19,20] [2] ?_
 refine rM ?_
 refine xE ?_
 refine rX ?_ (x:=(ew ae kj vG))
 refine rS ?_
 refine Mi ?_
 refine aU ?_
 refine sO [(1,_),(2,_),(6,_),(7,_),(8,_),(9,_),(11,_),(12,_),(13,_),(18,_),(19,_),(20,_)] [(2,_),(9,(116,gG))] ?_
 refine bh ?_
 refine uH ?_
 refine rM ?_
 refine oH ?_
 refine cx 29 (fun ga sga=>?_) (fun ga sga=>?_)
 refine rB ga ?_ (x:=lF pp)
 refine jz ?_
 refine qk ?_
 refine sc ?_ ?_<;>intro hbc
 have hyy:jE id s.ac7[i][j]=true:=Gl
 have hfa:=VC hlt ha hlt2 hc hyy
 refine sS [1,2,6,7,8,9,11,12,13,18,19,20] [2,9] ?_
 refine fv ?_
 refine rS ?_
 refine cW ?_
 exact (aI (by refine fU ?_;rw [hfa.1]) (aI (by refine fU ?_;rw [hfa.2]) tI))
 exact IV
 refine iA ?_
 refine fW ?_
 exact IV
 have hno1:hZ id s.ac7[i]=false:=by unfold hZ;rw [show j=s.ac7[i].length by omega,cC] at hc;exact hc
 refine bv ?_
 refine sH [1,2,6,7,11,12,13,18,19,20] [2] ?_
 refine cf ?_
 refine nx (i+1) (by exact ⟨ab,sW ha hlt hno1⟩) (e:=oj)
 have hend:i=s.ac7.length:=ab
 have hfn:=VD (s:=s) (id:=id) FR
 refine bv ?_
 refine sT [1,2,11,12,13] [2] ?_
 refine rK ?_
 refine bG ?_
 exact (aI (by refine fU ?_;rw [hfn.1]) (aI (by refine fU ?_;rw [hfn.2]) tI))
def XN{p1 p2:Fl}{s:Store}{u:adb}(hb:eQ s≤68719000000)(hbu0:iB u≤68719000000):aS prog 201 [(true,[sl .v (s.ac7.map (be p1 p2)),val (vI s.Now)]),(true,[val (vI u.Kind),val (vI u.Row.Id),sl .v (u.Row.Values.map ax),val (vI u.Field),val (vI u.Value)])] (aJ [(true,[sl dg ((dw s u).1.ac7.map (be bJ ak)),val (vI (dw s u).1.Now)]),(false,[val (.bool (dw s u).2)])]):=by
 refine uj (largs:=fun L=>[(true,[sl (.lo L) (s.ac7.map (be (.lo L) (.lo L))),val (vI s.Now)]),(true,[val (vI u.Kind),val (vI u.Row.Id),sl (.lo L) (u.Row.Values.map ax),val (vI u.Field),val (vI u.Value)])]) (rs:=[(true,[sl dg ((dw s u).1.ac7.map (be bJ ak)),val (vI (dw s u).1.Now)]),(false,[val (.bool (dw s u).2)])]) func201 rfl (nl rfl) (fun L=>by exact (aI (aI rfl (ao.cons (bm (fun _=>nl rfl) (fun _=>(ao.cons (bm (fun _=>nl rfl) (fun _=>(ao.cons aG (ao.cons (bm (fun _=>nl rfl) (fun _=>(ao.cons aG ao.nil))) (ao.cons aG (ao.cons aG ao.nil)))))) ao.nil))) (ao.cons aG ao.nil))) (aI (aI rfl (ao.cons aG (ao.cons aG (ao.cons (bm (fun _=>nl rfl) (fun _=>(ao.cons aG ao.nil))) (ao.cons aG (ao.cons aG ao.nil)))))) tI))) (fun L=>by exact lq) ?_
 intro w0 Fz0
 refine sn 0 0 fun hl0_0=>?_
 refine sn 1 2 fun hl1_2=>?_
 have hbu:=hb
 simp only [eQ,kb,aX] at hbu
 have hbv:=hbu0
 simp only [iB,gx,fy,aX] at hbv
 have hvl2:=VH s u
 have hul:=nP s u
 refine LH ?_
 refine Mj ?_
 refine Ck ?_
 refine sO [(2,_),(3,_),(4,_),(5,_)] [(2,(41,[sl (.lo _) _,val _])),(3,(29,[val _,val _,sl (.lo _) _,val _,val _])),(4,(41,dE))] ?_
 refine bh ?_
 refine BC ?_
 refine rV ?_
 refine eO ?_
 refine sO [(2,_),(3,_),(4,_),(5,_),(6,_)] [(2,_),(3,_),(4,_),(6,(41,dE))] ?_
 refine bh ?_
 refine Le ?_
 refine fj ?_
 refine cx 17 (fun ga sga=>?_) (fun ga sga=>?_)
 refine ly ?_
 refine av.cases (s:=22) rfl (fun g2=>?_) (fun g2=>nomatch g2)
 refine mw ?_
 refine cd ?_
 exact AU
 refine rB ga ?_ (x:=lD [val _,val _,sl (.lo _) _,val _,val _] nK)
 refine rB ga ?_ (x:=cL [(true,[val _,val _,sl (.lo _) _,val _,val _])] [(true,jQ)] Da (hs:=by exact Eh))
 refine oE ?_
 refine rM ?_
 refine cx 22 (fun gb sgb=>?_) (fun gb sgb=>?_)
 refine uO ?_
 refine cd ?_
 exact AU
 refine rB gb ?_ (x:=lF kS)
 refine nG ?_
 refine rB gb ?_ (x:=iV)
 refine rA ?_ (x:=aK gb)
 refine sc ?_ ?_<;>intro hba
 exact AU
 have hos:bV s=true:=eX
 have hou:ci u=true:=eX
 obtain ⟨hs8,hs1,hn0,hn1,hs4,hver⟩:=qH hos
 have hnw:s.Now < 100000:=ua
 refine bd ?_
 refine sS [2,3,4,5,6] [2,3,4,6] ?_
 refine uY ?_
 refine oN ?_
 refine nD ?_
 refine rA ?_ (x:=cL [(true,[sl (.lo _) _,val _]),(false,[val _])] [(true,gW),(false,[val _])] Wv (hs:=by exact (XM ab)))
 refine lv ?_
 refine rS ?_
 refine gu ?_
 refine sS [2,3,4,5,6,7,8] [2,3,4,6] ?_
 refine rM ?_
 refine rA ?_ (x:=ll)
 refine oD ?_
 refine jw ?_
 refine rA ?_ (x:=RK ae XL au au)
 refine sc ?_ ?_<;>intro hbb
 have hno:eD s u=false:=by rw [←Bool.not_eq_true];intro hc_;obtain ⟨h1_,h2_,h3_,h4_,h5_⟩:=pn hc_;have hh_:=hbb;by_cases h1:0≤bX s u.Row.Id<;>by_cases h2:u.Kind=1<;>simp_all [GE.ge]
 refine sS [2,3,4,5,6,7,8] [2,3,4,6] ?_
 exact IX
 have hkd:0≤bX s u.Row.Id↔¬u.Kind=1:=by have h_:=hbb;by_cases h1:0≤bX s u.Row.Id<;>by_cases h2:u.Kind=1<;>simp_all [GE.ge]
 refine bd ?_
 refine sS [2,3,4,5,6,7,8] [2,3,4,6] ?_
 refine rA ?_ (x:=lF kS)
 refine eA ?_
 refine iZ ?_
 refine rA ?_ (x:=lF kS)
 refine qf ?_
 refine sO [(2,_),(3,_),(4,_),(5,_),(6,_),(7,_),(8,_)] [(2,_),(3,_),(4,_),(6,(41,dE))] ?_
 refine bh ?_
 refine oN ?_
 refine rA ?_ (x:=lF lI)
 refine rA ?_ (x:=lD [sl (.lo _) _] ek)
 refine Lv ?_
 refine aU ?_
 refine sS [2,3,4,5,6,7,8,9] [2,3,4,6] ?_
 refine rM ?_
 refine rA ?_ (x:=ll)
 refine sc ?_ ?_<;>intro hbc
 have hge:0≤bX s u.Row.Id:=ab
 obtain ⟨i,k,hi,hk,hfi,hfk,hal⟩:=mU hge
 obtain ⟨hu1,hu2⟩:=lP hi hk hfi hfk
 have hwm:=gw (f:=dS) hi
 have hws:dS s.ac7[i]=s.ac7[i].length+(s.ac7[i].map eP).sum:=rfl
 have hwm2:=gw (f:=eP) hk
 have hwv:eP s.ac7[i][k]=s.ac7[i][k].Values.length:=zW
 refine aU ?_
 refine sK ?_
 refine rH (d:=6) (t:=41) (D:=920) (G:=2920) (E:=114) (e:=1) (L:=(Lw w0.heap.size)) (A:=[]) (B:=[val _]) (es:=(s.ac7).map (be bJ ak)) aj (pS hi) aj aj rfl aj (fun x hx=>hx) bn bn (by exact az.nil) tX (az.map fun x=>(az.cons (lcl_own (az.map fun x=>(az.cons lcl_val (az.cons (lcl_own (az.map fun x=>(az.cons lcl_val az.nil))) (az.cons lcl_val (az.cons lcl_val az.nil)))))) az.nil)) fun uu920 cp920 jk920 hlD920 hcp920 hjk920=>?_
 rw [aO] at hlD920 hcp920 hjk920
 refine fV (d:=920) aj (ow (k:=i) hi) ?_
 have hA920:=rL (f:=(be bJ ak)) (e:=1) (xs:=s.ac7) (k:=i) (fun _=>rfl) (Nat.le_of_lt hi)
 refine sO [(2,_),(3,_),(4,_),(5,_),(6,_),(7,_),(8,_),(9,_),(2920,_)] [(2,_),(3,_),(4,_),(6,(41,rO)),(920,(114,_++([sl _ _]++_)))] ?_
 refine rH (d:=920) (t:=114) (D:=921) (G:=2921) (E:=116) (e:=4) (L:=(Lw w0.heap.size)) (A:=_) (B:=[]++_) (es:=(s.ac7[i]).map (nH ak)) aj (pS hk) aj aj rfl aj (fun x hx=>hx) bn bn tX tX (az.map fun x=>(az.cons lcl_val (az.cons (lcl_own (az.map fun x=>(az.cons lcl_val az.nil))) (az.cons lcl_val (az.cons lcl_val az.nil))))) fun uu921 cp921 jk921 hlD921 hcp921 hjk921=>?_
 rw [aO] at hlD921 hcp921 hjk921
 refine fV (d:=921) aj (ow (k:=k) hk) ?_
 have hA921:=rL (f:=(nH ak)) (e:=4) (xs:=s.ac7[i]) (k:=k) (fun _=>rfl) (Nat.le_of_lt hk)
 refine sO [(2,_),(3,_),(4,_),(5,_),(6,_),(7,_),(8,_),(9,_),(2920,_),(2921,_)] [(2,_),(3,_),(4,_),(6,_),(920,(114,_++([val _]++_))),(921,(116,_++(gG++_)))] ?_
 refine dr ?_
 refine dA 0 ?_ (x:=lF nQ)
 refine dA 1 ?_ (x:=lD [val _] nU)
 refine jy ?_
 refine dA 7 ?_ (x:=pT (k:=i) (G:=2920) ae iN au ab (by first|(rw [aO];exact hi)|exact hi))
 refine dA 15 ?_ (x:=At (o:=0) (qs:=[val _]) ab ae nS (fun _=>rfl) aH zM zJ)
 refine jy ?_
 refine dA 0 ?_ (x:=lF kS)
 refine dA 64 ?_ (x:=lD [val _] bB)
 refine dA 255 ?_ (x:=pT (k:=k) (G:=2921) ae iM au ab (by first|(rw [aO];exact hk)|exact hk))
 refine dA 511 ?_ (x:=lF pp)
 refine dA 1023 ?_ (x:=uk (o:=3) (ag:=false) (vs:=[val _]) ab bB au aj aH)
 refine fV (d:=921) aj (rJ (ib (s.Now+1) s.ac7[i][k]) hk aj) ?_
 refine rI (d:=920) (D:=921) (G:=2921) (e:=4) (A:=_) (B:=[]++_) (es:=((s.ac7[i]).set k (ib (s.Now+1) s.ac7[i][k])).map (nH ak)) aj aj aj rfl tW pJ (by rw [aO];exact hjk921) ?_
 refine fV (d:=920) aj (rJ (s.ac7[i].set k (ib (s.Now+1) s.ac7[i][k])) hi aj) ?_
 refine rI (d:=6) (D:=920) (G:=2920) (e:=1) (A:=[]) (B:=[val _]) (es:=((s.ac7).set i (s.ac7[i].set k (ib (s.Now+1) s.ac7[i][k]))).map (be bJ ak)) aj aj aj rfl tW pJ (by rw [aO];exact hjk920) ?_
 refine sO [(2,_),(3,_),(4,_),(5,_),(6,_),(7,_),(8,_),(9,_)] [(2,_),(3,_),(4,_),(6,(41,dE))] ?_
 refine bh ?_
 refine xM ?_
 refine rM ?_
 refine rA ?_ (x:=bT (k:=i) ae iN au ab (by exact iu hi rfl) aj)
 refine rA ?_ (x:=lE [sl (.lo _) _] nS)
 refine rM ?_
 refine rA ?_ (x:=bT (k:=k) ae iM au ab (by exact iu hk rfl) aj)
 refine rA ?_ (x:=lg ae DV aH)
 refine rA ?_ (x:=lE [sl (.lo _) _] ek)
 refine Lv ?_
 exact IZ
 have hge:¬0≤bX s u.Row.Id:=ab
 obtain ⟨hu1,hu2⟩:=lQ hge
 refine bd ?_
 exact IZ
end Go.Proofs.YtmekkgdboplbjaaGreatDoor
