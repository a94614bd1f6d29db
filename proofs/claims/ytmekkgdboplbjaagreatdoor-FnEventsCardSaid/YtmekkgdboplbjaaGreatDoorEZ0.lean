/- What functions of the program compute. No condition. -/
import Derived.Test.YtmekkgdboplbjaaGreatDoorEY0
set_option linter.all false
namespace Go.Proofs.YtmekkgdboplbjaaGreatDoor
open Go Go.RowKit M PV Tryz
set_option maxRecDepth 10000
attribute [local irreducible] PV.Lcl PV.LclR RV.Lcl
set_option maxHeartbeats 8000000
def ajA:eA prog 116=some [(0,1),(1,1),(2,1),(3,1)]:=ao
def ajB:prog.underlying 4=some .bool:=ao
def asu{p1 p2:Fl}{s:Store}{id:Int}(hb:cg s≤68719476736):aQ prog 248 [(true,[sl .v (s.ax2.map (aO p1 p2)),val (vI s.Now)]),(false,[val (vI id)])] (aB [(false,[val (vI (cF s id))]),(false,[val (vI (oT s id))])]):=by
 refine sF func248 fun h0 w0 Fz0=>?_
 refine sn 0 0 fun hl0_0=>?_
 have hbu:=hb
 simp only [cg,iy,bo] at hbu
 refine kN ?_
 refine rK ?_
 refine iv ?_
 refine sT [1,2,4,5] [2] ?_
 refine mP ?_
 refine fK ?_
 refine sP [1,2,4,5,11,12,13] [2] ?_
 refine sL [1,2,11,12] [2] (fun i:Nat=>i≤s.ax2.length∧(s.ax2.take i).any (jO id)=false) (fun i:Nat=>[(13,RV.int (i:Int))]) (fun i:Nat=>[]) (fun i:Nat=>s.ax2.length - i) 0 gF bp an ?_
 rintro i ⟨hi,ha⟩
 refine cY ?_
 refine sc ?_ ?_<;>intro hba
 have hlt:i < s.ax2.length:=ab
 have hwm:=fg (f:=dv) hlt
 have hws:dv s.ax2[i]=s.ax2[i].length+(s.ax2[i].map dV).sum:=rfl
 refine bv ?_
 refine sT [1,2,11,12,13] [2] ?_
 refine rM ?_
 refine yV ?_
 refine rS ?_
 refine rA ?_ (x:=vA false [sl .v _])
 refine sS [1,2,6,7,11,12,13] [2] ?_
 refine zK ?_
 refine sP [1,2,6,7,11,12,13,18,19,20] [2] ?_
 refine sL [1,2,6,7,11,12,13,18,19] [2] (fun j:Nat=>j≤s.ax2[i].length∧(s.ax2[i].take j).any (kX id)=false) (fun j:Nat=>[(20,RV.int (j:Int))]) (fun j:Nat=>[]) (fun j:Nat=>s.ax2[i].length - j) 0 gF bp an ?_
 rintro j ⟨hj,hc⟩
 refine cY ?_
 refine sc ?_ ?_<;>intro hbb
 have hlt2:j < s.ax2[i].length:=ab
 refine bv ?_
 refine sT [1,2,6,7,11,12,13,18,19,20] [2] ?_
 refine rM ?_
 refine Hk ?_
 refine IL ?_
 refine rS ?_
 refine Qy ?_
 refine aU ?_
 refine sO [(1,_),(2,_),(6,_),(7,_),(8,_),(9,_),(11,_),(12,_),(13,_),(18,_),(19,_),(20,_)] [(2,_),(9,(116,fe))] ?_
 refine aY ?_
 refine uz ?_
 refine rM ?_
 refine iw ?_
 refine cx 29 ?_ ?_<;>intro ga sga
 refine rB ga ?_ (x:=lF ku)
 refine Oc ?_
 refine sc ?_ ?_<;>intro hbc
 have hyy:kX id s.ax2[i][j]=true:=Ez
 have hfa:=aib hlt ha hlt2 hc hyy
 refine sS [1,2,6,7,8,9,11,12,13,18,19,20] [2,9] ?_
 exact Zk
 exact Zm
 refine rf ?_
 exact Zm
 have hno1:jO id s.ax2[i]=false:=Vf
 refine bI ?_
 refine sH [1,2,6,7,11,12,13,18,19,20] [2] ?_
 refine dI ?_
 exact Zn
 have hend:i=s.ax2.length:=ab
 have hfn:=aic (s:=s) (id:=id) ED
 refine bI ?_
 refine sT [1,2,11,12,13] [2] ?_
 exact Zo
def asv{p1 p2:Fl}{s:Store}{id:Int}(hb:cg s≤68719476736):aQ prog 255 [(true,[sl .v (s.ax2.map (aO p1 p2)),val (vI s.Now)]),(false,[val (vI id)])] (aB [(false,[val (vI (cF s id))]),(false,[val (vI (oT s id))])]):=by
 refine sF func255 fun h0 w0 Fz0=>?_
 refine sn 0 0 fun hl0_0=>?_
 have hbu:=hb
 simp only [cg,iy,bo] at hbu
 refine kN ?_
 refine rK ?_
 refine iv ?_
 refine sT [1,2,4,5] [2] ?_
 refine cl ?_
 refine sP [1,2,4,5,6] [2] ?_
 refine sL [1,2] [2] (fun i:Nat=>i≤s.ax2.length∧(s.ax2.take i).any (jO id)=false) (fun i:Nat=>[(6,RV.int (i:Int))]) (fun i:Nat=>[]) (fun i:Nat=>s.ax2.length - i) 0 gF bp an ?_
 rintro i ⟨hi,ha⟩
 refine zJ ?_
 refine sc ?_ ?_<;>intro hba
 have hlt:i < s.ax2.length:=ab
 have hwm:=fg (f:=dv) hlt
 have hws:dv s.ax2[i]=s.ax2[i].length+(s.ax2[i].map dV).sum:=rfl
 refine bv ?_
 refine sT [1,2,6] [2] ?_
 refine cl ?_
 refine sP [1,2,6,7] [2] ?_
 refine sL [1,2,6] [2] (fun j:Nat=>j≤s.ax2[i].length∧(s.ax2[i].take j).any (kX id)=false) (fun j:Nat=>[(7,RV.int (j:Int))]) (fun j:Nat=>[]) (fun j:Nat=>s.ax2[i].length - j) 0 gF bp an ?_
 rintro j ⟨hj,hc⟩
 refine cP ?_
 refine sV ?_
 refine rM ?_
 refine yV ?_
 refine Qi ?_
 refine sc ?_ ?_<;>intro hbb
 have hlt2:j < s.ax2[i].length:=ab
 refine bv ?_
 refine sT [1,2,6,7] [2] ?_
 refine sV ?_
 refine rM ?_
 refine yV ?_
 refine rM ?_
 refine QA ?_
 refine zqv ?_
 refine rM ?_
 refine iw ?_
 refine cx 36 ?_ ?_<;>intro ga sga
 refine Po ?_
 refine gN ?_
 refine rB ga ?_ (x:=aZ aj gB an ak bE ak)
 refine rB ga ?_ (x:=lE [sl .v _] jS)
 refine gN ?_
 refine rB ga ?_ (x:=aZ aj dq an ak bE ak)
 refine rB ga ?_ (x:=cR aj ku az)
 refine rB ga ?_ (x:=lE [val _] bb)
 refine wB ?_
 refine sc ?_ ?_<;>intro hbc
 have hyy:kX id s.ax2[i][j]=true:=Ez
 have hfa:=aib hlt ha hlt2 hc hyy
 refine sS [1,2,6,7] [2] ?_
 exact Zk
 exact Zp
 refine rf ?_
 exact Zp
 have hno1:jO id s.ax2[i]=false:=Vf
 refine bI ?_
 refine sH [1,2,6,7] [2] ?_
 refine cB ?_
 exact Zn
 have hend:i=s.ax2.length:=ab
 have hfn:=aic (s:=s) (id:=id) ED
 refine bI ?_
 refine sT [1,2,6] [2] ?_
 exact Zo
def asw{p1 p2:Fl}{s:Store}(hb:cg s≤68719476736):aQ prog 256 [(true,[sl .v (s.ax2.map (aO p1 p2)),val (vI s.Now)])] (aB [(false,[val (vI (jP s.ax2))])]):=by
 refine sF func256 fun h0 w0 Fz0=>?_
 refine sn 0 0 fun hl0_0=>?_
 have hbu:=hb
 simp only [cg,iy,bo] at hbu
 refine kN ?_
 refine ma ?_
 refine CM ?_
 refine sL [1] [1] (fun k:Nat=>k≤s.ax2.length∧(s.ax2.take k).any jx=false) (fun k:Nat=>[(3,RV.int (k:Int))]) (fun k:Nat=>[]) (fun k:Nat=>s.ax2.length - k) 0 gF bp an ?_
 rintro k ⟨hk,ha⟩
 refine zJ ?_
 refine sc ?_ ?_<;>intro hba
 have hlt:k < s.ax2.length:=ab
 have hwm:=fg (f:=dv) hlt
 have hws:dv s.ax2[k]=s.ax2[k].length+(s.ax2[k].map dV).sum:=rfl
 refine bv ?_
 refine sT [1,3] [1] ?_
 refine sV ?_
 refine rM ?_
 refine yV ?_
 refine Qi ?_
 refine sc ?_ ?_<;>intro hbb
 have hy:jx s.ax2[k]=true:=by unfold jx;simpa using hbb
 have hra:=aid hlt ha hy
 refine sS [1,3] [1] ?_
 refine rM ?_
 refine db ?_
 exact (aI (by refine cX ?_;rw [hra]) tI)
 have hno1:jx s.ax2[k]=false:=by unfold jx;simpa using hbb
 refine CN ?_
 refine cB ?_
 refine nx (k+1) VJ
 have hend:k=s.ax2.length:=ab
 have hrn:=aie ED
 refine Iv ?_
 refine ca ?_
 exact (aI (by refine cX ?_;rw [hrn]) tI)
def asx{p1 p2:Fl}{s:Store}{u:ax6}(hb:cg s≤68719000000)(hbu0:mR u≤68719000000):aQ prog 201 [(true,[sl .v (s.ax2.map (aO p1 p2)),val (vI s.Now)]),(true,[val (vI u.Kind),val (vI u.Row.Id),sl .v (u.Row.Values.map ar),val (vI u.Field),val (vI u.Value)])] (aB [(true,[sl bH ((eI s u).1.ax2.map (aO bc ai)),val (vI (eI s u).1.Now)]),(false,[val (.bool (eI s u).2)])]):=by
 refine pm (largs:=fun L=>[(true,[sl (.lo L) (s.ax2.map (aO (.lo L) (.lo L))),val (vI s.Now)]),(true,[val (vI u.Kind),val (vI u.Row.Id),sl (.lo L) (u.Row.Values.map ar),val (vI u.Field),val (vI u.Value)])]) (rs:=[(true,[sl bH ((eI s u).1.ax2.map (aO bc ai)),val (vI (eI s u).1.Now)]),(false,[val (.bool (eI s u).2)])]) func201 rfl (nl rfl) (fun L=>by exact (aI (aI rfl (am.cons (aT (fun _=>nl rfl) (fun _=>(am.cons (aT (fun _=>nl rfl) (fun _=>(am.cons ay (am.cons (aT (fun _=>nl rfl) (fun _=>(am.cons ay am.nil))) (am.cons ay (am.cons ay am.nil)))))) am.nil))) (am.cons ay am.nil))) (aI (aI rfl (am.cons ay (am.cons ay (am.cons (aT (fun _=>nl rfl) (fun _=>(am.cons ay am.nil))) (am.cons ay (am.cons ay am.nil)))))) tI))) (fun L=>by exact lq) ?_
 intro w0 Fz0
 refine sn 0 0 fun hl0_0=>?_
 refine sn 1 2 fun hl1_2=>?_
 have hbu:=hb
 simp only [cg,iy,bo] at hbu
 have hbv:=hbu0
 simp only [mR,jr,gj,bo] at hbv
 have hvl2:=aih s u
 have hul:=Ax s u
 refine zqx ?_
 refine zqy ?_
 refine OM ?_
 refine oz ?_
 refine zqz ?_
 refine zpq ?_
 refine fp ?_
 refine cx 17 ?_ ?_<;>intro ga sga
 refine jH ?_
 refine au.cases (s:=22) rfl (fun g2=>?_) (fun g2=>nomatch g2)
 exact Zr
 refine rB ga ?_ (x:=lD [val _,val _,sl (.lo _) _,val _,val _] kq)
 refine rB ga ?_ (x:=cL [(true,[val _,val _,sl (.lo _) _,val _,val _])] [(true,gK)] QY (hs:=by exact RY))
 refine CS ?_
 refine cx 22 ?_ ?_<;>intro gb sgb
 exact Zs
 refine rB gb ?_ (x:=lF lG)
 refine wF ?_
 refine pI ?_
 refine sc ?_ ?_<;>intro hba
 exact GA
 have hos:cN s=true:=dO
 have hou:dK u=true:=dO
 obtain ⟨hs8,hs1,hn0,hn1,hs4,hver⟩:=pX hos
 have hnw:s.Now < 100000:=kc
 refine PZ ?_
 refine Dh ?_
 refine ta ?_
 refine ff ?_
 refine rA ?_ (x:=cL [(true,[sl (.lo _) _,val _]),(false,[val _])] [(true,eh),(false,[val _])] aql (hs:=by exact (asu ab)))
 refine wH ?_
 refine rS ?_
 refine eU ?_
 refine IN ?_
 refine rM ?_
 refine rA ?_ (x:=kJ)
 refine CT ?_
 refine rA ?_ (x:=LS aj ajB an an)
 refine sc ?_ ?_<;>intro hbb
 have hno:kt s u=false:=by rw [←Bool.not_eq_true];intro hc_;obtain ⟨h1_,h2_,h3_,h4_,h5_⟩:=xL hc_;have hh_:=hbb;by_cases h1:0≤cF s u.Row.Id<;>by_cases h2:u.Kind=1<;>simp_all [GE.ge]
 refine IN ?_
 exact MT
 have hkd:0≤cF s u.Row.Id↔¬u.Kind=1:=by have h_:=hbb;by_cases h1:0≤cF s u.Row.Id<;>by_cases h2:u.Kind=1<;>simp_all [GE.ge]
 refine ba ?_
 refine IN ?_
 refine tt ?_
 refine sZ ?_
 refine tt ?_
 refine mN ?_
 refine sO [(2,_),(3,_),(4,_),(5,_),(6,_),(7,_),(8,_)] [(2,_),(3,_),(4,_),(6,(41,bW))] ?_
 refine aY ?_
 refine uP ?_
 refine xi ?_
 refine rA ?_ (x:=lD [sl (.lo _) _] cW)
 refine zrb ?_
 refine oD ?_
 refine zY ?_
 refine rM ?_
 refine rA ?_ (x:=kJ)
 refine sc ?_ ?_<;>intro hbc
 have hge:0≤cF s u.Row.Id:=ab
 obtain ⟨i,k,hi,hk,hfi,hfk,hal⟩:=tR hge
 obtain ⟨hu1,hu2⟩:=qa hi hk hfi hfk
 have hwm:=fg (f:=dv) hi
 have hws:dv s.ax2[i]=s.ax2[i].length+(s.ax2[i].map dV).sum:=rfl
 have hwm2:=fg (f:=dV) hk
 have hwv:dV s.ax2[i][k]=s.ax2[i][k].Values.length:=yp
 refine aU ?_
 refine zZ ?_
 refine lV (d:=6) (t:=41) (D:=920) (G:=2920) (E:=114) (e:=1) (L:=(Lw w0.heap.size)) (A:=[]) (B:=[val _]) (es:=(s.ax2).map (aO bc ai)) ak (kd hi) ak ak rfl ak (fun x hx=>hx) bg bg vS ky (ax.map fun x=>(ax.cons (lcl_own (ax.map fun x=>(ax.cons lcl_val (ax.cons (lcl_own (ax.map fun x=>(ax.cons lcl_val ax.nil))) (ax.cons lcl_val (ax.cons lcl_val ax.nil)))))) ax.nil)) fun uu920 cp920 jk920 hlD920 hcp920 hjk920=>?_
 rw [bf] at hlD920 hcp920 hjk920
 refine QB ?_
 have hA920:=lp (f:=(aO bc ai)) (e:=1) (xs:=s.ax2) (k:=i) (fun _=>rfl) (Nat.le_of_lt hi)
 refine sO [(2,_),(3,_),(4,_),(5,_),(6,_),(7,_),(8,_),(9,_),(2920,_)] [(2,_),(3,_),(4,_),(6,(41,lr)),(920,(114,_++([sl _ _]++_)))] ?_
 refine lV (d:=920) (t:=114) (D:=921) (G:=2921) (E:=116) (e:=4) (L:=(Lw w0.heap.size)) (A:=_) (B:=[]++_) (es:=(s.ax2[i]).map (gG ai)) ak (kd hk) ak ak rfl ak (fun x hx=>hx) bg bg ky ky (ax.map fun x=>(ax.cons lcl_val (ax.cons (lcl_own (ax.map fun x=>(ax.cons lcl_val ax.nil))) (ax.cons lcl_val (ax.cons lcl_val ax.nil))))) fun uu921 cp921 jk921 hlD921 hcp921 hjk921=>?_
 rw [bf] at hlD921 hcp921 hjk921
 refine QC ?_
 have hA921:=lp (f:=(gG ai)) (e:=4) (xs:=s.ax2[i]) (k:=k) (fun _=>rfl) (Nat.le_of_lt hk)
 refine sO [(2,_),(3,_),(4,_),(5,_),(6,_),(7,_),(8,_),(9,_),(2920,_),(2921,_)] [(2,_),(3,_),(4,_),(6,_),(920,(114,_++([val _]++_))),(921,(116,_++(fe++_)))] ?_
 refine cC ?_
 refine CV ?_
 refine NM ?_
 refine Qc ?_
 refine Ol ?_
 refine Oy ?_
 refine NB ?_
 refine NA ?_
 refine zrn ?_
 refine aY ?_
 refine Cs ?_
 refine OQ ?_
 refine rA ?_ (x:=lE [sl (.lo _) _] jS)
 refine rM ?_
 refine On ?_
 refine rA ?_ (x:=lE [sl (.lo _) _] cW)
 refine zrb ?_
 refine dJ ?_
 exact Zu
 have hge:¬0≤cF s u.Row.Id:=ab
 obtain ⟨hu1,hu2⟩:=tS hge
 refine ba ?_
 exact Zu
def ajC{p1 p2:Fl}{s:Store}{u:ax6}(hb:cg s≤68719000000)(hbu0:mR u≤68719000000):aQ prog 204 [(true,[sl .v (s.ax2.map (aO p1 p2)),val (vI s.Now)]),(true,[val (vI u.Kind),val (vI u.Row.Id),sl .v (u.Row.Values.map ar),val (vI u.Field),val (vI u.Value)])] (aB [(true,[sl bH ((eI s u).1.ax2.map (aO bc ai)),val (vI (eI s u).1.Now)]),(false,[val (.bool (eI s u).2)])]):=by
 refine pm (largs:=fun L=>[(true,[sl (.lo L) (s.ax2.map (aO (.lo L) (.lo L))),val (vI s.Now)]),(true,[val (vI u.Kind),val (vI u.Row.Id),sl (.lo L) (u.Row.Values.map ar),val (vI u.Field),val (vI u.Value)])]) (rs:=[(true,[sl bH ((eI s u).1.ax2.map (aO bc ai)),val (vI (eI s u).1.Now)]),(false,[val (.bool (eI s u).2)])]) func204 rfl (nl rfl) (fun L=>by exact (aI (aI rfl (am.cons (aT (fun _=>nl rfl) (fun _=>(am.cons (aT (fun _=>nl rfl) (fun _=>(am.cons ay (am.cons (aT (fun _=>nl rfl) (fun _=>(am.cons ay am.nil))) (am.cons ay (am.cons ay am.nil)))))) am.nil))) (am.cons ay am.nil))) (aI (aI rfl (am.cons ay (am.cons ay (am.cons (aT (fun _=>nl rfl) (fun _=>(am.cons ay am.nil))) (am.cons ay (am.cons ay am.nil)))))) tI))) (fun L=>by exact lq) ?_
 intro w0 Fz0
 refine sn 0 0 fun hl0_0=>?_
 refine sn 1 2 fun hl1_2=>?_
 have hbu:=hb
 simp only [cg,iy,bo] at hbu
 have hbv:=hbu0
 simp only [mR,jr,gj,bo] at hbv
 have hvl2:=aih s u
 have hul:=Ax s u
 refine zqx ?_
 refine zqy ?_
 refine zqc ?_
 refine oz ?_
 refine zqz ?_
 refine zqd ?_
 refine fp ?_
 refine cx 16 ?_ ?_<;>intro ga sga
 refine jH ?_
 refine au.cases (s:=21) rfl (fun g2=>?_) (fun g2=>nomatch g2)
 exact Zr
 refine rB ga ?_ (x:=lD [val _,val _,sl (.lo _) _,val _,val _] kq)
 refine rB ga ?_ (x:=cL [(true,[val _,val _,sl (.lo _) _,val _,val _])] [(true,gK)] QX (hs:=Li))
 refine CS ?_
 refine cx 21 ?_ ?_<;>intro gb sgb
 exact Zs
 refine rB gb ?_ (x:=lF lG)
 refine nK ?_
 refine rB gb ?_ (x:=kJ)
 refine pI ?_
 refine sc ?_ ?_<;>intro hba
 exact GA
 have hos:cN s=true:=dO
 have hou:dK u=true:=dO
 obtain ⟨hs8,hs1,hn0,hn1,hs4,hver⟩:=pX hos
 have hnw:s.Now < 100000:=kc
 refine PZ ?_
 refine Dh ?_
 refine ta ?_
 refine ff ?_
 refine rA ?_ (x:=cL [(true,[sl (.lo _) _,val _]),(false,[val _])] [(true,eh),(false,[val _])] aqr (hs:=by exact (asv ab)))
 refine uN ?_
 refine IN ?_
 refine Dh ?_
 refine rA ?_ (x:=cL [(true,[sl (.lo _) _,val _])] [(true,eh)] aqs (hs:=by exact (asw ab)))
 refine eU ?_
 refine zY ?_
 refine ux ?_
 refine iw ?_
 refine dQ ?_
 refine rA ?_ (x:=FS aj ajB an an)
 refine rM ?_
 refine cx 43 ?_ ?_<;>intro gc sgc
 refine xe ?_
 exact Zv
 refine rB gc ?_ (x:=lF Re)
 refine oL ?_
 refine Qj ?_
 refine cx 47 ?_ ?_<;>intro gd sgd
 refine rB gd ?_ (x:=sM)
 refine rB gd ?_ (x:=yG)
 refine Qd ?_
 refine sc ?_ ?_<;>intro hbb
 exact Zv
 have hkr:(0≤cF s u.Row.Id↔¬u.Kind=1)∧(u.Kind=2∨0≤jP s.ax2):=by by_cases h1:0≤cF s u.Row.Id<;>by_cases h2:u.Kind=1<;>by_cases h3:u.Kind=2<;>by_cases h4:0≤jP s.ax2<;>by_cases h6:cF s u.Row.Id < 0<;>(first|omega|(simp_all;done)|(simp_all;omega))
 obtain ⟨hkd,hrr⟩:=hkr
 have hok:=Ju hos hou hnw hkd hrr
 refine ba ?_
 refine zY ?_
 refine tt ?_
 refine sZ ?_
 refine tt ?_
 refine mN ?_
 refine zru ?_
 refine Ib ?_
 refine zrw ?_
 refine dA 16 ?_ (x:=lF va)
 refine zrx ?_
 refine PF ?_
 refine zrz ?_
 refine Hp ?_
 refine nH ?_
 refine rA ?_ (x:=kJ)
 refine sc ?_ ?_<;>intro hbc
 have hge:0≤cF s u.Row.Id:=ab
 obtain ⟨i,k,hi,hk,hfi,hfk,hal⟩:=tR hge
 obtain ⟨hu1,hu2⟩:=qa hi hk hfi hfk
 have hwm:=fg (f:=dv) hi
 have hws:dv s.ax2[i]=s.ax2[i].length+(s.ax2[i].map dV).sum:=rfl
 have hwm2:=fg (f:=dV) hk
 have hwv:dV s.ax2[i][k]=s.ax2[i][k].Values.length:=yp
 refine zs1 ?_
 refine sV ?_
 refine OQ ?_
 refine rA ?_ (x:=lE [sl .v _] jS)
 refine rM ?_
 refine On ?_
 refine GY ?_
 refine rA ?_ (x:=lF oU)
 refine zs2 ?_
 refine lV (d:=6) (t:=41) (D:=920) (G:=2920) (E:=114) (e:=1) (L:=(Lw w0.heap.size)) (A:=[]) (B:=[val _]) (es:=(s.ax2).map (aO bc ai)) ak (kd hi) ak ak rfl ak (fun x hx=>hx) bg bg vS ky (ax.map fun x=>(ax.cons (lcl_own (ax.map fun x=>(ax.cons lcl_val (ax.cons (lcl_own (ax.map fun x=>(ax.cons lcl_val ax.nil))) (ax.cons lcl_val (ax.cons lcl_val ax.nil)))))) ax.nil)) fun uu920 cp920 jk920 hlD920 hcp920 hjk920=>?_
 rw [bf] at hlD920 hcp920 hjk920
 refine QB ?_
 have hA920:=lp (f:=(aO bc ai)) (e:=1) (xs:=s.ax2) (k:=i) (fun _=>rfl) (Nat.le_of_lt hi)
 refine zs3 ?_
 refine lV (d:=920) (t:=114) (D:=921) (G:=2921) (E:=116) (e:=4) (L:=(Lw w0.heap.size)) (A:=_) (B:=[]++_) (es:=(s.ax2[i]).map (gG ai)) ak (kd hk) ak ak rfl ak (fun x hx=>hx) bg bg ky ky (ax.map fun x=>(ax.cons lcl_val (ax.cons (lcl_own (ax.map fun x=>(ax.cons lcl_val ax.nil))) (ax.cons lcl_val (ax.cons lcl_val ax.nil))))) fun uu921 cp921 jk921 hlD921 hcp921 hjk921=>?_
 rw [bf] at hlD921 hcp921 hjk921
 refine QC ?_
 have hA921:=lp (f:=(gG ai)) (e:=4) (xs:=s.ax2[i]) (k:=k) (fun _=>rfl) (Nat.le_of_lt hk)
 refine zs4 ?_
 refine CV ?_
 refine NM ?_
 refine Qc ?_
 refine Ol ?_
 refine Oy ?_
 refine NB ?_
 refine NA ?_
 refine zs5 ?_
 exact ZA
 have hge:¬0≤cF s u.Row.Id:=ab
 obtain ⟨hu1,hu2⟩:=tS hge
 refine dp ?_
 refine HF ?_
 exact ZA
 refine zf gd ?_
 refine Qe ?_
 refine gv ?_
 have hkr:(0≤cF s u.Row.Id↔¬u.Kind=1)∧(u.Kind=2∨0≤jP s.ax2):=by by_cases h1:0≤cF s u.Row.Id<;>by_cases h2:u.Kind=1<;>by_cases h3:u.Kind=2<;>by_cases h4:0≤jP s.ax2<;>by_cases h6:cF s u.Row.Id < 0<;>(first|omega|(simp_all;done)|(simp_all;omega))
 obtain ⟨hkd,hrr⟩:=hkr
 have hok:=Ju hos hou hnw hkd hrr
 refine ba ?_
 refine zY ?_
 refine tt ?_
 refine sZ ?_
 refine tt ?_
 refine mN ?_
 refine zru ?_
 refine Ib ?_
 refine zrw ?_
 refine dA 16 ?_ (x:=lF va)
 refine zrx ?_
 refine PF ?_
 refine zrz ?_
 refine Hp ?_
 refine nH ?_
 refine rA ?_ (x:=kJ)
 refine sc ?_ ?_<;>intro hbb
 have hge:0≤cF s u.Row.Id:=ab
 obtain ⟨i,k,hi,hk,hfi,hfk,hal⟩:=tR hge
 obtain ⟨hu1,hu2⟩:=qa hi hk hfi hfk
 have hwm:=fg (f:=dv) hi
 have hws:dv s.ax2[i]=s.ax2[i].length+(s.ax2[i].map dV).sum:=rfl
 have hwm2:=fg (f:=dV) hk
 have hwv:dV s.ax2[i][k]=s.ax2[i][k].Values.length:=yp
 refine zs1 ?_
 refine sV ?_
 refine OQ ?_
 refine rA ?_ (x:=lE [sl .v _] jS)
 refine rM ?_
 refine On ?_
 refine GY ?_
 refine rA ?_ (x:=lF oU)
 refine zs2 ?_
 refine lV (d:=6) (t:=41) (D:=920) (G:=2920) (E:=114) (e:=1) (L:=(Lw w0.heap.size)) (A:=[]) (B:=[val _]) (es:=(s.ax2).map (aO bc ai)) ak (kd hi) ak ak rfl ak (fun x hx=>hx) bg bg vS ky (ax.map fun x=>(ax.cons (lcl_own (ax.map fun x=>(ax.cons lcl_val (ax.cons (lcl_own (ax.map fun x=>(ax.cons lcl_val ax.nil))) (ax.cons lcl_val (ax.cons lcl_val ax.nil)))))) ax.nil)) fun uu920 cp920 jk920 hlD920 hcp920 hjk920=>?_
 rw [bf] at hlD920 hcp920 hjk920
 refine QB ?_
 have hA920:=lp (f:=(aO bc ai)) (e:=1) (xs:=s.ax2) (k:=i) (fun _=>rfl) (Nat.le_of_lt hi)
 refine zs3 ?_
 refine lV (d:=920) (t:=114) (D:=921) (G:=2921) (E:=116) (e:=4) (L:=(Lw w0.heap.size)) (A:=_) (B:=[]++_) (es:=(s.ax2[i]).map (gG ai)) ak (kd hk) ak ak rfl ak (fun x hx=>hx) bg bg ky ky (ax.map fun x=>(ax.cons lcl_val (ax.cons (lcl_own (ax.map fun x=>(ax.cons lcl_val ax.nil))) (ax.cons lcl_val (ax.cons lcl_val ax.nil))))) fun uu921 cp921 jk921 hlD921 hcp921 hjk921=>?_
 rw [bf] at hlD921 hcp921 hjk921
 refine QC ?_
 have hA921:=lp (f:=(gG ai)) (e:=4) (xs:=s.ax2[i]) (k:=k) (fun _=>rfl) (Nat.le_of_lt hk)
 refine zs4 ?_
 refine CV ?_
 refine NM ?_
 refine Qc ?_
 refine Ol ?_
 refine Oy ?_
 refine NB ?_
 refine NA ?_
 refine zs5 ?_
 exact ZC
 have hge:¬0≤cF s u.Row.Id:=ab
 obtain ⟨hu1,hu2⟩:=tS hge
 refine dp ?_
 refine HF ?_
 exact ZC
end Go.Proofs.YtmekkgdboplbjaaGreatDoor
