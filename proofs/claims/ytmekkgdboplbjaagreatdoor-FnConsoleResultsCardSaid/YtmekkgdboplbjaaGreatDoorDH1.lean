/- What functions of the program compute. No condition. -/
import Derived.Test.YtmekkgdboplbjaaGreatDoorDZ0
import Derived.Test.YtmekkgdboplbjaaGreatDoorDA1
import Derived.Test.YtmekkgdboplbjaaGreatDoorDB1
import Derived.Test.YtmekkgdboplbjaaGreatDoorDC1
import Derived.Test.YtmekkgdboplbjaaGreatDoorDE1
import Derived.Test.YtmekkgdboplbjaaGreatDoorDG1
set_option linter.all false
namespace Go.Proofs.YtmekkgdboplbjaaGreatDoor
open Go Go.RowKit M PV Tryz
set_option maxRecDepth 10000
attribute [local irreducible] PV.Lcl PV.LclR RV.Lcl
set_option maxHeartbeats 8000000
def XU{p1 p2 p5 p6 p7 p8 p9 p11 p12 p13 p14 p16 p17 p18:Fl}{e:ar}{n:Int}(hb:bw e≤68718000000):aS prog 119 [(true,[sl .v (e.Store.ac7.map (be p1 p2)),val (vI e.Store.Now),val (vI e.adc),sl .v (e.Order.map ax),sl .v (e.ac8.map (bz p5 p6 p7 p8 p9)),sl .v (e.Done.map (cn p11 p12 p13 p14)),sl .v (e.adl.map (cm p16 p17 p18)),val (vI e.Steps)]),(false,[val (vI n)])] (aJ [(true,[sl dg ((iL e n).Store.ac7.map (be bJ ak)),val (vI (iL e n).Store.Now),val (vI (iL e n).adc),sl ak ((iL e n).Order.map ax),sl fq ((iL e n).ac8.map (bz bb ak ak bc ak)),sl ft ((iL e n).Done.map (cn bb ak bc ak)),sl fu ((iL e n).adl.map (cm ak ak ak)),val (vI (iL e n).Steps)])]):=by
 refine sF func119 fun h0 w0 Fz0=>?_
 refine sn 0 0 fun hl0_0=>?_
 refine sn 0 3 fun hl0_3=>?_
 refine sn 0 4 fun hl0_4=>?_
 refine sn 0 5 fun hl0_5=>?_
 refine sn 0 6 fun hl0_6=>?_
 have hbu:=hb
 simp only [bw,jZ,mG,kJ] at hbu
 refine xP ?_
 refine sT [1,2,4] [2,4] ?_
 refine Bj ?_
 refine nA ?_
 refine eO ?_
 refine sO [(1,_),(2,_),(4,_),(5,_)] [(2,_),(4,_),(5,(46,bj))] ?_
 refine bh ?_
 refine iY ?_
 refine sP [1,2,4,5,6] [2,4,5] ?_
 refine sL [1,2,4,5] [2,4] (fun k:Nat=>k≤mW n) (fun k:Nat=>[(6,RV.int (k:Int))]) (fun k:Nat=>[(5,(46,[sl dg ((gP e k).Store.ac7.map (be bJ ak)),val (vI (gP e k).Store.Now),val (vI (gP e k).adc),sl ak ((gP e k).Order.map ax),sl fq ((gP e k).ac8.map (bz bb ak ak bc ak)),sl ft ((gP e k).Done.map (cn bb ak bc ak)),sl fu ((gP e k).adl.map (cm ak ak ak)),val (vI (gP e k).Steps)]))]) (fun k:Nat=>mW n - k) 0 ab cb cb ?_
 rintro k hk
 have hrw:=DC e k
 have hrl:=NK n
 refine sa ?_
 refine fv ?_
 refine sx ?_
 refine cx 12 (fun ga sga=>?_) (fun ga sga=>?_)
 refine Cv ?_
 refine jx ?_
 refine sc ?_ ?_<;>intro hba
 have hlt:k < mW n:=by unfold mW;first|omega|(simp_all;omega)
 refine bA ?_
 refine sH [1,2,4,5,6] [2,4,5] ?_
 refine oP ?_
 refine rA ?_ (x:=cL [(true,bj)] [(true,fb)] Wo (hs:=by exact (XQ (e:=gP e k) ab)))
 refine bW ?_
 refine Lb ?_
 refine sO [(1,_),(2,_),(4,_),(5,_),(6,_)] [(2,_),(4,_),(5,(46,bj))] ?_
 refine bh ?_
 refine jV ?_
 refine nx (k+1) ab (e:=oj)
 exact Jj
 refine iA ?_
 refine fW ?_
 exact Jj
def XV{p1 p2 p5 p6 p7 p8 p9 p11 p12 p13 p14 p16 p17 p18:Fl}{e:ar}{u:adb}(hb:bw e≤68718000000)(hbu0:iB u≤68718000000):aS prog 118 [(true,[sl .v (e.Store.ac7.map (be p1 p2)),val (vI e.Store.Now),val (vI e.adc),sl .v (e.Order.map ax),sl .v (e.ac8.map (bz p5 p6 p7 p8 p9)),sl .v (e.Done.map (cn p11 p12 p13 p14)),sl .v (e.adl.map (cm p16 p17 p18)),val (vI e.Steps)]),(true,[val (vI u.Kind),val (vI u.Row.Id),sl .v (u.Row.Values.map ax),val (vI u.Field),val (vI u.Value)])] (aJ [(true,[sl dg ((dy e u).1.Store.ac7.map (be bJ ak)),val (vI (dy e u).1.Store.Now),val (vI (dy e u).1.adc),sl ak ((dy e u).1.Order.map ax),sl fq ((dy e u).1.ac8.map (bz bb ak ak bc ak)),sl ft ((dy e u).1.Done.map (cn bb ak bc ak)),sl fu ((dy e u).1.adl.map (cm ak ak ak)),val (vI (dy e u).1.Steps)]),(false,[val (.bool (dy e u).2)])]):=by
 refine uj (largs:=fun L=>[(true,[sl (.lo L) (e.Store.ac7.map (be (.lo L) (.lo L))),val (vI e.Store.Now),val (vI e.adc),sl (.lo L) (e.Order.map ax),sl (.lo L) (e.ac8.map (bz (.lo L) (.lo L) (.lo L) (.lo L) (.lo L))),sl (.lo L) (e.Done.map (cn (.lo L) (.lo L) (.lo L) (.lo L))),sl (.lo L) (e.adl.map (cm (.lo L) (.lo L) (.lo L))),val (vI e.Steps)]),(true,[val (vI u.Kind),val (vI u.Row.Id),sl (.lo L) (u.Row.Values.map ax),val (vI u.Field),val (vI u.Value)])]) (rs:=[(true,[sl dg ((dy e u).1.Store.ac7.map (be bJ ak)),val (vI (dy e u).1.Store.Now),val (vI (dy e u).1.adc),sl ak ((dy e u).1.Order.map ax),sl fq ((dy e u).1.ac8.map (bz bb ak ak bc ak)),sl ft ((dy e u).1.Done.map (cn bb ak bc ak)),sl fu ((dy e u).1.adl.map (cm ak ak ak)),val (vI (dy e u).1.Steps)]),(false,[val (.bool (dy e u).2)])]) func118 rfl (nl rfl) (fun L=>by exact (aI (aI rfl (ao.cons (bm (fun _=>nl rfl) (fun _=>(ao.cons (bm (fun _=>nl rfl) (fun _=>(ao.cons aG (ao.cons (bm (fun _=>nl rfl) (fun _=>(ao.cons aG ao.nil))) (ao.cons aG (ao.cons aG ao.nil)))))) ao.nil))) (ao.cons aG (ao.cons aG (ao.cons (bm (fun _=>nl rfl) (fun _=>(ao.cons aG ao.nil))) (ao.cons (bm (fun _=>nl rfl) (fun _=>(ao.cons aG (ao.cons aG (ao.cons (bm (fun _=>nl rfl) (fun _=>(ao.cons aG (ao.cons aG (ao.cons aG ao.nil))))) (ao.cons (bm (fun _=>nl rfl) (fun _=>(ao.cons aG ao.nil))) (ao.cons aG (ao.cons (bm (fun _=>nl rfl) (fun _=>(ao.cons aG ao.nil))) (ao.cons aG (ao.cons aG (ao.cons aG (ao.cons (bm (fun _=>nl rfl) (fun _=>(ao.cons aG (ao.cons (bm (fun _=>nl rfl) (fun _=>(ao.cons aG ao.nil))) ao.nil)))) ao.nil)))))))))))) (ao.cons (bm (fun _=>nl rfl) (fun _=>(ao.cons aG (ao.cons aG (ao.cons (bm (fun _=>nl rfl) (fun _=>(ao.cons aG (ao.cons aG (ao.cons aG ao.nil))))) (ao.cons (bm (fun _=>nl rfl) (fun _=>(ao.cons aG ao.nil))) (ao.cons aG (ao.cons aG (ao.cons (bm (fun _=>nl rfl) (fun _=>(ao.cons aG (ao.cons (bm (fun _=>nl rfl) (fun _=>(ao.cons aG ao.nil))) ao.nil)))) ao.nil))))))))) (ao.cons (bm (fun _=>nl rfl) (fun _=>(ao.cons aG (ao.cons aG (ao.cons (bm (fun _=>nl rfl) (fun _=>(ao.cons aG ao.nil))) (ao.cons (bm (fun _=>nl rfl) (fun _=>(ao.cons aG ao.nil))) (ao.cons (bm (fun _=>nl rfl) (fun _=>(ao.cons aG ao.nil))) ao.nil))))))) (ao.cons aG ao.nil))))))))) (aI (aI rfl (ao.cons aG (ao.cons aG (ao.cons (bm (fun _=>nl rfl) (fun _=>(ao.cons aG ao.nil))) (ao.cons aG (ao.cons aG ao.nil)))))) tI))) (fun L=>by exact lq) ?_
 intro w0 Fz0
 refine sn 0 0 fun hl0_0=>?_
 refine sn 0 3 fun hl0_3=>?_
 refine sn 0 4 fun hl0_4=>?_
 refine sn 0 5 fun hl0_5=>?_
 refine sn 0 6 fun hl0_6=>?_
 refine sn 1 2 fun hl1_2=>?_
 have hbu:=hb
 simp only [bw,jZ,mG,kJ] at hbu
 have haw:=NL e.Store u
 have hww:=NM e u
 refine BA ?_
 refine Mj ?_
 refine xQ ?_
 refine sO [(2,_),(3,_),(4,_),(5,_)] [(2,(46,[sl (.lo _) _,val _,val _,sl (.lo _) _,sl (.lo _) _,sl (.lo _) _,sl (.lo _) _,val _])),(3,(29,[val _,val _,sl (.lo _) _,val _,val _])),(4,(46,bj))] ?_
 refine Bn ?_
 refine nA ?_
 refine aU ?_
 refine sO [(2,_),(3,_),(4,_),(5,_),(6,_)] [(2,_),(3,_),(4,_),(6,(46,bj))] ?_
 refine bh ?_
 refine lB ?_
 refine uY ?_
 refine rA ?_ (x:=lD [val _,val _,sl (.lo _) _,val _,val _] nK)
 refine rA ?_ (x:=cL [(true,[sl (.lo _) _,val _]),(true,[val _,val _,sl (.lo _) _,val _,val _])] [(true,gW),(true,jQ)] Wn (hs:=by exact (XN ab ab)))
 refine bW ?_
 refine Bi ?_
 refine rV ?_
 refine oM ?_
 refine sO [(2,_),(3,_),(4,_),(5,_),(6,_),(7,_),(8,_)] [(2,_),(3,_),(4,_),(6,_),(7,(41,dE))] ?_
 refine uy ?_
 refine Bo ?_
 refine cx 21 (fun ga sga=>?_) (fun ga sga=>?_)
 refine jT ?_
 exact Jk
 refine gv ?_
 refine oE ?_
 refine sc ?_ ?_<;>intro hba
 exact Jk
 have hok:(aP e&&(dw e.Store u).2)=true:=Ge
 refine bd ?_
 refine sS [2,3,4,5,6,7,8] [2,3,4,6,7] ?_
 refine rA ?_ (x:=fa (ms:=dE) (qs:=[any,val _]) ae gy (fun h=>nomatch h) aH aj (by exact (aA.cons PV.to_any (aD aA.nil))) (by exact (aB.cons (bor_any) (aB.cons (bor_val _) aB.nil))))
 refine Lq ?_
 refine aU ?_
 refine sO [(2,_),(3,_),(4,_),(5,_),(6,_),(7,_),(8,_)] [(2,_),(3,_),(4,_),(6,(46,bj)),(7,(41,[any,val _]))] ?_
 refine As ?_
 refine wA ?_ (x:=fa (ms:=bj) (qs:=[any,val _,val _,any,any,any,any,val _]) ae dl (fun h=>nomatch h) aH aj zE bn)
 refine wO [(2,_),(3,_),(4,_),(5,_),(6,_),(7,_),(8,_),(28,_)] [(2,_),(3,_),(4,_),(6,(46,[any,val _,val _,any,any,any,any,val _])),(7,_)] ?_
 refine Az (L:=(Lw w0.heap.size)) (qs:=[(true,bj)]) (as_:=[(true,bj)]) ae DK zL eW ae bn (by exact (El (e:=kg e (dw e.Store u).1) ab)) (fun x hx=>hx) bn bn ?_
 refine wA ?_ (x:=bZ (ag:=true) (vs:=bj) dl au aj aH)
 refine wA ?_ (x:=kA)
 refine Ar ?_
 refine cv ?_
 exact (ba 4 (ba _ (aI aj (aI (by refine cV ?_;rw [yN hok];exact rfl) (aI dl (aI (fun h=>nomatch h) (aI (by refine dh ?_;rw [yN hok]) tI)))))))
def XW{p1 p2 p5 p6 p7 p8 p9 p11 p12 p13 p14 p16 p17 p18:Fl}{e:ar}{x:bR}(hb:bw e≤68710000000)(hx:yo x≤68710000000):aS prog 44 [(true,[sl .v (e.Store.ac7.map (be p1 p2)),val (vI e.Store.Now),val (vI e.adc),sl .v (e.Order.map ax),sl .v (e.ac8.map (bz p5 p6 p7 p8 p9)),sl .v (e.Done.map (cn p11 p12 p13 p14)),sl .v (e.adl.map (cm p16 p17 p18)),val (vI e.Steps)]),(true,[val (vI x.Kind),val (vI x.ac9.Id),val (vI x.ac9.ade),sl .v (x.ac9.ada.map bU),sl .v (x.ac9.Out.map ax),val (vI x.Limit),val (vI x.Id),val (vI x.adb.Kind),val (vI x.adb.Row.Id),sl .v (x.adb.Row.Values.map ax),val (vI x.adb.Field),val (vI x.adb.Value),val (vI x.Steps)])] (aJ [(true,[sl dg ((bC e x).1.Store.ac7.map (be bJ ak)),val (vI (bC e x).1.Store.Now),val (vI (bC e x).1.adc),sl ak ((bC e x).1.Order.map ax),sl fq ((bC e x).1.ac8.map (bz bb ak ak bc ak)),sl ft ((bC e x).1.Done.map (cn bb ak bc ak)),sl fu ((bC e x).1.adl.map (cm ak ak ak)),val (vI (bC e x).1.Steps)]),(false,[val (.bool (bC e x).2)])]):=by
 refine sF func44 fun h0 w0 Fz0=>?_
 refine sn 0 0 fun hl0_0=>?_
 refine sn 0 3 fun hl0_3=>?_
 refine sn 0 4 fun hl0_4=>?_
 refine sn 0 5 fun hl0_5=>?_
 refine sn 0 6 fun hl0_6=>?_
 refine sn 1 3 fun hl1_3=>?_
 refine sn 1 4 fun hl1_4=>?_
 refine sn 1 9 fun hl1_9=>?_
 have hbu:=hb
 simp only [bw,jZ,mG,kJ] at hbu
 have hbx:=hx
 simp only [yo,aX] at hbx
 refine oB ?_
 refine Mp ?_
 refine xQ ?_
 refine sT [2,3,4,5] [2,3,4] ?_
 refine xz ?_
 refine fj ?_
 refine cx 9 (fun ga sga=>?_) (fun ga sga=>?_)
 refine jT ?_
 exact Jl
 refine Mq ?_
 refine rB ga ?_ (x:=cL [(true,ju)] [(true,nu)] DL (hs:=by exact Em))
 refine oE ?_
 refine sc ?_ ?_<;>intro hba
 exact Jl
 have hok:(aP e&&ca x)=true:=Gh
 refine dH ?_
 refine sS [2,3,4,5] [2,3,4] ?_
 refine xR ?_
 refine fG ?_
 refine Cw ?_
 refine sc ?_ ?_<;>intro hbb
 have hk1:x.Kind=1:=by first|exact hbb|simpa using hbb
 refine xH ?_
 refine LO ?_
 refine rA ?_ (x:=lF tg)
 refine eA ?_
 refine rA ?_ (x:=cL [(true,bj),(true,cD),(false,[val _])] [(true,fb),(true,cI),(false,[val _])] VV (hs:=by exact (XI ab ab)))
 exact AV
 have hk1n:¬x.Kind=1:=by first|exact hbb|simpa using hbb
 refine Cw ?_
 refine sc ?_ ?_<;>intro hbc
 have hk2:x.Kind=2:=wx
 refine xH ?_
 refine rA ?_ (x:=lF th)
 refine eA ?_
 refine rA ?_ (x:=cL [(true,bj),(false,[val _])] [(true,fb),(false,[val _])] VW (hs:=by exact (XJ ab)))
 exact AV
 have hk2n:¬x.Kind=2:=wx
 refine Cw ?_
 refine sc ?_ ?_<;>intro hbd
 have hk3:x.Kind=3:=wo
 refine xH ?_
 refine uE ?_
 refine rA ?_ (x:=cL [(true,bj),(true,iX)] [(true,fb),(true,jQ)] VX (hs:=by exact (XV ab ab)))
 exact AV
 have hk3n:¬x.Kind=3:=wo
 refine bd ?_
 refine xH ?_
 refine rA ?_ (x:=lF qC)
 refine eA ?_
 refine rA ?_ (x:=cL [(true,bj),(false,[val _])] [(true,fb),(false,[val _])] VY (hs:=by exact (XU ab)))
 refine BD ?_
 exact Jm
end Go.Proofs.YtmekkgdboplbjaaGreatDoor
