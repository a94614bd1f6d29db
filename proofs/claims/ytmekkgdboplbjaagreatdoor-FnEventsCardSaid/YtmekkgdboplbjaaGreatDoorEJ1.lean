/- What functions of the program compute. No condition. -/
import Derived.Test.YtmekkgdboplbjaaGreatDoorED1
import Derived.Test.YtmekkgdboplbjaaGreatDoorEF1
set_option linter.all false
namespace Go.Proofs.YtmekkgdboplbjaaGreatDoor
open Go Go.RowKit M PV Tryz
set_option maxRecDepth 10000
attribute [local irreducible] PV.Lcl PV.LclR RV.Lcl
set_option maxHeartbeats 8000000
def auv:Mx prog 46 3=some (4,42):=ao
def auw:eA prog 102=some [(0,4),(4,1),(5,1),(6,1),(7,1),(8,1),(9,1)]:=ao
def aux{p1 p2 p5 p6 p7 p8 p9 p11 p12 p13 p14 p16 p17 p18:Fl}{e:aC}{q:ax4}{l:Int}(hb:bA e≤68719000000)(hbq:fM q≤68719000000):aQ prog 116 [(true,[sl .v (e.Store.ax2.map (aO p1 p2)),val (vI e.Store.Now),val (vI e.ax7),sl .v (e.Order.map ar),sl .v (e.ax3.map (bd p5 p6 p7 p8 p9)),sl .v (e.Done.map (bw p11 p12 p13 p14)),sl .v (e.ayf.map (bz p16 p17 p18)),val (vI e.Steps)]),(true,[val (vI q.Id),val (vI q.ax8),sl .v (q.ax5.map bF),sl .v (q.Out.map ar)]),(false,[val (vI l)])] (aB [(true,[sl bH ((gH e q l).1.Store.ax2.map (aO bc ai)),val (vI (gH e q l).1.Store.Now),val (vI (gH e q l).1.ax7),sl ai ((gH e q l).1.Order.map ar),sl cm ((gH e q l).1.ax3.map (bd aH ai ai aL ai)),sl cf ((gH e q l).1.Done.map (bw aH ai aL ai)),sl ck ((gH e q l).1.ayf.map (bz ai ai ai)),val (vI (gH e q l).1.Steps)]),(false,[val (.bool (gH e q l).2)])]):=by
 refine sF func116 fun h0 w0 Fz0=>?_
 refine sn 0 0 fun hl0_0=>?_
 refine sn 0 3 fun hl0_3=>?_
 refine sn 0 4 fun hl0_4=>?_
 refine sn 0 5 fun hl0_5=>?_
 refine sn 0 6 fun hl0_6=>?_
 refine sn 1 2 fun hl1_2=>?_
 refine sn 1 3 fun hl1_3=>?_
 have hbu:=hb
 simp only [bA,iO,kk,jt] at hbu
 refine nE ?_
 refine zvu ?_
 refine rK ?_
 refine sT [2,3,4,6,7] [3,4,6] ?_
 refine Ha ?_
 refine zN ?_
 refine zvx ?_
 refine NN ?_
 refine fp ?_
 refine cx 20 ?_ ?_<;>intro ga sga
 refine jH ?_
 refine au.cases (s:=25) rfl (fun g2=>?_) (fun g2=>nomatch g2)
 refine oI ?_
 refine au.cases (s:=30) rfl (fun g3=>?_) (fun g3=>nomatch g3)
 refine oF ?_
 refine rM ?_
 refine au.cases (s:=37) rfl (fun g4=>?_) (fun g4=>nomatch g4)
 exact zvy
 refine zmg ?_
 refine CS ?_
 refine cx 25 ?_ ?_<;>intro gb sgb
 refine nG ?_
 refine au.cases (s:=30) rfl (fun g7=>?_) (fun g7=>nomatch g7)
 refine zt g7 ?_
 refine rA ?_ (x:=bj g7)
 refine rM ?_
 refine au.cases (s:=37) rfl (fun g8=>?_) (fun g8=>nomatch g8)
 exact zvz
 refine kh ?_
 refine zw0 ?_
 refine wT ?_
 refine cx 30 ?_ ?_<;>intro gc sgc
 refine pF ?_
 refine au.cases (s:=37) rfl (fun g11=>?_) (fun g11=>nomatch g11)
 exact zw1
 refine zw2 ?_
 refine oL ?_
 refine rB gc ?_ (x:=cL [(true,aW),(false,[val _])] [(true,cO),(false,[val _])] aiw (hs:=by exact akq))
 refine rB gc ?_ (x:=kJ)
 refine zz ?_
 refine cx 37 ?_ ?_<;>intro gd sgd
 exact zw3
 refine rB gd ?_ (x:=lF hP)
 refine rB gd ?_ (x:=lD [sl .v _] fi)
 refine rB gd ?_ (x:=lN cQ)
 refine rB gd ?_ (x:=iZ)
 refine rA ?_ (x:=aR gd)
 refine sc ?_ ?_<;>intro hba
 exact yO
 have hok:ni e q l=true:=by
  have ho_:bn e=true:=dO
  have hq_:bN q=true:=dO
  have hl_:aK l 0 32=true:=dO
  have hef_:=jv ho_
  unfold ni
  rw [ho_,hq_,hl_]
  simp only [Bool.true_and,aX,decide_eq_true_eq]
  exact ⟨ab,ab⟩
 obtain ⟨hoe,hoq,hol,hfn,ha8⟩:=AH hok
 have hef:=jv hoe
 obtain ⟨hs8,hs1,_,_,_,_⟩:=pX hef.1
 have hcl:=aj6 (e:=e) (x:=q.Id)
 refine dp ?_
 refine sP [2,3,4,6,7,8] [3,4,6,8] ?_
 refine cC ?_
 refine dA 0 ?_ (x:=lD di gO)
 refine dA 1 ?_ (x:=cL [(true,bX)] [(true,di)] aix (hs:=by exact ajt ab))
 refine dA 0 ?_ (x:=lF nd)
 refine dA 4 ?_ (x:=lF lG)
 refine dA 12 ?_ (x:=lD [val _] bb)
 refine dS ?_
 refine zw5 ?_
 refine dC ?_
 refine zw6 ?_
 refine pM ?_
 refine mP ?_
 refine fK ?_
 refine sP [2,3,4,6,7,8,9,54,55] [3,4,6,8,9] ?_
 refine sL [2,3,4,6,7,8,9,54] [3,4,6,8] (fun k:Nat=>k≤e.Store.ax2.length) (fun k:Nat=>[(55,RV.int (k:Int))]) (fun k:Nat=>[(9,(102,[val (vI (eJ e q l).ax4.Id),val (vI (eJ e q l).ax4.ax8),sl aH ((eJ e q l).ax4.ax5.map bF),sl ai ((eJ e q l).ax4.Out.map ar),val (vI (eJ e q l).Time),sl ai ((ql k).map ar),val (vI (eJ e q l).Age),val (vI (eJ e q l).Sent),val (vI (eJ e q l).Cap),sl aL ((eJ e q l).Rows.map (cD ai))]))]) (fun k:Nat=>e.Store.ax2.length - k) 0 ab bp bp ?_
 rintro k hk
 have htl:=JU k
 refine cY ?_
 refine sc ?_ ?_<;>intro hbb
 have hlt:k < e.Store.ax2.length:=ab
 refine bv ?_
 refine sT [2,3,4,6,7,8,9,54,55] [3,4,6,8,9] ?_
 refine rM ?_
 refine rS ?_
 refine sG [2,3,4,6,7,8,9,10,54,55] [3,4,6,8,9] ?_
 refine uS ?_
 refine wZ ?_
 refine zw7 ?_
 refine sO [(2,_),(3,_),(4,_),(6,_),(7,_),(8,_),(9,_),(10,_),(54,_),(55,_)] [(3,_),(4,_),(6,_),(8,_),(9,(102,du))] ?_
 refine aY ?_
 refine dI ?_
 exact zw8
 have hend:k=e.Store.ax2.length:=ab
 subst hend
 refine bI ?_
 refine sT [2,3,4,6,7,8,9,54,55] [3,4,6,8,9] ?_
 refine Ch ?_
 refine dC ?_
 refine sP [2,3,4,6,7,8,9,11,54,55] [3,4,6,8,9] ?_
 refine yI (d:=8) (t:=102) (e:=10) (G:=6200) (A:=mJ) (B:=mK) (f:=(bd aH ai ai aL ai)) (g:=(fun z:ax3=>[val (vI z.ax4.Id),val (vI z.ax4.ax8),sl .v (z.ax4.ax5.map bF),sl .v (z.ax4.Out.map ar),val (vI z.Time),sl .v (z.ayc.map ar),val (vI z.Age),val (vI z.Sent),val (vI z.Cap),sl .v (z.Rows.map (cD ai))])) (fN:=gS) (xs:=e.ax3) ak ak (fun _ _=>rfl) (fun _=>rfl) (fun _=>(aD (aD (aV (aV (aD (aV (aD (aD (aD (aV aJ.nil))))))))))) (fun _=>bg) fun za hza=>?_
 have hzal:za.length=e.ax3.length:=KN
 refine sO [(2,_),(3,_),(4,_),(6,_),(7,_),(8,_),(9,_),(11,_),(54,_),(55,_),(6200,_)] [(3,_),(4,_),(6,_),(8,(46,aW)),(9,_)] ?_
 refine XA (d:=9) (e:=10) (G:=6300) (f:=(bd aH ai ai aL ai)) (g:=(fun z:ax3=>[val (vI z.ax4.Id),val (vI z.ax4.ax8),sl .v (z.ax4.ax5.map bF),sl .v (z.ax4.Out.map ar),val (vI z.Time),sl .v (z.ayc.map ar),val (vI z.Age),val (vI z.Sent),val (vI z.Cap),sl .v (z.Rows.map (cD ai))])) (fN:=gS) (eJ e q l) ak ak (fun _ _=>rfl) (fun _=>rfl) (aD (aD (aV (aV (aD (aV (aD (aD (aD (aV aJ.nil)))))))))) bg fun kNew=>?_
 refine sO [(2,_),(3,_),(4,_),(6,_),(7,_),(8,_),(9,_),(11,_),(54,_),(55,_),(6200,_),(6300,_)] [(3,_),(4,_),(6,_),(8,_),(9,(102,nB))] ?_
 refine aY ?_
 refine uM ?_
 refine sP [2,3,4,6,7,8,9,11,54,55,67,68,69,6200,6300] [3,4,6,8,9] ?_
 refine sL [2,3,4,6,7,8,9,54,55,67,68,6200,6300] [3,4,6,8,9] (fun m:Nat=>m≤za.length) (fun m:Nat=>[(11,RV.slc cm ((lK q.Id (za.take m)).map gS)),(69,RV.int (m:Int))]) (fun m:Nat=>[]) (fun m:Nat=>za.length - m) 0 ab gp an ?_
 rintro m hm
 have hfl:=atu (x:=q.Id) (zs:=za) (k:=m)
 refine cY ?_
 refine sc ?_ ?_<;>intro hbc
 have hmz:m < za.length:=ab
 refine eB ?_
 refine zw9 ?_
 refine GX ?_
 refine Hb ?_
 refine aU ?_
 refine sO [(2,_),(3,_),(4,_),(6,_),(7,_),(8,_),(9,_),(11,_),(13,_),(54,_),(55,_),(67,_),(68,_),(69,_),(6200,_),(6300,_)] [(3,_),(4,_),(6,_),(8,_),(9,_),(13,(102,nB))] ?_
 refine aY ?_
 refine rm ?_
 refine rA ?_ (x:=lF kQ)
 refine zqi ?_
 refine uA ?_
 refine dQ ?_
 refine sc ?_ ?_<;>intro hbd
 have hlz:kZ q.Id za[m].1=true:=by simpa [kZ] using hbd
 refine sG [2,3,4,6,7,8,9,11,13,54,55,67,68,69,6200,6300] [3,4,6,8,9,13] ?_
 refine cb ?_
 refine GU ?_
 refine BY ?_
 exact zwc
 have hlz:kZ q.Id za[m].1=false:=by simpa [kZ] using hbd
 refine ba ?_
 exact zwc
 have hend2:m=za.length:=ab
 have hfa:lK q.Id (za.take m)=lK q.Id za:=by rw [hend2,cJ]
 rw [hfa]
 have hfl2:=aj4 (x:=q.Id) hza
 refine fq ?_
 refine zw9 ?_
 refine dD ?_
 refine rA ?_ (x:=lN cQ)
 refine rS ?_
 refine zwd ?_
 refine GU ?_
 refine BY ?_
 refine zwd ?_
 refine px ?_
 refine rM ?_
 refine rA ?_ (x:=Bv (i:=(eK e.ax3 q.Id)) (j:=za.length) (ys:=(za.drop (eK e.ax3 q.Id))) (r:=((za.length:Nat):Int)) aj cQ an ak ab ab ab ab (fun _=>rfl) uf)
 refine rA ?_ (x:=lU aj cQ mp rfl rfl aj Ly Ll Va Va)
 refine yW ?_
 refine aU ?_
 refine sO [(2,_),(3,_),(4,_),(6,_),(7,_),(8,_),(9,_),(14,_),(54,_),(55,_),(67,_),(68,_),(69,_),(6200,_),(6300,_)] [(3,_),(4,_),(6,_),(8,(46,aW)),(9,_)] ?_
 refine eg (d:=8) ak (show _=[sl bH (e.Store.ax2.map (aO bc ai)),val (vI e.Store.Now),val (vI e.ax7),sl ai (e.Order.map ar),sl cm ((za.take (eK e.ax3 q.Id)++(eJ e q l,kNew)::za.drop (eK e.ax3 q.Id)).map gS),sl cf (e.Done.map (bw aH ai aL ai)),sl ck (e.ayf.map (bz ai ai ai)),val (vI e.Steps)] from by rw [←aj5 hoe hza];simp only [bK,List.map_cons,List.map_nil,bB];exact rfl) ?_
 refine sP [2,3,4,6,7,8,9,14,54,55,67,68,69,6200,6300] [3,4,6,8,9] ?_
 refine zwe ?_
 refine sP [2,3,4,6,7,8,9,14,54,55,67,68,69,6300] [3,4,6,8,9] ?_
 refine zwf ?_
 refine sO [(2,_),(3,_),(4,_),(6,_),(7,_),(8,_),(9,_),(14,_),(54,_),(55,_),(67,_),(68,_),(69,_)] [(3,_),(4,_),(6,_),(8,(46,aW)),(9,_)] ?_
 exact zwg
def auy{p1 p2 p5 p6 p7 p8 p9 p11 p12 p13 p14 p16 p17 p18:Fl}{e:aC}{q:ax4}{l:Int}(hb:bA e≤68719000000)(hbq:fM q≤68719000000):aQ prog 222 [(true,[sl .v (e.Store.ax2.map (aO p1 p2)),val (vI e.Store.Now),val (vI e.ax7),sl .v (e.Order.map ar),sl .v (e.ax3.map (bd p5 p6 p7 p8 p9)),sl .v (e.Done.map (bw p11 p12 p13 p14)),sl .v (e.ayf.map (bz p16 p17 p18)),val (vI e.Steps)]),(true,[val (vI q.Id),val (vI q.ax8),sl .v (q.ax5.map bF),sl .v (q.Out.map ar)]),(false,[val (vI l)])] (aB [(true,[sl bH ((gH e q l).1.Store.ax2.map (aO bc ai)),val (vI (gH e q l).1.Store.Now),val (vI (gH e q l).1.ax7),sl ai ((gH e q l).1.Order.map ar),sl cm ((gH e q l).1.ax3.map (bd aH ai ai aL ai)),sl cf ((gH e q l).1.Done.map (bw aH ai aL ai)),sl ck ((gH e q l).1.ayf.map (bz ai ai ai)),val (vI (gH e q l).1.Steps)]),(false,[val (.bool (gH e q l).2)])]):=by
 refine sF func222 fun h0 w0 Fz0=>?_
 refine sn 0 0 fun hl0_0=>?_
 refine sn 0 3 fun hl0_3=>?_
 refine sn 0 4 fun hl0_4=>?_
 refine sn 0 5 fun hl0_5=>?_
 refine sn 0 6 fun hl0_6=>?_
 refine sn 1 2 fun hl1_2=>?_
 refine sn 1 3 fun hl1_3=>?_
 have hbu:=hb
 simp only [bA,iO,kk,jt] at hbu
 refine nE ?_
 refine zvu ?_
 refine rK ?_
 refine sT [2,3,4,6,7] [3,4,6] ?_
 refine zwh ?_
 refine zN ?_
 refine zvx ?_
 refine zt1 ?_
 refine fp ?_
 refine cx 19 ?_ ?_<;>intro ga sga
 refine jH ?_
 refine au.cases (s:=24) rfl (fun g2=>?_) (fun g2=>nomatch g2)
 refine oI ?_
 refine au.cases (s:=29) rfl (fun g3=>?_) (fun g3=>nomatch g3)
 refine oF ?_
 refine rM ?_
 refine au.cases (s:=36) rfl (fun g4=>?_) (fun g4=>nomatch g4)
 exact zvy
 refine rB ga ?_ (x:=lD di gO)
 refine rB ga ?_ (x:=cL [(true,bX)] [(true,di)] Rc (hs:=by exact RW))
 refine CS ?_
 refine cx 24 ?_ ?_<;>intro gb sgb
 refine nG ?_
 refine au.cases (s:=29) rfl (fun g7=>?_) (fun g7=>nomatch g7)
 refine zt g7 ?_
 refine rA ?_ (x:=bj g7)
 refine rM ?_
 refine au.cases (s:=36) rfl (fun g8=>?_) (fun g8=>nomatch g8)
 exact zvz
 refine kh ?_
 refine zwi ?_
 refine wT ?_
 refine cx 29 ?_ ?_<;>intro gc sgc
 refine pF ?_
 refine au.cases (s:=36) rfl (fun g11=>?_) (fun g11=>nomatch g11)
 exact zw1
 refine zw2 ?_
 refine oL ?_
 refine rB gc ?_ (x:=cL [(true,aW),(false,[val _])] [(true,cO),(false,[val _])] Jx (hs:=Lg))
 refine rB gc ?_ (x:=kJ)
 refine zz ?_
 refine cx 36 ?_ ?_<;>intro gd sgd
 exact zw3
 refine rB gd ?_ (x:=lF hP)
 refine rB gd ?_ (x:=lD [sl .v _] fi)
 refine rB gd ?_ (x:=lN cQ)
 refine rB gd ?_ (x:=kJ)
 refine rA ?_ (x:=aR gd)
 refine sc ?_ ?_<;>intro hba
 exact yO
 have hok:ni e q l=true:=by
  have ho_:bn e=true:=dO
  have hq_:bN q=true:=dO
  have hl_:aK l 0 32=true:=dO
  have hef_:=jv ho_
  unfold ni
  rw [ho_,hq_,hl_]
  simp only [Bool.true_and,aX,decide_eq_true_eq]
  exact ⟨ab,ab⟩
 obtain ⟨hoe,hoq,hol,hfn,ha8⟩:=AH hok
 have hef:=jv hoe
 obtain ⟨hs8,hs1,_,_,_,_⟩:=pX hef.1
 have hcl:=aj6 (e:=e) (x:=q.Id)
 refine dp ?_
 refine sP [2,3,4,6,7,8] [3,4,6,8] ?_
 refine cC ?_
 refine dA 0 ?_ (x:=lD di gO)
 refine dA 1 ?_ (x:=cL [(true,bX)] [(true,di)] aiF (hs:=by exact ajj ab))
 refine dA 0 ?_ (x:=lF nd)
 refine dA 4 ?_ (x:=lF lG)
 refine dA 12 ?_ (x:=lD [val _] bb)
 refine dS ?_
 refine zw5 ?_
 refine dC ?_
 refine zw6 ?_
 refine cl ?_
 refine sP [2,3,4,6,7,8,9,10] [3,4,6,8,9] ?_
 refine sL [2,3,4,6,7,8,9] [3,4,6,8] (fun k:Nat=>k≤e.Store.ax2.length) (fun k:Nat=>[(10,RV.int (k:Int))]) (fun k:Nat=>[(9,(102,[val (vI (eJ e q l).ax4.Id),val (vI (eJ e q l).ax4.ax8),sl aH ((eJ e q l).ax4.ax5.map bF),sl ai ((eJ e q l).ax4.Out.map ar),val (vI (eJ e q l).Time),sl ai ((ql k).map ar),val (vI (eJ e q l).Age),val (vI (eJ e q l).Sent),val (vI (eJ e q l).Cap),sl aL ((eJ e q l).Rows.map (cD ai))]))]) (fun k:Nat=>e.Store.ax2.length - k) 0 ab bp bp ?_
 rintro k hk
 have htl:=JU k
 refine cP ?_
 refine pM ?_
 refine mP ?_
 refine dQ ?_
 refine sc ?_ ?_<;>intro hbb
 have hlt:k < e.Store.ax2.length:=ab
 refine bv ?_
 refine sH [2,3,4,6,7,8,9,10] [3,4,6,8,9] ?_
 refine uS ?_
 refine wZ ?_
 refine zw7 ?_
 refine sO [(2,_),(3,_),(4,_),(6,_),(7,_),(8,_),(9,_),(10,_)] [(3,_),(4,_),(6,_),(8,_),(9,(102,du))] ?_
 refine tj ?_
 exact zw8
 have hend:k=e.Store.ax2.length:=ab
 subst hend
 refine bI ?_
 refine sT [2,3,4,6,7,8,9,10] [3,4,6,8,9] ?_
 refine zwj ?_
 refine yW ?_
 refine aU ?_
 refine sO [(2,_),(3,_),(4,_),(6,_),(7,_),(8,_),(9,_),(10,_)] [(3,_),(4,_),(6,_),(8,(46,aW)),(9,_)] ?_
 refine aY ?_
 refine rK ?_
 refine sS [2,3,4,6,7,8,9,10,11] [3,4,6,8,9] ?_
 refine zwh ?_
 refine rA ?_ (x:=ant (ag:=false) (qs:=[sl _ _]) aj auv fi (fun _=>rfl) az ak)
 refine oD ?_
 refine sS [2,3,4,6,7,8,9,10,11,12] [3,4,6,8,9] ?_
 refine cl ?_
 refine sP [2,3,4,6,7,8,9,10,11,12,13] [3,4,6,8,9] ?_
 refine Xh (s:=12) (t:=102) (e:=10) (G:=6200) (f:=(bd aH ai ai aL ai)) (g:=(fun z:ax3=>[val (vI z.ax4.Id),val (vI z.ax4.ax8),sl .v (z.ax4.ax5.map bF),sl .v (z.ax4.Out.map ar),val (vI z.Time),sl .v (z.ayc.map ar),val (vI z.Age),val (vI z.Sent),val (vI z.Cap),sl .v (z.Rows.map (cD ai))])) (fN:=gS) (xs:=e.ax3) ak ak ak (fun _ _=>rfl) (fun _=>rfl) (fun _=>(aD (aD (aV (aV (aD (aV (aD (aD (aD (aV aJ.nil))))))))))) (fun _=>bg) fun za hza=>?_
 have hzal:za.length=e.ax3.length:=KN
 refine sP [2,3,4,6,7,8,9,10,11,12,13,6200] [3,4,6,8,9] ?_
 refine XA (d:=9) (e:=10) (G:=6300) (f:=(bd aH ai ai aL ai)) (g:=(fun z:ax3=>[val (vI z.ax4.Id),val (vI z.ax4.ax8),sl .v (z.ax4.ax5.map bF),sl .v (z.ax4.Out.map ar),val (vI z.Time),sl .v (z.ayc.map ar),val (vI z.Age),val (vI z.Sent),val (vI z.Cap),sl .v (z.Rows.map (cD ai))])) (fN:=gS) (eJ e q l) ak ak (fun _ _=>rfl) (fun _=>rfl) (aD (aD (aV (aV (aD (aV (aD (aD (aD (aV aJ.nil)))))))))) bg fun kNew=>?_
 refine sO [(2,_),(3,_),(4,_),(6,_),(7,_),(8,_),(9,_),(10,_),(11,_),(12,_),(13,_),(6200,_),(6300,_)] [(3,_),(4,_),(6,_),(8,_),(9,(102,nB))] ?_
 refine sL [2,3,4,6,7,8,9,10,12,6200,6300] [3,4,6,9] (fun m:Nat=>m≤za.length) (fun m:Nat=>[(11,RV.bool (decide ((eK e.ax3 q.Id) < m))),(13,RV.int (m:Int))]) (fun m:Nat=>[(8,(46,[sl bH (e.Store.ax2.map (aO bc ai)),val (vI e.Store.Now),val (vI e.ax7),sl ai (e.Order.map ar),sl cm ((mA za (eJ e q l,kNew) (eK e.ax3 q.Id) m).map gS),sl cf (e.Done.map (bw aH ai aL ai)),sl ck (e.ayf.map (bz ai ai ai)),val (vI e.Steps)]))]) (fun m:Nat=>za.length - m) 0 ab (by exact aI (by exact eG aM) (aI ak tI)) (by exact aI (by show _=some (46,[sl bH (e.Store.ax2.map (aO bc ai)),val (vI e.Store.Now),val (vI e.ax7),sl ai (e.Order.map ar),sl cm ((mA za (eJ e q l,kNew) (eK e.ax3 q.Id) 0).map gS),sl cf (e.Done.map (bw aH ai aL ai)),sl ck (e.ayf.map (bz ai ai ai)),val (vI e.Steps)]);unfold mA;rw [if_neg ab];exact rfl) tI) ?_
 rintro m hm
 have hazl:=atw (zn:=(eJ e q l,kNew)) (p:=(eK e.ax3 q.Id)) hm
 refine tb ?_
 refine rA ?_ (x:=lN cQ)
 refine dQ ?_
 refine sc ?_ ?_<;>intro hbc
 have hmz:m < za.length:=ab
 have hcl2:=aj7 (x:=q.Id) hoe (show m < e.ax3.length by omega)
 have hni:=aj8 (x:=q.Id) hfn (show m < e.ax3.length by omega)
 have hzm:za[m].1=e.ax3[m]:=Bf
 refine bv ?_
 refine zwk ?_
 refine zk ?_
 refine dA 1 ?_ (x:=nT)
 refine dA 3 ?_ (x:=sM)
 refine dx 77 ?_ ?_<;>intro ge sge
 refine dB 7 ge ?_ (x:=vM false [sl .v _])
 refine dB 7 ge ?_ (x:=sM)
 refine dB 31 ge ?_ (x:=aZ aj cQ an ak bE ak)
 refine dB 63 ge ?_ (x:=cR aj nb az)
 refine dB 127 ge ?_ (x:=cR aj kQ az)
 refine dB 255 ge ?_ (x:=sz (qs:=[val _]) aj bb (fun _=>rfl) az EB lP)
 refine dB 7 ge ?_ (x:=lF kQ)
 refine dB 519 ge ?_ (x:=lD [val _] bb)
 refine dB 2047 ge ?_ (x:=jE)
 refine dA 4095 ?_ (x:=bj ge)
 refine sc ?_ ?_<;>intro hbd
 have hpm:m=(eK e.ax3 q.Id):=by rw [hzm] at hbd;first|omega|(simp_all;omega)
 refine sS [2,3,4,6,7,8,9,10,11,12,13,6200,6300] [3,4,6,8,9] ?_
 refine Oa ?_
 refine GU ?_
 refine NU ?_
 refine zwl ?_
 refine rK ?_
 exact MW
 have hpm:m≠(eK e.ax3 q.Id):=by first|(rw [hzm] at hbd;omega)|omega|(simp_all;omega)
 refine ba ?_
 exact MW
 refine dF 7 ge ?_
 refine dF 7 ge ?_
 refine dF 31 ge ?_
 refine dF 63 ge ?_
 refine dF 127 ge ?_
 refine dF 255 ge ?_
 refine dF 7 ge ?_
 refine dF 519 ge ?_
 refine dF 2047 ge ?_
 refine dA 4095 ?_ (x:=aR ge)
 refine gv ?_
 have hpm:m≠(eK e.ax3 q.Id):=by first|(rw [hzm] at hb_;omega)|omega|(simp_all;omega)
 refine ba ?_
 exact MW
 have hend2:m=za.length:=ab
 subst hend2
 refine bI ?_
 refine zwk ?_
 refine nH ?_
 refine gx ?_
 refine sc ?_ ?_<;>intro hbd
 have hpl:(eK e.ax3 q.Id)=za.length:=kc
 refine sG [2,3,4,6,7,8,9,10,11,12,13,6200,6300] [3,4,6,8,9] ?_
 refine Oa ?_
 refine GU ?_
 refine NU ?_
 refine aU ?_
 refine zwn ?_
 exact zwo
 have hpl:(eK e.ax3 q.Id) < za.length:=kc
 refine dp ?_
 refine QF ?_
 exact zwo
end Go.Proofs.YtmekkgdboplbjaaGreatDoor
