/- What functions of the program compute. No condition. -/
import Derived.Test.YtmekkgdboplbjaaGreatDoorEF1
import Derived.Test.YtmekkgdboplbjaaGreatDoorED1
set_option linter.all false
namespace Go.Proofs.YtmekkgdboplbjaaGreatDoor
open Go Go.RowKit M PV
set_option maxRecDepth 10000
attribute [local irreducible] PV.Lcl PV.LclR RV.Lcl
set_option maxHeartbeats 8000000
def auz{p1 p2 p5 p6 p7 p8 p9 p11 p12 p13 p14 p16 p17 p18:Fl}{e:aC}{id:Int}(hb:bA e≤68719000000):aQ Tryz.prog 117 [(true,[sl .v (e.Store.ax2.map (aO p1 p2)),val (vI e.Store.Now),val (vI e.ax7),sl .v (e.Order.map ar),sl .v (e.ax3.map (bd p5 p6 p7 p8 p9)),sl .v (e.Done.map (bw p11 p12 p13 p14)),sl .v (e.ayf.map (bz p16 p17 p18)),val (vI e.Steps)]),(false,[val (vI id)])] (aB [(true,[sl bH ((dk e id).1.Store.ax2.map (aO bc ai)),val (vI (dk e id).1.Store.Now),val (vI (dk e id).1.ax7),sl ai ((dk e id).1.Order.map ar),sl cm ((dk e id).1.ax3.map (bd aH ai ai aL ai)),sl cf ((dk e id).1.Done.map (bw aH ai aL ai)),sl ck ((dk e id).1.ayf.map (bz ai ai ai)),val (vI (dk e id).1.Steps)]),(false,[val (.bool (dk e id).2)])]):=by
 refine pm (largs:=fun L=>[(true,[sl (.lo L) (e.Store.ax2.map (aO (.lo L) (.lo L))),val (vI e.Store.Now),val (vI e.ax7),sl (.lo L) (e.Order.map ar),sl (.lo L) (e.ax3.map (bd (.lo L) (.lo L) (.lo L) (.lo L) (.lo L))),sl (.lo L) (e.Done.map (bw (.lo L) (.lo L) (.lo L) (.lo L))),sl (.lo L) (e.ayf.map (bz (.lo L) (.lo L) (.lo L))),val (vI e.Steps)]),(false,[val (vI id)])]) (rs:=[(true,[sl bH ((dk e id).1.Store.ax2.map (aO bc ai)),val (vI (dk e id).1.Store.Now),val (vI (dk e id).1.ax7),sl ai ((dk e id).1.Order.map ar),sl cm ((dk e id).1.ax3.map (bd aH ai ai aL ai)),sl cf ((dk e id).1.Done.map (bw aH ai aL ai)),sl ck ((dk e id).1.ayf.map (bz ai ai ai)),val (vI (dk e id).1.Steps)]),(false,[val (.bool (dk e id).2)])]) Tryz.func117 rfl (nl rfl) (fun L=>by exact (aI (aI rfl (am.cons (aT (fun _=>nl rfl) (fun _=>(am.cons (aT (fun _=>nl rfl) (fun _=>(am.cons ay (am.cons (aT (fun _=>nl rfl) (fun _=>(am.cons ay am.nil))) (am.cons ay (am.cons ay am.nil)))))) am.nil))) (am.cons ay (am.cons ay (am.cons (aT (fun _=>nl rfl) (fun _=>(am.cons ay am.nil))) (am.cons (aT (fun _=>nl rfl) (fun _=>(am.cons ay (am.cons ay (am.cons (aT (fun _=>nl rfl) (fun _=>(am.cons ay (am.cons ay (am.cons ay am.nil))))) (am.cons (aT (fun _=>nl rfl) (fun _=>(am.cons ay am.nil))) (am.cons ay (am.cons (aT (fun _=>nl rfl) (fun _=>(am.cons ay am.nil))) (am.cons ay (am.cons ay (am.cons ay (am.cons (aT (fun _=>nl rfl) (fun _=>(am.cons ay (am.cons (aT (fun _=>nl rfl) (fun _=>(am.cons ay am.nil))) am.nil)))) am.nil)))))))))))) (am.cons (aT (fun _=>nl rfl) (fun _=>(am.cons ay (am.cons ay (am.cons (aT (fun _=>nl rfl) (fun _=>(am.cons ay (am.cons ay (am.cons ay am.nil))))) (am.cons (aT (fun _=>nl rfl) (fun _=>(am.cons ay am.nil))) (am.cons ay (am.cons ay (am.cons (aT (fun _=>nl rfl) (fun _=>(am.cons ay (am.cons (aT (fun _=>nl rfl) (fun _=>(am.cons ay am.nil))) am.nil)))) am.nil))))))))) (am.cons (aT (fun _=>nl rfl) (fun _=>(am.cons ay (am.cons ay (am.cons (aT (fun _=>nl rfl) (fun _=>(am.cons ay am.nil))) (am.cons (aT (fun _=>nl rfl) (fun _=>(am.cons ay am.nil))) (am.cons (aT (fun _=>nl rfl) (fun _=>(am.cons ay am.nil))) am.nil))))))) (am.cons ay am.nil))))))))) (aI (aI rfl (am.cons ay am.nil)) tI))) (fun L=>by exact lq) ?_
 intro w0 Fz0
 refine sn 0 0 fun hl0_0=>?_
 refine sn 0 3 fun hl0_3=>?_
 refine sn 0 4 fun hl0_4=>?_
 refine sn 0 5 fun hl0_5=>?_
 refine sn 0 6 fun hl0_6=>?_
 have hbu:=hb
 simp only [bA,iO,kk,jt] at hbu
 refine BZ ?_
 refine zwq ?_
 refine NV ?_
 refine lu ?_
 refine OF ?_
 refine uw ?_
 refine rM ?_
 refine zu4 ?_
 refine zws ?_
 refine NX ?_
 refine cx 16 ?_ ?_<;>intro ga sga
 exact zwt
 refine Cw ?_
 refine lz ?_
 refine sc ?_ ?_<;>intro hba
 exact MX
 have hoe:bn e=true:=dO
 have hge:0≤eD e.ax3 id:=kc
 have hok:nj e id=true:=VD
 obtain ⟨i,hi,hf⟩:=SL hge
 have hef:=jv hoe
 have hdw:=SN hi
 have hdl:=Mz hi
 refine dp ?_
 refine sP [1,2,4,5,6,7] [2,4,6] ?_
 refine lV (d:=6) (t:=46) (D:=900) (G:=2900) (E:=102) (e:=10) (L:=(Lw w0.heap.size)) (A:=mJ) (B:=mK) (es:=(e.ax3).map (bd aH ai ai aL ai)) ak (kd hi) ak ak rfl ak (fun x hx=>hx) bg bg bg bg (ax.map fun x=>(ax.cons lcl_val (ax.cons lcl_val (ax.cons (lcl_own (ax.map fun x=>(ax.cons lcl_val (ax.cons lcl_val (ax.cons lcl_val ax.nil))))) (ax.cons (lcl_own (ax.map fun x=>(ax.cons lcl_val ax.nil))) (ax.cons lcl_val (ax.cons (lcl_own (ax.map fun x=>(ax.cons lcl_val ax.nil))) (ax.cons lcl_val (ax.cons lcl_val (ax.cons lcl_val (ax.cons (lcl_own (ax.map fun x=>(ax.cons lcl_val (ax.cons (lcl_own (ax.map fun x=>(ax.cons lcl_val ax.nil))) ax.nil)))) ax.nil))))))))))) fun uu900 cp900 jk900 hlD900 hcp900 hjk900=>?_
 rw [bf] at hlD900 hcp900 hjk900
 refine eg (d:=900) ak (show _=bU (bd aH ai ai aL ai) (e.ax3) jk900 from rfl) ?_
 refine sO [(1,_),(2,_),(4,_),(5,_),(6,_),(7,_),(2900,_)] [(2,_),(4,_),(6,(46,BC)),(900,(102,bU (bd aH ai ai aL ai) _ _))] ?_
 refine amR (d:=900) (G:=4900) (e:=10) (f:=(bd aH ai ai aL ai)) (g:=(fun z:ax3=>[val (vI z.ax4.Id),val (vI z.ax4.ax8),sl .v (z.ax4.ax5.map bF),sl .v (z.ax4.Out.map ar),val (vI z.Time),sl .v (z.ayc.map ar),val (vI z.Age),val (vI z.Sent),val (vI z.Cap),sl .v (z.Rows.map (cD ai))])) (fN:=gS) ak ak (fun _ _=>rfl) (fun _=>rfl) (fun _=>(aD (aD (aV (aV (aD (aV (aD (aD (aD (aV aJ.nil))))))))))) (fun _=>bg) fun zs900 hz900=>?_
 refine sO [(1,_),(2,_),(4,_),(5,_),(6,_),(7,_),(2900,_),(4900,_)] [(2,_),(4,_),(6,_),(900,(102,bU gS _ _))] ?_
 refine cC ?_
 refine uR ?_
 refine dA 1 ?_ (x:=lD [val _] fi)
 refine dS ?_
 refine dA 7 ?_ (x:=XE (G:=2900) (i:=0) (j:=i) (q:=(0:Int)) aj cQ ak an fU ab ab Fr)
 refine uR ?_
 refine dA 16 ?_ (x:=lD [val _] fi)
 refine dS ?_
 refine dA 64 ?_ (x:=jF)
 refine dA 240 ?_ (x:=XE (G:=2900) (i:=(i+1)) (j:=(e.ax3.map (bd aH ai ai aL ai)).length) (r:=(((e.ax3.map (bd aH ai ai aL ai)).length:Nat):Int)) aj cQ an ak ab fU Fr ab)
 refine dA 511 ?_ (x:=anv (G:=2900) (D:=900) (i:=i) (g:=(fun z:ax3=>[val (vI z.ax4.Id),val (vI z.ax4.ax8),sl .v (z.ax4.ax5.map bF),sl .v (z.ax4.Out.map ar),val (vI z.Time),sl .v (z.ayc.map ar),val (vI z.Age),val (vI z.Sent),val (vI z.Cap),sl .v (z.Rows.map (cD ai))])) (fN:=gS) aj cQ aj (fun _ _=>rfl) (fun _=>rfl) (fun _=>bg) UC (by rw [bf];exact hi) vQ ak)
 refine dA 1023 ?_ (x:=lF hP)
 refine dA 2047 ?_ (x:=bV (ag:=false) (vs:=[val _]) fi an ak az)
 refine anp (d:=900) (G:=4900) (e:=10) (f:=(bd aH ai ai aL ai)) (g:=(fun z:ax3=>[val (vI z.ax4.Id),val (vI z.ax4.ax8),sl .v (z.ax4.ax5.map bF),sl .v (z.ax4.Out.map ar),val (vI z.Time),sl .v (z.ayc.map ar),val (vI z.Age),val (vI z.Sent),val (vI z.Cap),sl .v (z.Rows.map (cD ai))])) (fN:=gS) [zs900[i]'(UI)] (gw e.ax3 i) ak ak (fun _ _=>rfl) (fun _=>rfl) (fun _=>rfl) (by exact SM UI) (by exact akb hz900) ?_
 refine sI (d:=6) (D:=900) (G:=2900) (e:=10) (A:=mJ) (B:=mK) (es:=((gw e.ax3 i)).map (bd aH ai ai aL ai)) ak ak ak rfl (by rw [bf,hdl,bf]) oq (by exact anu UC Fr vQ) ?_
 refine aU ?_
 refine zwv ?_
 refine wA ?_ (x:=eN (ms:=aW) (qs:=[any,val _,val _,any,any,any,any,val _]) aj dj (fun h=>nomatch h) az ak KD bg)
 refine wO [(1,_),(2,_),(4,_),(5,_),(6,_),(7,_),(32,_)] [(2,_),(4,_),(6,(46,[any,val _,val _,any,any,any,any,val _]))] ?_
 refine Ml (L:=(Lw w0.heap.size)) (qs:=[(true,aW)]) (as_:=[(true,aW)]) aj RB gI bS aj bg (by exact (Tf (e:=vF e i) ab)) (fun x hx=>hx) bg bg ?_
 refine wA ?_ (x:=bV (ag:=true) (vs:=aW) dj an ak az)
 refine wA ?_ (x:=kA)
 refine ur ?_
 exact zww
def auA{p1 p2 p5 p6 p7 p8 p9 p11 p12 p13 p14 p16 p17 p18:Fl}{e:aC}{id:Int}(hb:bA e≤68719000000):aQ Tryz.prog 224 [(true,[sl .v (e.Store.ax2.map (aO p1 p2)),val (vI e.Store.Now),val (vI e.ax7),sl .v (e.Order.map ar),sl .v (e.ax3.map (bd p5 p6 p7 p8 p9)),sl .v (e.Done.map (bw p11 p12 p13 p14)),sl .v (e.ayf.map (bz p16 p17 p18)),val (vI e.Steps)]),(false,[val (vI id)])] (aB [(true,[sl bH ((dk e id).1.Store.ax2.map (aO bc ai)),val (vI (dk e id).1.Store.Now),val (vI (dk e id).1.ax7),sl ai ((dk e id).1.Order.map ar),sl cm ((dk e id).1.ax3.map (bd aH ai ai aL ai)),sl cf ((dk e id).1.Done.map (bw aH ai aL ai)),sl ck ((dk e id).1.ayf.map (bz ai ai ai)),val (vI (dk e id).1.Steps)]),(false,[val (.bool (dk e id).2)])]):=by
 refine pm (largs:=fun L=>[(true,[sl (.lo L) (e.Store.ax2.map (aO (.lo L) (.lo L))),val (vI e.Store.Now),val (vI e.ax7),sl (.lo L) (e.Order.map ar),sl (.lo L) (e.ax3.map (bd (.lo L) (.lo L) (.lo L) (.lo L) (.lo L))),sl (.lo L) (e.Done.map (bw (.lo L) (.lo L) (.lo L) (.lo L))),sl (.lo L) (e.ayf.map (bz (.lo L) (.lo L) (.lo L))),val (vI e.Steps)]),(false,[val (vI id)])]) (rs:=[(true,[sl bH ((dk e id).1.Store.ax2.map (aO bc ai)),val (vI (dk e id).1.Store.Now),val (vI (dk e id).1.ax7),sl ai ((dk e id).1.Order.map ar),sl cm ((dk e id).1.ax3.map (bd aH ai ai aL ai)),sl cf ((dk e id).1.Done.map (bw aH ai aL ai)),sl ck ((dk e id).1.ayf.map (bz ai ai ai)),val (vI (dk e id).1.Steps)]),(false,[val (.bool (dk e id).2)])]) Tryz.func224 rfl (nl rfl) (fun L=>by exact (aI (aI rfl (am.cons (aT (fun _=>nl rfl) (fun _=>(am.cons (aT (fun _=>nl rfl) (fun _=>(am.cons ay (am.cons (aT (fun _=>nl rfl) (fun _=>(am.cons ay am.nil))) (am.cons ay (am.cons ay am.nil)))))) am.nil))) (am.cons ay (am.cons ay (am.cons (aT (fun _=>nl rfl) (fun _=>(am.cons ay am.nil))) (am.cons (aT (fun _=>nl rfl) (fun _=>(am.cons ay (am.cons ay (am.cons (aT (fun _=>nl rfl) (fun _=>(am.cons ay (am.cons ay (am.cons ay am.nil))))) (am.cons (aT (fun _=>nl rfl) (fun _=>(am.cons ay am.nil))) (am.cons ay (am.cons (aT (fun _=>nl rfl) (fun _=>(am.cons ay am.nil))) (am.cons ay (am.cons ay (am.cons ay (am.cons (aT (fun _=>nl rfl) (fun _=>(am.cons ay (am.cons (aT (fun _=>nl rfl) (fun _=>(am.cons ay am.nil))) am.nil)))) am.nil)))))))))))) (am.cons (aT (fun _=>nl rfl) (fun _=>(am.cons ay (am.cons ay (am.cons (aT (fun _=>nl rfl) (fun _=>(am.cons ay (am.cons ay (am.cons ay am.nil))))) (am.cons (aT (fun _=>nl rfl) (fun _=>(am.cons ay am.nil))) (am.cons ay (am.cons ay (am.cons (aT (fun _=>nl rfl) (fun _=>(am.cons ay (am.cons (aT (fun _=>nl rfl) (fun _=>(am.cons ay am.nil))) am.nil)))) am.nil))))))))) (am.cons (aT (fun _=>nl rfl) (fun _=>(am.cons ay (am.cons ay (am.cons (aT (fun _=>nl rfl) (fun _=>(am.cons ay am.nil))) (am.cons (aT (fun _=>nl rfl) (fun _=>(am.cons ay am.nil))) (am.cons (aT (fun _=>nl rfl) (fun _=>(am.cons ay am.nil))) am.nil))))))) (am.cons ay am.nil))))))))) (aI (aI rfl (am.cons ay am.nil)) tI))) (fun L=>by exact lq) ?_
 intro w0 Fz0
 refine sn 0 0 fun hl0_0=>?_
 refine sn 0 3 fun hl0_3=>?_
 refine sn 0 4 fun hl0_4=>?_
 refine sn 0 5 fun hl0_5=>?_
 refine sn 0 6 fun hl0_6=>?_
 have hbu:=hb
 simp only [bA,iO,kk,jt] at hbu
 refine BZ ?_
 refine zwq ?_
 refine NY ?_
 refine lu ?_
 refine OF ?_
 refine uw ?_
 refine rM ?_
 refine rA ?_ (x:=cL [(true,[sl (.lo _) _,val _,val _,sl (.lo _) _,sl (.lo _) _,sl (.lo _) _,sl (.lo _) _,val _]),(false,[val _])] [(true,cO),(false,[val _])] Jx (hs:=Lg))
 refine eU ?_
 refine zws ?_
 refine zwx ?_
 refine fp ?_
 refine cx 16 ?_ ?_<;>intro ga sga
 exact zwt
 refine Cw ?_
 refine lz ?_
 refine sc ?_ ?_<;>intro hba
 exact MX
 have hoe:bn e=true:=dO
 have hge:0≤eD e.ax3 id:=kc
 have hok:nj e id=true:=VD
 obtain ⟨i,hi,hf⟩:=SL hge
 have hef:=jv hoe
 have hdw:=SN hi
 have hdl:=Mz hi
 refine dp ?_
 refine sP [1,2,4,5,6,7] [2,4,6] ?_
 refine yI (d:=6) (t:=102) (e:=10) (G:=6200) (A:=mJ) (B:=mK) (f:=(bd aH ai ai aL ai)) (g:=(fun z:ax3=>[val (vI z.ax4.Id),val (vI z.ax4.ax8),sl .v (z.ax4.ax5.map bF),sl .v (z.ax4.Out.map ar),val (vI z.Time),sl .v (z.ayc.map ar),val (vI z.Age),val (vI z.Sent),val (vI z.Cap),sl .v (z.Rows.map (cD ai))])) (fN:=gS) (xs:=e.ax3) ak ak (fun _ _=>rfl) (fun _=>rfl) (fun _=>(aD (aD (aV (aV (aD (aV (aD (aD (aD (aV aJ.nil))))))))))) (fun _=>bg) fun za hza=>?_
 have hzal:za.length=e.ax3.length:=KN
 refine zwy ?_
 refine cC ?_
 refine dA 0 ?_ (x:=cj (qs:=[]) aj cQ mp aj rfl rfl rfl rfl rfl az an rfl)
 refine uR ?_
 refine dA 2 ?_ (x:=lD [sl .v _] fi)
 refine dS ?_
 refine dA 14 ?_ (x:=Bv (i:=0) (j:=i) (ys:=(za.take i)) (q:=(0:Int)) aj cQ ak an fU ab ab ab (fun _=>rfl) aM)
 refine dA 31 ?_ (x:=lU aj cQ mp rfl rfl aj Ly Ll Fj Fj)
 refine uR ?_
 refine dA 64 ?_ (x:=lD [sl .v _] fi)
 refine dS ?_
 refine dA 256 ?_ (x:=jF)
 refine dA 960 ?_ (x:=Bv (i:=(i+1)) (j:=za.length) (ys:=(za.drop (i+1))) (r:=((za.length:Nat):Int)) aj cQ an ak ab fU ab ab (fun _=>rfl) uf)
 refine dA 2047 ?_ (x:=lU aj cQ mp rfl rfl aj Ly Ll Fj Fj)
 refine dA 4095 ?_ (x:=lF hP)
 refine dA 8191 ?_ (x:=bV (ag:=false) (vs:=[sl _ _]) fi an ak az)
 refine aU ?_
 refine zwy ?_
 refine eg (d:=6) ak (show _=[sl bH (e.Store.ax2.map (aO bc ai)),val (vI e.Store.Now),val (vI e.ax7),sl ai (e.Order.map ar),sl cm ((gw za i).map gS),sl cf (e.Done.map (bw aH ai aL ai)),sl ck (e.ayf.map (bz ai ai ai)),val (vI e.Steps)] from by unfold gw;simp only [bK];exact rfl) ?_
 refine sP [1,2,4,5,6,7,6200] [2,4,6] ?_
 refine XB (d:=6) (t:=102) (e:=10) (G:=6200) (A:=mJ) (B:=mK) (f:=(bd aH ai ai aL ai)) (g:=(fun z:ax3=>[val (vI z.ax4.Id),val (vI z.ax4.ax8),sl .v (z.ax4.ax5.map bF),sl .v (z.ax4.Out.map ar),val (vI z.Time),sl .v (z.ayc.map ar),val (vI z.Age),val (vI z.Sent),val (vI z.Cap),sl .v (z.Rows.map (cD ai))])) (fN:=gS) (ys:=(gw za i)) [za[i]] (gw e.ax3 i) ak ak (fun _ _=>rfl) (fun _=>rfl) (fun _=>rfl) (SM ab) (akb hza) ?_
 refine zwv ?_
 refine wO [(1,_),(2,_),(4,_),(5,_),(6,_),(7,_)] [(2,_),(4,_),(6,_)] ?_
 refine BA (bx:=6) (L:=(Lw w0.heap.size)) (qs:=[]) (as_:=[]) aj RE rfl ak ak an an aj an (by exact (Tg (e:=vF e i) ab)) (fun x hx=>hx) bg bg ?_
 refine ur ?_
 refine aU ?_
 refine zwz ?_
 refine tk ?_
 refine rK ?_
 exact zww
end Go.Proofs.YtmekkgdboplbjaaGreatDoor
