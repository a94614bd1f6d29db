/- What functions of the program compute. No condition. -/
import Derived.Test.YtmekkgdboplbjaaGreatDoorEJ1
import Derived.Test.YtmekkgdboplbjaaGreatDoorEK1
import Derived.Test.YtmekkgdboplbjaaGreatDoorEZ0
import Derived.Test.YtmekkgdboplbjaaGreatDoorEG1
import Derived.Test.YtmekkgdboplbjaaGreatDoorEI1
import Derived.Test.YtmekkgdboplbjaaGreatDoorEM1
set_option linter.all false
namespace Go.Proofs.YtmekkgdboplbjaaGreatDoor
open Go Go.RowKit M PV Tryz
set_option maxRecDepth 10000
attribute [local irreducible] PV.Lcl PV.LclR RV.Lcl
set_option maxHeartbeats 8000000
def auI{p1 p2 p5 p6 p7 p8 p9 p11 p12 p13 p14 p16 p17 p18:Fl}{e:aC}{n:Int}(hb:bA e≤68718000000):aQ prog 119 [(true,[sl .v (e.Store.ax2.map (aO p1 p2)),val (vI e.Store.Now),val (vI e.ax7),sl .v (e.Order.map ar),sl .v (e.ax3.map (bd p5 p6 p7 p8 p9)),sl .v (e.Done.map (bw p11 p12 p13 p14)),sl .v (e.ayf.map (bz p16 p17 p18)),val (vI e.Steps)]),(false,[val (vI n)])] (aB [(true,[sl bH ((oa e n).Store.ax2.map (aO bc ai)),val (vI (oa e n).Store.Now),val (vI (oa e n).ax7),sl ai ((oa e n).Order.map ar),sl cm ((oa e n).ax3.map (bd aH ai ai aL ai)),sl cf ((oa e n).Done.map (bw aH ai aL ai)),sl ck ((oa e n).ayf.map (bz ai ai ai)),val (vI (oa e n).Steps)])]):=by
 refine sF func119 fun h0 w0 Fz0=>?_
 refine sn 0 0 fun hl0_0=>?_
 refine sn 0 3 fun hl0_3=>?_
 refine sn 0 4 fun hl0_4=>?_
 refine sn 0 5 fun hl0_5=>?_
 refine sn 0 6 fun hl0_6=>?_
 have hbu:=hb
 simp only [bA,iO,kk,jt] at hbu
 refine Cv ?_
 refine sT [1,2,4] [2,4] ?_
 refine Ha ?_
 refine zN ?_
 refine sO [(1,_),(2,_),(4,_),(5,_)] [(2,_),(4,_),(5,(46,aW))] ?_
 refine aY ?_
 refine cl ?_
 refine sP [1,2,4,5,6] [2,4,5] ?_
 refine sL [1,2,4,5] [2,4] (fun k:Nat=>k≤rR n) (fun k:Nat=>[(6,RV.int (k:Int))]) (fun k:Nat=>[(5,(46,[sl bH ((mz e k).Store.ax2.map (aO bc ai)),val (vI (mz e k).Store.Now),val (vI (mz e k).ax7),sl ai ((mz e k).Order.map ar),sl cm ((mz e k).ax3.map (bd aH ai ai aL ai)),sl cf ((mz e k).Done.map (bw aH ai aL ai)),sl ck ((mz e k).ayf.map (bz ai ai ai)),val (vI (mz e k).Steps)]))]) (fun k:Nat=>rR n - k) 0 ab bp bp ?_
 rintro k hk
 have hrw:=SI e k
 have hrl:=aj2 n
 refine cP ?_
 refine uJ ?_
 refine rM ?_
 refine cx 12 ?_ ?_<;>intro ga sga
 refine Cw ?_
 refine jq ?_
 refine sc ?_ ?_<;>intro hba
 have hlt:k < rR n:=by unfold rR;first|omega|(simp_all;omega)
 refine bv ?_
 refine sH [1,2,4,5,6] [2,4,5] ?_
 refine tu ?_
 refine rA ?_ (x:=cL [(true,aW)] [(true,cO)] ap8 (hs:=by exact (auo (e:=mz e k) ab)))
 refine cb ?_
 refine Oo ?_
 refine sO [(1,_),(2,_),(4,_),(5,_),(6,_)] [(2,_),(4,_),(5,(46,aW))] ?_
 refine aY ?_
 refine lv ?_
 exact ZJ
 exact zy1
 refine rf ?_
 exact zy1
def auJ{p1 p2 p5 p6 p7 p8 p9 p11 p12 p13 p14 p16 p17 p18:Fl}{e:aC}{u:ax6}(hb:bA e≤68718000000)(hbu0:mR u≤68718000000):aQ prog 118 [(true,[sl .v (e.Store.ax2.map (aO p1 p2)),val (vI e.Store.Now),val (vI e.ax7),sl .v (e.Order.map ar),sl .v (e.ax3.map (bd p5 p6 p7 p8 p9)),sl .v (e.Done.map (bw p11 p12 p13 p14)),sl .v (e.ayf.map (bz p16 p17 p18)),val (vI e.Steps)]),(true,[val (vI u.Kind),val (vI u.Row.Id),sl .v (u.Row.Values.map ar),val (vI u.Field),val (vI u.Value)])] (aB [(true,[sl bH ((dl e u).1.Store.ax2.map (aO bc ai)),val (vI (dl e u).1.Store.Now),val (vI (dl e u).1.ax7),sl ai ((dl e u).1.Order.map ar),sl cm ((dl e u).1.ax3.map (bd aH ai ai aL ai)),sl cf ((dl e u).1.Done.map (bw aH ai aL ai)),sl ck ((dl e u).1.ayf.map (bz ai ai ai)),val (vI (dl e u).1.Steps)]),(false,[val (.bool (dl e u).2)])]):=by
 refine pm (largs:=fun L=>[(true,[sl (.lo L) (e.Store.ax2.map (aO (.lo L) (.lo L))),val (vI e.Store.Now),val (vI e.ax7),sl (.lo L) (e.Order.map ar),sl (.lo L) (e.ax3.map (bd (.lo L) (.lo L) (.lo L) (.lo L) (.lo L))),sl (.lo L) (e.Done.map (bw (.lo L) (.lo L) (.lo L) (.lo L))),sl (.lo L) (e.ayf.map (bz (.lo L) (.lo L) (.lo L))),val (vI e.Steps)]),(true,[val (vI u.Kind),val (vI u.Row.Id),sl (.lo L) (u.Row.Values.map ar),val (vI u.Field),val (vI u.Value)])]) (rs:=[(true,[sl bH ((dl e u).1.Store.ax2.map (aO bc ai)),val (vI (dl e u).1.Store.Now),val (vI (dl e u).1.ax7),sl ai ((dl e u).1.Order.map ar),sl cm ((dl e u).1.ax3.map (bd aH ai ai aL ai)),sl cf ((dl e u).1.Done.map (bw aH ai aL ai)),sl ck ((dl e u).1.ayf.map (bz ai ai ai)),val (vI (dl e u).1.Steps)]),(false,[val (.bool (dl e u).2)])]) func118 rfl (nl rfl) (fun L=>by exact (aI (aI rfl (am.cons (aT (fun _=>nl rfl) (fun _=>(am.cons (aT (fun _=>nl rfl) (fun _=>(am.cons ay (am.cons (aT (fun _=>nl rfl) (fun _=>(am.cons ay am.nil))) (am.cons ay (am.cons ay am.nil)))))) am.nil))) (am.cons ay (am.cons ay (am.cons (aT (fun _=>nl rfl) (fun _=>(am.cons ay am.nil))) (am.cons (aT (fun _=>nl rfl) (fun _=>(am.cons ay (am.cons ay (am.cons (aT (fun _=>nl rfl) (fun _=>(am.cons ay (am.cons ay (am.cons ay am.nil))))) (am.cons (aT (fun _=>nl rfl) (fun _=>(am.cons ay am.nil))) (am.cons ay (am.cons (aT (fun _=>nl rfl) (fun _=>(am.cons ay am.nil))) (am.cons ay (am.cons ay (am.cons ay (am.cons (aT (fun _=>nl rfl) (fun _=>(am.cons ay (am.cons (aT (fun _=>nl rfl) (fun _=>(am.cons ay am.nil))) am.nil)))) am.nil)))))))))))) (am.cons (aT (fun _=>nl rfl) (fun _=>(am.cons ay (am.cons ay (am.cons (aT (fun _=>nl rfl) (fun _=>(am.cons ay (am.cons ay (am.cons ay am.nil))))) (am.cons (aT (fun _=>nl rfl) (fun _=>(am.cons ay am.nil))) (am.cons ay (am.cons ay (am.cons (aT (fun _=>nl rfl) (fun _=>(am.cons ay (am.cons (aT (fun _=>nl rfl) (fun _=>(am.cons ay am.nil))) am.nil)))) am.nil))))))))) (am.cons (aT (fun _=>nl rfl) (fun _=>(am.cons ay (am.cons ay (am.cons (aT (fun _=>nl rfl) (fun _=>(am.cons ay am.nil))) (am.cons (aT (fun _=>nl rfl) (fun _=>(am.cons ay am.nil))) (am.cons (aT (fun _=>nl rfl) (fun _=>(am.cons ay am.nil))) am.nil))))))) (am.cons ay am.nil))))))))) (aI (aI rfl (am.cons ay (am.cons ay (am.cons (aT (fun _=>nl rfl) (fun _=>(am.cons ay am.nil))) (am.cons ay (am.cons ay am.nil)))))) tI))) (fun L=>by exact lq) ?_
 intro w0 Fz0
 refine sn 0 0 fun hl0_0=>?_
 refine sn 0 3 fun hl0_3=>?_
 refine sn 0 4 fun hl0_4=>?_
 refine sn 0 5 fun hl0_5=>?_
 refine sn 0 6 fun hl0_6=>?_
 refine sn 1 2 fun hl1_2=>?_
 have hbu:=hb
 simp only [bA,iO,kk,jt] at hbu
 have haw:=SO e.Store u
 have hww:=SR e u
 refine zy2 ?_
 refine zy3 ?_
 refine NV ?_
 refine lu ?_
 refine aU ?_
 refine zy4 ?_
 refine aY ?_
 refine Pg ?_
 refine rA ?_ (x:=lD [val _,val _,sl (.lo _) _,val _,val _] kq)
 refine rA ?_ (x:=cL [(true,[sl (.lo _) _,val _]),(true,[val _,val _,sl (.lo _) _,val _,val _])] [(true,eh),(true,gK)] ap7 (hs:=by exact (asx ab ab)))
 refine CW ?_
 refine oz ?_
 refine rS ?_
 refine zy5 ?_
 refine uw ?_
 refine NX ?_
 refine cx 21 ?_ ?_<;>intro ga sga
 refine mb ?_
 exact MZ
 refine gN ?_
 refine HW ?_
 refine sc ?_ ?_<;>intro hba
 exact MZ
 have hok:(bn e&&(eI e.Store u).2)=true:=Ew
 refine ba ?_
 refine zy7 ?_
 refine Hu ?_
 refine aU ?_
 refine zy8 ?_
 refine wA ?_ (x:=eN (ms:=aW) (qs:=[any,val _,val _,any,any,any,any,val _]) aj dj (fun h=>nomatch h) az ak KD bg)
 refine wO [(2,_),(3,_),(4,_),(5,_),(6,_),(7,_),(8,_),(28,_)] [(2,_),(3,_),(4,_),(6,(46,[any,val _,val _,any,any,any,any,val _])),(7,_)] ?_
 refine Ml (L:=(Lw w0.heap.size)) (qs:=[(true,aW)]) (as_:=[(true,aW)]) aj RB gI bS aj bg (by exact (Tf (e:=vG e (eI e.Store u).1) ab)) (fun x hx=>hx) bg bg ?_
 refine wA ?_ (x:=bV (ag:=true) (vs:=aW) dj an ak az)
 refine wA ?_ (x:=kA)
 refine ur ?_
 exact zy9
def auK{p1 p2 p5 p6 p7 p8 p9 p11 p12 p13 p14 p16 p17 p18:Fl}{e:aC}{u:ax6}(hb:bA e≤68718000000)(hbu0:mR u≤68718000000):aQ prog 223 [(true,[sl .v (e.Store.ax2.map (aO p1 p2)),val (vI e.Store.Now),val (vI e.ax7),sl .v (e.Order.map ar),sl .v (e.ax3.map (bd p5 p6 p7 p8 p9)),sl .v (e.Done.map (bw p11 p12 p13 p14)),sl .v (e.ayf.map (bz p16 p17 p18)),val (vI e.Steps)]),(true,[val (vI u.Kind),val (vI u.Row.Id),sl .v (u.Row.Values.map ar),val (vI u.Field),val (vI u.Value)])] (aB [(true,[sl bH ((dl e u).1.Store.ax2.map (aO bc ai)),val (vI (dl e u).1.Store.Now),val (vI (dl e u).1.ax7),sl ai ((dl e u).1.Order.map ar),sl cm ((dl e u).1.ax3.map (bd aH ai ai aL ai)),sl cf ((dl e u).1.Done.map (bw aH ai aL ai)),sl ck ((dl e u).1.ayf.map (bz ai ai ai)),val (vI (dl e u).1.Steps)]),(false,[val (.bool (dl e u).2)])]):=by
 refine pm (largs:=fun L=>[(true,[sl (.lo L) (e.Store.ax2.map (aO (.lo L) (.lo L))),val (vI e.Store.Now),val (vI e.ax7),sl (.lo L) (e.Order.map ar),sl (.lo L) (e.ax3.map (bd (.lo L) (.lo L) (.lo L) (.lo L) (.lo L))),sl (.lo L) (e.Done.map (bw (.lo L) (.lo L) (.lo L) (.lo L))),sl (.lo L) (e.ayf.map (bz (.lo L) (.lo L) (.lo L))),val (vI e.Steps)]),(true,[val (vI u.Kind),val (vI u.Row.Id),sl (.lo L) (u.Row.Values.map ar),val (vI u.Field),val (vI u.Value)])]) (rs:=[(true,[sl bH ((dl e u).1.Store.ax2.map (aO bc ai)),val (vI (dl e u).1.Store.Now),val (vI (dl e u).1.ax7),sl ai ((dl e u).1.Order.map ar),sl cm ((dl e u).1.ax3.map (bd aH ai ai aL ai)),sl cf ((dl e u).1.Done.map (bw aH ai aL ai)),sl ck ((dl e u).1.ayf.map (bz ai ai ai)),val (vI (dl e u).1.Steps)]),(false,[val (.bool (dl e u).2)])]) func223 rfl (nl rfl) (fun L=>by exact (aI (aI rfl (am.cons (aT (fun _=>nl rfl) (fun _=>(am.cons (aT (fun _=>nl rfl) (fun _=>(am.cons ay (am.cons (aT (fun _=>nl rfl) (fun _=>(am.cons ay am.nil))) (am.cons ay (am.cons ay am.nil)))))) am.nil))) (am.cons ay (am.cons ay (am.cons (aT (fun _=>nl rfl) (fun _=>(am.cons ay am.nil))) (am.cons (aT (fun _=>nl rfl) (fun _=>(am.cons ay (am.cons ay (am.cons (aT (fun _=>nl rfl) (fun _=>(am.cons ay (am.cons ay (am.cons ay am.nil))))) (am.cons (aT (fun _=>nl rfl) (fun _=>(am.cons ay am.nil))) (am.cons ay (am.cons (aT (fun _=>nl rfl) (fun _=>(am.cons ay am.nil))) (am.cons ay (am.cons ay (am.cons ay (am.cons (aT (fun _=>nl rfl) (fun _=>(am.cons ay (am.cons (aT (fun _=>nl rfl) (fun _=>(am.cons ay am.nil))) am.nil)))) am.nil)))))))))))) (am.cons (aT (fun _=>nl rfl) (fun _=>(am.cons ay (am.cons ay (am.cons (aT (fun _=>nl rfl) (fun _=>(am.cons ay (am.cons ay (am.cons ay am.nil))))) (am.cons (aT (fun _=>nl rfl) (fun _=>(am.cons ay am.nil))) (am.cons ay (am.cons ay (am.cons (aT (fun _=>nl rfl) (fun _=>(am.cons ay (am.cons (aT (fun _=>nl rfl) (fun _=>(am.cons ay am.nil))) am.nil)))) am.nil))))))))) (am.cons (aT (fun _=>nl rfl) (fun _=>(am.cons ay (am.cons ay (am.cons (aT (fun _=>nl rfl) (fun _=>(am.cons ay am.nil))) (am.cons (aT (fun _=>nl rfl) (fun _=>(am.cons ay am.nil))) (am.cons (aT (fun _=>nl rfl) (fun _=>(am.cons ay am.nil))) am.nil))))))) (am.cons ay am.nil))))))))) (aI (aI rfl (am.cons ay (am.cons ay (am.cons (aT (fun _=>nl rfl) (fun _=>(am.cons ay am.nil))) (am.cons ay (am.cons ay am.nil)))))) tI))) (fun L=>by exact lq) ?_
 intro w0 Fz0
 refine sn 0 0 fun hl0_0=>?_
 refine sn 0 3 fun hl0_3=>?_
 refine sn 0 4 fun hl0_4=>?_
 refine sn 0 5 fun hl0_5=>?_
 refine sn 0 6 fun hl0_6=>?_
 refine sn 1 2 fun hl1_2=>?_
 have hbu:=hb
 simp only [bA,iO,kk,jt] at hbu
 have haw:=SO e.Store u
 have hww:=SR e u
 refine zy2 ?_
 refine zy3 ?_
 refine NY ?_
 refine zN ?_
 refine zy4 ?_
 refine zvr ?_
 refine gx ?_
 refine sc ?_ ?_<;>intro hba
 have hno:(bn e&&(eI e.Store u).2)=false:=Ew
 refine sS [2,3,4,5,6] [2,3,4,6] ?_
 exact zya
 refine PZ ?_
 refine Pg ?_
 refine rA ?_ (x:=lD [val _,val _,sl (.lo _) _,val _,val _] kq)
 refine rA ?_ (x:=cL [(true,[sl (.lo _) _,val _]),(true,[val _,val _,sl (.lo _) _,val _,val _])] [(true,eh),(true,gK)] aiy (hs:=by exact (ajC ab ab)))
 refine CW ?_
 refine oz ?_
 refine rS ?_
 refine zy5 ?_
 refine nH ?_
 refine gx ?_
 refine sc ?_ ?_<;>intro hbb
 exact MZ
 have hok:(bn e&&(eI e.Store u).2)=true:=Ew
 refine ba ?_
 refine zy7 ?_
 refine Hu ?_
 refine aU ?_
 refine zy8 ?_
 refine wO [(2,_),(3,_),(4,_),(5,_),(6,_),(7,_),(8,_)] [(2,_),(3,_),(4,_),(6,_),(7,_)] ?_
 refine BA (bx:=6) (L:=(Lw w0.heap.size)) (qs:=[]) (as_:=[]) aj RE rfl ak ak an an aj an (by exact (Tg (e:=vG e (eI e.Store u).1) ab)) (fun x hx=>hx) bg bg ?_
 refine ur ?_
 refine aU ?_
 refine sO [(2,_),(3,_),(4,_),(5,_),(6,_),(7,_),(8,_)] [(2,_),(3,_),(4,_),(6,(46,aW)),(7,_)] ?_
 refine tk ?_
 refine rK ?_
 exact zy9
def akt{p1 p2 p5 p6 p7 p8 p9 p11 p12 p13 p14 p16 p17 p18:Fl}{e:aC}{x:cZ}(hb:bA e≤68710000000)(hx:ki x≤68710000000):aQ prog 44 [(true,[sl .v (e.Store.ax2.map (aO p1 p2)),val (vI e.Store.Now),val (vI e.ax7),sl .v (e.Order.map ar),sl .v (e.ax3.map (bd p5 p6 p7 p8 p9)),sl .v (e.Done.map (bw p11 p12 p13 p14)),sl .v (e.ayf.map (bz p16 p17 p18)),val (vI e.Steps)]),(true,[val (vI x.Kind),val (vI x.ax4.Id),val (vI x.ax4.ax8),sl .v (x.ax4.ax5.map bF),sl .v (x.ax4.Out.map ar),val (vI x.Limit),val (vI x.Id),val (vI x.ax6.Kind),val (vI x.ax6.Row.Id),sl .v (x.ax6.Row.Values.map ar),val (vI x.ax6.Field),val (vI x.ax6.Value),val (vI x.Steps)])] (aB [(true,[sl bH ((gU e x).1.Store.ax2.map (aO bc ai)),val (vI (gU e x).1.Store.Now),val (vI (gU e x).1.ax7),sl ai ((gU e x).1.Order.map ar),sl cm ((gU e x).1.ax3.map (bd aH ai ai aL ai)),sl cf ((gU e x).1.Done.map (bw aH ai aL ai)),sl ck ((gU e x).1.ayf.map (bz ai ai ai)),val (vI (gU e x).1.Steps)]),(false,[val (.bool (gU e x).2)])]):=by
 refine sF func44 fun h0 w0 Fz0=>?_
 refine sn 0 0 fun hl0_0=>?_
 refine sn 0 3 fun hl0_3=>?_
 refine sn 0 4 fun hl0_4=>?_
 refine sn 0 5 fun hl0_5=>?_
 refine sn 0 6 fun hl0_6=>?_
 refine sn 1 3 fun hl1_3=>?_
 refine sn 1 4 fun hl1_4=>?_
 refine sn 1 9 fun hl1_9=>?_
 have hbu:=hb
 simp only [bA,iO,kk,jt] at hbu
 have hbx:=hx
 simp only [ki,bo] at hbx
 refine nE ?_
 refine zyb ?_
 refine Co ?_
 refine sT [2,3,4,5] [2,3,4] ?_
 refine NN ?_
 refine fp ?_
 refine cx 9 ?_ ?_<;>intro ga sga
 refine mb ?_
 exact zyc
 refine zyd ?_
 refine rB ga ?_ (x:=cL [(true,cS)] [(true,ej)] DO (hs:=ET))
 refine HW ?_
 refine sc ?_ ?_<;>intro hba
 exact zyc
 have hok:(bn e&&dE x)=true:=Uo
 refine dp ?_
 refine sS [2,3,4,5] [2,3,4] ?_
 refine zF ?_
 refine Qk ?_
 refine sc ?_ ?_<;>intro hbb
 have hk1:x.Kind=1:=by first|exact hbb|simpa using hbb
 refine Hx ?_
 refine zxm ?_
 refine rA ?_ (x:=lF oP)
 refine ff ?_
 refine rA ?_ (x:=cL [(true,aW),(true,bX),(false,[val _])] [(true,cO),(true,di),(false,[val _])] apy (hs:=by exact (aux ab ab)))
 exact Na
 have hk1n:¬x.Kind=1:=by first|exact hbb|simpa using hbb
 refine Qk ?_
 refine sc ?_ ?_<;>intro hbc
 have hk2:x.Kind=2:=Fv
 refine Hx ?_
 refine rA ?_ (x:=lF pU)
 refine ff ?_
 refine rA ?_ (x:=cL [(true,aW),(false,[val _])] [(true,cO),(false,[val _])] apz (hs:=by exact (auz ab)))
 exact Na
 have hk2n:¬x.Kind=2:=Fv
 refine Qk ?_
 refine sc ?_ ?_<;>intro hbd
 have hk3:x.Kind=3:=ue
 refine Hx ?_
 refine yZ ?_
 refine rA ?_ (x:=cL [(true,aW),(true,eP)] [(true,cO),(true,gK)] apA (hs:=by exact (auJ ab ab)))
 exact Na
 have hk3n:¬x.Kind=3:=ue
 refine ba ?_
 refine Hx ?_
 refine xu ?_
 refine ff ?_
 refine rA ?_ (x:=cL [(true,aW),(false,[val _])] [(true,cO),(false,[val _])] apB (hs:=by exact (auI ab)))
 refine zss ?_
 exact zyh
def auL{p1 p2 p5 p6 p7 p8 p9 p11 p12 p13 p14 p16 p17 p18 p20 p21 p22:Fl}{e:aC}{l:List cZ}(hb:bA e≤68700000000)(hx:IW l≤68700000000):aQ prog 43 [(true,[sl .v (e.Store.ax2.map (aO p1 p2)),val (vI e.Store.Now),val (vI e.ax7),sl .v (e.Order.map ar),sl .v (e.ax3.map (bd p5 p6 p7 p8 p9)),sl .v (e.Done.map (bw p11 p12 p13 p14)),sl .v (e.ayf.map (bz p16 p17 p18)),val (vI e.Steps)]),(false,[sl .v (l.map (Ds p20 p21 p22))])] (aB [(true,[sl bH ((nk e l).1.Store.ax2.map (aO bc ai)),val (vI (nk e l).1.Store.Now),val (vI (nk e l).1.ax7),sl ai ((nk e l).1.Order.map ar),sl cm ((nk e l).1.ax3.map (bd aH ai ai aL ai)),sl cf ((nk e l).1.Done.map (bw aH ai aL ai)),sl ck ((nk e l).1.ayf.map (bz ai ai ai)),val (vI (nk e l).1.Steps)]),(false,[val (vI (nk e l).2)])]):=by
 refine sF func43 fun h0 w0 Fz0=>?_
 refine sn 0 0 fun hl0_0=>?_
 refine sn 0 3 fun hl0_3=>?_
 refine sn 0 4 fun hl0_4=>?_
 refine sn 0 5 fun hl0_5=>?_
 refine sn 0 6 fun hl0_6=>?_
 refine sj 1 fun hl1=>?_
 have hbu:=hb
 simp only [bA,iO,kk,jt] at hbu
 have hbx:=hx
 simp only [IW] at hbx
 refine Cv ?_
 refine rK ?_
 refine sT [1,2,4,5] [2,4] ?_
 refine Ha ?_
 refine lu ?_
 refine OF ?_
 refine aY ?_
 refine iv ?_
 refine sS [1,2,4,5,6,7] [2,4,6] ?_
 refine dD ?_
 refine dD ?_
 refine rA ?_ (x:=lN rI)
 refine rA ?_ (x:=LN aj an (bi rfl))
 refine rA ?_ (x:=Bv (i:=0) (j:=(min l.length 60)) (ys:=(l.take (min l.length 60))) (q:=(0:Int)) aj rI ak an fU ab ab ab (fun _=>rfl) aM)
 refine rA ?_ (x:=lN rI)
 refine fK ?_
 refine sP [1,2,4,5,6,7,18,19,20] [2,4,6] ?_
 refine sL [1,2,4,5,6,18,19] [2,4] (fun k:Nat=>k≤(min l.length 60)) (fun k:Nat=>[(7,RV.int (dM e l k).2),(20,RV.int (k:Int))]) (fun k:Nat=>[(6,(46,[sl bH ((dM e l k).1.Store.ax2.map (aO bc ai)),val (vI (dM e l k).1.Store.Now),val (vI (dM e l k).1.ax7),sl ai ((dM e l k).1.Order.map ar),sl cm ((dM e l k).1.ax3.map (bd aH ai ai aL ai)),sl cf ((dM e l k).1.Done.map (bw aH ai aL ai)),sl ck ((dM e l k).1.ayf.map (bz ai ai ai)),val (vI (dM e l k).1.Steps)]))]) (fun k:Nat=>(min l.length 60) - k) 0 ab gp bp ?_
 rintro k hk
 have heb:=SZ e l k ab ab
 refine cY ?_
 refine sc ?_ ?_<;>intro hba
 try simp only [cI] at hba
 have hltk:k < (min l.length 60):=kc
 have hltl:k < l.length:=ab
 have hwm:=fg (f:=ki) hltl
 refine bv ?_
 refine sT [1,2,4,5,6,7,18,19,20] [2,4,6] ?_
 refine rA ?_ (x:=aZ (k:=k) aj rI an ak (by exact fX fb (by rw [List.getElem_take])) ak)
 refine rA ?_ (x:=lE ej iA)
 refine xr ?_
 refine Ny ?_
 refine sO [(1,_),(2,_),(4,_),(5,_),(6,_),(7,_),(9,_),(18,_),(19,_),(20,_)] [(2,_),(4,_),(6,_),(9,(31,cS))] ?_
 refine Pa ?_
 refine Dk ?_
 refine rA ?_ (x:=cL [(true,aW),(true,cS)] [(true,cO),(true,ej)] RG (hs:=by exact (akt (e:=(dM e l k).1) (x:=l[k]) ab ab)))
 refine cb ?_
 refine BR ?_
 refine lu ?_
 refine eU ?_
 refine sO [(1,_),(2,_),(4,_),(5,_),(6,_),(7,_),(9,_),(10,_),(11,_),(18,_),(19,_),(20,_)] [(2,_),(4,_),(6,_),(9,_),(10,(46,aW))] ?_
 refine tk ?_
 refine aU ?_
 refine sO [(1,_),(2,_),(4,_),(5,_),(6,_),(7,_),(9,_),(10,_),(11,_),(18,_),(19,_),(20,_)] [(2,_),(4,_),(6,(46,aW)),(9,_),(10,(46,aW))] ?_
 refine nH ?_
 refine sc ?_ ?_<;>intro hbb
 have hy:(gU (dM e l k).1 l[k]).2=true:=jA
 refine sG [1,2,4,5,6,7,9,10,11,18,19,20] [2,4,6,9,10] ?_
 refine cB ?_
 exact zym
 have hy:¬(gU (dM e l k).1 l[k]).2=true:=jA
 refine ba ?_
 exact zym
 try simp only [cI] at hba
 have hend:k=(min l.length 60):=kc
 refine bI ?_
 refine sT [1,2,4,5,6,7,18,19,20] [2,4,6] ?_
 refine QG ?_
 refine rM ?_
 refine Ab ?_
 refine db ?_
 exact (bh 4 (bh _ (aI ak (aI (by refine dh ?_;unfold nk;rw [←hend];exact rfl) (aI dj (aI (fun h=>nomatch h) (aI (by refine cX ?_;unfold nk;rw [←hend]) tI)))))))
end Go.Proofs.YtmekkgdboplbjaaGreatDoor
