/- What functions of the program compute. No condition. -/
import Derived.Test.YtmekkgdboplbjaaGreatDoorRD1
set_option linter.all false
set_option maxHeartbeats 8000000
namespace Go.Proofs.YtmekkgdboplbjaaGreatDoor
open Go Go.RowKit M PV Tryz
set_option maxRecDepth 10000
attribute [local irreducible] PV.Lcl PV.LclR RV.Lcl
variable{p1 p2 p5 p6 p7 p8 p9 p11 p12 p13 p14 p16 p17 p18:Fl}{e:av}
def ayv{n:Int}(hb:aZ e≤68718000000):aE prog 119 [(true,[sl .v (e.Store.aC5.map (aG p1 p2)),val (vI e.Store.Now),val (vI e.aDa),sl .v (e.Order.map ar),sl .v (e.aC6.map (aO p5 p6 p7 p8 p9)),sl .v (e.Done.map (bd p11 p12 p13 p14)),sl .v (e.aDi.map (ba p16 p17 p18)),val (vI e.Steps)]),(false,[val (vI n)])] (aA [(true,[sl bH ((jl e n).Store.aC5.map (aG bc ai)),val (vI (jl e n).Store.Now),val (vI (jl e n).aDa),sl ai ((jl e n).Order.map ar),sl ct ((jl e n).aC6.map (aO aH ai ai aJ ai)),sl ck ((jl e n).Done.map (bd aH ai aJ ai)),sl cl ((jl e n).aDi.map (ba ai ai ai)),val (vI (jl e n).Steps)])]):=by
 refine sF func119 fun h0 w0 Fz0=>?_
 refine sn 0 0 fun hl0_0=>?_
 refine sn 0 3 fun hl0_3=>?_
 refine sn 0 4 fun hl0_4=>?_
 refine sn 0 5 fun hl0_5=>?_
 refine sn 0 6 fun hl0_6=>?_
 have hbu:=hb
 simp only [aZ,fk,gN,go] at hbu
 refine np ?_
 refine sT [1,2,4] [2,4] ?_
 refine CS ?_
 refine kR ?_
 refine sV [1,2,4,5] [2,4] [5] ?_
 refine cm ?_
 refine zzk ?_
 rintro k hk
 have hrw:=Ld e k
 have hrl:=Ui n
 refine bI ?_
 refine rM ?_
 refine kQ ?_
 refine cx 12 ?_ ?_<;>intro ga sga
 refine Aa ?_
 refine iq ?_
 refine sc ?_ ?_<;>intro hba
 have hlt:k < qF n:=XK
 refine aY ?_
 refine sH [1,2,4,5,6] [2,4,5] ?_
 refine je ?_
 refine rA ?_ (x:=cL fi fu alY (hs:=by exact (anU (e:=lh e k) ab)))
 refine zzl ?_
 refine sW [1,2,4,5,6] [2,4] [5] ?_
 exact zzm
 exact OH
 exact zzo
def ayw{n:Int}(hb:aZ e≤68718000000):aE prog 258 [(true,[sl .v (e.Store.aC5.map (aG p1 p2)),val (vI e.Store.Now),val (vI e.aDa),sl .v (e.Order.map ar),sl .v (e.aC6.map (aO p5 p6 p7 p8 p9)),sl .v (e.Done.map (bd p11 p12 p13 p14)),sl .v (e.aDi.map (ba p16 p17 p18)),val (vI e.Steps)]),(false,[val (vI n)])] (aA [(true,[sl bH ((jl e n).Store.aC5.map (aG bc ai)),val (vI (jl e n).Store.Now),val (vI (jl e n).aDa),sl ai ((jl e n).Order.map ar),sl ct ((jl e n).aC6.map (aO aH ai ai aJ ai)),sl ck ((jl e n).Done.map (bd aH ai aJ ai)),sl cl ((jl e n).aDi.map (ba ai ai ai)),val (vI (jl e n).Steps)])]):=by
 refine sF func258 fun h0 w0 Fz0=>?_
 refine sn 0 0 fun hl0_0=>?_
 refine sn 0 3 fun hl0_3=>?_
 refine sn 0 4 fun hl0_4=>?_
 refine sn 0 5 fun hl0_5=>?_
 refine sn 0 6 fun hl0_6=>?_
 have hbu:=hb
 simp only [aZ,fk,gN,go] at hbu
 refine np ?_
 refine sT [1,2,4] [2,4] ?_
 refine zG ?_
 refine kR ?_
 refine sV [1,2,4,5] [2,4] [5] ?_
 refine cm ?_
 refine zzk ?_
 rintro k hk
 have hrw:=Ld e k
 have hrl:=Ui n
 refine bI ?_
 refine rM ?_
 refine kQ ?_
 refine cx 14 ?_ ?_<;>intro ga sga
 refine Aa ?_
 refine iq ?_
 refine sc ?_ ?_<;>intro hba
 have hlt:k < qF n:=XK
 refine aY ?_
 refine sT [1,2,4,5,6] [2,4,5] ?_
 refine je ?_
 refine rA ?_ (x:=cL fi fu al1 (hs:=by exact (anV (e:=lh e k) ab)))
 refine xL ?_
 refine sW [1,2,4,5,6,7,8] [2,4,5] [7] ?_
 refine ph ?_
 refine sW [1,2,4,5,6,7,8] [2,4] [5,7] ?_
 exact zzm
 exact OH
 exact zzo
def ayx{u:aC9}(hb:aZ e≤68718000000)(hbu0:jR u≤68718000000):aE prog 118 [(true,[sl .v (e.Store.aC5.map (aG p1 p2)),val (vI e.Store.Now),val (vI e.aDa),sl .v (e.Order.map ar),sl .v (e.aC6.map (aO p5 p6 p7 p8 p9)),sl .v (e.Done.map (bd p11 p12 p13 p14)),sl .v (e.aDi.map (ba p16 p17 p18)),val (vI e.Steps)]),(true,[val (vI u.Kind),val (vI u.Row.Id),sl .v (u.Row.Values.map ar),val (vI u.Field),val (vI u.Value)])] (aA [(true,[sl bH ((dG e u).1.Store.aC5.map (aG bc ai)),val (vI (dG e u).1.Store.Now),val (vI (dG e u).1.aDa),sl ai ((dG e u).1.Order.map ar),sl ct ((dG e u).1.aC6.map (aO aH ai ai aJ ai)),sl ck ((dG e u).1.Done.map (bd aH ai aJ ai)),sl cl ((dG e u).1.aDi.map (ba ai ai ai)),val (vI (dG e u).1.Steps)]),(false,[val (.bool (dG e u).2)])]):=by
 refine oZ (largs:=fun L=>[(true,[sl (.lo L) (e.Store.aC5.map (aG (.lo L) (.lo L))),val (vI e.Store.Now),val (vI e.aDa),sl (.lo L) (e.Order.map ar),sl (.lo L) (e.aC6.map (aO (.lo L) (.lo L) (.lo L) (.lo L) (.lo L))),sl (.lo L) (e.Done.map (bd (.lo L) (.lo L) (.lo L) (.lo L))),sl (.lo L) (e.aDi.map (ba (.lo L) (.lo L) (.lo L))),val (vI e.Steps)]),(true,[val (vI u.Kind),val (vI u.Row.Id),sl (.lo L) (u.Row.Values.map ar),val (vI u.Field),val (vI u.Value)])]) (rs:=[(true,[sl bH ((dG e u).1.Store.aC5.map (aG bc ai)),val (vI (dG e u).1.Store.Now),val (vI (dG e u).1.aDa),sl ai ((dG e u).1.Order.map ar),sl ct ((dG e u).1.aC6.map (aO aH ai ai aJ ai)),sl ck ((dG e u).1.Done.map (bd aH ai aJ ai)),sl cl ((dG e u).1.aDi.map (ba ai ai ai)),val (vI (dG e u).1.Steps)]),(false,[val (.bool (dG e u).2)])]) func118 rfl (nl rfl) (fun L=>by exact (aI (aI rfl (am.cons (aT (fun _=>nl rfl) (fun _=>(am.cons (aT (fun _=>nl rfl) (fun _=>(am.cons ax (am.cons (aT (fun _=>nl rfl) (fun _=>(am.cons ax am.nil))) (am.cons ax (am.cons ax am.nil)))))) am.nil))) (am.cons ax (am.cons ax (am.cons (aT (fun _=>nl rfl) (fun _=>(am.cons ax am.nil))) (am.cons (aT (fun _=>nl rfl) (fun _=>(am.cons ax (am.cons ax (am.cons (aT (fun _=>nl rfl) (fun _=>(am.cons ax (am.cons ax (am.cons ax am.nil))))) (am.cons (aT (fun _=>nl rfl) (fun _=>(am.cons ax am.nil))) (am.cons ax (am.cons (aT (fun _=>nl rfl) (fun _=>(am.cons ax am.nil))) (am.cons ax (am.cons ax (am.cons ax (am.cons (aT (fun _=>nl rfl) (fun _=>(am.cons ax (am.cons (aT (fun _=>nl rfl) (fun _=>(am.cons ax am.nil))) am.nil)))) am.nil)))))))))))) (am.cons (aT (fun _=>nl rfl) (fun _=>(am.cons ax (am.cons ax (am.cons (aT (fun _=>nl rfl) (fun _=>(am.cons ax (am.cons ax (am.cons ax am.nil))))) (am.cons (aT (fun _=>nl rfl) (fun _=>(am.cons ax am.nil))) (am.cons ax (am.cons ax (am.cons (aT (fun _=>nl rfl) (fun _=>(am.cons ax (am.cons (aT (fun _=>nl rfl) (fun _=>(am.cons ax am.nil))) am.nil)))) am.nil))))))))) (am.cons (aT (fun _=>nl rfl) (fun _=>(am.cons ax (am.cons ax (am.cons (aT (fun _=>nl rfl) (fun _=>(am.cons ax am.nil))) (am.cons (aT (fun _=>nl rfl) (fun _=>(am.cons ax am.nil))) (am.cons (aT (fun _=>nl rfl) (fun _=>(am.cons ax am.nil))) am.nil))))))) (am.cons ax am.nil))))))))) (aI (aI rfl (am.cons ax (am.cons ax (am.cons (aT (fun _=>nl rfl) (fun _=>(am.cons ax am.nil))) (am.cons ax (am.cons ax am.nil)))))) tI))) (fun L=>by exact lq) ?_
 intro w0 Fz0
 refine sn 0 0 fun hl0_0=>?_
 refine sn 0 3 fun hl0_3=>?_
 refine sn 0 4 fun hl0_4=>?_
 refine sn 0 5 fun hl0_5=>?_
 refine sn 0 6 fun hl0_6=>?_
 refine sn 1 2 fun hl1_2=>?_
 have hbu:=hb
 simp only [aZ,fk,gN,go] at hbu
 have haw:=Uj e.Store u
 have hww:=Um e u
 refine zzq ?_
 refine tz ?_
 refine AL ?_
 refine PG ?_
 refine tt ?_
 refine Ek ?_
 refine QJ ?_
 refine rA ?_ (x:=lD [val _,val _,sl (.lo _) _,val _,val _] mD)
 refine rA ?_ (x:=cL [(true,[sl (.lo _) _,val _]),(true,[val _,val _,sl (.lo _) _,val _,val _])] Za atV (hs:=by exact (ayh ab ab)))
 refine At ?_
 refine zD ?_
 refine dr ?_
 refine sV [2,3,4,5,6,7,8] [2,3,4,6] [7] ?_
 refine PH ?_
 refine dq ?_
 refine cx 21 ?_ ?_<;>intro ga sga
 refine gY ?_
 exact OI
 refine fI ?_
 refine kP ?_
 refine sc ?_ ?_<;>intro hba
 exact OI
 have hok:(aU e&&(eV e.Store u).2)=true:=Gn
 refine aK ?_
 refine zzs ?_
 refine Is ?_
 refine bg ?_
 refine zzt ?_
 refine wA ?_ (x:=eP (ms:=dV) (qs:=zp) ak dg (fun h=>nomatch h) ay aj LW aQ)
 refine wO [(2,_),(3,_),(4,_),(5,_),(6,_),(7,_),(8,_),(28,_)] [(2,_),(3,_),(4,_),(6,(46,zp)),(7,_)] ?_
 refine Nz (L:=(Lw w0.heap.size)) (qs:=fi) (as_:=fi) ak Tf oT cN ak aQ (by exact (UJ (e:=wC e (eV e.Store u).1) ab)) (fun x hx=>hx) aQ aQ ?_
 refine wA ?_ (x:=bR (ag:=true) (vs:=dV) dg ao aj ay)
 refine wA ?_ (x:=kA)
 refine uV ?_
 exact zzu
def ayy{u:aC9}(hb:aZ e≤68718000000)(hbu0:jR u≤68718000000):aE prog 223 [(true,[sl .v (e.Store.aC5.map (aG p1 p2)),val (vI e.Store.Now),val (vI e.aDa),sl .v (e.Order.map ar),sl .v (e.aC6.map (aO p5 p6 p7 p8 p9)),sl .v (e.Done.map (bd p11 p12 p13 p14)),sl .v (e.aDi.map (ba p16 p17 p18)),val (vI e.Steps)]),(true,[val (vI u.Kind),val (vI u.Row.Id),sl .v (u.Row.Values.map ar),val (vI u.Field),val (vI u.Value)])] (aA [(true,[sl bH ((dG e u).1.Store.aC5.map (aG bc ai)),val (vI (dG e u).1.Store.Now),val (vI (dG e u).1.aDa),sl ai ((dG e u).1.Order.map ar),sl ct ((dG e u).1.aC6.map (aO aH ai ai aJ ai)),sl ck ((dG e u).1.Done.map (bd aH ai aJ ai)),sl cl ((dG e u).1.aDi.map (ba ai ai ai)),val (vI (dG e u).1.Steps)]),(false,[val (.bool (dG e u).2)])]):=by
 refine oZ (largs:=fun L=>[(true,[sl (.lo L) (e.Store.aC5.map (aG (.lo L) (.lo L))),val (vI e.Store.Now),val (vI e.aDa),sl (.lo L) (e.Order.map ar),sl (.lo L) (e.aC6.map (aO (.lo L) (.lo L) (.lo L) (.lo L) (.lo L))),sl (.lo L) (e.Done.map (bd (.lo L) (.lo L) (.lo L) (.lo L))),sl (.lo L) (e.aDi.map (ba (.lo L) (.lo L) (.lo L))),val (vI e.Steps)]),(true,[val (vI u.Kind),val (vI u.Row.Id),sl (.lo L) (u.Row.Values.map ar),val (vI u.Field),val (vI u.Value)])]) (rs:=[(true,[sl bH ((dG e u).1.Store.aC5.map (aG bc ai)),val (vI (dG e u).1.Store.Now),val (vI (dG e u).1.aDa),sl ai ((dG e u).1.Order.map ar),sl ct ((dG e u).1.aC6.map (aO aH ai ai aJ ai)),sl ck ((dG e u).1.Done.map (bd aH ai aJ ai)),sl cl ((dG e u).1.aDi.map (ba ai ai ai)),val (vI (dG e u).1.Steps)]),(false,[val (.bool (dG e u).2)])]) func223 rfl (nl rfl) (fun L=>by exact (aI (aI rfl (am.cons (aT (fun _=>nl rfl) (fun _=>(am.cons (aT (fun _=>nl rfl) (fun _=>(am.cons ax (am.cons (aT (fun _=>nl rfl) (fun _=>(am.cons ax am.nil))) (am.cons ax (am.cons ax am.nil)))))) am.nil))) (am.cons ax (am.cons ax (am.cons (aT (fun _=>nl rfl) (fun _=>(am.cons ax am.nil))) (am.cons (aT (fun _=>nl rfl) (fun _=>(am.cons ax (am.cons ax (am.cons (aT (fun _=>nl rfl) (fun _=>(am.cons ax (am.cons ax (am.cons ax am.nil))))) (am.cons (aT (fun _=>nl rfl) (fun _=>(am.cons ax am.nil))) (am.cons ax (am.cons (aT (fun _=>nl rfl) (fun _=>(am.cons ax am.nil))) (am.cons ax (am.cons ax (am.cons ax (am.cons (aT (fun _=>nl rfl) (fun _=>(am.cons ax (am.cons (aT (fun _=>nl rfl) (fun _=>(am.cons ax am.nil))) am.nil)))) am.nil)))))))))))) (am.cons (aT (fun _=>nl rfl) (fun _=>(am.cons ax (am.cons ax (am.cons (aT (fun _=>nl rfl) (fun _=>(am.cons ax (am.cons ax (am.cons ax am.nil))))) (am.cons (aT (fun _=>nl rfl) (fun _=>(am.cons ax am.nil))) (am.cons ax (am.cons ax (am.cons (aT (fun _=>nl rfl) (fun _=>(am.cons ax (am.cons (aT (fun _=>nl rfl) (fun _=>(am.cons ax am.nil))) am.nil)))) am.nil))))))))) (am.cons (aT (fun _=>nl rfl) (fun _=>(am.cons ax (am.cons ax (am.cons (aT (fun _=>nl rfl) (fun _=>(am.cons ax am.nil))) (am.cons (aT (fun _=>nl rfl) (fun _=>(am.cons ax am.nil))) (am.cons (aT (fun _=>nl rfl) (fun _=>(am.cons ax am.nil))) am.nil))))))) (am.cons ax am.nil))))))))) (aI (aI rfl (am.cons ax (am.cons ax (am.cons (aT (fun _=>nl rfl) (fun _=>(am.cons ax am.nil))) (am.cons ax (am.cons ax am.nil)))))) tI))) (fun L=>by exact lq) ?_
 intro w0 Fz0
 refine sn 0 0 fun hl0_0=>?_
 refine sn 0 3 fun hl0_3=>?_
 refine sn 0 4 fun hl0_4=>?_
 refine sn 0 5 fun hl0_5=>?_
 refine sn 0 6 fun hl0_6=>?_
 refine sn 1 2 fun hl1_2=>?_
 have hbu:=hb
 simp only [aZ,fk,gN,go] at hbu
 have haw:=Uj e.Store u
 have hww:=Um e u
 refine zzq ?_
 refine tz ?_
 refine AL ?_
 refine PJ ?_
 refine kR ?_
 refine Ek ?_
 refine PI ?_
 refine eZ ?_
 refine sc ?_ ?_<;>intro hba
 have hno:(aU e&&(eV e.Store u).2)=false:=Gn
 refine sS [2,3,4,5,6] [2,3,4,6] ?_
 exact zzv
 refine IW ?_
 refine QJ ?_
 refine rA ?_ (x:=lD [val _,val _,sl (.lo _) _,val _,val _] mD)
 refine rA ?_ (x:=cL [(true,[sl (.lo _) _,val _]),(true,[val _,val _,sl (.lo _) _,val _,val _])] Za atX (hs:=by exact (ayi ab ab)))
 refine At ?_
 refine zD ?_
 refine dr ?_
 refine sV [2,3,4,5,6,7,8] [2,3,4,6] [7] ?_
 refine qi ?_
 refine sc ?_ ?_<;>intro hbb
 exact OI
 have hok:(aU e&&(eV e.Store u).2)=true:=Gn
 refine aK ?_
 refine zzs ?_
 refine Is ?_
 refine bg ?_
 refine zzt ?_
 refine wO [(2,_),(3,_),(4,_),(5,_),(6,_),(7,_),(8,_)] [(2,_),(3,_),(4,_),(6,_),(7,_)] ?_
 refine Cf (bx:=6) (L:=(Lw w0.heap.size)) (qs:=[]) (as_:=[]) ak Ti rfl aj aj ao ao ak ao (by exact (UK (e:=wC e (eV e.Store u).1) ab)) (fun x hx=>hx) aQ aQ ?_
 refine uV ?_
 refine sV [2,3,4,5,6,7,8] [2,3,4,7] [6] ?_
 refine ph ?_
 refine rK ?_
 exact zzu
def ayz{x:fx}(hb:aZ e≤68710000000)(hx:AT x≤68710000000):aE prog 44 [(true,[sl .v (e.Store.aC5.map (aG p1 p2)),val (vI e.Store.Now),val (vI e.aDa),sl .v (e.Order.map ar),sl .v (e.aC6.map (aO p5 p6 p7 p8 p9)),sl .v (e.Done.map (bd p11 p12 p13 p14)),sl .v (e.aDi.map (ba p16 p17 p18)),val (vI e.Steps)]),(true,[val (vI x.Kind),val (vI x.aC7.Id),val (vI x.aC7.aDb),sl .v (x.aC7.aC8.map bM),sl .v (x.aC7.Out.map ar),val (vI x.Limit),val (vI x.Id),val (vI x.aC9.Kind),val (vI x.aC9.Row.Id),sl .v (x.aC9.Row.Values.map ar),val (vI x.aC9.Field),val (vI x.aC9.Value),val (vI x.Steps)])] (aA [(true,[sl bH ((dv e x).1.Store.aC5.map (aG bc ai)),val (vI (dv e x).1.Store.Now),val (vI (dv e x).1.aDa),sl ai ((dv e x).1.Order.map ar),sl ct ((dv e x).1.aC6.map (aO aH ai ai aJ ai)),sl ck ((dv e x).1.Done.map (bd aH ai aJ ai)),sl cl ((dv e x).1.aDi.map (ba ai ai ai)),val (vI (dv e x).1.Steps)]),(false,[val (.bool (dv e x).2)])]):=by
 refine sF func44 fun h0 w0 Fz0=>?_
 refine sn 0 0 fun hl0_0=>?_
 refine sn 0 3 fun hl0_3=>?_
 refine sn 0 4 fun hl0_4=>?_
 refine sn 0 5 fun hl0_5=>?_
 refine sn 0 6 fun hl0_6=>?_
 refine sn 1 3 fun hl1_3=>?_
 refine sn 1 4 fun hl1_4=>?_
 refine sn 1 9 fun hl1_9=>?_
 have hbu:=hb
 simp only [aZ,fk,gN,go] at hbu
 have hbx:=hx
 simp only [AT,bh] at hbx
 refine zzw ?_
 refine En ?_
 refine dp ?_
 refine AL ?_
 refine HY ?_
 refine dq ?_
 refine cx 9 ?_ ?_<;>intro ga sga
 refine gY ?_
 exact zzy
 refine RX ?_
 refine rB ga ?_ (x:=cL tg th Tm (hs:=by exact UL))
 refine kP ?_
 refine sc ?_ ?_<;>intro hba
 exact zzy
 have hok:(aU e&&ew x)=true:=Gp
 refine cg ?_
 refine sS [2,3,4,5] [2,3,4] ?_
 refine xE ?_
 refine Rz ?_
 refine sc ?_ ?_<;>intro hbb
 have hk1:x.Kind=1:=yV
 refine Iz ?_
 refine Ix ?_
 refine rA ?_ (x:=lF wg)
 refine eJ ?_
 refine rA ?_ (x:=cL Zb Zc ato (hs:=by exact (aya ab ab)))
 exact OJ
 have hk1n:¬x.Kind=1:=yV
 refine Rz ?_
 refine sc ?_ ?_<;>intro hbc
 have hk2:x.Kind=2:=uM
 refine Iz ?_
 refine xZ ?_
 refine eJ ?_
 refine rA ?_ (x:=cL lz kK atp (hs:=by exact (ayc ab)))
 exact OJ
 have hk2n:¬x.Kind=2:=uM
 refine Rz ?_
 refine sc ?_ ?_<;>intro hbd
 have hk3:x.Kind=3:=qT
 refine Iz ?_
 refine xl ?_
 refine rA ?_ (x:=cL Zd Ze atq (hs:=by exact (ayx ab ab)))
 exact OJ
 have hk3n:¬x.Kind=3:=qT
 refine aK ?_
 refine Iz ?_
 refine ya ?_
 refine eJ ?_
 refine rA ?_ (x:=cL lz kK atr (hs:=by exact (ayv ab)))
 refine Za3 ?_
 exact Za4
def ayA{x:fx}(hb:aZ e≤68710000000)(hx:AT x≤68710000000):aE prog 210 [(true,[sl .v (e.Store.aC5.map (aG p1 p2)),val (vI e.Store.Now),val (vI e.aDa),sl .v (e.Order.map ar),sl .v (e.aC6.map (aO p5 p6 p7 p8 p9)),sl .v (e.Done.map (bd p11 p12 p13 p14)),sl .v (e.aDi.map (ba p16 p17 p18)),val (vI e.Steps)]),(true,[val (vI x.Kind),val (vI x.aC7.Id),val (vI x.aC7.aDb),sl .v (x.aC7.aC8.map bM),sl .v (x.aC7.Out.map ar),val (vI x.Limit),val (vI x.Id),val (vI x.aC9.Kind),val (vI x.aC9.Row.Id),sl .v (x.aC9.Row.Values.map ar),val (vI x.aC9.Field),val (vI x.aC9.Value),val (vI x.Steps)])] (aA [(true,[sl bH ((dv e x).1.Store.aC5.map (aG bc ai)),val (vI (dv e x).1.Store.Now),val (vI (dv e x).1.aDa),sl ai ((dv e x).1.Order.map ar),sl ct ((dv e x).1.aC6.map (aO aH ai ai aJ ai)),sl ck ((dv e x).1.Done.map (bd aH ai aJ ai)),sl cl ((dv e x).1.aDi.map (ba ai ai ai)),val (vI (dv e x).1.Steps)]),(false,[val (.bool (dv e x).2)])]):=by
 refine sF func210 fun h0 w0 Fz0=>?_
 refine sn 0 0 fun hl0_0=>?_
 refine sn 0 3 fun hl0_3=>?_
 refine sn 0 4 fun hl0_4=>?_
 refine sn 0 5 fun hl0_5=>?_
 refine sn 0 6 fun hl0_6=>?_
 refine sn 1 3 fun hl1_3=>?_
 refine sn 1 4 fun hl1_4=>?_
 refine sn 1 9 fun hl1_9=>?_
 have hbu:=hb
 simp only [aZ,fk,gN,go] at hbu
 have hbx:=hx
 simp only [AT,bh] at hbx
 refine zzw ?_
 refine tz ?_
 refine AL ?_
 refine zG ?_
 refine kR ?_
 refine Ek ?_
 refine zF ?_
 refine dq ?_
 refine cx 13 ?_ ?_<;>intro ga sga
 refine gY ?_
 exact Za5
 refine RX ?_
 refine rB ga ?_ (x:=cL tg th amd (hs:=by exact anW))
 refine kP ?_
 refine sc ?_ ?_<;>intro hba
 exact Za5
 have hok:(aU e&&ew x)=true:=Gp
 refine IW ?_
 refine dp ?_
 refine sS [2,3,4,5,6,7] [2,3,4,6] ?_
 refine xE ?_
 refine Rn ?_
 refine sc ?_ ?_<;>intro hbb
 have hk1:x.Kind=1:=yV
 refine Iy ?_
 refine Ix ?_
 refine rA ?_ (x:=lF wg)
 refine eJ ?_
 refine rA ?_ (x:=cL Zb Zc at6 (hs:=by exact (ayb ab ab)))
 exact OK
 have hk1n:¬x.Kind=1:=yV
 refine Rn ?_
 refine sc ?_ ?_<;>intro hbc
 have hk2:x.Kind=2:=uM
 refine Iy ?_
 refine xZ ?_
 refine eJ ?_
 refine rA ?_ (x:=cL lz kK at8 (hs:=by exact (ayd ab)))
 exact OK
 have hk2n:¬x.Kind=2:=uM
 refine Rn ?_
 refine sc ?_ ?_<;>intro hbd
 have hk3:x.Kind=3:=qT
 refine Iy ?_
 refine xl ?_
 refine rA ?_ (x:=cL Zd Ze at7 (hs:=by exact (ayy ab ab)))
 exact OK
 have hk3n:¬x.Kind=3:=qT
 refine Iy ?_
 refine ya ?_
 refine eJ ?_
 refine rA ?_ (x:=cL lz kK aup (hs:=by exact (ayw ab)))
 refine ub ?_
 exact Zaa
def aAC{ws:List an}(hn:ws.length≤1048576)(hl:(cI ws [32]).length≤140737488355328):aE prog 84 [(false,[sl .v (ws.map fm)])] (aA [(false,[val (.string (B (yz ws)))])]):=by
 refine sF func84 fun h0 w0 Fz0=>?_
 refine sj 0 fun hl0=>?_
 refine tC ?_
 refine nn ?_
 refine jw ?_
 refine sc ?_ ?_<;>intro hba
 have he:ws=[]:=iJ ab
 refine lI ?_
 refine cn ?_
 exact (aI (by refine eY ?_;exact gF (by rw [he];rfl)) tI)
 have he:ws≠[]:=by intro e;subst e;simp at hba
 refine aK ?_
 refine lI ?_
 refine cv ?_
 refine rA ?_ (x:=cL gJ gK Bh (hs:=by exact (Bn ab hl)))
 refine dI ?_
 exact (aI (by refine eY ?_;exact gF (anm he).symm) tI)
def aAD{q:aC7}{r:Row}:aE prog 89 [(true,[val (vI q.Id),val (vI q.aDb),sl .v (q.aC8.map bM),sl .v (q.Out.map ar)]),(true,[val (vI r.Id),sl .v (r.Values.map ar)])] (aA [(false,[sl ai ((sr q r).map ar)])]):=by
 refine sF func89 fun h0 w0 Fz0=>?_
 refine sn 0 2 fun hl0_2=>?_
 refine sn 0 3 fun hl0_3=>?_
 refine sn 1 1 fun hl1_1=>?_
 refine om ?_
 refine Im ?_
 refine sT [2,3,4] [2,3] ?_
 refine jO ?_
 refine sS [2,3,4,5] [2,3] ?_
 refine zJ ?_
 refine dq ?_
 refine cx 12 ?_ ?_<;>intro ga sga
 refine gY ?_
 exact Zg3
 refine zee ?_
 refine kP ?_
 refine sc ?_ ?_<;>intro hba
 exact Zg3
 have hok:bA r=true∧bp q=true:=cS
 obtain ⟨hi0,hi1,hvl,hv⟩:=qG hok.1
 have hou:=Fg hok.2
 refine cg ?_
 refine sS [2,3,4,5] [2,3] ?_
 refine vO ?_
 refine xG ?_
 refine sP [2,3,4,5,19,20,21] [2,3] ?_
 refine sL [2,3,4,19,20] [2,3] (fun k:Nat=>k≤q.Out.length) (fun k:Nat=>[(5,RV.slc ai (((q.Out.take k).map fun f=>r.Values.getD f.toNat 0).map ar)),(21,RV.int (k:Int))]) (fun k:Nat=>[]) (fun k:Nat=>q.Out.length - k) 0 ab kd ao ?_
 rintro k hk
 refine bP ?_
 refine sc ?_ ?_<;>intro hbb
 have hlt:k < q.Out.length:=me
 have hof:=hou.2 q.Out[k] (List.getElem_mem hlt)
 have hfl:q.Out[k].toNat < r.Values.length:=ab
 have hmt:((q.Out.take k).map fun f=>r.Values.getD f.toNat 0).length=k:=wR
 have hmt2:(q.Out.take k).length=k:=dh
 refine aY ?_
 refine sT [2,3,4,5,19,20,21] [2,3] ?_
 refine rI ?_
 refine sG [2,3,4,5,7,19,20,21] [2,3] ?_
 refine bL ?_
 refine rA ?_ (x:=lF oH)
 refine Je ?_
 refine rA ?_ (x:=aS (k:=q.Out[k].toNat) ak bY ao ab (by exact eQ hfl rfl) aj)
 refine AK ?_
 refine oo ?_
 refine sG [2,3,4,5,7,19,20,21] [2,3] ?_
 refine cc ?_
 refine nx (k+1) ab (e:=(by exact aI VT (aI aj tI)))
 have hend:k=q.Out.length:=ab
 refine be ?_
 refine sT [2,3,4,5,19,20,21] [2,3] ?_
 refine jN ?_
 exact (aI (by refine bC ?_;unfold sr;rw [if_pos BH,hend,bG]) tI)
def aAE{q:aC7}{r:Row}:aE prog 93 [(true,[val (vI q.Id),val (vI q.aDb),sl .v (q.aC8.map bM),sl .v (q.Out.map ar)]),(true,[val (vI r.Id),sl .v (r.Values.map ar)])] (aA [(false,[sl ai ((sr q r).map ar)])]):=by
 refine sF func93 fun h0 w0 Fz0=>?_
 refine sn 0 2 fun hl0_2=>?_
 refine sn 0 3 fun hl0_3=>?_
 refine sn 1 1 fun hl1_1=>?_
 refine om ?_
 refine Im ?_
 refine sT [2,3,4] [2,3] ?_
 refine jO ?_
 refine sS [2,3,4,5] [2,3] ?_
 refine cm ?_
 refine sP [2,3,4,5,6] [2,3] ?_
 refine sL [2,3,4] [2,3] (fun k:Nat=>k≤q.Out.length∧(0 < k→bA r=true∧bp q=true)) (fun k:Nat=>[(5,RV.slc ai (((q.Out.take k).map fun f=>r.Values.getD f.toNat 0).map ar)),(6,RV.int (k:Int))]) (fun k:Nat=>[]) (fun k:Nat=>q.Out.length - k) 0 uL kd ao ?_
 rintro k ⟨hk,ha⟩
 refine bI ?_
 refine vO ?_
 refine qc ?_
 refine kQ ?_
 refine cx 13 ?_ ?_<;>intro ga sga
 refine Em ?_
 refine rB ga ?_ (x:=cL jK ly Kl (hs:=by exact KJ))
 refine rG ?_
 refine cx 17 ?_ ?_<;>intro gb sgb
 refine rB gb ?_ (x:=lD iB gD)
 refine rB gb ?_ (x:=cL il ju Kk (hs:=Gg))
 refine jP ?_
 refine sc ?_ ?_<;>intro hba
 have hok:bA r=true∧bp q=true:=cS
 obtain ⟨hi0,hi1,hvl,hv⟩:=qG hok.1
 have hou:=Fg hok.2
 have hlt:k < q.Out.length:=me
 have hof:=hou.2 q.Out[k] (List.getElem_mem hlt)
 have hfl:q.Out[k].toNat < r.Values.length:=ab
 have hmt:((q.Out.take k).map fun f=>r.Values.getD f.toNat 0).length=k:=wR
 have hmt2:(q.Out.take k).length=k:=dh
 refine aY ?_
 refine sQ [2,3,4,5,6] [2,3] ?_
 refine rE ?_
 refine vL ?_
 refine dA 2 ?_ (x:=lD [sl .v _] bZ)
 refine dA 0 ?_ (x:=lF AV)
 refine Ed ?_
 refine dt ?_
 refine dA 56 ?_ (x:=aS ak bY ao aj bD aj)
 refine dA 120 ?_ (x:=lE [val _] aV)
 refine dA 254 ?_ (x:=aS (k:=q.Out[k].toNat) ak bY ao ab (by exact eQ hfl rfl) aj)
 refine dA 510 ?_ (x:=lE [val _] aV)
 refine dA 1022 ?_ (x:=cB (qs:=aM) ak bY jy ak rfl rfl rfl rfl rfl ay cN rfl)
 refine dA 2047 ?_ (x:=eL ak bY jy rfl rfl ak rfl bm bm)
 refine dA 4095 ?_ (x:=tA)
 refine sG [2,3,4,5,6] [2,3] ?_
 refine bO ?_
 refine nx (k+1) yW (e:=(by exact aI VT (aI aj tI)))
 exact Pf
 refine tL ?_
 exact Pf
 refine ip ?_
 refine rN 17 ?_
 refine dz ?_
 refine gB ?_
 exact Pf
def aAF{p3:Fl}{x:gZ}:et prog gl 27 [(true,[val (vI x.aC7.Id),val (vI x.aC7.aDb),sl .v (x.aC7.aC8.map bM),sl .v (x.aC7.Out.map ar),val (vI x.Time),val (vI x.Steps),sl .v (x.Rows.map (ci p3))])] (aA [(false,[val (.string (B (qH x)))])]):=by
 refine im (rs:=[(false,[val (.string (B (qH x)))])]) func27 rfl (nl rfl) aQ ?_
 intro h0 w0 Fz0
 refine sn 0 2 fun hl0_2=>?_
 refine sn 0 3 fun hl0_3=>?_
 refine sn 0 6 fun hl0_6=>?_
 refine Qw ?_
 refine Af ?_
 refine rA ?_ (x:=lF pz)
 refine zJ ?_
 refine dq ?_
 refine cx 10 ?_ ?_<;>intro ga sga
 refine gY ?_
 exact Zg5
 refine rB ga ?_ (x:=lF pA)
 refine rB ga ?_ (x:=lD [sl .v _] iU)
 refine rB ga ?_ (x:=cL cf cC Tt (hs:=Ms))
 refine kP ?_
 refine sc ?_ ?_<;>intro hba
 exact Zg5
 have hok:bp x.aC7=true∧iD x.Rows=true:=cS
 have hrl:=Uu hok.2
 refine aK ?_
 refine tY ?_
 refine Dh ?_
 refine AJ ?_
 refine rA ?_ (x:=lF pA)
 refine rA ?_ (x:=lD [sl .v _] iU)
 refine rA ?_ (x:=lN iu)
 refine dm ?_
 refine sP [1,2,3,18,19,20,7000] [1] ?_
 refine sL [1,2,18,19,7000] [1] (fun k:Nat=>k≤x.Rows.length) (fun k:Nat=>[(3,RV.slc jG (((x.Rows.take k).map (mV x.aC7)).map fm)),(20,RV.int (k:Int))]) (fun k:Nat=>[]) (fun k:Nat=>x.Rows.length - k) 0 ab kd ao ?_
 rintro k hk
 refine bP ?_
 refine sc ?_ ?_<;>intro hbb
 have hlt:k < x.Rows.length:=ab
 have hrk:=Ut hok.2 (List.getElem_mem hlt)
 obtain ⟨hi0,hi1,hvl,hv⟩:=qG hrk
 have hil:(itoa x.Rows[k].Id).length≤21:=bv br
 have hpj:=Us x.aC7 x.Rows[k]
 have hpl:=px hpj.2
 have hmt:((x.Rows.take k).map (mV x.aC7)).length=k:=wR
 have hjl:=Le (q:=x.aC7) hok.2 k
 have htk:(x.Rows.take k).length=k:=dh
 refine aY ?_
 refine sT [1,2,3,18,19,20,7000] [1] ?_
 refine zI ?_
 refine xi ?_
 refine sU [1,2,3,5,18,19,20,7000] [1] [5] ?_
 refine rE ?_
 refine dA 0 ?_ (x:=lF kW)
 refine Zbs ?_
 refine dA 14 ?_ (x:=cZ)
 refine dA 0 ?_ (x:=lF pz)
 refine dA 32 ?_ (x:=lD iB gD)
 refine dA 0 ?_ (x:=lD mo jg)
 refine dA 238 ?_ (x:=cL NA NB avf (hs:=by exact aAD))
 refine dA 494 ?_ (x:=gL cf cC KF (hs:=by exact (KL hpj.2 ab)))
 refine dA 1022 ?_ (x:=cZ)
 refine dA 2046 ?_ (x:=cB (qs:=aM) ak dc qC ak rfl rfl rfl rfl rfl ay cN rfl)
 refine dA 4095 ?_ (x:=eL ak dc qC rfl rfl ak rfl bm bm)
 refine dA 8191 ?_ (x:=tA)
 refine sG [1,2,3,5,18,19,20,7000] [1,5] ?_
 refine cc ?_
 exact Ov
 have hend:k=x.Rows.length:=ab
 have hjl:=Le (q:=x.aC7) hok.2 k
 subst hend
 rw [bG] at hjl ⊢
 have hml:(x.Rows.map (mV x.aC7)).length=x.Rows.length:=aX _
 refine be ?_
 refine sT [1,2,3,18,19,20,7000] [1] ?_
 refine Zg6 ?_
 refine dI ?_
 exact (aI (by refine eY ?_;exact gF (by unfold qH;rw [if_pos BH])) tI)
def aAG{p3:Fl}{x:gZ}:aE prog 28 [(true,[val (vI x.aC7.Id),val (vI x.aC7.aDb),sl .v (x.aC7.aC8.map bM),sl .v (x.aC7.Out.map ar),val (vI x.Time),val (vI x.Steps),sl .v (x.Rows.map (ci p3))])] (aA [(false,[val (.string (B (qH x)))])]):=by
 refine sF func28 fun h0 w0 Fz0=>?_
 refine sn 0 2 fun hl0_2=>?_
 refine sn 0 3 fun hl0_3=>?_
 refine sn 0 6 fun hl0_6=>?_
 refine Qw ?_
 refine jd ?_
 refine rA ?_ (x:=lF pz)
 refine CZ ?_
 refine dq ?_
 refine cx 9 ?_ ?_<;>intro ga sga
 refine gY ?_
 exact Zg7
 refine rB ga ?_ (x:=lF pA)
 refine rB ga ?_ (x:=lD [sl .v _] iU)
 refine rB ga ?_ (x:=cL cf cC Tu (hs:=by exact TA))
 refine kP ?_
 refine sc ?_ ?_<;>intro hba
 exact Zg7
 have hok:bp x.aC7=true∧iD x.Rows=true:=cS
 have hrl:=Uu hok.2
 refine DA ?_
 refine dp ?_
 refine xx ?_
 refine sL [1,2] [1] (fun k:Nat=>k≤x.Rows.length) (fun k:Nat=>[(3,RV.sc (.string (B (cI ((x.Rows.take k).map (mV x.aC7)) [32])))),(4,RV.int (k:Int))]) (fun k:Nat=>[]) (fun k:Nat=>x.Rows.length - k) 0 ab ej ao ?_
 rintro k hk
 refine bI ?_
 refine rA ?_ (x:=lF pA)
 refine rA ?_ (x:=lD [sl .v _] iU)
 refine rA ?_ (x:=lN iu)
 refine dC ?_
 refine sc ?_ ?_<;>intro hbb
 have hlt:k < x.Rows.length:=ab
 have hrk:=Ut hok.2 (List.getElem_mem hlt)
 obtain ⟨hi0,hi1,hvl,hv⟩:=qG hrk
 have hil:(itoa x.Rows[k].Id).length≤21:=bv br
 have hpj:=Us x.aC7 x.Rows[k]
 have hpl:=px hpj.2
 have hmt:((x.Rows.take k).map (mV x.aC7)).length=k:=wR
 have hjl:=Le (q:=x.aC7) hok.2 k
 have htk:(x.Rows.take k).length=k:=dh
 refine fT ?_
 refine sT [1,2,3,4] [1] ?_
 refine rM ?_
 refine ov ?_
 refine sc ?_ ?_<;>intro hbc
 have hk0:¬k=0:=ab
 refine sG [1,2,3,4] [1] ?_
 refine rF ?_
 refine rS ?_
 exact Zg8
 have hk0:k=0:=ab
 refine aK ?_
 exact Zg8
 have hend:k=x.Rows.length:=ab
 subst hend
 rw [bG]
 have hle:=ano (ws:=x.Rows.map (mV x.aC7)) (by intro y hy;obtain ⟨r,hr,rfl⟩:=List.mem_map.1 hy;exact axD _ _)
 refine gk ?_
 refine sT [1,2,3,4] [1] ?_
 refine JD ?_
 refine sc ?_ ?_<;>intro hbc
 have he:=hbc
 refine sS [1,2,3,4] [1] ?_
 refine rK ?_
 exact Zga
 have he:=hbc
 refine aK ?_
 refine sS [1,2,3,4] [1] ?_
 refine tP ?_
 exact Zga
end Go.Proofs.YtmekkgdboplbjaaGreatDoor
