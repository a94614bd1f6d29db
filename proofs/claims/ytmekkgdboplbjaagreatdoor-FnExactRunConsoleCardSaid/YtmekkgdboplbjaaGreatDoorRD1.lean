/- What functions of the program compute. No condition. -/
import Derived.Test.YtmekkgdboplbjaaGreatDoorRZ0
set_option linter.all false
set_option maxHeartbeats 8000000
namespace Go.Proofs.YtmekkgdboplbjaaGreatDoor
open Go Go.RowKit M PV Tryz
set_option maxRecDepth 10000
attribute [local irreducible] PV.Lcl PV.LclR RV.Lcl
def ayj:er Tryz.prog 149=some [(0,1),(1,1),(2,1),(3,1),(4,1)]:=au
def ayk:er Tryz.prog 56=some [(0,4),(4,1),(5,1),(6,1)]:=au
def anU{p1 p2 p5 p6 p7 p8 p9 p11 p12 p13 p14 p16 p17 p18:Fl}{e:av}(hb:aZ e≤68719000000):aE Tryz.prog 202 [(true,[sl .v (e.Store.aC5.map (aG p1 p2)),val (vI e.Store.Now),val (vI e.aDa),sl .v (e.Order.map ar),sl .v (e.aC6.map (aO p5 p6 p7 p8 p9)),sl .v (e.Done.map (bd p11 p12 p13 p14)),sl .v (e.aDi.map (ba p16 p17 p18)),val (vI e.Steps)])] (aA [(true,[sl bH ((dO e).Store.aC5.map (aG bc ai)),val (vI (dO e).Store.Now),val (vI (dO e).aDa),sl ai ((dO e).Order.map ar),sl ct ((dO e).aC6.map (aO aH ai ai aJ ai)),sl ck ((dO e).Done.map (bd aH ai aJ ai)),sl cl ((dO e).aDi.map (ba ai ai ai)),val (vI (dO e).Steps)]),(false,[val (.bool (le e))])]):=by
 refine oZ (largs:=fun L=>[(true,[sl (.lo L) (e.Store.aC5.map (aG (.lo L) (.lo L))),val (vI e.Store.Now),val (vI e.aDa),sl (.lo L) (e.Order.map ar),sl (.lo L) (e.aC6.map (aO (.lo L) (.lo L) (.lo L) (.lo L) (.lo L))),sl (.lo L) (e.Done.map (bd (.lo L) (.lo L) (.lo L) (.lo L))),sl (.lo L) (e.aDi.map (ba (.lo L) (.lo L) (.lo L))),val (vI e.Steps)])]) (rs:=[(true,[sl bH ((dO e).Store.aC5.map (aG bc ai)),val (vI (dO e).Store.Now),val (vI (dO e).aDa),sl ai ((dO e).Order.map ar),sl ct ((dO e).aC6.map (aO aH ai ai aJ ai)),sl ck ((dO e).Done.map (bd aH ai aJ ai)),sl cl ((dO e).aDi.map (ba ai ai ai)),val (vI (dO e).Steps)]),(false,[val (.bool (le e))])]) Tryz.func202 rfl (nl rfl) (fun L=>by exact (aI (aI rfl (am.cons (aT (fun _=>nl rfl) (fun _=>(am.cons (aT (fun _=>nl rfl) (fun _=>(am.cons ax (am.cons (aT (fun _=>nl rfl) (fun _=>(am.cons ax am.nil))) (am.cons ax (am.cons ax am.nil)))))) am.nil))) (am.cons ax (am.cons ax (am.cons (aT (fun _=>nl rfl) (fun _=>(am.cons ax am.nil))) (am.cons (aT (fun _=>nl rfl) (fun _=>(am.cons ax (am.cons ax (am.cons (aT (fun _=>nl rfl) (fun _=>(am.cons ax (am.cons ax (am.cons ax am.nil))))) (am.cons (aT (fun _=>nl rfl) (fun _=>(am.cons ax am.nil))) (am.cons ax (am.cons (aT (fun _=>nl rfl) (fun _=>(am.cons ax am.nil))) (am.cons ax (am.cons ax (am.cons ax (am.cons (aT (fun _=>nl rfl) (fun _=>(am.cons ax (am.cons (aT (fun _=>nl rfl) (fun _=>(am.cons ax am.nil))) am.nil)))) am.nil)))))))))))) (am.cons (aT (fun _=>nl rfl) (fun _=>(am.cons ax (am.cons ax (am.cons (aT (fun _=>nl rfl) (fun _=>(am.cons ax (am.cons ax (am.cons ax am.nil))))) (am.cons (aT (fun _=>nl rfl) (fun _=>(am.cons ax am.nil))) (am.cons ax (am.cons ax (am.cons (aT (fun _=>nl rfl) (fun _=>(am.cons ax (am.cons (aT (fun _=>nl rfl) (fun _=>(am.cons ax am.nil))) am.nil)))) am.nil))))))))) (am.cons (aT (fun _=>nl rfl) (fun _=>(am.cons ax (am.cons ax (am.cons (aT (fun _=>nl rfl) (fun _=>(am.cons ax am.nil))) (am.cons (aT (fun _=>nl rfl) (fun _=>(am.cons ax am.nil))) (am.cons (aT (fun _=>nl rfl) (fun _=>(am.cons ax am.nil))) am.nil))))))) (am.cons ax am.nil))))))))) tI)) (fun L=>by exact lq) ?_
 intro w0 Fz0
 refine sn 0 0 fun hl0_0=>?_
 refine sn 0 3 fun hl0_3=>?_
 refine sn 0 4 fun hl0_4=>?_
 refine sn 0 5 fun hl0_5=>?_
 refine sn 0 6 fun hl0_6=>?_
 have hbu:=hb
 simp only [aZ,fk,gN,go] at hbu
 refine CW ?_
 refine tz ?_
 refine sT [1,2,3] [1,2] ?_
 refine PG ?_
 refine kR ?_
 refine sV [1,2,3,4] [1,2] [4] ?_
 refine PH ?_
 refine dq ?_
 refine cx 22 ?_ ?_<;>intro ga sga
 refine ko ?_
 refine rY 27 ?_
 refine vJ ?_
 refine rY 33 ?_
 exact HI
 refine rB ga ?_ (x:=lF sh)
 refine lJ ?_
 refine rB ga ?_ (x:=kL)
 refine nq ?_
 refine cx 27 ?_ ?_<;>intro gb sgb
 refine zt gb ?_
 refine hZ ?_
 refine rY 33 ?_
 exact HI
 refine rB gb ?_ (x:=lF nI)
 refine rB gb ?_ (x:=lD [sl (.lo _) _] nM)
 refine rB gb ?_ (x:=lN lU)
 refine rB gb ?_ (x:=kL)
 refine zY ?_
 refine cx 33 ?_ ?_<;>intro gc sgc
 exact zwr
 refine rB gc ?_ (x:=lF oL)
 refine rB gc ?_ (x:=lD [sl (.lo _) _] nL)
 refine rB gc ?_ (x:=lN mJ)
 refine rB gc ?_ (x:=lF gP)
 refine rB gc ?_ (x:=lD [sl (.lo _) _] fe)
 refine rB gc ?_ (x:=lN cY)
 refine rB gc ?_ (x:=mq)
 refine xq ?_
 refine sc ?_ ?_<;>intro hba
 exact HH
 have hok:le e=true:=by
  have ho_:aU e=true:=cS
  have hef_:=gu ho_
  unfold le
  rw [ho_]
  simp only [Bool.true_and,aR,decide_eq_true_eq]
  exact ⟨ab,ab,ab⟩
 obtain ⟨hoe,hst,hld,hda⟩:=EX hok
 have hef:=gu hoe
 have hcl:e.aDa.toNat < e.Store.aC5.length:=hef.2.2.2.1
 have hpl:=ym (e:=e)
 have hs4:=KP hoe
 have hswt:=TV hoe
 refine aK ?_
 refine sS [1,2,3,4] [1,2,4] ?_
 refine tX ?_
 refine Dq ?_
 refine rA ?_ (x:=lF mI)
 refine PU ?_
 refine rA ?_ (x:=lE [sl (.lo _) _] nK)
 refine rA ?_ (x:=vA false [sl (.lo _) _])
 refine sS [1,2,3,4,5] [1,2,4] ?_
 refine Dt ?_
 refine xP ?_
 refine vP ?_
 refine rA ?_ (x:=cz (qs:=dl) (cs:=pf) ak mM yv ayj aj iY rfl aj)
 refine CY ?_
 refine bg ?_
 refine sV [1,2,3,4,5,6] [1,2,4] [6] ?_
 refine AO ?_
 refine rA ?_ (x:=cL [(true,[sl (.lo _) _,val _,val _,sl (.lo _) _,sl (.lo _) _,sl (.lo _) _,sl (.lo _) _,val _])] fu al4 (hs:=by exact (amP ab)))
 refine rA ?_ (x:=lN bY)
 refine dm ?_
 refine sP [1,2,3,4,5,6,57,58,59] [1,2,4,6] ?_
 refine sL [1,2,3,4,5,6,57,58] [1,2] (fun k:Nat=>k≤(parts e).length) (fun k:Nat=>[(59,RV.int (k:Int))]) (fun k:Nat=>[(4,(46,[sl bH (e.Store.aC5.map (aG bc ai)),val (vI e.Store.Now),val (vI e.aDa),sl ai (e.Order.map ar),sl ct ((cG e k).map (aO aH ai ai aJ ai)),sl ck (e.Done.map (bd aH ai aJ ai)),sl cl (e.aDi.map (ba ai ai ai)),val (vI e.Steps)])),(6,(149,[val (vI (fA e k).Segment),val (vI (fA e k).Base),sl ai ((fA e k).Ids.map ar),sl ai ((fA e k).aDc.map ar),sl ai ((fA e k).Rows.map ar)]))]) (fun k:Nat=>(parts e).length - k) 0 ab bu (by exact aI (by rw [TM];exact rfl) (aI aj tI)) ?_
 rintro k hk
 have hcg:=KO (e:=e) hk
 have hsl:=wy (e:=e) (k:=k)
 refine bP ?_
 refine sc ?_ ?_<;>intro hbb
 have hlt:k < (parts e).length:=ab
 obtain ⟨i,hi,hf,hid,hpp⟩:=TL hoe hlt
 have hil:i < (cG e k).length:=ab
 have hoa:=KT (hef.2.2.2.2.2.2.2.2.2.1 _ (List.getElem_mem hi))
 have hwa:=dK (f:=dW) hi
 have hwq:dW e.aC6[i]=eS e.aC6[i].aC7+e.aC6[i].aDf.length+iQ e.aC6[i].Rows:=yU
 have hga4:=TX hoe e.aC6[i]
 have hvl:=EZ (cD e) e.aC6[i].Time
 refine aY ?_
 refine sT [1,2,3,4,5,6,57,58,59] [1,2,4,6] ?_
 refine rI ?_
 refine sS [1,2,3,4,5,6,8,57,58,59] [1,2,4,6] ?_
 refine QE ?_
 refine zuz ?_
 refine sP [1,2,3,4,5,6,8,9,57,58,59] [1,2,4,6] ?_
 refine mn (d:=4) (t:=46) (D:=900) (G:=2900) (E:=102) (e:=10) (L:=(Lw w0.heap.size)) (A:=nh) (B:=ni) (es:=((cG e k)).map (aO aH ai ai aJ ai)) aj (kh hil) aj aj rfl aj (fun x hx=>hx) aQ aQ aQ aQ (aw.map fun x=>(aw.cons lcl_val (aw.cons lcl_val (aw.cons (lcl_own (aw.map fun x=>(aw.cons lcl_val (aw.cons lcl_val (aw.cons lcl_val aw.nil))))) (aw.cons (lcl_own (aw.map fun x=>(aw.cons lcl_val aw.nil))) (aw.cons lcl_val (aw.cons (lcl_own (aw.map fun x=>(aw.cons lcl_val aw.nil))) (aw.cons lcl_val (aw.cons lcl_val (aw.cons lcl_val (aw.cons (lcl_own (aw.map fun x=>(aw.cons lcl_val (aw.cons (lcl_own (aw.map fun x=>(aw.cons lcl_val aw.nil))) aw.nil)))) aw.nil))))))))))) fun uu900 cp900 jk900 hlD900 hcp900 hjk900=>?_
 rw [aX] at hlD900 hcp900 hjk900
 refine eI (d:=900) aj (pb (k:=i) hil) ?_
 have hA900:=lv (f:=(aO aH ai ai aJ ai)) (e:=10) (xs:=(cG e k)) (k:=i) (fun _=>rfl) (Nat.le_of_lt hil)
 refine zwv ?_
 refine sO [(1,_),(2,_),(3,_),(4,_),(5,_),(6,_),(8,_),(9,_),(57,_),(58,_),(59,_),(2900,_)] [(1,_),(2,_),(4,(46,Cm)),(6,_),(900,(102,_++(ki++_)))] ?_
 refine fh ?_
 refine rA ?_ (x:=lF gP)
 refine rA ?_ (x:=lD [val _] fe)
 refine rM ?_
 refine zww ?_
 refine rA ?_ (x:=Nr (o:=0) (ms:=ki) (qs:=vd) ab ak nJ (fun h=>nomatch h) ay aj Wc aQ)
 refine Pu ?_
 refine bg ?_
 refine sO [(1,_),(2,_),(3,_),(4,_),(5,_),(6,_),(8,_),(9,_),(10,_),(57,_),(58,_),(59,_),(2900,_)] [(1,_),(2,_),(4,_),(6,_),(10,(102,ki)),(900,(102,_++(ki++_)))] ?_
 refine fh ?_
 refine dp ?_
 refine sS [1,2,3,4,5,6,8,9,10,11,57,58,59,2900] [1,2,4,6,10,900] ?_
 refine QJ ?_
 refine Dt ?_
 refine Rd ?_
 refine rA ?_ (x:=cL [(true,[sl (.lo _) _,val _]),(false,[val _]),(false,[val _])] [(true,rr),(false,[val _]),(false,[val _])] auj (hs:=by exact (ax7 ab ab ab)))
 refine rA ?_ (x:=lN iu)
 refine dm ?_
 refine sP [1,2,3,4,5,6,8,9,10,11,57,58,59,77,78,79,2900] [1,2,4,6,10,900] ?_
 refine Zu (s:=77) (t:=27) (e:=2) (G:=6100) (f:=(ci ai)) (g:=(fun z:Row=>[val (vI z.Id),sl .v (z.Values.map ar)])) (fN:=aw7) (xs:=(eU (cD e) e.aC6[i].Time)) aj aj aj (fun _ _=>rfl) (fun _=>rfl) (fun _=>(aB (bf az.nil))) (fun _=>aQ) fun zr hzr=>?_
 have hzl:zr.length=(eU (cD e) e.aC6[i].Time).length:=by rw [←hzr,aX]
 have hve:(eU (e.Store.aC5.getD e.aDa.toNat []) e.aC6[i].Time).length=(eU (cD e) e.aC6[i].Time).length:=rfl
 refine sP [1,2,3,4,5,6,8,9,10,11,57,58,59,77,78,79,2900,6100] [1,2,4,6,10,900] ?_
 refine sL [1,2,3,4,5,6,8,9,10,57,58,59,77,78,2900] [1,2,4,6,900] (fun j:Nat=>j≤zr.length) (fun j:Nat=>[(11,RV.int ((kC e e.aC6[i] j).length:Int)),(79,RV.int (j:Int)),(6100,RV.gh (bz 2 (zr.drop j)) (ca (ci ai) (zr.drop j)))]) (fun j:Nat=>[(10,(102,[val (vI e.aC6[i].aC7.Id),val (vI e.aC6[i].aC7.aDb),sl aH (e.aC6[i].aC7.aC8.map bM),sl ai (e.aC6[i].aC7.Out.map ar),val (vI e.aC6[i].Time),sl ai (e.aC6[i].aDf.map ar),val (vI e.aC6[i].Age),val (vI e.aC6[i].Sent),val (vI e.aC6[i].Cap),sl aJ ((e.aC6[i].Rows++kC e e.aC6[i] j).map (ci ai))]))]) (fun j:Nat=>zr.length - j) 0 ab qW (by exact aI (by show _=some (102,[val (vI e.aC6[i].aC7.Id),val (vI e.aC6[i].aC7.aDb),sl aH (e.aC6[i].aC7.aC8.map bM),sl ai (e.aC6[i].aC7.Out.map ar),val (vI e.aC6[i].Time),sl ai (e.aC6[i].aDf.map ar),val (vI e.aC6[i].Age),val (vI e.aC6[i].Sent),val (vI e.aC6[i].Cap),sl aJ ((e.aC6[i].Rows++kC e e.aC6[i] 0).map (ci ai))]);rw [show kC e e.aC6[i] 0=[] from rfl,gj];exact rfl) tI) ?_
 rintro j hj
 have hgl:=TT hoe e.aC6[i] j
 refine bP ?_
 refine sc ?_ ?_<;>intro hbc
 have hltz:j < zr.length:=ab
 have hjv:j < (eU (cD e) e.aC6[i].Time).length:=ab
 have hz3:zr[j].1=(eU (cD e) e.aC6[i].Time)[j]:=by simp [←hzr]
 refine aY ?_
 refine zwy ?_
 refine fh ?_
 refine zwz ?_
 refine rA ?_ (x:=ri (qs:=[nv _ (val _),nv _ (sl .v _)]) ak jg (fun h=>nomatch h) ay (by exact (aB (aB az.nil))) aQ)
 refine El ?_
 refine rA ?_ (x:=bR (ag:=true) (vs:=[nv _ (val _),nv _ (sl _ _)]) jg ao aj ay)
 refine sO [(1,_),(2,_),(3,_),(4,_),(5,_),(6,_),(8,_),(9,_),(10,_),(11,_),(13,_),(57,_),(58,_),(59,_),(77,_),(78,_),(79,_),(2900,_),(6100,_)] [(1,_),(2,_),(4,_),(6,_),(10,_),(13,(27,[nv _ (val _),nv _ (sl _ _)])),(900,_)] ?_
 refine NP (d:=13) (G:=6100) (e:=2) (f:=(ci ai)) (z:=zr[j]) (zs:=(zr.drop (j+1))) aj (by exact (Nm.nv (Nm.nv Nm.nil))) (fun _=>rfl) My ?_
 refine sV [1,2,3,4,5,6,8,9,10,11,13,57,58,59,77,78,79,2900,6100] [1,2,4,6,10,900] [13] ?_
 refine tW ?_
 refine tT ?_
 refine xM ?_
 refine rA ?_ (x:=cL NA NB auk (hs:=by exact avD))
 refine sc ?_ ?_<;>intro hbd
 have hm:ib e.aC6[i].aC7 (eU (cD e) e.aC6[i].Time)[j]=true:=FX
 refine sS [1,2,3,4,5,6,8,9,10,11,13,57,58,59,77,78,79,2900,6100] [1,2,4,6,10,13,900] ?_
 refine zx1 ?_
 refine RU ?_
 refine CP ?_
 refine zq6 ?_
 refine sW [1,2,3,4,5,6,8,9,10,11,13,57,58,59,77,78,79,2900,6100] [1,2,4,6,900] [10,13] ?_
 refine bO ?_
 exact zx3
 have hm:ib e.aC6[i].aC7 (eU (cD e) e.aC6[i].Time)[j]=false:=FX
 refine aK ?_
 exact zx3
 have hjend:j=(eU (cD e) e.aC6[i].Time).length:=ab
 have hgt:kC e e.aC6[i] j=lb e e.aC6[i]:=by rw [hjend];exact TO
 rw [hgt]
 refine be ?_
 refine zwy ?_
 refine fh ?_
 refine rA ?_ (x:=lF uq)
 refine eJ ?_
 refine qb ?_
 refine rA ?_ (x:=lF uq)
 refine tZ ?_
 refine zx4 ?_
 refine rA ?_ (x:=lF lS)
 refine rL ?_
 refine Dt ?_
 refine rA ?_ (x:=cL gJ gK aul (hs:=by exact (ax5 ab)))
 refine Iw ?_
 refine zx4 ?_
 refine rA ?_ (x:=lF gP)
 refine rA ?_ (x:=lD [val _] fe)
 refine rM ?_
 refine RI ?_
 refine zww ?_
 refine rA ?_ (x:=rn (o:=0) (ag:=true) (vs:=ki) ab nJ ao aj ay)
 refine eI (d:=900) aj (rq (oM e e.aC6[i]) hil aj) ?_
 refine tf (d:=4) (D:=900) (G:=2900) (e:=10) (A:=nh) (B:=ni) (es:=(((cG e k)).set i (oM e e.aC6[i])).map (aO aH ai ai aJ ai)) aj aj aj rfl sD pM yK ?_
 refine sV [1,2,3,4,5,6,8,9,10,11,57,58,59,77,78,79,6100] [1,2,6] [4,10] ?_
 refine rA ?_ (x:=lF ur)
 refine CX ?_
 refine xg ?_
 refine rA ?_ (x:=lF ur)
 refine xS ?_
 refine sV [1,2,3,4,5,6,8,9,10,11,57,58,59,77,78,79,6100] [1,2,4,10] [6] ?_
 refine rA ?_ (x:=lF qA)
 refine zx5 ?_
 refine tW ?_
 refine rA ?_ (x:=lF rU)
 refine eJ ?_
 refine xg ?_
 refine rA ?_ (x:=lF qA)
 refine zx6 ?_
 refine vS ?_
 refine CX ?_
 refine xg ?_
 refine vS ?_
 refine zx6 ?_
 refine cc ?_
 refine nx (k+1) ab (f:=(by exact aI Xr (aI (by rw [awT hlt hi hf];simp only [bo];exact rfl) tI)))
 have hend:k=(parts e).length:=ab
 subst hend
 refine gk ?_
 refine sT [1,2,3,4,5,6,57,58,59] [1,2,4,6] ?_
 refine rA ?_ (x:=lF ur)
 refine qc ?_
 refine ov ?_
 refine sc ?_ ?_<;>intro hbc
 have hled:jC e (parts e).length=e.aDi++[fA e (parts e).length]:=by unfold jC;rw [if_neg ab]
 refine sG [1,2,3,4,5,6,57,58,59] [1,2,4,6] ?_
 refine rA ?_ (x:=lF nI)
 refine rA ?_ (x:=eP (ms:=[sl _ _]) (qs:=[sl .v _]) ak nM (fun _=>rfl) ay aj gS fp)
 refine rA ?_ (x:=eP (ms:=pf) (qs:=Hh) ak pB (fun h=>nomatch h) ay aj Wa aQ)
 refine rA ?_ (x:=cB (qs:=oh) ak lU mM ak rfl rfl rfl rfl rfl ay cN rfl)
 refine rA ?_ (x:=eL ak lU mM rfl rfl ak rfl bm bm)
 refine rA ?_ (x:=lF nI)
 refine rA ?_ (x:=bR (ag:=false) (vs:=[sl _ _]) nM ao aj ay)
 refine bg ?_
 refine sO [(1,_),(2,_),(3,_),(4,_),(5,_),(6,_),(57,_),(58,_),(59,_)] [(1,_),(2,_),(4,(46,dV)),(6,(149,Hh))] ?_
 refine fh ?_
 refine De ?_
 refine bg ?_
 refine sP [1,2,3,4,5,6,14,57,58,59] [1,2,4,6] ?_
 refine zv (d:=4) (t:=102) (e:=10) (G:=6200) (A:=nh) (B:=ni) (f:=(aO aH ai ai aJ ai)) (g:=(fun z:aC6=>[val (vI z.aC7.Id),val (vI z.aC7.aDb),sl .v (z.aC7.aC8.map bM),sl .v (z.aC7.Out.map ar),val (vI z.Time),sl .v (z.aDf.map ar),val (vI z.Age),val (vI z.Sent),val (vI z.Cap),sl .v (z.Rows.map (ci ai))])) (fN:=hI) (xs:=(cG e (parts e).length)) aj aj (fun _ _=>rfl) (fun _=>rfl) (fun _=>(aB (aB (bf (bf (aB (bf (aB (aB (aB (bf az.nil))))))))))) (fun _=>aQ) fun za hza=>?_
 have hzal:za.length=e.aC6.length:=FP
 refine sW [1,2,3,4,5,6,14,57,58,59,6200] [1,2,6] [4] ?_
 refine tJ ?_
 refine zx7 ?_
 rintro m hm
 have hrl2:=KR (e:=e) (k:=(parts e).length) (m:=m)
 have hdl2:=KS (e:=e) (k:=(parts e).length) (m:=m)
 refine bP ?_
 refine sc ?_ ?_<;>intro hbd
 have hltm:m < e.aC6.length:=ab
 have hltz:m < za.length:=ab
 have hm2:m < (cG e (parts e).length).length:=FY
 have hm1:m < (dD e (parts e).length).length:=FZ
 have hz3:za[m].1=(cG e (parts e).length)[m]:=BL
 have hab:=KU hoe hltm hm2
 rw [←hz3] at hab
 refine fT ?_
 refine zx8 ?_
 exact zx9
 have hend2:m=e.aC6.length:=ab
 subst hend2
 refine gk ?_
 refine zx8 ?_
 exact zxa
 have hled:jC e (parts e).length=e.aDi:=by unfold jC;rw [if_pos ab]
 refine aK ?_
 refine sS [1,2,3,4,5,6,57,58,59] [1,2,4,6] ?_
 refine De ?_
 refine bg ?_
 refine sP [1,2,3,4,5,6,14,57,58,59] [1,2,4,6] ?_
 refine zv (d:=4) (t:=102) (e:=10) (G:=6200) (A:=nh) (B:=ni) (f:=(aO aH ai ai aJ ai)) (g:=(fun z:aC6=>[val (vI z.aC7.Id),val (vI z.aC7.aDb),sl .v (z.aC7.aC8.map bM),sl .v (z.aC7.Out.map ar),val (vI z.Time),sl .v (z.aDf.map ar),val (vI z.Age),val (vI z.Sent),val (vI z.Cap),sl .v (z.Rows.map (ci ai))])) (fN:=hI) (xs:=(cG e (parts e).length)) aj aj (fun _ _=>rfl) (fun _=>rfl) (fun _=>(aB (aB (bf (bf (aB (bf (aB (aB (aB (bf az.nil))))))))))) (fun _=>aQ) fun za hza=>?_
 have hzal:za.length=e.aC6.length:=FP
 refine sW [1,2,3,4,5,6,14,57,58,59,6200] [1,2,6] [4] ?_
 refine tJ ?_
 refine zx7 ?_
 rintro m hm
 have hrl2:=KR (e:=e) (k:=(parts e).length) (m:=m)
 have hdl2:=KS (e:=e) (k:=(parts e).length) (m:=m)
 refine bP ?_
 refine sc ?_ ?_<;>intro hbd
 have hltm:m < e.aC6.length:=ab
 have hltz:m < za.length:=ab
 have hm2:m < (cG e (parts e).length).length:=FY
 have hm1:m < (dD e (parts e).length).length:=FZ
 have hz3:za[m].1=(cG e (parts e).length)[m]:=BL
 have hab:=KU hoe hltm hm2
 rw [←hz3] at hab
 refine aY ?_
 refine sT [1,2,3,4,5,6,14,57,58,59,145,146,147,6200] [1,2,4,6] ?_
 exact zx9
 have hend2:m=e.aC6.length:=ab
 subst hend2
 refine be ?_
 refine sT [1,2,3,4,5,6,14,57,58,59,145,146,147,6200] [1,2,4,6] ?_
 exact zxa
def ayl:er Tryz.prog 149=some [(0,1),(1,1),(2,1),(3,1),(4,1)]:=au
def aym:er Tryz.prog 27=some [(0,1),(1,1)]:=au
def ayn{e:av}{ids:List Int}(hids:ids=parts e)(hoe:aU e=true)(hb:aZ e≤68719000000):Cd Tryz.prog 299 46 [sl bH (e.Store.aC5.map (aG bc ai)),val (vI e.Store.Now),val (vI e.aDa),sl ai (e.Order.map ar),sl ct (e.aC6.map (aO aH ai ai aJ ai)),sl ck (e.Done.map (bd aH ai aJ ai)),sl cl (e.aDi.map (ba ai ai ai)),val (vI e.Steps)] [sl bH (e.Store.aC5.map (aG bc ai)),val (vI e.Store.Now),val (vI e.aDa),sl ai (e.Order.map ar),sl ct ((cG e (parts e).length).map (aO aH ai ai aJ ai)),sl ck (e.Done.map (bd aH ai aJ ai)),sl cl ((e.aDi++[fA e (parts e).length]).map (ba ai ai ai)),val (vI e.Steps)] [(false,[sl ai (ids.map ar)])] (aA []):=by
 refine Nx (rs:=[]) Tryz.func299 rfl (nl rfl) (nl rfl) ?_
 intro g_ h0 w0 Fz0
 refine sj 1 fun hl1=>?_
 subst hids
 have hef:=gu hoe
 have hcl:e.aDa.toNat < e.Store.aC5.length:=hef.2.2.2.1
 have hpl:=ym (e:=e)
 have hs4:=KP hoe
 have hql2:=aw8 hoe
 have hxo:=asn hql2
 have hbu:=hb
 simp only [aZ,fk,gN,go] at hbu
 refine sR ?_
 refine Iu ?_
 refine sT [0,1,4,5000] [0] ?_
 refine cm ?_
 refine sP [0,1,4,5,5000] [0] ?_
 refine sL [0,1,5000] [0] (fun k:Nat=>k≤(parts e).length) (fun k:Nat=>[(4,RV.slc nd ((kt e.aC6 ((parts e).take k)).map (fj .v .v))),(5,RV.int (k:Int))]) (fun k:Nat=>[]) (fun k:Nat=>(parts e).length - k) 0 ab ej ao ?_
 rintro k hk
 refine pj ?_
 refine sc ?_ ?_<;>intro hba
 have hlt:k < (parts e).length:=ab
 have hpk:(parts e)[k]∈iF e e.aC6:=by rw [←uj hoe];exact List.getElem_mem hlt
 have hfp:=SO hpk
 have hql:(kt e.aC6 ((parts e).take k)).length=k:=ML
 refine aY ?_
 refine sQ [0,1,4,5,5000] [0] ?_
 refine rE ?_
 refine II ?_
 refine dA 6 ?_ (x:=lF gP)
 refine dA 14 ?_ (x:=lD [sl .v _] fe)
 refine Dn ?_
 refine dA 96 ?_ (x:=lD lB dg)
 refine gC ?_
 refine dA 768 ?_ (x:=aS ak bY ao aj bD aj)
 refine dA 1792 ?_ (x:=lE [val _] aV)
 refine dA 4064 ?_ (x:=cL lz kK EM (hs:=Gd))
 refine dA 8190 ?_ (x:=aS (k:=(ez e.aC6 (parts e)[k]).toNat) ak cY ao ab Ma aj)
 refine dA 16382 ?_ (x:=cr ak kx ay)
 refine dA 32766 ?_ (x:=lE iB gD)
 refine dA 65534 ?_ (x:=cB (qs:=il) ak lT lM ak rfl rfl rfl rfl rfl ay cN rfl)
 refine dA 131071 ?_ (x:=eL ak lT lM rfl rfl ak rfl bm bm)
 refine dA 262143 ?_ (x:=tA)
 refine sG [0,1,4,5,5000] [0] ?_
 exact zrj
 have hend:k=(parts e).length:=ab
 rw [hend,bG]
 refine be ?_
 refine sT [0,1,4,5,5000] [0] ?_
 refine zrl ?_
 refine Db ?_
 refine bg ?_
 refine sU [0,1,4,5,6,5000] [0] [6] ?_
 refine aq5 (d:=0) (t:=114) (A:=[]) (B:=[val _,val _,sl _ _,sl _ _,sl _ _,sl _ _,val _]) (f:=(fun l:List bb=>sl bc (l.map (ia ai)))) (xs:=e.Store.aC5) aj fun zsS hzsS=>?_
 obtain ⟨zP,hzP,hzP1⟩:=aq4 hzsS hcl
 have hzP2:zP.1=cD e:=hzP1.trans (TP hcl)
 have hzl:zP.1.length=(cD e).length:=by rw [hzP2]
 refine sU [0,1,4,5,6,5000] [6] [0] ?_
 refine zZ ?_
 refine dA 3 ?_ (x:=lF uu)
 refine dA 7 ?_ (x:=lF mH)
 refine dA 15 ?_ (x:=lD [sl .v _] mK)
 refine Dn ?_
 refine dA 96 ?_ (x:=lF mI)
 refine dA 224 ?_ (x:=lD [val _] aV)
 refine dA 511 ?_ (x:=aS (k:=e.aDa.toNat) ak gG ao ab (by rw [List.getElem?_map,hzP];exact rfl) aj)
 refine dA 1023 ?_ (x:=ri (qs:=Cl) ak nK (fun _=>rfl) ay uI Mb)
 refine dA 2047 ?_ (x:=mh (r':=RV.sv false Cl) (.inr rfl) ak Wf)
 refine bg ?_
 refine sP [0,1,4,5,6,7,5000] [0,6] ?_
 refine zZ ?_
 refine dA 3 ?_ (x:=lF mI)
 refine dA 7 ?_ (x:=lD [val _] aV)
 refine zxe ?_
 refine dA 16 ?_ (x:=lN fz)
 refine tR ?_
 refine my ?_
 refine dA 192 ?_ (x:=ml ak bY jy rfl rfl ak oW sC bm bm)
 refine dA 511 ?_ (x:=cz (qs:=Ha) (cs:=pf) ak mM yv ayl aj sJ rfl aj)
 refine cu.step 0 ao ao (dj.of rfl (gW ak mM yv)) (uT (en.of_ rfl)) au ?_
 refine dA 2047 ?_ (x:=bR (ag:=true) (vs:=pf) pB ao aj ay)
 refine bg ?_
 refine sV [0,1,4,5,6,7,8,5000] [0,6] [8] ?_
 refine cm ?_
 refine sP [0,1,5,6,7,8,9,5000] [0,6,8] ?_
 refine zxg ?_
 refine sP [0,1,5,6,7,8,9,5000] [0,6,8] ?_
 refine sL [0,1,5,6,7,8,5000] [6] (fun k:Nat=>k≤(parts e).length) (fun k:Nat=>[(9,RV.int (k:Int))]) (fun k:Nat=>[(0,(46,[sl bH (zsS.map (nk (fun l:List bb=>sl bc (l.map (ia ai))))),val (vI e.Store.Now),val (vI e.aDa),sl ai (e.Order.map ar),sl ct ((cG e k).map (aO aH ai ai aJ ai)),sl ck (e.Done.map (bd aH ai aJ ai)),sl cl (e.aDi.map (ba ai ai ai)),val (vI e.Steps)])),(8,(149,[val (vI (mR e k).Segment),val (vI (mR e k).Base),sl ai ((mR e k).Ids.map ar),sl ai ((mR e k).aDc.map ar),sl ai ((mR e k).Rows.map ar)]))]) (fun k:Nat=>(parts e).length - k) 0 ab bu (by exact aI (by rw [TM];exact rfl) (aI (by rw [show (mR e 0).Base=((zP.1.length:Nat):Int) by rw [hzl];rfl];exact rfl) tI)) ?_
 rintro k hk
 have hcg:=axe (e:=e) hk
 have hsl:=wy (e:=e) (k:=k)
 refine pj ?_
 refine sc ?_ ?_<;>intro hbb
 have hlt:k < (parts e).length:=ab
 obtain ⟨i,hi,hf,hid,hpp⟩:=TL hoe hlt
 have hf2:ez (cG e k) (parts e)[k]=(i:Int):=(aw6 _).trans hf
 have hil:i < (cG e k).length:=ab
 have hoa:=KT (hef.2.2.2.2.2.2.2.2.2.1 _ (List.getElem_mem hi))
 have hwa:=dK (f:=dW) hi
 have hwq:dW e.aC6[i]=eS e.aC6[i].aC7+e.aC6[i].aDf.length+iQ e.aC6[i].Rows:=yU
 have hga4:=TX hoe e.aC6[i]
 have hqm:=aw9 hoe hi hpp
 refine fT ?_
 refine sQ [0,1,5,6,7,8,9,5000] [0,6,8] ?_
 refine zZ ?_
 refine dA 3 ?_ (x:=lD lB dg)
 refine gC ?_
 refine dA 24 ?_ (x:=aS ak bY ao aj bD aj)
 refine dA 56 ?_ (x:=lE [val _] aV)
 refine dA 127 ?_ (x:=ta (qs:=lz) (as_:=[(true,[sl .v (e.Store.aC5.map (aG .v ai)),val _,val _,sl .v _,sl .v _,sl .v _,sl .v _,val _]),(false,[val _])]) ak EM iY (by exact (aI (aI rfl (az.cons (q:=sl .v (e.Store.aC5.map (aG .v ai))) (aq3 (g:=aG .v ai) hzsS (fun x=>bf az.nil)) (aB (aB (bf (bf (bf (bf (aB az.nil))))))))) (aI (aI rfl (aB az.nil)) tI))) (by exact (amQ (e:=axf e k) (id:=(parts e)[k]))))
 refine dA 255 ?_ (x:=sA)
 refine bg ?_
 refine sP [0,1,5,6,7,8,9,10,5000] [0,6,8] ?_
 refine mn (d:=0) (t:=46) (D:=900) (G:=2900) (E:=102) (e:=10) (L:=MO) (A:=nh) (B:=ni) (es:=((cG e k)).map (aO aH ai ai aJ ai)) aj (kh hil) aj aj rfl aj (fun x hx=>hx.elim) aQ aQ aQ aQ (aw.map fun x=>(aw.cons lcl_val (aw.cons lcl_val (aw.cons (lcl_own (aw.map fun x=>(aw.cons lcl_val (aw.cons lcl_val (aw.cons lcl_val aw.nil))))) (aw.cons (lcl_own (aw.map fun x=>(aw.cons lcl_val aw.nil))) (aw.cons lcl_val (aw.cons (lcl_own (aw.map fun x=>(aw.cons lcl_val aw.nil))) (aw.cons lcl_val (aw.cons lcl_val (aw.cons lcl_val (aw.cons (lcl_own (aw.map fun x=>(aw.cons lcl_val (aw.cons (lcl_own (aw.map fun x=>(aw.cons lcl_val aw.nil))) aw.nil)))) aw.nil))))))))))) fun uu900 cp900 jk900 hlD900 hcp900 hjk900=>?_
 rw [aX] at hlD900 hcp900 hjk900
 refine eI (d:=900) aj (pb (k:=i) hil) ?_
 have hA900:=lv (f:=(aO aH ai ai aJ ai)) (e:=10) (xs:=(cG e k)) (k:=i) (fun _=>rfl) (Nat.le_of_lt hil)
 refine zwv ?_
 refine sO [(0,_),(1,_),(5,_),(6,_),(7,_),(8,_),(9,_),(10,_),(2900,_),(5000,_)] [(0,(46,Cm)),(6,_),(8,_),(900,(102,_++(ki++_)))] ?_
 refine Ru ?_
 refine zxh ?_
 refine dA 0 ?_ (x:=cM Cp.ptr)
 refine dA 4 ?_ (x:=rt ak)
 refine dA 12 ?_ (x:=lF gP)
 refine dA 28 ?_ (x:=lD [val _] fe)
 refine dt ?_
 refine dA 124 ?_ (x:=lx (k:=i) (G:=2900) ak cY ao yX wK)
 refine dA 252 ?_ (x:=lF kx)
 refine dA 508 ?_ (x:=lF rU)
 refine dA 1020 ?_ (x:=wW (o:=1) (qs:=[val _]) ab ak aV (fun _=>rfl) ay uI mZ)
 refine dA 2044 ?_ (x:=cB (qs:=aM) ak bY jy ak rfl rfl rfl rfl rfl ay cN rfl)
 refine dA 4095 ?_ (x:=eL ak bY jy rfl rfl ak rfl bm bm)
 refine dA 8191 ?_ (x:=lF qA)
 refine zp0 ?_
 refine sV [0,1,5,6,7,8,9,10,2900,5000] [0,6,900] [8] ?_
 refine dp ?_
 refine bg ?_
 refine sP [0,1,5,6,7,8,9,10,11,2900,5000] [0,6,8,900] ?_
 refine aq7 (s:=7) (d:=0) (t:=114) (k:=e.aDa.toNat) (A:=[]) (B:=[val _,val _,sl _ _,val _,sl _ _,sl _ _,val _]) (f:=(fun l:List bb=>sl bc (l.map (ia ai)))) (q:=(fun l:List bb=>sl .v (l.map (ia ai)))) aj aj hzP uX (by exact bor_sl _) ?_
 refine sG [0,1,5,6,7,8,9,10,11,2900,5000] [0,6,8,900] ?_
 refine cm ?_
 refine sP [0,1,5,6,7,8,9,10,11,12,2900,5000] [0,6,8,900] ?_
 refine sL [0,1,5,6,7,8,9,10,2900,5000] [0,6,8] (fun j:Nat=>j≤(cD e).length) (fun j:Nat=>[(11,RV.int ((mQ e e.aC6[i] j).length:Int)),(12,RV.int (j:Int))]) (fun j:Nat=>[(900,(102,(((cG e k).take i).map (aO aH ai ai aJ ai)).flatten++([val (vI e.aC6[i].aC7.Id),val (vI e.aC6[i].aC7.aDb),sl aH (e.aC6[i].aC7.aC8.map bM),sl ai (e.aC6[i].aC7.Out.map ar),val (vI e.aC6[i].Time),sl ai (e.aC6[i].aDf.map ar),val (vI e.aC6[i].Age),val (vI e.aC6[i].Sent),val (vI e.aC6[i].Cap),sl aJ ((e.aC6[i].Rows++mQ e e.aC6[i] j).map (ci ai))]++((((cG e k).drop (i+1)).map (aO aH ai ai aJ ai)).flatten++jk900.map val))))]) (fun j:Nat=>(cD e).length - j) 0 ab ej (by exact aI (by show _=some (102,(((cG e k).take i).map (aO aH ai ai aJ ai)).flatten++([val (vI e.aC6[i].aC7.Id),val (vI e.aC6[i].aC7.aDb),sl aH (e.aC6[i].aC7.aC8.map bM),sl ai (e.aC6[i].aC7.Out.map ar),val (vI e.aC6[i].Time),sl ai (e.aC6[i].aDf.map ar),val (vI e.aC6[i].Age),val (vI e.aC6[i].Sent),val (vI e.aC6[i].Cap),sl aJ ((e.aC6[i].Rows++mQ e e.aC6[i] 0).map (ci ai))]++((((cG e k).drop (i+1)).map (aO aH ai ai aJ ai)).flatten++jk900.map val)));rw [show mQ e e.aC6[i] 0=[] from rfl,gj];exact rfl) tI) ?_
 rintro j hj
 have hgl:=axb (e:=e) (a:=e.aC6[i]) (j:=j)
 refine bI ?_
 refine zxi ?_
 refine sc ?_ ?_<;>intro hbc
 have hj2:j < (cD e).length:=ab
 have hjz:j < zP.1.length:=ab
 have hz4:fJ zP.1[j]=fJ (cD e)[j]:=by simp [hzP2]
 have hz5:gp zP.1[j] e.aC6[i].Time=gp (cD e)[j] e.aC6[i].Time:=by simp [hzP2]
 have hro:bA (fJ zP.1[j])=true:=by rw [hz4];exact amZ hoe _ (List.getElem_mem hj2)
 have hrv:=yf hro
 have hrv:zP.1[j].Values.length=3:=hrv
 have hph:=atl (q:=e.aC6[i].aC7) hql2 hro hef.2.1 hqm
 rw [hid,hz4] at hph
 have hwr:kp (fJ zP.1[j])=3:=by simp only [fJ,kp,fU,bh];omega
 refine fT ?_
 refine zxj ?_
 refine cJ ?_
 refine zxk ?_
 refine dA 3 ?_ (x:=aS ak fz ao aj bD aj)
 refine dA 7 ?_ (x:=cr ak yo ay)
 refine dA 15 ?_ (x:=lE [val _] aV)
 refine zxk ?_
 refine dA 96 ?_ (x:=aS ak fz ao aj bD aj)
 refine dA 224 ?_ (x:=cr ak qz ay)
 refine dA 480 ?_ (x:=lE [sl .v _] bZ)
 refine dA 1023 ?_ (x:=cz (qs:=uZ) (cs:=iA) ak jh nB aym aj iY rfl aj)
 refine cu.step 0 ao ao (dj.of rfl (gW ak jh nB)) (uT (en.of_ rfl)) au ?_
 refine dA 4095 ?_ (x:=bR (ag:=true) (vs:=iA) jg ao aj ay)
 refine bg ?_
 refine sU [0,1,5,6,7,8,9,10,11,12,13,2900,5000] [0,6,8,900] [13] ?_
 refine zru ?_
 refine dX 0 ?_ (x:=(mi (qs:=mo) ak jg (fun h=>nomatch h) ay FW aQ))
 refine dX 0 ?_ (x:=(mh (.inl rfl) ak (by exact Cp.ptr)))
 refine dX 4 ?_ (x:=(rt ak))
 refine dX 12 ?_ (x:=(XZ ak EO))
 refine dX 28 ?_ (x:=(mi (qs:=[sl .v _]) ak bZ (fun _=>rfl) ay gS fp))
 refine GY (G:=2000) (qs:=ND) (as_:=NE) ak al7 WI sJ VX (by exact (amC (x:=kr (kt e.aC6 (parts e))) (r:=fJ zP.1[j]) (o:=e.Order) hxo hro hef.2.1)) au au fun uss hU0=>?_
 obtain ⟨us0,r0,rfl,hl0,hR0,hU1⟩:=kg.cons hU0
 obtain ⟨u4_0_0,rfl⟩:=Es hl0
 obtain ⟨us1,r1,rfl,hl1,hR1,hU2⟩:=kg.cons hU1
 obtain ⟨u4_1_0,rfl⟩:=Es hl1
 obtain rfl:=ze hR1 (j:=0) rfl rfl
 obtain rfl:=kg.nil hU2
 clear hR0 hU0 hR1 hU1 hU2
 refine zrw ?_
 refine zrx ?_
 refine zg (s:=14) (G:=2000) aj BI rfl ak aj ?_
 refine zg (s:=15) (G:=2001) aj BI rfl ak aj ?_
 refine zxl ?_
 refine cJ ?_
 refine my ?_
 refine gC ?_
 refine dA 6 ?_ (x:=aS ak bY ao aj bD aj)
 refine dA 14 ?_ (x:=lE [val _] aV)
 refine dA 31 ?_ (x:=cL gJ gK Kj (hs:=Ge))
 refine dA 63 ?_ (x:=sM)
 refine dx 125 ?_ ?_<;>intro ga sga
 have hmm:ib e.aC6[i].aC7 (fJ (cD e)[j])=true:=WL
 have sga:=ga
 try simp only [qq] at sga
 refine dB 127 ga ?_ (x:=mh (r':=RV.sv false [sl .v _]) (.inl rfl) ak LX)
 refine dB 127 ga ?_ (x:=sM)
 refine dB 511 ga ?_ (x:=aS ak fz ao aj bD aj)
 refine dB 1023 ga ?_ (x:=lE pc lV)
 refine dB 127 ga ?_ (x:=cM Cp.ptr)
 refine dB 2175 ga ?_ (x:=rt ak)
 refine dB 6271 ga ?_ (x:=lF gP)
 refine dB 14463 ga ?_ (x:=lD [val _] fe)
 refine dB 127 ga ?_ (x:=sM)
 refine dB 63615 ga ?_ (x:=lx (k:=i) (G:=2900) ak cY ao yX wK)
 refine dB 129151 ga ?_ (x:=lF ww)
 refine dB 260223 ga ?_ (x:=wW (o:=4) (qs:=[val _]) ab ak aV (fun _=>rfl) ay uI mZ)
 refine dB 524287 ga ?_ (x:=cL He Cj al6 (hs:=by exact amt))
 refine dA 1048575 ?_ (x:=cd ga)
 refine sc ?_ ?_<;>intro hbd
 have hvv:gp (cD e)[j] e.aC6[i].Time=true:=by rw [←hz5];simpa using hbd
 refine zxl ?_
 refine zZ ?_
 refine QX ?_
 refine dt ?_
 refine Dn ?_
 refine QO ?_
 refine Qb ?_
 refine dA 2016 ?_ (x:=lF py)
 refine dA 4064 ?_ (x:=Nr (o:=9) (ms:=[sl _ _]) (qs:=[sl .v _]) ab ak iU (fun _=>rfl) ay aj gS fp)
 refine dA 0 ?_ (x:=lD mo jg)
 refine dA 8192 ?_ (x:=cL jK ly akV (hs:=by exact (amp (x:=fJ zP.1[j]) ab)))
 refine dA 24576 ?_ (x:=cB (qs:=jK) ak iu jh ak rfl rfl rfl rfl rfl ay cN rfl)
 refine dA 65504 ?_ (x:=eL ak iu jh rfl rfl ak rfl bm bm)
 refine dA 131071 ?_ (x:=lx (k:=i) (G:=2900) ak cY ao yX wK)
 refine dA 262143 ?_ (x:=lF py)
 refine dA 524287 ?_ (x:=rn (o:=9) (ag:=false) (vs:=[sl _ _]) ab iU ao aj ay)
 refine sO [(0,_),(1,_),(5,_),(6,_),(7,_),(8,_),(9,_),(10,_),(11,_),(12,_),(13,_),(14,_),(15,_),(2900,_),(5000,_)] [(0,_),(6,_),(8,_),(13,_),(900,(102,_++(ki++_)))] ?_
 refine fh ?_
 refine bO ?_
 exact OB
 have hvv:gp (cD e)[j] e.aC6[i].Time=false:=by rw [←hz5];simpa using hbd
 refine aK ?_
 exact OB
 have hmm:ib e.aC6[i].aC7 (fJ (cD e)[j])=false:=WL
 have sga:=ga
 try simp only [qq] at sga
 refine dF 127 ga ?_
 refine dF 127 ga ?_
 refine dF 511 ga ?_
 refine dF 1023 ga ?_
 refine dF 127 ga ?_
 refine dF 2175 ga ?_
 refine dF 6271 ga ?_
 refine dF 14463 ga ?_
 refine dF 127 ga ?_
 refine dF 63615 ga ?_
 refine dF 129151 ga ?_
 refine dF 260223 ga ?_
 refine dF 524287 ga ?_
 refine dA 1048575 ?_ (x:=bF ga)
 refine gB ?_
 refine aK ?_
 exact OB
 have hjend:j=(cD e).length:=ab
 have hgt:mQ e e.aC6[i] j=lb e e.aC6[i]:=by rw [hjend];exact axa
 rw [hgt]
 refine gk ?_
 refine zxj ?_
 refine fh ?_
 refine vS ?_
 refine CX ?_
 refine xg ?_
 refine vS ?_
 refine xS ?_
 refine bg ?_
 refine sU [0,1,5,6,7,8,9,10,11,12,2900,5000] [0,6,900] [8] ?_
 refine zZ ?_
 refine QX ?_
 refine dt ?_
 refine Dn ?_
 refine QO ?_
 refine Qb ?_
 refine dA 2016 ?_ (x:=lF uq)
 refine dA 4064 ?_ (x:=wW (o:=7) (qs:=[val _]) ab ak aV (fun _=>rfl) ay uI mZ)
 refine dt ?_
 refine dA 16352 ?_ (x:=mq)
 refine dA 32767 ?_ (x:=lx (k:=i) (G:=2900) ak cY ao yX wK)
 refine dA 65535 ?_ (x:=lF uq)
 refine dA 131071 ?_ (x:=rn (o:=7) (ag:=false) (vs:=[val _]) ab aV ao aj ay)
 refine sO [(0,_),(1,_),(5,_),(6,_),(7,_),(8,_),(9,_),(10,_),(11,_),(12,_),(2900,_),(5000,_)] [(0,_),(6,_),(8,_),(900,(102,_++(ki++_)))] ?_
 refine zZ ?_
 refine QX ?_
 refine dt ?_
 refine Dn ?_
 refine QO ?_
 refine Qb ?_
 refine dA 2016 ?_ (x:=lF lS)
 refine dA 4064 ?_ (x:=wW (o:=5) (qs:=[sl .v _]) ab ak bZ (fun _=>rfl) ay gS fp)
 refine dA 0 ?_ (x:=cM Cp.ptr)
 refine dA 8192 ?_ (x:=rt ak)
 refine dA 24576 ?_ (x:=lF mI)
 refine dA 57344 ?_ (x:=lD [val _] aV)
 refine dA 131040 ?_ (x:=cL gJ gK auO (hs:=by exact (ax6 ab)))
 refine dA 262143 ?_ (x:=lx (k:=i) (G:=2900) ak cY ao yX wK)
 refine dA 524287 ?_ (x:=lF lS)
 refine dA 1048575 ?_ (x:=rn (o:=5) (ag:=false) (vs:=[sl _ _]) ab bZ ao aj ay)
 refine eI (d:=900) aj (rq (oM e e.aC6[i]) hil aj) ?_
 refine tf (d:=0) (D:=900) (G:=2900) (e:=10) (A:=nh) (B:=ni) (es:=(((cG e k)).set i (oM e e.aC6[i])).map (aO aH ai ai aJ ai)) aj aj aj rfl sD pM yK ?_
 refine sU [0,1,5,6,7,8,9,10,11,12,5000] [6,8] [0] ?_
 refine zxg ?_
 refine sG [0,1,5,6,7,8,9,10,11,12,5000] [0,6,8] ?_
 refine bO ?_
 refine nx (k+1) ab (f:=(by exact aI Xr (aI (by rw [axc hlt hi hf];simp only [bo];exact rfl) tI)))
 have hend:k=(parts e).length:=ab
 subst hend
 rw [axd]
 have hcg2:=KO (e:=e) (Nat.le_refl _)
 refine be ?_
 refine sQ [0,1,5,6,7,8,9,5000] [0,6,8] ?_
 refine aq6 (d:=0) (t:=114) (A:=[]) (B:=[val _,val _,sl _ _,sl _ _,sl _ _,sl _ _,val _]) (f:=(fun l:List bb=>sl bc (l.map (ia ai)))) hzsS aj ?_
 refine sU [0,1,5,6,7,8,9,5000] [6,8] [0] ?_
 refine IB ?_
 refine II ?_
 refine dA 6 ?_ (x:=lF nI)
 refine dA 14 ?_ (x:=eP (ms:=[sl _ _]) (qs:=[sl .v _]) ak nM (fun _=>rfl) ay aj gS fp)
 refine dA 0 ?_ (x:=eP (ms:=pf) (qs:=Hh) ak pB (fun h=>nomatch h) ay aj Wa aQ)
 refine dA 32 ?_ (x:=cB (qs:=oh) ak lU mM ak rfl rfl rfl rfl rfl ay cN rfl)
 refine dA 126 ?_ (x:=eL ak lU mM rfl rfl ak rfl bm bm)
 refine dA 255 ?_ (x:=rt ak)
 refine dA 511 ?_ (x:=lF nI)
 refine dA 1023 ?_ (x:=bR (ag:=false) (vs:=[sl _ _]) nM ao aj ay)
 exact ⟨(by simp only [bo];exact rfl),rfl,tI⟩
def ayo:er prog 56=some [(0,4),(4,1),(5,1),(6,1)]:=au
def ayp{e:av}(hoe:aU e=true)(hst:e.Steps < 100000)(hld:(e.aDi.length:Int) < 1000)(hda:(e.Done.length:Int)+(e.aC6.length:Int)≤1000)(hb:aZ e≤68719000000):Cd prog 274 46 [sl bH (e.Store.aC5.map (aG bc ai)),val (vI e.Store.Now),val (vI e.aDa),sl ai (e.Order.map ar),sl ct (e.aC6.map (aO aH ai ai aJ ai)),sl ck (e.Done.map (bd aH ai aJ ai)),sl cl (e.aDi.map (ba ai ai ai)),val (vI e.Steps)] [sl bH ((eD (jj e)).Store.aC5.map (aG bc ai)),val (vI (eD (jj e)).Store.Now),val (vI (eD (jj e)).aDa),sl ai ((eD (jj e)).Order.map ar),sl ct ((eD (jj e)).aC6.map (aO aH ai ai aJ ai)),sl ck ((eD (jj e)).Done.map (bd aH ai aJ ai)),sl cl ((eD (jj e)).aDi.map (ba ai ai ai)),val (vI (eD (jj e)).Steps)] [] (aA []):=by
 refine Nx (rs:=[]) func274 rfl (nl rfl) (nl rfl) ?_
 intro g_ h0 w0 Fz0
 have hef:=gu hoe
 have hcl:e.aDa.toNat < e.Store.aC5.length:=hef.2.2.2.1
 have hpl:=ym (e:=e)
 have hswt:=TV hoe
 obtain ⟨hs8,hs1,_,_,_,_⟩:=iE hef.1
 have hbu:=hb
 simp only [aZ,fk,gN,go] at hbu
 refine sR ?_
 refine qd ?_
 refine zri ?_
 refine iP ?_
 refine sT [0,2,5000] [0] ?_
 refine jv ?_
 refine ov ?_
 refine sc ?_ ?_<;>intro hba
 have hled:jC e (parts e).length=e.aDi++[fA e (parts e).length]:=by unfold jC;rw [if_neg ab]
 refine sP [0,2,5000] [0] ?_
 refine uW ?_
 refine wA ?_ (x:=cM Cp.ptr)
 refine wA ?_ (x:=tM)
 refine wO [(0,_),(14,_),(15,_),(5000,_)] [(0,_)] ?_
 refine Cf (bx:=0) (L:=MO) (qs:=cf) (as_:=cf) ak auG rfl aj aj oT cN ak aQ (by exact (ayn (e:=e) rfl hoe ab)) (fun x hx=>hx.elim) aQ (by exact (aI (.inl rfl) tI)) ?_
 refine uV ?_
 refine sT [0,5000] [0] ?_
 refine qd ?_
 refine xv ?_
 refine rS ?_
 refine sS [0,3,5000] [0] ?_
 refine De ?_
 refine sS [0,3,4,5000] [0] ?_
 refine cm ?_
 refine sP [0,3,4,5,5000] [0] ?_
 refine zxr ?_
 refine sP [0,3,4,5,5000] [0] ?_
 refine zv (d:=0) (t:=102) (e:=10) (G:=6200) (A:=nh) (B:=ni) (f:=(aO aH ai ai aJ ai)) (g:=(fun z:aC6=>[val (vI z.aC7.Id),val (vI z.aC7.aDb),sl .v (z.aC7.aC8.map bM),sl .v (z.aC7.Out.map ar),val (vI z.Time),sl .v (z.aDf.map ar),val (vI z.Age),val (vI z.Sent),val (vI z.Cap),sl .v (z.Rows.map (ci ai))])) (fN:=hI) (xs:=(cG e (parts e).length)) aj aj (fun _ _=>rfl) (fun _=>rfl) (fun _=>(aB (aB (bf (bf (aB (bf (aB (aB (aB (bf az.nil))))))))))) (fun _=>aQ) fun za hza=>?_
 have hzal:za.length=e.aC6.length:=FP
 refine sQ [0,3,4,5,5000,6200] [0] ?_
 refine sL [0,3,5000] [] (fun m:Nat=>m≤e.aC6.length) (fun m:Nat=>[(4,RV.slc ct ((mP e (parts e).length m).map (aO aH ai ai aJ ai))),(5,RV.int (m:Int)),(6200,RV.gh (bz 10 (za.drop m)) (ca (aO aH ai ai aJ ai) (za.drop m)))]) (fun m:Nat=>[(0,(46,[sl bH (e.Store.aC5.map (aG bc ai)),val (vI e.Store.Now),val (vI e.aDa),sl ai (e.Order.map ar),sl .v (za.map hI),sl ck ((e.Done++jB e (parts e).length m).map (bd aH ai aJ ai)),sl cl ((jC e (parts e).length).map (ba ai ai ai)),val (vI e.Steps)]))]) (fun m:Nat=>e.aC6.length - m) 0 ab qW WN ?_
 rintro m hm
 have hrl2:=KR (e:=e) (k:=(parts e).length) (m:=m)
 have hdl2:=KS (e:=e) (k:=(parts e).length) (m:=m)
 refine bI ?_
 refine qd ?_
 refine Ap ?_
 refine sc ?_ ?_<;>intro hbb
 have hltm:m < e.aC6.length:=ab
 have hltz:m < za.length:=ab
 have hm2:m < (cG e (parts e).length).length:=FY
 have hm1:m < (dD e (parts e).length).length:=FZ
 have hz3:za[m].1=(cG e (parts e).length)[m]:=BL
 have hab:=KU hoe hltm hm2
 rw [←hz3] at hab
 refine aY ?_
 refine sT [0,3,4,5,5000,6200] [0] ?_
 refine qd ?_
 refine ry ?_
 refine rM ?_
 refine HZ ?_
 refine Ib ?_
 refine sO [(0,_),(3,_),(4,_),(5,_),(6,_),(5000,_),(6200,_)] [(0,_),(6,(102,pV))] ?_
 refine zxs ?_
 refine sV [0,3,4,5,6,5000,6200] [0] [6] ?_
 refine xY ?_
 refine rD ?_
 refine xY ?_
 refine xk ?_
 refine sV [0,3,4,5,6,5000,6200] [0] [6] ?_
 refine IQ ?_
 refine IE ?_
 refine jw ?_
 refine sc ?_ ?_<;>intro hbc
 have hga:(dD e (parts e).length)[m]=(⟨za[m].1.aC7,za[m].1.Time,za[m].1.aDf,za[m].1.Age+1,0,za[m].1.Cap,za[m].1.Rows⟩:aC6):=Wv
 refine sG [0,3,4,5,6,5000,6200] [0,6] ?_
 refine Qz ?_
 refine sV [0,3,4,5,6,5000,6200] [0] [6] ?_
 exact zxw
 have hga:(dD e (parts e).length)[m]=(⟨za[m].1.aC7,za[m].1.Time,za[m].1.aDf,za[m].1.Age+1,za[m].1.Sent,za[m].1.Cap,za[m].1.Rows⟩:aC6):=Wy
 refine aK ?_
 refine sS [0,3,4,5,6,5000,6200] [0,6] ?_
 exact zxw
 have hend2:m=e.aC6.length:=ab
 subst hend2
 refine be ?_
 refine sT [0,3,4,5,5000,6200] [0] ?_
 refine rA ?_ (x:=cM Cp.ptr)
 refine bL ?_
 refine xX ?_
 refine zK ?_
 refine sT [0,3,5,5000,6200] [0] ?_
 refine Ju ?_
 refine Dt ?_
 refine cc ?_
 refine zxy ?_
 refine Qx ?_
 refine sT [0,3,5,5000,6200] [0] ?_
 refine Ju ?_
 refine rA ?_ (x:=lF sh)
 refine rD ?_
 refine xX ?_
 refine zy0 ?_
 refine sQ [0,3,5,5000] [0] ?_
 refine uW ?_
 refine wA ?_ (x:=cM Cp.ptr)
 refine wO [(0,_),(3,_),(5,_),(98,_),(5000,_)] [(0,_)] ?_
 exact zy1
 have hled:jC e (parts e).length=e.aDi:=by unfold jC;rw [if_pos ab]
 have hsv:(cG e (parts e).length)=e.aC6:=by rw [show (parts e).length=0 by omega];exact TM
 refine aK ?_
 refine sS [0,2,5000] [0] ?_
 refine qd ?_
 refine xv ?_
 refine rS ?_
 refine sS [0,2,3,5000] [0] ?_
 refine De ?_
 refine sS [0,2,3,4,5000] [0] ?_
 refine cm ?_
 refine sP [0,2,3,4,5,5000] [0] ?_
 refine zxr ?_
 refine sP [0,2,3,4,5,5000] [0] ?_
 refine zv (d:=0) (t:=102) (e:=10) (G:=6200) (A:=nh) (B:=ni) (f:=(aO aH ai ai aJ ai)) (g:=(fun z:aC6=>[val (vI z.aC7.Id),val (vI z.aC7.aDb),sl .v (z.aC7.aC8.map bM),sl .v (z.aC7.Out.map ar),val (vI z.Time),sl .v (z.aDf.map ar),val (vI z.Age),val (vI z.Sent),val (vI z.Cap),sl .v (z.Rows.map (ci ai))])) (fN:=hI) (xs:=(cG e (parts e).length)) aj aj (fun _ _=>rfl) (fun _=>rfl) (fun _=>(aB (aB (bf (bf (aB (bf (aB (aB (aB (bf az.nil))))))))))) (fun _=>aQ) fun za hza=>?_
 have hzal:za.length=e.aC6.length:=FP
 refine sQ [0,2,3,4,5,5000,6200] [0] ?_
 refine sL [0,2,3,5000] [] (fun m:Nat=>m≤e.aC6.length) (fun m:Nat=>[(4,RV.slc ct ((mP e (parts e).length m).map (aO aH ai ai aJ ai))),(5,RV.int (m:Int)),(6200,RV.gh (bz 10 (za.drop m)) (ca (aO aH ai ai aJ ai) (za.drop m)))]) (fun m:Nat=>[(0,(46,[sl bH (e.Store.aC5.map (aG bc ai)),val (vI e.Store.Now),val (vI e.aDa),sl ai (e.Order.map ar),sl .v (za.map hI),sl ck ((e.Done++jB e (parts e).length m).map (bd aH ai aJ ai)),sl cl ((jC e (parts e).length).map (ba ai ai ai)),val (vI e.Steps)]))]) (fun m:Nat=>e.aC6.length - m) 0 ab qW WN ?_
 rintro m hm
 have hrl2:=KR (e:=e) (k:=(parts e).length) (m:=m)
 have hdl2:=KS (e:=e) (k:=(parts e).length) (m:=m)
 refine bI ?_
 refine qd ?_
 refine Ap ?_
 refine sc ?_ ?_<;>intro hbb
 have hltm:m < e.aC6.length:=ab
 have hltz:m < za.length:=ab
 have hm2:m < (cG e (parts e).length).length:=FY
 have hm1:m < (dD e (parts e).length).length:=FZ
 have hz3:za[m].1=(cG e (parts e).length)[m]:=BL
 have hab:=KU hoe hltm hm2
 rw [←hz3] at hab
 refine aY ?_
 refine sT [0,2,3,4,5,5000,6200] [0] ?_
 refine qd ?_
 refine ry ?_
 refine rM ?_
 refine HZ ?_
 refine Ib ?_
 refine sO [(0,_),(2,_),(3,_),(4,_),(5,_),(6,_),(5000,_),(6200,_)] [(0,_),(6,(102,pV))] ?_
 refine zxs ?_
 refine sV [0,2,3,4,5,6,5000,6200] [0] [6] ?_
 refine xY ?_
 refine rD ?_
 refine xY ?_
 refine xk ?_
 refine sV [0,2,3,4,5,6,5000,6200] [0] [6] ?_
 refine IQ ?_
 refine IE ?_
 refine jw ?_
 refine sc ?_ ?_<;>intro hbc
 have hga:(dD e (parts e).length)[m]=(⟨za[m].1.aC7,za[m].1.Time,za[m].1.aDf,za[m].1.Age+1,0,za[m].1.Cap,za[m].1.Rows⟩:aC6):=Wv
 refine sG [0,2,3,4,5,6,5000,6200] [0,6] ?_
 refine Qz ?_
 refine sV [0,2,3,4,5,6,5000,6200] [0] [6] ?_
 exact zy2
 have hga:(dD e (parts e).length)[m]=(⟨za[m].1.aC7,za[m].1.Time,za[m].1.aDf,za[m].1.Age+1,za[m].1.Sent,za[m].1.Cap,za[m].1.Rows⟩:aC6):=Wy
 refine aK ?_
 refine sS [0,2,3,4,5,6,5000,6200] [0,6] ?_
 exact zy2
 have hend2:m=e.aC6.length:=ab
 subst hend2
 refine be ?_
 refine sT [0,2,3,4,5,5000,6200] [0] ?_
 refine rA ?_ (x:=cM Cp.ptr)
 refine bL ?_
 refine xX ?_
 refine zK ?_
 refine sT [0,2,3,5,5000,6200] [0] ?_
 refine Ju ?_
 refine Dt ?_
 refine cc ?_
 refine zxy ?_
 refine Qx ?_
 refine sT [0,2,3,5,5000,6200] [0] ?_
 refine Ju ?_
 refine rA ?_ (x:=lF sh)
 refine rD ?_
 refine xX ?_
 refine zy0 ?_
 refine sQ [0,2,3,5,5000] [0] ?_
 refine uW ?_
 refine wA ?_ (x:=cM Cp.ptr)
 refine wO [(0,_),(2,_),(3,_),(5,_),(98,_),(5000,_)] [(0,_)] ?_
 exact zy1
def anV{p1 p2 p5 p6 p7 p8 p9 p11 p12 p13 p14 p16 p17 p18:Fl}{e:av}(hb:aZ e≤68719000000):aE prog 225 [(true,[sl .v (e.Store.aC5.map (aG p1 p2)),val (vI e.Store.Now),val (vI e.aDa),sl .v (e.Order.map ar),sl .v (e.aC6.map (aO p5 p6 p7 p8 p9)),sl .v (e.Done.map (bd p11 p12 p13 p14)),sl .v (e.aDi.map (ba p16 p17 p18)),val (vI e.Steps)])] (aA [(true,[sl bH ((dO e).Store.aC5.map (aG bc ai)),val (vI (dO e).Store.Now),val (vI (dO e).aDa),sl ai ((dO e).Order.map ar),sl ct ((dO e).aC6.map (aO aH ai ai aJ ai)),sl ck ((dO e).Done.map (bd aH ai aJ ai)),sl cl ((dO e).aDi.map (ba ai ai ai)),val (vI (dO e).Steps)]),(false,[val (.bool (le e))])]):=by
 refine oZ (largs:=fun L=>[(true,[sl (.lo L) (e.Store.aC5.map (aG (.lo L) (.lo L))),val (vI e.Store.Now),val (vI e.aDa),sl (.lo L) (e.Order.map ar),sl (.lo L) (e.aC6.map (aO (.lo L) (.lo L) (.lo L) (.lo L) (.lo L))),sl (.lo L) (e.Done.map (bd (.lo L) (.lo L) (.lo L) (.lo L))),sl (.lo L) (e.aDi.map (ba (.lo L) (.lo L) (.lo L))),val (vI e.Steps)])]) (rs:=[(true,[sl bH ((dO e).Store.aC5.map (aG bc ai)),val (vI (dO e).Store.Now),val (vI (dO e).aDa),sl ai ((dO e).Order.map ar),sl ct ((dO e).aC6.map (aO aH ai ai aJ ai)),sl ck ((dO e).Done.map (bd aH ai aJ ai)),sl cl ((dO e).aDi.map (ba ai ai ai)),val (vI (dO e).Steps)]),(false,[val (.bool (le e))])]) func225 rfl (nl rfl) (fun L=>by exact (aI (aI rfl (am.cons (aT (fun _=>nl rfl) (fun _=>(am.cons (aT (fun _=>nl rfl) (fun _=>(am.cons ax (am.cons (aT (fun _=>nl rfl) (fun _=>(am.cons ax am.nil))) (am.cons ax (am.cons ax am.nil)))))) am.nil))) (am.cons ax (am.cons ax (am.cons (aT (fun _=>nl rfl) (fun _=>(am.cons ax am.nil))) (am.cons (aT (fun _=>nl rfl) (fun _=>(am.cons ax (am.cons ax (am.cons (aT (fun _=>nl rfl) (fun _=>(am.cons ax (am.cons ax (am.cons ax am.nil))))) (am.cons (aT (fun _=>nl rfl) (fun _=>(am.cons ax am.nil))) (am.cons ax (am.cons (aT (fun _=>nl rfl) (fun _=>(am.cons ax am.nil))) (am.cons ax (am.cons ax (am.cons ax (am.cons (aT (fun _=>nl rfl) (fun _=>(am.cons ax (am.cons (aT (fun _=>nl rfl) (fun _=>(am.cons ax am.nil))) am.nil)))) am.nil)))))))))))) (am.cons (aT (fun _=>nl rfl) (fun _=>(am.cons ax (am.cons ax (am.cons (aT (fun _=>nl rfl) (fun _=>(am.cons ax (am.cons ax (am.cons ax am.nil))))) (am.cons (aT (fun _=>nl rfl) (fun _=>(am.cons ax am.nil))) (am.cons ax (am.cons ax (am.cons (aT (fun _=>nl rfl) (fun _=>(am.cons ax (am.cons (aT (fun _=>nl rfl) (fun _=>(am.cons ax am.nil))) am.nil)))) am.nil))))))))) (am.cons (aT (fun _=>nl rfl) (fun _=>(am.cons ax (am.cons ax (am.cons (aT (fun _=>nl rfl) (fun _=>(am.cons ax am.nil))) (am.cons (aT (fun _=>nl rfl) (fun _=>(am.cons ax am.nil))) (am.cons (aT (fun _=>nl rfl) (fun _=>(am.cons ax am.nil))) am.nil))))))) (am.cons ax am.nil))))))))) tI)) (fun L=>by exact lq) ?_
 intro w0 Fz0
 refine sn 0 0 fun hl0_0=>?_
 refine sn 0 3 fun hl0_3=>?_
 refine sn 0 4 fun hl0_4=>?_
 refine sn 0 5 fun hl0_5=>?_
 refine sn 0 6 fun hl0_6=>?_
 have hbu:=hb
 simp only [aZ,fk,gN,go] at hbu
 refine CW ?_
 refine tz ?_
 refine sT [1,2,3] [1,2] ?_
 refine PJ ?_
 refine kR ?_
 refine sV [1,2,3,4] [1,2] [4] ?_
 refine PI ?_
 refine dq ?_
 refine cx 10 ?_ ?_<;>intro ga sga
 refine ko ?_
 refine rY 15 ?_
 refine vJ ?_
 refine rY 21 ?_
 exact HI
 refine rB ga ?_ (x:=lF sh)
 refine lJ ?_
 refine rB ga ?_ (x:=jc)
 refine nq ?_
 refine cx 15 ?_ ?_<;>intro gb sgb
 refine zt gb ?_
 refine hZ ?_
 refine rY 21 ?_
 exact HI
 refine rB gb ?_ (x:=lF nI)
 refine rB gb ?_ (x:=lD [sl (.lo _) _] nM)
 refine rB gb ?_ (x:=lN lU)
 refine rB gb ?_ (x:=jc)
 refine zY ?_
 refine cx 21 ?_ ?_<;>intro gc sgc
 exact zwr
 refine rB gc ?_ (x:=lF oL)
 refine rB gc ?_ (x:=lD [sl (.lo _) _] nL)
 refine rB gc ?_ (x:=lN mJ)
 refine rB gc ?_ (x:=lF gP)
 refine rB gc ?_ (x:=lD [sl (.lo _) _] fe)
 refine rB gc ?_ (x:=lN cY)
 refine rB gc ?_ (x:=mq)
 refine xq ?_
 refine sc ?_ ?_<;>intro hba
 exact HH
 have hok:le e=true:=by
  have ho_:aU e=true:=cS
  have hef_:=gu ho_
  unfold le
  rw [ho_]
  simp only [Bool.true_and,aR,decide_eq_true_eq]
  exact ⟨ab,ab,ab⟩
 obtain ⟨hoe,hst,hld,hda⟩:=EX hok
 refine cg ?_
 refine sP [1,2,3,4] [1,2,4] ?_
 refine uW ?_
 refine wO [(1,_),(2,_),(3,_),(4,_)] [(1,_),(2,_),(4,_)] ?_
 refine Cf (bx:=4) (L:=(Lw w0.heap.size)) (qs:=[]) (as_:=[]) ak auu rfl aj aj ao ao ak ao (by exact (ayp (by assumption) ab ab ab ab)) (fun x hx=>hx) aQ aQ ?_
 refine uV ?_
 refine sV [1,2,3,4] [1,2] [4] ?_
 refine ph ?_
 refine rK ?_
 exact zy3
def aoy{q:aC7}:et prog gl 105 [(true,[val (vI q.Id),val (vI q.aDb),sl .v (q.aC8.map bM),sl .v (q.Out.map ar)])] (aA [(false,[val (.string (B (eW q)))])]):=by
 refine im (rs:=[(false,[val (.string (B (eW q)))])]) func105 rfl (nl rfl) aQ ?_
 intro h0 w0 Fz0
 refine sn 0 2 fun hl0_2=>?_
 refine sn 0 3 fun hl0_3=>?_
 refine om ?_
 refine Af ?_
 refine zJ ?_
 refine eZ ?_
 refine sc ?_ ?_<;>intro hba
 have hok:bp q=false:=cR
 refine tY ?_
 exact Zbq
 have hok:bp q=true:=cR
 obtain ⟨a1,a2,a3,a4,a5,a6,a7,a8⟩:=yA hok
 have hil:(itoa q.Id).length≤21:=bv br
 have hitl:(itoa q.aDb).length≤21:=bv br
 have hll:=px a7
 refine cg ?_
 refine sP [1,2,7000] [1] ?_
 refine cJ ?_
 refine dA 0 ?_ (x:=lF jf)
 refine Io ?_
 refine dA 7 ?_ (x:=cZ)
 refine dA 0 ?_ (x:=lF rU)
 refine Zbr ?_
 refine dA 119 ?_ (x:=cZ)
 refine dA 255 ?_ (x:=cB (qs:=dl) ak dc qC ak rfl rfl rfl rfl rfl ay iY rfl)
 refine dA 511 ?_ (x:=tA)
 refine bg ?_
 refine AJ ?_
 refine Ag ?_
 refine dm ?_
 refine sP [1,2,3,19,20,21,7000] [1] ?_
 refine sL [1,2,19,20,7000] [1] (fun k:Nat=>k≤q.aC8.length) (fun k:Nat=>[(3,RV.slc jG ((jm q k).map fm)),(21,RV.int (k:Int))]) (fun k:Nat=>[]) (fun k:Nat=>q.aC8.length - k) 0 ab ej ao ?_
 rintro k hk
 refine bP ?_
 refine sc ?_ ?_<;>intro hbb
 have hlt:k < q.aC8.length:=ab
 have hck:=a8 k hlt
 have hf1:(itoa q.aC8[k].Field).length≤21:=bv br
 have hf2:(itoa q.aC8[k].Low).length≤21:=bv br
 have hf3:(itoa q.aC8[k].High).length≤21:=bv br
 have hjl:=Fj hok k
 have hql:=Fh (q:=q) k
 rw [cj] at hql
 refine aY ?_
 refine sT [1,2,3,19,20,21,7000] [1] ?_
 refine Qi ?_
 refine ze3 ?_
 refine sU [1,2,3,5,19,20,21,7000] [1] [5] ?_
 refine rE ?_
 refine dA 0 ?_ (x:=lF rV)
 refine Zbs ?_
 refine dA 14 ?_ (x:=cZ)
 refine dA 0 ?_ (x:=lF ED)
 refine dA 32 ?_ (x:=lD [val _] aV)
 refine dA 110 ?_ (x:=gL aM aM jV (hs:=jE))
 refine dA 238 ?_ (x:=cZ)
 refine dA 0 ?_ (x:=lF wi)
 refine dA 512 ?_ (x:=lD [val _] aV)
 refine dA 1774 ?_ (x:=gL aM aM jV (hs:=jE))
 refine dA 4078 ?_ (x:=cZ)
 refine dA 8190 ?_ (x:=cB (qs:=dl) ak dc qC ak rfl rfl rfl rfl rfl ay iY rfl)
 refine dA 16383 ?_ (x:=eL ak dc qC rfl rfl ak rfl bm bm)
 refine dA 32767 ?_ (x:=tA)
 refine sG [1,2,3,5,19,20,21,7000] [1,5] ?_
 refine cc ?_
 refine nx (k+1) ab (e:=(by exact aI (by exact bC (by rw [anq hlt,bo];rfl)) (aI aj tI)))
 have hend:k=q.aC8.length:=ab
 subst hend
 have hjl:=Fj hok q.aC8.length
 have hql:=Fh (q:=q) q.aC8.length
 rw [cj] at hql
 have hfe:=congrArg List.length (Uv (q:=q) q.aC8.length)
 simp only [bV,List.length_cons,List.length_nil] at hfe
 refine be ?_
 refine sT [1,2,3,19,20,21,7000] [1] ?_
 refine bL ?_
 refine vO ?_
 refine rL ?_
 refine rA ?_ (x:=gL cf cC KF (hs:=by exact (KL a7 ab)))
 refine Zbt ?_
 refine RY ?_
 refine rA ?_ (x:=ta (qs:=gJ) (as_:=gK) ak Bh XB (by exact (aI (aI rfl (az.cons (PV.to_eqv (ds:=(jm q q.aC8.length++[[111,117,116],fc q.Out]).map fm) (by rw [bo];exact rfl)) az.nil)) (aI (aI rfl (aB az.nil)) tI))) (by exact (Bn (xs:=jm q q.aC8.length++[[111,117,116],fc q.Out]) (sep:=[32]) (by rw [bV];simp only [List.length_cons,List.length_nil];omega) ab)))
 refine dI ?_
 exact (aI (by refine eY ?_;exact gF (by unfold eW;rw [if_pos hok])) tI)
def aoz{q:aC7}:aE prog 33 [(true,[val (vI q.Id),val (vI q.aDb),sl .v (q.aC8.map bM),sl .v (q.Out.map ar)])] (aA [(false,[val (.string (B (eW q)))])]):=by
 refine sF func33 fun h0 w0 Fz0=>?_
 refine sn 0 2 fun hl0_2=>?_
 refine sn 0 3 fun hl0_3=>?_
 refine om ?_
 refine jd ?_
 refine CZ ?_
 refine eZ ?_
 refine sc ?_ ?_<;>intro hba
 have hok:bp q=false:=cR
 refine oy ?_
 exact Zbq
 have hok:bp q=true:=cR
 obtain ⟨a1,a2,a3,a4,a5,a6,a7,a8⟩:=yA hok
 have hil:(itoa q.Id).length≤21:=bv br
 have hitl:(itoa q.aDb).length≤21:=bv br
 have hll:=px a7
 refine cg ?_
 refine sP [1,2] [1] ?_
 refine cJ ?_
 refine dA 0 ?_ (x:=lF jf)
 refine Ip ?_
 refine IS ?_
 refine dA 0 ?_ (x:=lF rU)
 refine zsa ?_
 refine dA 255 ?_ (x:=cZ)
 refine dA 511 ?_ (x:=sA)
 refine bg ?_
 refine xx ?_
 refine sL [1,2] [1] (fun k:Nat=>k≤q.aC8.length) (fun k:Nat=>[(3,RV.sc (.string (B (cI (jm q k) [32])))),(4,RV.int (k:Int))]) (fun k:Nat=>[]) (fun k:Nat=>q.aC8.length - k) 0 ab (by exact aI (by exact congrArg (fun z=>some (RV.sc (.string (B z)))) (by simp [jm,cI,Lib.join_cons,Lib.joinTail])) (aI aj tI)) ao ?_
 rintro k hk
 refine bI ?_
 refine Ag ?_
 refine dC ?_
 refine sc ?_ ?_<;>intro hbb
 have hlt:k < q.aC8.length:=ab
 have hck:=a8 k hlt
 have hf1:(itoa q.aC8[k].Field).length≤21:=bv br
 have hf2:(itoa q.aC8[k].Low).length≤21:=bv br
 have hf3:(itoa q.aC8[k].High).length≤21:=bv br
 have hjl:=Fj hok k
 have hql:=Fh (q:=q) k
 rw [cj] at hql
 refine aY ?_
 refine sQ [1,2,3,4] [1] ?_
 refine xu ?_
 refine dA 1 ?_ (x:=cZ)
 refine dA 0 ?_ (x:=lF kV)
 refine dA 4 ?_ (x:=lD [sl .v _] kq)
 refine dt ?_
 refine dA 28 ?_ (x:=aS ak ic ao aj bD aj)
 refine dA 60 ?_ (x:=cr ak rV ay)
 refine dA 124 ?_ (x:=lE [val _] aV)
 refine dA 252 ?_ (x:=cL aM aM iG (hs:=iw))
 refine Rj ?_
 refine dA 0 ?_ (x:=lF kV)
 refine dA 2048 ?_ (x:=lD [sl .v _] kq)
 refine dt ?_
 refine dA 14336 ?_ (x:=aS ak ic ao aj bD aj)
 refine dA 30720 ?_ (x:=cr ak ED ay)
 refine dA 63488 ?_ (x:=lE [val _] aV)
 refine dA 129532 ?_ (x:=cL aM aM iG (hs:=iw))
 refine dA 262143 ?_ (x:=cZ)
 refine dA 524287 ?_ (x:=cZ)
 refine dA 0 ?_ (x:=lF kV)
 refine dA 1048576 ?_ (x:=lD [sl .v _] kq)
 refine dt ?_
 refine dA 7340032 ?_ (x:=aS ak ic ao aj bD aj)
 refine dA 15728640 ?_ (x:=cr ak wi ay)
 refine dA 32505856 ?_ (x:=lE [val _] aV)
 refine dA 66320892 ?_ (x:=cL aM aM iG (hs:=iw))
 refine dA 134217727 ?_ (x:=cZ)
 refine dA 268435455 ?_ (x:=sA)
 refine DF ?_
 refine nx (k+1) ab (e:=(by exact aI (by exact congrArg (fun z=>some (RV.sc (.string (B z)))) (by rw [anq hlt];unfold lX;rw [SH anr];simp [bn])) (aI aj tI)))
 have hend:k=q.aC8.length:=ab
 subst hend
 have hjl:=Fj hok q.aC8.length
 refine DB ?_
 refine rF ?_
 refine vO ?_
 refine rL ?_
 refine rA ?_ (x:=cL cf cC Tv (hs:=by exact (TF a7 ab)))
 refine DK ?_
 exact (aI (by refine eY ?_;exact gF (by unfold eW;rw [if_pos hok,Uv])) tI)
def aoA{u:aC9}:et prog gl 106 [(true,[val (vI u.Kind),val (vI u.Row.Id),sl .v (u.Row.Values.map ar),val (vI u.Field),val (vI u.Value)])] (aA [(false,[val (.string (B (gw u)))])]):=by
 refine im (rs:=[(false,[val (.string (B (gw u)))])]) func106 rfl (nl rfl) aQ ?_
 intro h0 w0 Fz0
 refine sn 0 2 fun hl0_2=>?_
 refine zO ?_
 refine Af ?_
 refine JS ?_
 refine Zby ?_
 refine eZ ?_
 refine sc ?_ ?_<;>intro hba
 have hok:ee u=false:=cR
 refine tY ?_
 exact Zbz
 have hok:ee u=true:=cR
 obtain ⟨a1,a2,a3,a4,a5,a6⟩:=Uw hok
 have hrl:=wD u.Row
 have h3:(itoa u.Row.Id).length≤21:=bv br
 have h4:(itoa u.Field).length≤21:=bv br
 have h5:(itoa u.Value).length≤21:=bv br
 refine cg ?_
 refine tY ?_
 refine Ec ?_
 refine DC ?_
 refine sc ?_ ?_<;>intro hbb
 have k1:=hbb
 refine AP ?_
 refine xN ?_
 refine xM ?_
 refine rA ?_ (x:=gL jK ly Ts (hs:=by exact Vv))
 exact Zc2
 have k1:=hbb
 refine DC ?_
 refine sc ?_ ?_<;>intro hbc
 have k2:=hbc
 refine AP ?_
 refine tB ?_
 refine Iq ?_
 exact Zc4
 have k2:=hbc
 refine cg ?_
 refine sP [1,2,7,7000] [1] ?_
 refine Ja ?_
 refine IM ?_
 refine zqo ?_
 refine dA 31 ?_ (x:=cZ)
 refine dA 0 ?_ (x:=lF we)
 refine dA 64 ?_ (x:=lD [val _] aV)
 refine dA 207 ?_ (x:=gL aM aM jV (hs:=jE))
 refine Rj ?_
 refine dA 0 ?_ (x:=lF qp)
 refine dA 2048 ?_ (x:=lD [val _] aV)
 refine dA 6607 ?_ (x:=gL aM aM jV (hs:=jE))
 exact Zc5
def aoB{u:aC9}:aE prog 107 [(true,[val (vI u.Kind),val (vI u.Row.Id),sl .v (u.Row.Values.map ar),val (vI u.Field),val (vI u.Value)])] (aA [(false,[val (.string (B (gw u)))])]):=by
 refine sF func107 fun h0 w0 Fz0=>?_
 refine sn 0 2 fun hl0_2=>?_
 refine zO ?_
 refine jd ?_
 refine JS ?_
 refine rA ?_ (x:=cL ti pR Sy (hs:=Mt))
 refine eZ ?_
 refine sc ?_ ?_<;>intro hba
 have hok:ee u=false:=cR
 refine oy ?_
 exact Zbz
 have hok:ee u=true:=cR
 obtain ⟨a1,a2,a3,a4,a5,a6⟩:=Uw hok
 have hrl:=wD u.Row
 have h3:(itoa u.Row.Id).length≤21:=bv br
 have h4:(itoa u.Field).length≤21:=bv br
 have h5:(itoa u.Value).length≤21:=bv br
 refine tG ?_
 refine Ec ?_
 refine DO ?_
 refine sc ?_ ?_<;>intro hbb
 have k1:=hbb
 refine sS [1,2,7] [1] ?_
 refine xN ?_
 refine xM ?_
 refine rA ?_ (x:=cL jK ly Tj (hs:=by exact Vw))
 exact Zc2
 have k1:=hbb
 refine DO ?_
 refine sc ?_ ?_<;>intro hbc
 have k2:=hbc
 refine sS [1,2,7] [1] ?_
 refine tB ?_
 refine Qp ?_
 exact Zc4
 have k2:=hbc
 refine cg ?_
 refine sP [1,2,7] [1] ?_
 refine Ja ?_
 refine IM ?_
 refine zqu ?_
 refine dA 31 ?_ (x:=cZ)
 refine dA 0 ?_ (x:=lF we)
 refine dA 64 ?_ (x:=lD [val _] aV)
 refine dA 207 ?_ (x:=cL aM aM iG (hs:=iw))
 refine Rj ?_
 refine dA 0 ?_ (x:=lF qp)
 refine dA 2048 ?_ (x:=lD [val _] aV)
 refine dA 6607 ?_ (x:=cL aM aM iG (hs:=iw))
 exact Zc5
def aAq{x:fx}:et prog gl 38 [(true,[val (vI x.Kind),val (vI x.aC7.Id),val (vI x.aC7.aDb),sl .v (x.aC7.aC8.map bM),sl .v (x.aC7.Out.map ar),val (vI x.Limit),val (vI x.Id),val (vI x.aC9.Kind),val (vI x.aC9.Row.Id),sl .v (x.aC9.Row.Values.map ar),val (vI x.aC9.Field),val (vI x.aC9.Value),val (vI x.Steps)])] (aA [(false,[val (.string (B (gQ x)))])]):=by
 refine im (rs:=[(false,[val (.string (B (gQ x)))])]) func38 rfl (nl rfl) aQ ?_
 intro h0 w0 Fz0
 refine sn 0 3 fun hl0_3=>?_
 refine sn 0 4 fun hl0_4=>?_
 refine sn 0 9 fun hl0_9=>?_
 refine Ii ?_
 refine Af ?_
 refine JT ?_
 refine rA ?_ (x:=cL tg th Tm (hs:=by exact UL))
 refine eZ ?_
 refine sc ?_ ?_<;>intro hba
 have hok:ew x=false:=cR
 refine tY ?_
 exact Zc9
 have hok:ew x=true:=cR
 obtain ⟨a1,a2,a3,a4,a5,a6⟩:=ant hok
 have hql:=Lf x.aC7
 have h3:(itoa x.Limit).length≤21:=bv br
 have h4:(itoa x.Id).length≤21:=bv br
 have h5:(itoa x.Steps).length≤21:=bv br
 refine cg ?_
 refine tY ?_
 refine xE ?_
 refine DC ?_
 refine sc ?_ ?_<;>intro hbb
 have k1:=hbb
 refine bg ?_
 refine sP [1,2,7,7000] [1] ?_
 refine cJ ?_
 refine dA 0 ?_ (x:=lF wg)
 refine Io ?_
 refine IS ?_
 refine Zca ?_
 refine dA 103 ?_ (x:=gL il ju Tb (hs:=by exact aoy))
 exact Zcb
 have k1:=hbb
 refine DC ?_
 refine sc ?_ ?_<;>intro hbc
 have k2:=hbc
 refine AP ?_
 refine xZ ?_
 refine Iq ?_
 exact Zcc
 have k2:=hbc
 refine DC ?_
 refine sc ?_ ?_<;>intro hbd
 have k3:=hbd
 refine AP ?_
 refine xl ?_
 refine rA ?_ (x:=gL ti pR alQ (hs:=by exact aoA))
 exact Zcd
 have k3:=hbd
 refine aK ?_
 refine AP ?_
 refine ya ?_
 refine Iq ?_
 exact Zce
def aAr{x:fx}:aE prog 39 [(true,[val (vI x.Kind),val (vI x.aC7.Id),val (vI x.aC7.aDb),sl .v (x.aC7.aC8.map bM),sl .v (x.aC7.Out.map ar),val (vI x.Limit),val (vI x.Id),val (vI x.aC9.Kind),val (vI x.aC9.Row.Id),sl .v (x.aC9.Row.Values.map ar),val (vI x.aC9.Field),val (vI x.aC9.Value),val (vI x.Steps)])] (aA [(false,[val (.string (B (gQ x)))])]):=by
 refine sF func39 fun h0 w0 Fz0=>?_
 refine sn 0 3 fun hl0_3=>?_
 refine sn 0 4 fun hl0_4=>?_
 refine sn 0 9 fun hl0_9=>?_
 refine Ii ?_
 refine jd ?_
 refine JT ?_
 refine rA ?_ (x:=cL tg th amd (hs:=by exact anW))
 refine eZ ?_
 refine sc ?_ ?_<;>intro hba
 have hok:ew x=false:=cR
 refine oy ?_
 exact Zc9
 have hok:ew x=true:=cR
 obtain ⟨a1,a2,a3,a4,a5,a6⟩:=ant hok
 have hql:=Lf x.aC7
 have h3:(itoa x.Limit).length≤21:=bv br
 have h4:(itoa x.Id).length≤21:=bv br
 have h5:(itoa x.Steps).length≤21:=bv br
 refine tG ?_
 refine xE ?_
 refine DO ?_
 refine sc ?_ ?_<;>intro hbb
 have k1:=hbb
 refine bg ?_
 refine sP [1,2,7] [1] ?_
 refine cJ ?_
 refine dA 0 ?_ (x:=lF wg)
 refine Ip ?_
 refine IS ?_
 refine Zca ?_
 refine dA 103 ?_ (x:=cL il ju ama (hs:=by exact aoz))
 exact Zcb
 have k1:=hbb
 refine DO ?_
 refine sc ?_ ?_<;>intro hbc
 have k2:=hbc
 refine sS [1,2,7] [1] ?_
 refine xZ ?_
 refine Qp ?_
 exact Zcc
 have k2:=hbc
 refine DO ?_
 refine sc ?_ ?_<;>intro hbd
 have k3:=hbd
 refine sS [1,2,7] [1] ?_
 refine xl ?_
 refine rA ?_ (x:=cL ti pR alR (hs:=by exact aoB))
 exact Zcd
 have k3:=hbd
 refine aK ?_
 refine sS [1,2,7] [1] ?_
 refine ya ?_
 refine Qp ?_
 exact Zce
end Go.Proofs.YtmekkgdboplbjaaGreatDoor
