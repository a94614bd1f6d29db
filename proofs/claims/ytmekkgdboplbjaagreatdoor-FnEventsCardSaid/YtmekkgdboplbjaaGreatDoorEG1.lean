/- What functions of the program compute. No condition. -/
import Derived.Test.YtmekkgdboplbjaaGreatDoorEF1
import Derived.Test.YtmekkgdboplbjaaGreatDoorED1
set_option linter.all false
namespace Go.Proofs.YtmekkgdboplbjaaGreatDoor
open Go Go.RowKit M PV
set_option maxRecDepth 10000
attribute [local irreducible] PV.Lcl PV.LclR RV.Lcl
set_option maxHeartbeats 8000000
def aum:eA Tryz.prog 149=some [(0,1),(1,1),(2,1),(3,1),(4,1)]:=ao
def aun:eA Tryz.prog 56=some [(0,4),(4,1),(5,1),(6,1)]:=ao
def auo{p1 p2 p5 p6 p7 p8 p9 p11 p12 p13 p14 p16 p17 p18:Fl}{e:aC}(hb:bA e≤68719000000):aQ Tryz.prog 202 [(true,[sl .v (e.Store.ax2.map (aO p1 p2)),val (vI e.Store.Now),val (vI e.ax7),sl .v (e.Order.map ar),sl .v (e.ax3.map (bd p5 p6 p7 p8 p9)),sl .v (e.Done.map (bw p11 p12 p13 p14)),sl .v (e.ayf.map (bz p16 p17 p18)),val (vI e.Steps)])] (aB [(true,[sl bH ((dL e).Store.ax2.map (aO bc ai)),val (vI (dL e).Store.Now),val (vI (dL e).ax7),sl ai ((dL e).Order.map ar),sl cm ((dL e).ax3.map (bd aH ai ai aL ai)),sl cf ((dL e).Done.map (bw aH ai aL ai)),sl ck ((dL e).ayf.map (bz ai ai ai)),val (vI (dL e).Steps)]),(false,[val (.bool (jT e))])]):=by
 refine pm (largs:=fun L=>[(true,[sl (.lo L) (e.Store.ax2.map (aO (.lo L) (.lo L))),val (vI e.Store.Now),val (vI e.ax7),sl (.lo L) (e.Order.map ar),sl (.lo L) (e.ax3.map (bd (.lo L) (.lo L) (.lo L) (.lo L) (.lo L))),sl (.lo L) (e.Done.map (bw (.lo L) (.lo L) (.lo L) (.lo L))),sl (.lo L) (e.ayf.map (bz (.lo L) (.lo L) (.lo L))),val (vI e.Steps)])]) (rs:=[(true,[sl bH ((dL e).Store.ax2.map (aO bc ai)),val (vI (dL e).Store.Now),val (vI (dL e).ax7),sl ai ((dL e).Order.map ar),sl cm ((dL e).ax3.map (bd aH ai ai aL ai)),sl cf ((dL e).Done.map (bw aH ai aL ai)),sl ck ((dL e).ayf.map (bz ai ai ai)),val (vI (dL e).Steps)]),(false,[val (.bool (jT e))])]) Tryz.func202 rfl (nl rfl) (fun L=>by exact (aI (aI rfl (am.cons (aT (fun _=>nl rfl) (fun _=>(am.cons (aT (fun _=>nl rfl) (fun _=>(am.cons ay (am.cons (aT (fun _=>nl rfl) (fun _=>(am.cons ay am.nil))) (am.cons ay (am.cons ay am.nil)))))) am.nil))) (am.cons ay (am.cons ay (am.cons (aT (fun _=>nl rfl) (fun _=>(am.cons ay am.nil))) (am.cons (aT (fun _=>nl rfl) (fun _=>(am.cons ay (am.cons ay (am.cons (aT (fun _=>nl rfl) (fun _=>(am.cons ay (am.cons ay (am.cons ay am.nil))))) (am.cons (aT (fun _=>nl rfl) (fun _=>(am.cons ay am.nil))) (am.cons ay (am.cons (aT (fun _=>nl rfl) (fun _=>(am.cons ay am.nil))) (am.cons ay (am.cons ay (am.cons ay (am.cons (aT (fun _=>nl rfl) (fun _=>(am.cons ay (am.cons (aT (fun _=>nl rfl) (fun _=>(am.cons ay am.nil))) am.nil)))) am.nil)))))))))))) (am.cons (aT (fun _=>nl rfl) (fun _=>(am.cons ay (am.cons ay (am.cons (aT (fun _=>nl rfl) (fun _=>(am.cons ay (am.cons ay (am.cons ay am.nil))))) (am.cons (aT (fun _=>nl rfl) (fun _=>(am.cons ay am.nil))) (am.cons ay (am.cons ay (am.cons (aT (fun _=>nl rfl) (fun _=>(am.cons ay (am.cons (aT (fun _=>nl rfl) (fun _=>(am.cons ay am.nil))) am.nil)))) am.nil))))))))) (am.cons (aT (fun _=>nl rfl) (fun _=>(am.cons ay (am.cons ay (am.cons (aT (fun _=>nl rfl) (fun _=>(am.cons ay am.nil))) (am.cons (aT (fun _=>nl rfl) (fun _=>(am.cons ay am.nil))) (am.cons (aT (fun _=>nl rfl) (fun _=>(am.cons ay am.nil))) am.nil))))))) (am.cons ay am.nil))))))))) tI)) (fun L=>by exact lq) ?_
 intro w0 Fz0
 refine sn 0 0 fun hl0_0=>?_
 refine sn 0 3 fun hl0_3=>?_
 refine sn 0 4 fun hl0_4=>?_
 refine sn 0 5 fun hl0_5=>?_
 refine sn 0 6 fun hl0_6=>?_
 have hbu:=hb
 simp only [bA,iO,kk,jt] at hbu
 refine BZ ?_
 refine ztq ?_
 refine NV ?_
 refine lu ?_
 refine ztt ?_
 refine uw ?_
 refine NX ?_
 refine cx 22 ?_ ?_<;>intro ga sga
 refine jH ?_
 refine au.cases (s:=27) rfl (fun g2=>?_) (fun g2=>nomatch g2)
 refine oI ?_
 refine au.cases (s:=33) rfl (fun g3=>?_) (fun g3=>nomatch g3)
 exact ztw
 refine rB ga ?_ (x:=lF ne)
 refine kg ?_
 refine rB ga ?_ (x:=iZ)
 refine ly ?_
 refine cx 27 ?_ ?_<;>intro gb sgb
 refine nG ?_
 refine au.cases (s:=33) rfl (fun g6=>?_) (fun g6=>nomatch g6)
 exact ztx
 refine rB gb ?_ (x:=lF lH)
 refine rB gb ?_ (x:=lD [sl (.lo _) _] lJ)
 refine rB gb ?_ (x:=lN jR)
 refine rB gb ?_ (x:=iZ)
 refine sW ?_
 refine cx 33 ?_ ?_<;>intro gc sgc
 exact zty
 refine rB gc ?_ (x:=lF qd)
 refine rB gc ?_ (x:=lD [sl (.lo _) _] qf)
 refine rB gc ?_ (x:=lN nf)
 refine rB gc ?_ (x:=lF hP)
 refine rB gc ?_ (x:=lD [sl (.lo _) _] fi)
 refine rB gc ?_ (x:=lN cQ)
 refine rB gc ?_ (x:=jF)
 refine wI ?_
 refine sc ?_ ?_<;>intro hba
 exact BI
 have hok:jT e=true:=by
  have ho_:bn e=true:=dO
  have hef_:=jv ho_
  unfold jT
  rw [ho_]
  simp only [Bool.true_and,aX,decide_eq_true_eq]
  exact ⟨ab,ab,ab⟩
 obtain ⟨hoe,hst,hld,hda⟩:=DX hok
 have hef:=jv hoe
 have hcl:e.ax7.toNat < e.Store.ax2.length:=hef.2.2.2.1
 have hpl:=DJ (e:=e)
 have hs4:=JK hoe
 have hswt:=Sq hoe
 refine ba ?_
 refine sS [1,2,3,4] [1,2,4] ?_
 refine pM ?_
 refine Cs ?_
 refine zh ?_
 refine rA ?_ (x:=aZ (k:=e.ax7.toNat) aj gB an ab (by exact fX hcl (by rw [kl (d:=([]:List be)) hcl])) ak)
 refine rA ?_ (x:=lE [sl (.lo _) _] jS)
 refine rA ?_ (x:=vA false [sl (.lo _) _])
 refine sS [1,2,3,4,5] [1,2,4] ?_
 refine zh ?_
 refine Dc ?_
 refine rA ?_ (x:=lN dq)
 refine rA ?_ (x:=cy (qs:=[(false,[val _]),(false,[val _])]) (cs:=fk) aj mq xS aum ak ip rfl ak)
 refine Og ?_
 refine dC ?_
 refine sO [(1,_),(2,_),(3,_),(4,_),(5,_),(6,_)] [(1,_),(2,_),(4,_),(6,(149,fk))] ?_
 refine uw ?_
 refine rA ?_ (x:=cL [(true,[sl (.lo _) _,val _,val _,sl (.lo _) _,sl (.lo _) _,sl (.lo _) _,sl (.lo _) _,val _])] [(true,cO)] aqm (hs:=by exact (auh ab)))
 refine rA ?_ (x:=lN cn)
 refine fK ?_
 refine sP [1,2,3,4,5,6,57,58,59] [1,2,4,6] ?_
 refine sL [1,2,3,4,5,6,57,58] [1,2] (fun k:Nat=>k≤(parts e).length) (fun k:Nat=>[(59,RV.int (k:Int))]) (fun k:Nat=>[(4,(46,[sl bH (e.Store.ax2.map (aO bc ai)),val (vI e.Store.Now),val (vI e.ax7),sl ai (e.Order.map ar),sl cm ((cw e k).map (bd aH ai ai aL ai)),sl cf (e.Done.map (bw aH ai aL ai)),sl ck (e.ayf.map (bz ai ai ai)),val (vI e.Steps)])),(6,(149,[val (vI (fu e k).Segment),val (vI (fu e k).Base),sl ai ((fu e k).Ids.map ar),sl ai ((fu e k).ax9.map ar),sl ai ((fu e k).Rows.map ar)]))]) (fun k:Nat=>(parts e).length - k) 0 ab bp (by exact aI (by rw [Sh];exact rfl) (aI ak tI)) ?_
 rintro k hk
 have hcg:=JJ (e:=e) hk
 have hsl:=vz (e:=e) (k:=k)
 refine cY ?_
 refine sc ?_ ?_<;>intro hbb
 have hlt:k < (parts e).length:=ab
 obtain ⟨i,hi,hf,hid,hpp⟩:=Sg hoe hlt
 have hil:i < (cw e k).length:=ab
 have hoa:=JO (hef.2.2.2.2.2.2.2.2.2.1 _ (List.getElem_mem hi))
 have hwa:=fg (f:=eC) hi
 have hwq:eC e.ax3[i]=fM e.ax3[i].ax4+e.ax3[i].ayc.length+iN e.ax3[i].Rows:=Fm
 have hga4:=JQ hoe e.ax3[i]
 have hvl:=DZ (cu e) e.ax3[i].Time
 refine eB ?_
 refine zu2 ?_
 refine xf ?_
 refine sS [1,2,3,4,5,6,8,57,58,59] [1,2,4,6] ?_
 refine QD ?_
 refine rM ?_
 refine zu4 ?_
 refine sP [1,2,3,4,5,6,8,9,57,58,59] [1,2,4,6] ?_
 refine lV (d:=4) (t:=46) (D:=900) (G:=2900) (E:=102) (e:=10) (L:=(Lw w0.heap.size)) (A:=mJ) (B:=mK) (es:=((cw e k)).map (bd aH ai ai aL ai)) ak (kd hil) ak ak rfl ak (fun x hx=>hx) bg bg bg bg (ax.map fun x=>(ax.cons lcl_val (ax.cons lcl_val (ax.cons (lcl_own (ax.map fun x=>(ax.cons lcl_val (ax.cons lcl_val (ax.cons lcl_val ax.nil))))) (ax.cons (lcl_own (ax.map fun x=>(ax.cons lcl_val ax.nil))) (ax.cons lcl_val (ax.cons (lcl_own (ax.map fun x=>(ax.cons lcl_val ax.nil))) (ax.cons lcl_val (ax.cons lcl_val (ax.cons lcl_val (ax.cons (lcl_own (ax.map fun x=>(ax.cons lcl_val (ax.cons (lcl_own (ax.map fun x=>(ax.cons lcl_val ax.nil))) ax.nil)))) ax.nil))))))))))) fun uu900 cp900 jk900 hlD900 hcp900 hjk900=>?_
 rw [bf] at hlD900 hcp900 hjk900
 refine eg (d:=900) ak (ox (k:=i) hil) ?_
 have hA900:=lp (f:=(bd aH ai ai aL ai)) (e:=10) (xs:=(cw e k)) (k:=i) (fun _=>rfl) (Nat.le_of_lt hil)
 refine zu5 ?_
 refine sO [(1,_),(2,_),(3,_),(4,_),(5,_),(6,_),(8,_),(9,_),(57,_),(58,_),(59,_),(2900,_)] [(1,_),(2,_),(4,(46,BC)),(6,_),(900,(102,_++(du++_)))] ?_
 refine aY ?_
 refine rA ?_ (x:=lF hP)
 refine rA ?_ (x:=lD [val _] fi)
 refine rM ?_
 refine zu6 ?_
 refine rA ?_ (x:=Md (o:=0) (ms:=du) (qs:=mI) ab aj lI (fun h=>nomatch h) az ak Uq bg)
 refine yS ?_
 refine aU ?_
 refine sO [(1,_),(2,_),(3,_),(4,_),(5,_),(6,_),(8,_),(9,_),(10,_),(57,_),(58,_),(59,_),(2900,_)] [(1,_),(2,_),(4,_),(6,_),(10,(102,du)),(900,(102,_++(du++_)))] ?_
 refine aY ?_
 refine iv ?_
 refine sS [1,2,3,4,5,6,8,9,10,11,57,58,59,2900] [1,2,4,6,10,900] ?_
 refine Pg ?_
 refine zh ?_
 refine PM ?_
 refine rA ?_ (x:=cL [(true,[sl (.lo _) _,val _]),(false,[val _]),(false,[val _])] [(true,eh),(false,[val _]),(false,[val _])] aqn (hs:=by exact (aul ab ab ab)))
 refine rA ?_ (x:=lN mi)
 refine fK ?_
 refine sP [1,2,3,4,5,6,8,9,10,11,57,58,59,77,78,79,2900] [1,2,4,6,10,900] ?_
 refine Xh (s:=77) (t:=27) (e:=2) (G:=6100) (f:=(cD ai)) (g:=(fun z:Row=>[val (vI z.Id),sl .v (z.Values.map ar)])) (fN:=asQ) (xs:=(eY (cu e) e.ax3[i].Time)) ak ak ak (fun _ _=>rfl) (fun _=>rfl) (fun _=>(aD (aV aJ.nil))) (fun _=>(aF.cons (bor_val _) (aF.cons (bor_sl _) aF.nil))) fun zr hzr=>?_
 have hzl:zr.length=(eY (cu e) e.ax3[i].Time).length:=by rw [←hzr,bf]
 have hve:(eY (e.Store.ax2.getD e.ax7.toNat []) e.ax3[i].Time).length=(eY (cu e) e.ax3[i].Time).length:=rfl
 refine sP [1,2,3,4,5,6,8,9,10,11,57,58,59,77,78,79,2900,6100] [1,2,4,6,10,900] ?_
 refine sL [1,2,3,4,5,6,8,9,10,57,58,59,77,78,2900] [1,2,4,6,900] (fun j:Nat=>j≤zr.length) (fun j:Nat=>[(11,RV.int ((kx e e.ax3[i] j).length:Int)),(79,RV.int (j:Int)),(6100,RV.gh (br 2 (zr.drop j)) (bY (cD ai) (zr.drop j)))]) (fun j:Nat=>[(10,(102,[val (vI e.ax3[i].ax4.Id),val (vI e.ax3[i].ax4.ax8),sl aH (e.ax3[i].ax4.ax5.map bF),sl ai (e.ax3[i].ax4.Out.map ar),val (vI e.ax3[i].Time),sl ai (e.ax3[i].ayc.map ar),val (vI e.ax3[i].Age),val (vI e.ax3[i].Sent),val (vI e.ax3[i].Cap),sl aL ((e.ax3[i].Rows++kx e e.ax3[i] j).map (cD ai))]))]) (fun j:Nat=>zr.length - j) 0 ab ui (by exact aI (by show _=some (102,[val (vI e.ax3[i].ax4.Id),val (vI e.ax3[i].ax4.ax8),sl aH (e.ax3[i].ax4.ax5.map bF),sl ai (e.ax3[i].ax4.Out.map ar),val (vI e.ax3[i].Time),sl ai (e.ax3[i].ayc.map ar),val (vI e.ax3[i].Age),val (vI e.ax3[i].Sent),val (vI e.ax3[i].Cap),sl aL ((e.ax3[i].Rows++kx e e.ax3[i] 0).map (cD ai))]);rw [show kx e e.ax3[i] 0=[] from rfl,fV];exact rfl) tI) ?_
 rintro j hj
 have hgl:=So hoe e.ax3[i] j
 refine cY ?_
 refine sc ?_ ?_<;>intro hbc
 have hltz:j < zr.length:=ab
 have hjv:j < (eY (cu e) e.ax3[i].Time).length:=ab
 have hz3:zr[j].1=(eY (cu e) e.ax3[i].Time)[j]:=by simp [←hzr]
 refine eB ?_
 refine zu8 ?_
 refine zu9 ?_
 refine rA ?_ (x:=sz (qs:=[nv _ (val _),nv _ (sl .v _)]) aj ju (fun h=>nomatch h) az KV (by exact (aF.cons (bor_nv (bor_val _)) (aF.cons (bor_nv (bor_sl _)) aF.nil))))
 refine Dj ?_
 refine rA ?_ (x:=bV (ag:=true) (vs:=[nv _ (val _),nv _ (sl _ _)]) ju an ak az)
 refine sO [(1,_),(2,_),(3,_),(4,_),(5,_),(6,_),(8,_),(9,_),(10,_),(11,_),(13,_),(57,_),(58,_),(59,_),(77,_),(78,_),(79,_),(2900,_),(6100,_)] [(1,_),(2,_),(4,_),(6,_),(10,_),(13,(27,[nv _ (val _),nv _ (sl _ _)])),(900,_)] ?_
 refine Mw (d:=13) (G:=6100) (e:=2) (f:=(cD ai)) (z:=zr[j]) (zs:=(zr.drop (j+1))) ak (by exact (Nm.nv (Nm.nv Nm.nil))) (fun _=>rfl) Lo ?_
 refine aU ?_
 refine sO [(1,_),(2,_),(3,_),(4,_),(5,_),(6,_),(8,_),(9,_),(10,_),(11,_),(13,_),(57,_),(58,_),(59,_),(77,_),(78,_),(79,_),(2900,_),(6100,_)] [(1,_),(2,_),(4,_),(6,_),(10,_),(13,(27,ct)),(900,_)] ?_
 refine aY ?_
 refine zub ?_
 refine zT ?_
 refine rA ?_ (x:=cL [(true,bX),(true,ct)] [(true,di),(true,fJ)] aqo (hs:=by exact ars))
 refine sc ?_ ?_<;>intro hbd
 have hm:ik e.ax3[i].ax4 (eY (cu e) e.ax3[i].Time)[j]=true:=EK
 refine sS [1,2,3,4,5,6,8,9,10,11,13,57,58,59,77,78,79,2900,6100] [1,2,4,6,10,13,900] ?_
 refine zuc ?_
 refine QE ?_
 refine BV ?_
 refine zpb ?_
 refine sO [(1,_),(2,_),(3,_),(4,_),(5,_),(6,_),(8,_),(9,_),(10,_),(11,_),(13,_),(57,_),(58,_),(59,_),(77,_),(78,_),(79,_),(2900,_),(6100,_)] [(1,_),(2,_),(4,_),(6,_),(10,(102,du)),(13,(27,ct)),(900,_)] ?_
 refine tj ?_
 exact zue
 have hm:ik e.ax3[i].ax4 (eY (cu e) e.ax3[i].Time)[j]=false:=EK
 refine ba ?_
 exact zue
 have hjend:j=(eY (cu e) e.ax3[i].Time).length:=ab
 have hgt:kx e e.ax3[i] j=kY e e.ax3[i]:=by rw [hjend];exact Sj
 rw [hgt]
 refine fq ?_
 refine zu8 ?_
 refine rA ?_ (x:=lF qb)
 refine ff ?_
 refine lv ?_
 refine rA ?_ (x:=lF qb)
 refine mN ?_
 refine zuf ?_
 refine uS ?_
 refine uO ?_
 refine zh ?_
 refine rA ?_ (x:=cL [(false,[sl _ _]),(false,[val _])] [(false,[sl .v _]),(false,[val _])] aqp (hs:=by exact (auj ab)))
 refine uS ?_
 refine Cj ?_
 refine zuf ?_
 refine rA ?_ (x:=lF hP)
 refine rA ?_ (x:=lD [val _] fi)
 refine rM ?_
 refine Qw ?_
 refine zu6 ?_
 refine rA ?_ (x:=qM (o:=0) (ag:=true) (vs:=du) ab lI an ak az)
 refine eg (d:=900) ak (po (nZ e e.ax3[i]) hil ak) ?_
 refine sI (d:=4) (D:=900) (G:=2900) (e:=10) (A:=mJ) (B:=mK) (es:=(((cw e k)).set i (nZ e e.ax3[i])).map (bd aH ai ai aL ai)) ak ak ak rfl qz oq vQ ?_
 refine aU ?_
 refine sO [(1,_),(2,_),(3,_),(4,_),(5,_),(6,_),(8,_),(9,_),(10,_),(11,_),(57,_),(58,_),(59,_),(77,_),(78,_),(79,_),(6100,_)] [(1,_),(2,_),(4,(46,aW)),(6,_),(10,(102,du))] ?_
 refine aY ?_
 refine rA ?_ (x:=lF rF)
 refine wZ ?_
 refine rA ?_ (x:=lF rF)
 refine Cj ?_
 refine zug ?_
 refine rA ?_ (x:=lF tV)
 refine zuh ?_
 refine rm ?_
 refine rA ?_ (x:=lF tz)
 refine ff ?_
 refine Nw ?_
 refine rA ?_ (x:=lF tV)
 refine zuj ?_
 refine rA ?_ (x:=lF qc)
 refine wZ ?_
 refine rA ?_ (x:=lF qc)
 refine zuj ?_
 refine dI ?_
 refine nx (k+1) ab (f:=(by exact aI VF (aI (by rw [asC hlt hi hf];simp only [bK];exact rfl) tI)))
 have hend:k=(parts e).length:=ab
 subst hend
 refine bI ?_
 refine dC ?_
 refine zu2 ?_
 refine Ie ?_
 refine tn ?_
 refine sc ?_ ?_<;>intro hbc
 have hled:jz e (parts e).length=e.ayf++[fu e (parts e).length]:=by unfold jz;rw [if_neg ab]
 refine sG [1,2,3,4,5,6,57,58,59] [1,2,4,6] ?_
 refine rA ?_ (x:=lF lH)
 refine rA ?_ (x:=eN (ms:=[sl _ _]) (qs:=[sl .v _]) aj lJ (fun _=>rfl) az ak iE ib)
 refine rA ?_ (x:=eN (ms:=fk) (qs:=[val _,val _,any,any,any]) aj nW (fun h=>nomatch h) az ak Un bg)
 refine rA ?_ (x:=cj (qs:=[(true,fk)]) aj jR mq aj rfl rfl rfl rfl rfl az bS rfl)
 refine rA ?_ (x:=fc aj jR mq rfl rfl aj rfl bq bq)
 refine rA ?_ (x:=lF lH)
 refine rA ?_ (x:=bV (ag:=false) (vs:=[sl _ _]) lJ an ak az)
 refine aU ?_
 refine sO [(1,_),(2,_),(3,_),(4,_),(5,_),(6,_),(57,_),(58,_),(59,_)] [(1,_),(2,_),(4,(46,aW)),(6,(149,[val _,val _,any,any,any]))] ?_
 refine aY ?_
 refine Ch ?_
 refine dC ?_
 refine sP [1,2,3,4,5,6,14,57,58,59] [1,2,4,6] ?_
 refine yI (d:=4) (t:=102) (e:=10) (G:=6200) (A:=mJ) (B:=mK) (f:=(bd aH ai ai aL ai)) (g:=(fun z:ax3=>[val (vI z.ax4.Id),val (vI z.ax4.ax8),sl .v (z.ax4.ax5.map bF),sl .v (z.ax4.Out.map ar),val (vI z.Time),sl .v (z.ayc.map ar),val (vI z.Age),val (vI z.Sent),val (vI z.Cap),sl .v (z.Rows.map (cD ai))])) (fN:=gS) (xs:=(cw e (parts e).length)) ak ak (fun _ _=>rfl) (fun _=>rfl) (fun _=>(aD (aD (aV (aV (aD (aV (aD (aD (aD (aV aJ.nil))))))))))) (fun _=>bg) fun za hza=>?_
 have hzal:za.length=e.ax3.length:=EA
 refine zul ?_
 refine uM ?_
 refine zum ?_
 rintro m hm
 have hrl2:=JM (e:=e) (k:=(parts e).length) (m:=m)
 have hdl2:=JN (e:=e) (k:=(parts e).length) (m:=m)
 refine cY ?_
 refine sc ?_ ?_<;>intro hbd
 have hltm:m < e.ax3.length:=ab
 have hltz:m < za.length:=ab
 have hm2:m < (cw e (parts e).length).length:=EL
 have hm1:m < (dr e (parts e).length).length:=EM
 have hz3:za[m].1=(cw e (parts e).length)[m]:=Bf
 have hab:=JP hoe hltm hm2
 rw [←hz3] at hab
 refine eB ?_
 refine zun ?_
 exact zuo
 have hend2:m=e.ax3.length:=ab
 subst hend2
 refine fq ?_
 refine zun ?_
 exact zup
 have hled:jz e (parts e).length=e.ayf:=by unfold jz;rw [if_pos ab]
 refine ba ?_
 refine sS [1,2,3,4,5,6,57,58,59] [1,2,4,6] ?_
 refine Ch ?_
 refine dC ?_
 refine sP [1,2,3,4,5,6,14,57,58,59] [1,2,4,6] ?_
 refine yI (d:=4) (t:=102) (e:=10) (G:=6200) (A:=mJ) (B:=mK) (f:=(bd aH ai ai aL ai)) (g:=(fun z:ax3=>[val (vI z.ax4.Id),val (vI z.ax4.ax8),sl .v (z.ax4.ax5.map bF),sl .v (z.ax4.Out.map ar),val (vI z.Time),sl .v (z.ayc.map ar),val (vI z.Age),val (vI z.Sent),val (vI z.Cap),sl .v (z.Rows.map (cD ai))])) (fN:=gS) (xs:=(cw e (parts e).length)) ak ak (fun _ _=>rfl) (fun _=>rfl) (fun _=>(aD (aD (aV (aV (aD (aV (aD (aD (aD (aV aJ.nil))))))))))) (fun _=>bg) fun za hza=>?_
 have hzal:za.length=e.ax3.length:=EA
 refine zul ?_
 refine uM ?_
 refine zum ?_
 rintro m hm
 have hrl2:=JM (e:=e) (k:=(parts e).length) (m:=m)
 have hdl2:=JN (e:=e) (k:=(parts e).length) (m:=m)
 refine cY ?_
 refine sc ?_ ?_<;>intro hbd
 have hltm:m < e.ax3.length:=ab
 have hltz:m < za.length:=ab
 have hm2:m < (cw e (parts e).length).length:=EL
 have hm1:m < (dr e (parts e).length).length:=EM
 have hz3:za[m].1=(cw e (parts e).length)[m]:=Bf
 have hab:=JP hoe hltm hm2
 rw [←hz3] at hab
 refine eB ?_
 refine zuq ?_
 exact zuo
 have hend2:m=e.ax3.length:=ab
 subst hend2
 refine fq ?_
 refine zuq ?_
 exact zup
end Go.Proofs.YtmekkgdboplbjaaGreatDoor
