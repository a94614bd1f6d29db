/- What functions of the program compute. No condition. -/
import Derived.Test.YtmekkgdboplbjaaGreatDoorEF1
import Derived.Test.YtmekkgdboplbjaaGreatDoorED1
set_option linter.all false
namespace Go.Proofs.YtmekkgdboplbjaaGreatDoor
open Go Go.RowKit M PV
set_option maxRecDepth 10000
attribute [local irreducible] PV.Lcl PV.LclR RV.Lcl
set_option maxHeartbeats 8000000
def aup:eA Tryz.prog 149=some [(0,1),(1,1),(2,1),(3,1),(4,1)]:=ao
def auq:eA Tryz.prog 27=some [(0,1),(1,1)]:=ao
def aur{e:aC}{ids:List Int}(hids:ids=parts e)(hoe:bn e=true)(hb:bA e≤68719000000):ie Tryz.prog 299 46 [sl bH (e.Store.ax2.map (aO bc ai)),val (vI e.Store.Now),val (vI e.ax7),sl ai (e.Order.map ar),sl cm (e.ax3.map (bd aH ai ai aL ai)),sl cf (e.Done.map (bw aH ai aL ai)),sl ck (e.ayf.map (bz ai ai ai)),val (vI e.Steps)] [sl bH (e.Store.ax2.map (aO bc ai)),val (vI e.Store.Now),val (vI e.ax7),sl ai (e.Order.map ar),sl cm ((cw e (parts e).length).map (bd aH ai ai aL ai)),sl cf (e.Done.map (bw aH ai aL ai)),sl ck ((e.ayf++[fu e (parts e).length]).map (bz ai ai ai)),val (vI e.Steps)] [(false,[sl ai (ids.map ar)])] (aB []):=by
 refine iX (rs:=[]) Tryz.func299 rfl (nl rfl) (nl rfl) ?_
 intro g_ h0 w0 Fz0
 refine sj 1 fun hl1=>?_
 subst hids
 have hef:=jv hoe
 have hcl:e.ax7.toNat < e.Store.ax2.length:=hef.2.2.2.1
 have hpl:=DJ (e:=e)
 have hs4:=JK hoe
 have hql2:=asR hoe
 have hxo:=aoB hql2
 have hbu:=hb
 simp only [bA,iO,kk,jt] at hbu
 refine sR ?_
 refine zks ?_
 refine sT [0,1,4,5000] [0] ?_
 refine cl ?_
 refine sP [0,1,4,5,5000] [0] ?_
 refine sL [0,1,5000] [0] (fun k:Nat=>k≤(parts e).length) (fun k:Nat=>[(4,RV.slc wc ((tN e.ax3 ((parts e).take k)).map (nM .v .v))),(5,RV.int (k:Int))]) (fun k:Nat=>[]) (fun k:Nat=>(parts e).length - k) 0 ab gp an ?_
 rintro k hk
 refine oH ?_
 refine sc ?_ ?_<;>intro hba
 have hlt:k < (parts e).length:=ab
 have hpk:(parts e)[k]∈je e e.ax3:=by rw [←vl hoe];exact List.getElem_mem hlt
 have hfp:=aoZ hpk
 have hql:(tN e.ax3 ((parts e).take k)).length=k:=by unfold tN;rw [bf,cI];omega
 refine bv ?_
 refine sQ [0,1,4,5,5000] [0] ?_
 refine CB ?_
 refine Cr ?_
 refine dA 6 ?_ (x:=lF hP)
 refine dA 14 ?_ (x:=lD [sl .v _] fi)
 refine wG ?_
 refine dA 96 ?_ (x:=lD cO dj)
 refine ij ?_
 refine dA 768 ?_ (x:=aZ aj cn an ak bE ak)
 refine dA 1792 ?_ (x:=lE [val _] bb)
 refine dA 4064 ?_ (x:=cL [(true,aW),(false,[val _])] [(true,cO),(false,[val _])] Jx (hs:=Lg))
 refine dA 8190 ?_ (x:=aZ (k:=(eD e.ax3 (parts e)[k]).toNat) aj cQ an ab (by exact fX hfp.2 (by rw [kl (d:=jN) hfp.2])) ak)
 refine dA 16382 ?_ (x:=cR aj nb az)
 refine dA 32766 ?_ (x:=lE di gO)
 refine dA 65534 ?_ (x:=cj (qs:=[(true,bX)]) aj qe nS aj rfl rfl rfl rfl rfl az bS rfl)
 refine dA 131071 ?_ (x:=fc aj qe nS rfl rfl aj rfl bq bq)
 refine dA 262143 ?_ (x:=tA)
 refine sG [0,1,4,5,5000] [0] ?_
 refine cB ?_
 refine nx (k+1) ab (e:=(by exact aI (by exact cz (by unfold tN;rw [Dt hlt,bK];rfl)) (aI ak tI)))
 have hend:k=(parts e).length:=ab
 rw [hend,cJ]
 refine bI ?_
 refine sT [0,1,4,5,5000] [0] ?_
 refine dD ?_
 refine rA ?_ (x:=cL [(false,[sl _ _])] [(false,[sl .v _])] aqC (hs:=by exact arM))
 refine zkw ?_
 refine aU ?_
 refine sO [(0,_),(1,_),(4,_),(5,_),(6,_),(5000,_)] [(0,_),(6,(260,qQ))] ?_
 refine ank (d:=0) (t:=114) (A:=[]) (B:=[val _,val _,sl _ _,sl _ _,sl _ _,sl _ _,val _]) (f:=(fun l:List be=>sl bc (l.map (gG ai)))) (xs:=e.Store.ax2) ak fun zsS hzsS=>?_
 obtain ⟨zP,hzP,hzP1⟩:=anj hzsS hcl
 have hzP2:zP.1=cu e:=hzP1.trans (Sk hcl)
 have hzl:zP.1.length=(cu e).length:=by rw [hzP2]
 refine sO [(0,_),(1,_),(4,_),(5,_),(6,_),(5000,_)] [(0,(46,aW)),(6,_)] ?_
 refine uK ?_
 refine dA 3 ?_ (x:=lF nd)
 refine dA 7 ?_ (x:=lF rG)
 refine dA 15 ?_ (x:=lD [sl .v _] mo)
 refine wG ?_
 refine dA 96 ?_ (x:=lF oV)
 refine dA 224 ?_ (x:=lD [val _] bb)
 refine dA 511 ?_ (x:=aZ (k:=e.ax7.toNat) aj gB an ab (by rw [List.getElem?_map,hzP];exact rfl) ak)
 refine dA 1023 ?_ (x:=sz (qs:=BB) aj jS (fun _=>rfl) az ug KM)
 refine dA 2047 ?_ (x:=lS (r':=RV.sv false BB) (.inr rfl) aj Ut)
 refine aU ?_
 refine sP [0,1,4,5,6,7,5000] [0,6] ?_
 refine uK ?_
 refine dA 3 ?_ (x:=lF oV)
 refine dA 7 ?_ (x:=lD [val _] bb)
 refine zur ?_
 refine dA 16 ?_ (x:=lN dq)
 refine tm ?_
 refine uT ?_
 refine dA 192 ?_ (x:=lU aj cn iP rfl rfl aj oo sk bq bq)
 refine dA 511 ?_ (x:=cy (qs:=[(false,[val _]),(false,[val _]),(false,[sl _ _])]) (cs:=fk) aj mq xS aup ak qD rfl ak)
 refine bO.step 0 an an (cc.of rfl (fW aj mq xS)) (sD (cV.of_ rfl)) ao ?_
 refine dA 2047 ?_ (x:=bV (ag:=true) (vs:=fk) nW an ak az)
 refine dC ?_
 refine sO [(0,_),(1,_),(4,_),(5,_),(6,_),(7,_),(8,_),(5000,_)] [(0,_),(6,_),(8,(149,fk))] ?_
 refine aY ?_
 refine cl ?_
 refine sP [0,1,5,6,7,8,9,5000] [0,6,8] ?_
 refine zut ?_
 refine sP [0,1,5,6,7,8,9,5000] [0,6,8] ?_
 refine sL [0,1,5,6,7,8,5000] [6] (fun k:Nat=>k≤(parts e).length) (fun k:Nat=>[(9,RV.int (k:Int))]) (fun k:Nat=>[(0,(46,[sl bH (zsS.map (mL (fun l:List be=>sl bc (l.map (gG ai))))),val (vI e.Store.Now),val (vI e.ax7),sl ai (e.Order.map ar),sl cm ((cw e k).map (bd aH ai ai aL ai)),sl cf (e.Done.map (bw aH ai aL ai)),sl ck (e.ayf.map (bz ai ai ai)),val (vI e.Steps)])),(8,(149,[val (vI (my e k).Segment),val (vI (my e k).Base),sl ai ((my e k).Ids.map ar),sl ai ((my e k).ax9.map ar),sl ai ((my e k).Rows.map ar)]))]) (fun k:Nat=>(parts e).length - k) 0 ab bp (by exact aI (by rw [Sh];exact rfl) (aI (by rw [show (my e 0).Base=((zP.1.length:Nat):Int) by rw [hzl];rfl];exact rfl) tI)) ?_
 rintro k hk
 have hcg:=asX (e:=e) hk
 have hsl:=vz (e:=e) (k:=k)
 refine oH ?_
 refine sc ?_ ?_<;>intro hbb
 have hlt:k < (parts e).length:=ab
 obtain ⟨i,hi,hf,hid,hpp⟩:=Sg hoe hlt
 have hf2:eD (cw e k) (parts e)[k]=(i:Int):=(asP _).trans hf
 have hil:i < (cw e k).length:=ab
 have hoa:=JO (hef.2.2.2.2.2.2.2.2.2.1 _ (List.getElem_mem hi))
 have hwa:=fg (f:=eC) hi
 have hwq:eC e.ax3[i]=fM e.ax3[i].ax4+e.ax3[i].ayc.length+iN e.ax3[i].Rows:=Fm
 have hga4:=JQ hoe e.ax3[i]
 have hqm:=asS hoe hi hpp
 refine eB ?_
 refine sQ [0,1,5,6,7,8,9,5000] [0,6,8] ?_
 refine uK ?_
 refine dA 3 ?_ (x:=lD cO dj)
 refine ij ?_
 refine dA 24 ?_ (x:=aZ aj cn an ak bE ak)
 refine dA 56 ?_ (x:=lE [val _] bb)
 refine dA 127 ?_ (x:=yu (qs:=[(true,aW),(false,[val _])]) (as_:=[(true,[sl .v (e.Store.ax2.map (aO .v ai)),val _,val _,sl .v _,sl .v _,sl .v _,sl .v _,val _]),(false,[val _])]) aj Jx ip (by exact (aI (aI rfl (aJ.cons (q:=sl .v (e.Store.ax2.map (aO .v ai))) (ani (g:=aO .v ai) hzsS (fun x=>aV aJ.nil)) (aD (aD (aV (aV (aV (aV (aD aJ.nil))))))))) (aI (aI rfl (aD aJ.nil)) tI))) (by exact (akr (e:=asY e k) (id:=(parts e)[k]))))
 refine dA 255 ?_ (x:=sA)
 refine aU ?_
 refine sP [0,1,5,6,7,8,9,10,5000] [0,6,8] ?_
 refine lV (d:=0) (t:=46) (D:=900) (G:=2900) (E:=102) (e:=10) (L:=LB) (A:=mJ) (B:=mK) (es:=((cw e k)).map (bd aH ai ai aL ai)) ak (kd hil) ak ak rfl ak (fun x hx=>hx.elim) bg bg bg bg (ax.map fun x=>(ax.cons lcl_val (ax.cons lcl_val (ax.cons (lcl_own (ax.map fun x=>(ax.cons lcl_val (ax.cons lcl_val (ax.cons lcl_val ax.nil))))) (ax.cons (lcl_own (ax.map fun x=>(ax.cons lcl_val ax.nil))) (ax.cons lcl_val (ax.cons (lcl_own (ax.map fun x=>(ax.cons lcl_val ax.nil))) (ax.cons lcl_val (ax.cons lcl_val (ax.cons lcl_val (ax.cons (lcl_own (ax.map fun x=>(ax.cons lcl_val (ax.cons (lcl_own (ax.map fun x=>(ax.cons lcl_val ax.nil))) ax.nil)))) ax.nil))))))))))) fun uu900 cp900 jk900 hlD900 hcp900 hjk900=>?_
 rw [bf] at hlD900 hcp900 hjk900
 refine eg (d:=900) ak (ox (k:=i) hil) ?_
 have hA900:=lp (f:=(bd aH ai ai aL ai)) (e:=10) (xs:=(cw e k)) (k:=i) (fun _=>rfl) (Nat.le_of_lt hil)
 refine zu5 ?_
 refine sO [(0,_),(1,_),(5,_),(6,_),(7,_),(8,_),(9,_),(10,_),(2900,_),(5000,_)] [(0,(46,BC)),(6,_),(8,_),(900,(102,_++(du++_)))] ?_
 refine Qh ?_
 refine zuu ?_
 refine pH ?_
 refine dA 4 ?_ (x:=pq aj)
 refine dA 12 ?_ (x:=lF hP)
 refine dA 28 ?_ (x:=lD [val _] fi)
 refine dS ?_
 refine dA 124 ?_ (x:=kI (k:=i) (G:=2900) aj cQ an yq vP)
 refine dA 252 ?_ (x:=lF nb)
 refine dA 508 ?_ (x:=lF tz)
 refine dA 1020 ?_ (x:=we (o:=1) (qs:=[val _]) ab aj bb (fun _=>rfl) az ug lP)
 refine dA 2044 ?_ (x:=cj (qs:=[(false,[val _])]) aj cn iP aj rfl rfl rfl rfl rfl az bS rfl)
 refine dA 4095 ?_ (x:=fc aj cn iP rfl rfl aj rfl bq bq)
 refine dA 8191 ?_ (x:=lF tV)
 refine zo9 ?_
 refine sO [(0,_),(1,_),(5,_),(6,_),(7,_),(8,_),(9,_),(10,_),(2900,_),(5000,_)] [(0,_),(6,_),(8,(149,fk)),(900,_)] ?_
 refine aY ?_
 refine iv ?_
 refine aU ?_
 refine sP [0,1,5,6,7,8,9,10,11,2900,5000] [0,6,8,900] ?_
 refine anm (s:=7) (d:=0) (t:=114) (k:=e.ax7.toNat) (A:=[]) (B:=[val _,val _,sl _ _,val _,sl _ _,sl _ _,val _]) (f:=(fun l:List be=>sl bc (l.map (gG ai)))) (q:=(fun l:List be=>sl .v (l.map (gG ai)))) ak ak hzP ut (by exact bor_sl _) ?_
 refine sG [0,1,5,6,7,8,9,10,11,2900,5000] [0,6,8,900] ?_
 refine cl ?_
 refine sP [0,1,5,6,7,8,9,10,11,12,2900,5000] [0,6,8,900] ?_
 refine sL [0,1,5,6,7,8,9,10,2900,5000] [0,6,8] (fun j:Nat=>j≤(cu e).length) (fun j:Nat=>[(11,RV.int ((mx e e.ax3[i] j).length:Int)),(12,RV.int (j:Int))]) (fun j:Nat=>[(900,(102,(((cw e k).take i).map (bd aH ai ai aL ai)).flatten++([val (vI e.ax3[i].ax4.Id),val (vI e.ax3[i].ax4.ax8),sl aH (e.ax3[i].ax4.ax5.map bF),sl ai (e.ax3[i].ax4.Out.map ar),val (vI e.ax3[i].Time),sl ai (e.ax3[i].ayc.map ar),val (vI e.ax3[i].Age),val (vI e.ax3[i].Sent),val (vI e.ax3[i].Cap),sl aL ((e.ax3[i].Rows++mx e e.ax3[i] j).map (cD ai))]++((((cw e k).drop (i+1)).map (bd aH ai ai aL ai)).flatten++jk900.map val))))]) (fun j:Nat=>(cu e).length - j) 0 ab gp (by exact aI (by show _=some (102,(((cw e k).take i).map (bd aH ai ai aL ai)).flatten++([val (vI e.ax3[i].ax4.Id),val (vI e.ax3[i].ax4.ax8),sl aH (e.ax3[i].ax4.ax5.map bF),sl ai (e.ax3[i].ax4.Out.map ar),val (vI e.ax3[i].Time),sl ai (e.ax3[i].ayc.map ar),val (vI e.ax3[i].Age),val (vI e.ax3[i].Sent),val (vI e.ax3[i].Cap),sl aL ((e.ax3[i].Rows++mx e e.ax3[i] 0).map (cD ai))]++((((cw e k).drop (i+1)).map (bd aH ai ai aL ai)).flatten++jk900.map val)));rw [show mx e e.ax3[i] 0=[] from rfl,fV];exact rfl) tI) ?_
 rintro j hj
 have hgl:=asU (e:=e) (a:=e.ax3[i]) (j:=j)
 refine cP ?_
 refine zuv ?_
 refine dQ ?_
 refine sc ?_ ?_<;>intro hbc
 have hj2:j < (cu e).length:=ab
 have hjz:j < zP.1.length:=ab
 have hz4:jL zP.1[j]=jL (cu e)[j]:=by simp [hzP2]
 have hz5:gk zP.1[j] e.ax3[i].Time=gk (cu e)[j] e.ax3[i].Time:=by simp [hzP2]
 have hro:bM (jL zP.1[j])=true:=by rw [hz4];exact ajJ hoe _ (List.getElem_mem hj2)
 have hrv:=Ai hro
 have hrv:zP.1[j].Values.length=3:=hrv
 have hph:=apu (q:=e.ax3[i].ax4) hql2 hro hef.2.1 hqm
 rw [hid,hz4] at hph
 have hwr:jr (jL zP.1[j])=3:=by simp only [jL,jr,gj,bo];omega
 refine eB ?_
 refine zuw ?_
 refine cC ?_
 refine zux ?_
 refine zuy ?_
 refine dA 15 ?_ (x:=lE [val _] bb)
 refine zux ?_
 refine zuz ?_
 refine dA 224 ?_ (x:=cR aj oU az)
 refine dA 480 ?_ (x:=lE [sl .v _] cW)
 refine dA 1023 ?_ (x:=cy (qs:=[(false,[val _]),(false,[sl _ _])]) (cs:=ct) aj jJ mV auq ak ip rfl ak)
 refine bO.step 0 an an (cc.of rfl (fW aj jJ mV)) (sD (cV.of_ rfl)) ao ?_
 refine dA 4095 ?_ (x:=bV (ag:=true) (vs:=ct) ju an ak az)
 refine aU ?_
 refine sO [(0,_),(1,_),(5,_),(6,_),(7,_),(8,_),(9,_),(10,_),(11,_),(12,_),(13,_),(2900,_),(5000,_)] [(0,_),(6,_),(8,_),(13,(27,ct)),(900,_)] ?_
 refine yC (c:=6) (AI:=[]) xA rfl rfl rfl rfl ao (fun j L h=>nomatch h) (fun j L h=>nomatch h) ?_
 refine dX 0 ?_ (x:=(jB (qs:=[sl .v _,sl .v _]) aj DQ (fun h=>nomatch h) az (by exact (aV (aV aJ.nil))) Uw))
 refine dX 0 ?_ (x:=(jB (qs:=fJ) aj ju (fun h=>nomatch h) az KU KL))
 refine xq ?_
 refine dX 4 ?_ (x:=(pq aj))
 refine dX 12 ?_ (x:=(FK aj AA))
 refine dX 28 ?_ (x:=(jB (qs:=[sl .v _]) aj cW (fun _=>rfl) az iE ib))
 refine qO (G:=2000) (qs:=[(true,qQ),(true,ct),(false,[sl _ _])]) (as_:=[(true,[sl .v _,sl .v _]),(true,fJ),(false,[sl .v _])]) aj aqD KS qD (by exact (aI (aI rfl (aV (aV aJ.nil))) (aI (aI rfl (aD (aV aJ.nil))) (aI (aI rfl (aV aJ.nil)) tI)))) (by exact (arP (x:=pZ (tN e.ax3 (parts e))) (r:=jL zP.1[j]) (o:=e.Order) hxo hro hef.2.1)) ao ao fun uss hU0=>?_
 obtain ⟨us0,r0,rfl,hl0,hR0,hU1⟩:=eO.cons hU0
 obtain ⟨u4_0_0,rfl⟩:=pP hl0
 obtain ⟨us1,r1,rfl,hl1,hR1,hU2⟩:=eO.cons hU1
 obtain ⟨u4_1_0,rfl⟩:=pP hl1
 obtain rfl:=fz hR1 (j:=0) rfl rfl
 obtain rfl:=eO.nil hU2
 clear hR0 hU0 hR1 hU1 hU2
 refine bO.stepC 127 gI an (cc.of rfl (wa (.inl rfl) aj)) fY ao iD ?_
 refine zv0 ?_
 refine zv0 ?_
 refine bO.stepC 511 gI an (cc.of rfl (lS (.inr rfl) aj Fg)) fY ao iD ?_
 refine zv1 ?_
 refine FU (s:=14) (G:=2000) ak KY rfl aj ak ?_
 refine zv2 ?_
 refine sP [0,1,5,6,7,8,9,10,11,12,13,14,15,2900,5000] [0,6,8,13,900] ?_
 refine cC ?_
 refine uT ?_
 refine ij ?_
 refine dA 6 ?_ (x:=aZ aj cn an ak bE ak)
 refine dA 14 ?_ (x:=lE [val _] bb)
 refine dA 31 ?_ (x:=cL [(false,[sl _ _]),(false,[val _])] [(false,[sl .v _]),(false,[val _])] Jb (hs:=EQ))
 refine dA 63 ?_ (x:=sM)
 refine dx 125 ?_ ?_<;>intro ga sga
 have hmm:ik e.ax3[i].ax4 (jL (cu e)[j])=true:=US
 have sga:=ga
 try simp only [qq] at sga
 refine dB 127 ga ?_ (x:=lS (r':=RV.sv false [sl .v _]) (.inl rfl) aj KG)
 refine dB 127 ga ?_ (x:=sM)
 refine dB 511 ga ?_ (x:=aZ aj dq an ak bE ak)
 refine dB 1023 ga ?_ (x:=lE jD mn)
 refine dB 127 ga ?_ (x:=cM Cp.ptr)
 refine dB 2175 ga ?_ (x:=pq aj)
 refine dB 6271 ga ?_ (x:=lF hP)
 refine dB 14463 ga ?_ (x:=lD [val _] fi)
 refine dB 127 ga ?_ (x:=sM)
 refine dB 63615 ga ?_ (x:=kI (k:=i) (G:=2900) aj cQ an yq vP)
 refine dB 129151 ga ?_ (x:=lF vq)
 refine dB 260223 ga ?_ (x:=we (o:=4) (qs:=[val _]) ab aj bb (fun _=>rfl) az ug lP)
 refine dB 524287 ga ?_ (x:=cL [(true,fe),(false,[val _])] [(true,jD),(false,[val _])] aiG (hs:=by exact aje))
 refine dA 1048575 ?_ (x:=bj ga)
 refine sc ?_ ?_<;>intro hbd
 have hvv:gk (cu e)[j] e.ax3[i].Time=true:=by rw [←hz5];simpa using hbd
 refine aU ?_
 refine sP [0,1,5,6,7,8,9,10,11,12,13,14,15,2900,5000] [0,6,8,13,900] ?_
 refine uK ?_
 refine PG ?_
 refine dS ?_
 refine wG ?_
 refine Pw ?_
 refine Oh ?_
 refine dA 2016 ?_ (x:=lF tU)
 refine dA 4064 ?_ (x:=Md (o:=9) (ms:=[sl _ _]) (qs:=[sl .v _]) ab aj nX (fun _=>rfl) az ak iE ib)
 refine dA 0 ?_ (x:=lD fJ ju)
 refine dA 8192 ?_ (x:=cL [(true,ct)] [(true,fJ)] aht (hs:=by exact (aja (x:=jL zP.1[j]) ab)))
 refine dA 24576 ?_ (x:=cj (qs:=[(true,ct)]) aj mi jJ aj rfl rfl rfl rfl rfl az bS rfl)
 refine dA 65504 ?_ (x:=fc aj mi jJ rfl rfl aj rfl bq bq)
 refine dA 131071 ?_ (x:=kI (k:=i) (G:=2900) aj cQ an yq vP)
 refine dA 262143 ?_ (x:=lF tU)
 refine dA 524287 ?_ (x:=qM (o:=9) (ag:=false) (vs:=[sl _ _]) ab nX an ak az)
 refine sO [(0,_),(1,_),(5,_),(6,_),(7,_),(8,_),(9,_),(10,_),(11,_),(12,_),(13,_),(14,_),(15,_),(2900,_),(5000,_)] [(0,_),(6,_),(8,_),(13,_),(900,(102,_++(du++_)))] ?_
 refine tj ?_
 exact MV
 have hvv:gk (cu e)[j] e.ax3[i].Time=false:=by rw [←hz5];simpa using hbd
 refine ba ?_
 exact MV
 have hmm:ik e.ax3[i].ax4 (jL (cu e)[j])=false:=US
 have sga:=ga
 try simp only [qq] at sga
 refine dF 127 ga ?_
 refine dF 127 ga ?_
 refine dF 511 ga ?_
 refine dF 1023 ga ?_
 refine dF 127 ga ?_
 refine dF 2175 ga ?_
 refine dF 6271 ga ?_
 refine dF 14463 ga ?_
 refine dF 127 ga ?_
 refine dF 63615 ga ?_
 refine dF 129151 ga ?_
 refine dF 260223 ga ?_
 refine dF 524287 ga ?_
 refine dA 1048575 ?_ (x:=aR ga)
 refine gv ?_
 refine ba ?_
 exact MV
 have hjend:j=(cu e).length:=ab
 have hgt:mx e e.ax3[i] j=kY e e.ax3[i]:=by rw [hjend];exact asT
 rw [hgt]
 refine fq ?_
 refine zuw ?_
 refine aY ?_
 refine rA ?_ (x:=lF qc)
 refine wZ ?_
 refine rA ?_ (x:=lF qc)
 refine Cj ?_
 refine sO [(0,_),(1,_),(5,_),(6,_),(7,_),(8,_),(9,_),(10,_),(11,_),(12,_),(2900,_),(5000,_)] [(0,_),(6,_),(8,(149,fk)),(900,_)] ?_
 refine uK ?_
 refine PG ?_
 refine dS ?_
 refine wG ?_
 refine Pw ?_
 refine Oh ?_
 refine dA 2016 ?_ (x:=lF qb)
 refine dA 4064 ?_ (x:=we (o:=7) (qs:=[val _]) ab aj bb (fun _=>rfl) az ug lP)
 refine dS ?_
 refine dA 16352 ?_ (x:=jF)
 refine dA 32767 ?_ (x:=kI (k:=i) (G:=2900) aj cQ an yq vP)
 refine dA 65535 ?_ (x:=lF qb)
 refine dA 131071 ?_ (x:=qM (o:=7) (ag:=false) (vs:=[val _]) ab bb an ak az)
 refine sO [(0,_),(1,_),(5,_),(6,_),(7,_),(8,_),(9,_),(10,_),(11,_),(12,_),(2900,_),(5000,_)] [(0,_),(6,_),(8,_),(900,(102,_++(du++_)))] ?_
 refine uK ?_
 refine PG ?_
 refine dS ?_
 refine wG ?_
 refine Pw ?_
 refine Oh ?_
 refine dA 2016 ?_ (x:=lF tT)
 refine dA 4064 ?_ (x:=we (o:=5) (qs:=[sl .v _]) ab aj cW (fun _=>rfl) az iE ib)
 refine pH ?_
 refine dA 8192 ?_ (x:=pq aj)
 refine dA 24576 ?_ (x:=lF oV)
 refine dA 57344 ?_ (x:=lD [val _] bb)
 refine dA 131040 ?_ (x:=cL [(false,[sl _ _]),(false,[val _])] [(false,[sl .v _]),(false,[val _])] aqE (hs:=by exact (auk ab)))
 refine dA 262143 ?_ (x:=kI (k:=i) (G:=2900) aj cQ an yq vP)
 refine dA 524287 ?_ (x:=lF tT)
 refine dA 1048575 ?_ (x:=qM (o:=5) (ag:=false) (vs:=[sl _ _]) ab cW an ak az)
 refine eg (d:=900) ak (po (nZ e e.ax3[i]) hil ak) ?_
 refine sI (d:=0) (D:=900) (G:=2900) (e:=10) (A:=mJ) (B:=mK) (es:=(((cw e k)).set i (nZ e e.ax3[i])).map (bd aH ai ai aL ai)) ak ak ak rfl qz oq vQ ?_
 refine sO [(0,_),(1,_),(5,_),(6,_),(7,_),(8,_),(9,_),(10,_),(11,_),(12,_),(5000,_)] [(0,(46,aW)),(6,_),(8,_)] ?_
 refine zut ?_
 refine sG [0,1,5,6,7,8,9,10,11,12,5000] [0,6,8] ?_
 refine cB ?_
 refine nx (k+1) ab (f:=(by exact aI VF (aI (by rw [asV hlt hi hf];simp only [bK];exact rfl) tI)))
 have hend:k=(parts e).length:=ab
 subst hend
 rw [asW]
 have hcg2:=JJ (e:=e) (Nat.le_refl _)
 refine bI ?_
 refine sQ [0,1,5,6,7,8,9,5000] [0,6,8] ?_
 refine anl (d:=0) (t:=114) (A:=[]) (B:=[val _,val _,sl _ _,sl _ _,sl _ _,sl _ _,val _]) (f:=(fun l:List be=>sl bc (l.map (gG ai)))) hzsS ak ?_
 refine sO [(0,_),(1,_),(5,_),(6,_),(7,_),(8,_),(9,_),(5000,_)] [(0,(46,aW)),(6,_),(8,_)] ?_
 refine Qo ?_
 refine Cr ?_
 refine dA 6 ?_ (x:=lF lH)
 refine dA 14 ?_ (x:=eN (ms:=[sl _ _]) (qs:=[sl .v _]) aj lJ (fun _=>rfl) az ak iE ib)
 refine dA 0 ?_ (x:=eN (ms:=fk) (qs:=[val _,val _,any,any,any]) aj nW (fun h=>nomatch h) az ak Un bg)
 refine dA 32 ?_ (x:=cj (qs:=[(true,fk)]) aj jR mq aj rfl rfl rfl rfl rfl az bS rfl)
 refine dA 126 ?_ (x:=fc aj jR mq rfl rfl aj rfl bq bq)
 refine dA 255 ?_ (x:=pq aj)
 refine dA 511 ?_ (x:=lF lH)
 refine dA 1023 ?_ (x:=bV (ag:=false) (vs:=[sl _ _]) lJ an ak az)
 exact ⟨(by simp only [bK];exact rfl),rfl,tI⟩
end Go.Proofs.YtmekkgdboplbjaaGreatDoor
