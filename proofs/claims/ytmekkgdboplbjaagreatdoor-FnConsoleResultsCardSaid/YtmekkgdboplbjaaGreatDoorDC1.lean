/- What functions of the program compute. No condition. -/
import Derived.Test.YtmekkgdboplbjaaGreatDoorDY0
import Derived.Test.YtmekkgdboplbjaaGreatDoorDV0
set_option linter.all false
namespace Go.Proofs.YtmekkgdboplbjaaGreatDoor
open Go Go.RowKit M PV
set_option maxRecDepth 10000
attribute [local irreducible] PV.Lcl PV.LclR RV.Lcl
set_option maxHeartbeats 8000000
def XO:eL Tryz.prog 149=some [(0,1),(1,1),(2,1),(3,1),(4,1)]:=aq
def XP:eL Tryz.prog 56=some [(0,4),(4,1),(5,1),(6,1)]:=aq
def XQ{p1 p2 p5 p6 p7 p8 p9 p11 p12 p13 p14 p16 p17 p18:Fl}{e:ar}(hb:bw e≤68719000000):aS Tryz.prog 202 [(true,[sl .v (e.Store.ac7.map (be p1 p2)),val (vI e.Store.Now),val (vI e.adc),sl .v (e.Order.map ax),sl .v (e.ac8.map (bz p5 p6 p7 p8 p9)),sl .v (e.Done.map (cn p11 p12 p13 p14)),sl .v (e.adl.map (cm p16 p17 p18)),val (vI e.Steps)])] (aJ [(true,[sl dg ((bS e).Store.ac7.map (be bJ ak)),val (vI (bS e).Store.Now),val (vI (bS e).adc),sl ak ((bS e).Order.map ax),sl fq ((bS e).ac8.map (bz bb ak ak bc ak)),sl ft ((bS e).Done.map (cn bb ak bc ak)),sl fu ((bS e).adl.map (cm ak ak ak)),val (vI (bS e).Steps)]),(false,[val (.bool (jg e))])]):=by
 refine uj (largs:=fun L=>[(true,[sl (.lo L) (e.Store.ac7.map (be (.lo L) (.lo L))),val (vI e.Store.Now),val (vI e.adc),sl (.lo L) (e.Order.map ax),sl (.lo L) (e.ac8.map (bz (.lo L) (.lo L) (.lo L) (.lo L) (.lo L))),sl (.lo L) (e.Done.map (cn (.lo L) (.lo L) (.lo L) (.lo L))),sl (.lo L) (e.adl.map (cm (.lo L) (.lo L) (.lo L))),val (vI e.Steps)])]) (rs:=[(true,[sl dg ((bS e).Store.ac7.map (be bJ ak)),val (vI (bS e).Store.Now),val (vI (bS e).adc),sl ak ((bS e).Order.map ax),sl fq ((bS e).ac8.map (bz bb ak ak bc ak)),sl ft ((bS e).Done.map (cn bb ak bc ak)),sl fu ((bS e).adl.map (cm ak ak ak)),val (vI (bS e).Steps)]),(false,[val (.bool (jg e))])]) Tryz.func202 rfl (nl rfl) (fun L=>by exact (aI (aI rfl (ao.cons (bm (fun _=>nl rfl) (fun _=>(ao.cons (bm (fun _=>nl rfl) (fun _=>(ao.cons aG (ao.cons (bm (fun _=>nl rfl) (fun _=>(ao.cons aG ao.nil))) (ao.cons aG (ao.cons aG ao.nil)))))) ao.nil))) (ao.cons aG (ao.cons aG (ao.cons (bm (fun _=>nl rfl) (fun _=>(ao.cons aG ao.nil))) (ao.cons (bm (fun _=>nl rfl) (fun _=>(ao.cons aG (ao.cons aG (ao.cons (bm (fun _=>nl rfl) (fun _=>(ao.cons aG (ao.cons aG (ao.cons aG ao.nil))))) (ao.cons (bm (fun _=>nl rfl) (fun _=>(ao.cons aG ao.nil))) (ao.cons aG (ao.cons (bm (fun _=>nl rfl) (fun _=>(ao.cons aG ao.nil))) (ao.cons aG (ao.cons aG (ao.cons aG (ao.cons (bm (fun _=>nl rfl) (fun _=>(ao.cons aG (ao.cons (bm (fun _=>nl rfl) (fun _=>(ao.cons aG ao.nil))) ao.nil)))) ao.nil)))))))))))) (ao.cons (bm (fun _=>nl rfl) (fun _=>(ao.cons aG (ao.cons aG (ao.cons (bm (fun _=>nl rfl) (fun _=>(ao.cons aG (ao.cons aG (ao.cons aG ao.nil))))) (ao.cons (bm (fun _=>nl rfl) (fun _=>(ao.cons aG ao.nil))) (ao.cons aG (ao.cons aG (ao.cons (bm (fun _=>nl rfl) (fun _=>(ao.cons aG (ao.cons (bm (fun _=>nl rfl) (fun _=>(ao.cons aG ao.nil))) ao.nil)))) ao.nil))))))))) (ao.cons (bm (fun _=>nl rfl) (fun _=>(ao.cons aG (ao.cons aG (ao.cons (bm (fun _=>nl rfl) (fun _=>(ao.cons aG ao.nil))) (ao.cons (bm (fun _=>nl rfl) (fun _=>(ao.cons aG ao.nil))) (ao.cons (bm (fun _=>nl rfl) (fun _=>(ao.cons aG ao.nil))) ao.nil))))))) (ao.cons aG ao.nil))))))))) tI)) (fun L=>by exact lq) ?_
 intro w0 Fz0
 refine sn 0 0 fun hl0_0=>?_
 refine sn 0 3 fun hl0_3=>?_
 refine sn 0 4 fun hl0_4=>?_
 refine sn 0 5 fun hl0_5=>?_
 refine sn 0 6 fun hl0_6=>?_
 have hbu:=hb
 simp only [bw,jZ,mG,kJ] at hbu
 refine BA ?_
 refine xQ ?_
 refine sO [(1,_),(2,_),(3,_)] [(1,(46,[sl (.lo _) _,val _,val _,sl (.lo _) _,sl (.lo _) _,sl (.lo _) _,sl (.lo _) _,val _])),(2,(46,bj))] ?_
 refine Bn ?_
 refine nA ?_
 refine eO ?_
 refine sO [(1,_),(2,_),(3,_),(4,_)] [(1,_),(2,_),(4,(46,bj))] ?_
 refine uy ?_
 refine Bo ?_
 refine cx 22 (fun ga sga=>?_) (fun ga sga=>?_)
 refine ly ?_
 refine av.cases (s:=27) rfl (fun g2=>?_) (fun g2=>nomatch g2)
 refine mw ?_
 refine rM ?_
 refine av.cases (s:=33) rfl (fun g3=>?_) (fun g3=>nomatch g3)
 refine qn ?_
 refine cd ?_
 exact xp
 refine rB ga ?_ (x:=lF vD)
 refine jz ?_
 refine rB ga ?_ (x:=iV)
 refine qp ?_
 refine cx 27 (fun gb sgb=>?_) (fun gb sgb=>?_)
 refine qr ?_
 refine av.cases (s:=33) rfl (fun g6=>?_) (fun g6=>nomatch g6)
 refine uP ?_
 refine cd ?_
 exact xp
 refine rB gb ?_ (x:=lF pt)
 refine rB gb ?_ (x:=lD [sl (.lo _) _] pv)
 refine rB gb ?_ (x:=lN nR)
 refine rB gb ?_ (x:=iV)
 refine rW ?_
 refine cx 33 (fun gc sgc=>?_) (fun gc sgc=>?_)
 refine qm ?_
 refine cd ?_
 exact xp
 refine rB gc ?_ (x:=lF qR)
 refine rB gc ?_ (x:=lD [sl (.lo _) _] qT)
 refine rB gc ?_ (x:=lN lT)
 refine rB gc ?_ (x:=lF kh)
 refine rB gc ?_ (x:=lD [sl (.lo _) _] ki)
 refine rB gc ?_ (x:=lN gR)
 refine rB gc ?_ (x:=AA)
 refine rB gc ?_ (x:=fH)
 refine lA ?_
 refine sc ?_ ?_<;>intro hba
 exact xp
 have hok:jg e=true:=by
  have ho_:aP e=true:=eX
  have hef_:=kN ho_
  unfold jg
  rw [ho_]
  simp only [Bool.true_and,aT,decide_eq_true_eq]
  exact ⟨ab,ab,ab⟩
 obtain ⟨hoe,hst,hld,hda⟩:=yF hok
 have hef:=kN hoe
 have hcl:e.adc.toNat < e.Store.ac7.length:=hef.2.2.2.1
 have hpl:=Dm (e:=e)
 have hs4:=Dr hoe
 have hswt:=Nx hoe
 refine bd ?_
 refine sS [1,2,3,4] [1,2,4] ?_
 refine lB ?_
 refine xM ?_
 refine uI ?_
 refine rA ?_ (x:=bT (k:=e.adc.toNat) ae iN au ab (by exact iu hcl (by rw [oR (d:=([]:List aM)) hcl])) aj)
 refine rA ?_ (x:=lE [sl (.lo _) _] nS)
 refine rA ?_ (x:=vA false [sl (.lo _) _])
 refine sS [1,2,3,4,5] [1,2,4] ?_
 refine uI ?_
 refine rA ?_ (x:=vM false [sl (.lo _) _])
 refine rA ?_ (x:=lN iM)
 refine rA ?_ (x:=dZ (qs:=[(false,[val _]),(false,[val _])]) (cs:=gX) ae qU Ea XO aj mc rfl aj)
 refine Bx ?_
 refine eO ?_
 refine sO [(1,_),(2,_),(3,_),(4,_),(5,_),(6,_)] [(1,_),(2,_),(4,_),(6,(149,gX))] ?_
 refine uy ?_
 refine rA ?_ (x:=cL [(true,[sl (.lo _) _,val _,val _,sl (.lo _) _,sl (.lo _) _,sl (.lo _) _,sl (.lo _) _,val _])] [(true,fb)] Ww (hs:=by exact (XC ab)))
 refine rA ?_ (x:=lN ej)
 refine dM ?_
 refine sP [1,2,3,4,5,6,57,58,59] [1,2,4,6] ?_
 refine sL [1,2,3,4,5,6,57,58] [1,2] (fun k:Nat=>k≤(parts e).length) (fun k:Nat=>[(59,RV.int (k:Int))]) (fun k:Nat=>[(4,(46,[sl dg (e.Store.ac7.map (be bJ ak)),val (vI e.Store.Now),val (vI e.adc),sl ak (e.Order.map ax),sl fq ((cQ e k).map (bz bb ak ak bc ak)),sl ft (e.Done.map (cn bb ak bc ak)),sl fu (e.adl.map (cm ak ak ak)),val (vI e.Steps)])),(6,(149,[val (vI (dV e k).Segment),val (vI (dV e k).Base),sl ak ((dV e k).Ids.map ax),sl ak ((dV e k).adf.map ax),sl ak ((dV e k).Rows.map ax)]))]) (fun k:Nat=>(parts e).length - k) 0 ab cb (by exact aI (by rw [UT];exact rfl) (aI aj tI)) ?_
 rintro k hk
 have hcg:=Dp (e:=e) hk
 have hsl:=pk (e:=e) (k:=k)
 refine bO ?_
 refine sc ?_ ?_<;>intro hbb
 have hlt:k < (parts e).length:=ab
 obtain ⟨i,hi,hf,hid,hpp⟩:=Nk hoe hlt
 have hil:i < (cQ e k).length:=ab
 have hoa:=Ny (hef.2.2.2.2.2.2.2.2.2.1 _ (List.getElem_mem hi))
 have hwa:=gw (f:=dc) hi
 have hwq:dc e.ac8[i]=fI e.ac8[i].ac9+e.ac8[i].adi.length+eg e.ac8[i].Rows:=Gy
 have hga4:=Dv hoe e.ac8[i]
 have hvl:=yI (dk e) e.ac8[i].Time
 refine sz ?_
 refine Ks ?_
 refine oL ?_
 refine sS [1,2,3,4,5,6,8,57,58,59] [1,2,4,6] ?_
 refine CJ ?_
 refine rM ?_
 refine Kz ?_
 refine sP [1,2,3,4,5,6,8,9,57,58,59] [1,2,4,6] ?_
 refine rH (d:=4) (t:=46) (D:=900) (G:=2900) (E:=102) (e:=10) (L:=(Lw w0.heap.size)) (A:=oy) (B:=oz) (es:=((cQ e k)).map (bz bb ak ak bc ak)) aj (pS hil) aj aj rfl aj (fun x hx=>hx) bn bn bn bn (az.map fun x=>(az.cons lcl_val (az.cons lcl_val (az.cons (lcl_own (az.map fun x=>(az.cons lcl_val (az.cons lcl_val (az.cons lcl_val az.nil))))) (az.cons (lcl_own (az.map fun x=>(az.cons lcl_val az.nil))) (az.cons lcl_val (az.cons (lcl_own (az.map fun x=>(az.cons lcl_val az.nil))) (az.cons lcl_val (az.cons lcl_val (az.cons lcl_val (az.cons (lcl_own (az.map fun x=>(az.cons lcl_val (az.cons (lcl_own (az.map fun x=>(az.cons lcl_val az.nil))) az.nil)))) az.nil))))))))))) fun uu900 cp900 jk900 hlD900 hcp900 hjk900=>?_
 rw [aO] at hlD900 hcp900 hjk900
 refine fV (d:=900) aj (ow (k:=i) hil) ?_
 have hA900:=rL (f:=(bz bb ak ak bc ak)) (e:=10) (xs:=(cQ e k)) (k:=i) (fun _=>rfl) (Nat.le_of_lt hil)
 refine fV (d:=900) aj (congrArg (fun z_=>((((cQ e k)).take i).map (bz bb ak ak bc ak)).flatten++((bz bb ak ak bc ak) z_++(((((cQ e k)).drop (i+1)).map (bz bb ak ak bc ak)).flatten++jk900.map val))) (UR hoe hlt hi hid hil)) ?_
 refine sO [(1,_),(2,_),(3,_),(4,_),(5,_),(6,_),(8,_),(9,_),(57,_),(58,_),(59,_),(2900,_)] [(1,_),(2,_),(4,(46,AD)),(6,_),(900,(102,_++(dG++_)))] ?_
 refine bh ?_
 refine rA ?_ (x:=lF kh)
 refine rA ?_ (x:=lD [val _] ki)
 refine rM ?_
 refine Mk ?_
 refine rA ?_ (x:=RW (o:=0) (ms:=dG) (qs:=ox) ab ae kT (fun h=>nomatch h) aH aj FD bn)
 refine xB ?_
 refine aU ?_
 refine sO [(1,_),(2,_),(3,_),(4,_),(5,_),(6,_),(8,_),(9,_),(10,_),(57,_),(58,_),(59,_),(2900,_)] [(1,_),(2,_),(4,_),(6,_),(10,(102,dG)),(900,(102,_++(dG++_)))] ?_
 refine bh ?_
 refine gJ ?_
 refine sS [1,2,3,4,5,6,8,9,10,11,57,58,59,2900] [1,2,4,6,10,900] ?_
 refine lB ?_
 refine uY ?_
 refine uI ?_
 refine Cm ?_
 refine rA ?_ (x:=cL [(true,[sl (.lo _) _,val _]),(false,[val _]),(false,[val _])] [(true,gW),(false,[val _]),(false,[val _])] Wx (hs:=by exact (XG ab ab ab)))
 refine rA ?_ (x:=lN jb)
 refine dM ?_
 refine sP [1,2,3,4,5,6,8,9,10,11,57,58,59,77,78,79,2900] [1,2,4,6,10,900] ?_
 refine SJ (s:=77) (t:=27) (e:=2) (G:=6100) (f:=(cg ak)) (g:=(fun z:Row=>[val (vI z.Id),sl .v (z.Values.map ax)])) (fN:=Vn) (xs:=(bD (dk e) e.ac8[i].Time)) aj aj aj (fun _ _=>rfl) (fun _=>rfl) (fun _=>(aD (bK aA.nil))) (fun _=>(aB.cons (bor_val _) (aB.cons (bor_sl _) aB.nil))) fun zr hzr=>?_
 have hzl:zr.length=(bD (dk e) e.ac8[i].Time).length:=by rw [←hzr,aO]
 have hve:(bD (e.Store.ac7.getD e.adc.toNat []) e.ac8[i].Time).length=(bD (dk e) e.ac8[i].Time).length:=rfl
 refine sP [1,2,3,4,5,6,8,9,10,11,57,58,59,77,78,79,2900,6100] [1,2,4,6,10,900] ?_
 refine sL [1,2,3,4,5,6,8,9,10,57,58,59,77,78,2900] [1,2,4,6,900] (fun j:Nat=>j≤zr.length) (fun j:Nat=>[(11,RV.int ((gN e e.ac8[i] j).length:Int)),(79,RV.int (j:Int)),(6100,RV.gh (aV 2 (zr.drop j)) (bp (cg ak) (zr.drop j)))]) (fun j:Nat=>[(10,(102,[val (vI e.ac8[i].ac9.Id),val (vI e.ac8[i].ac9.ade),sl bb (e.ac8[i].ac9.ada.map bU),sl ak (e.ac8[i].ac9.Out.map ax),val (vI e.ac8[i].Time),sl ak (e.ac8[i].adi.map ax),val (vI e.ac8[i].Age),val (vI e.ac8[i].Sent),val (vI e.ac8[i].Cap),sl bc ((e.ac8[i].Rows++gN e e.ac8[i] j).map (cg ak))]))]) (fun j:Nat=>zr.length - j) 0 ab Gz (by exact aI (by show _=some (102,[val (vI e.ac8[i].ac9.Id),val (vI e.ac8[i].ac9.ade),sl bb (e.ac8[i].ac9.ada.map bU),sl ak (e.ac8[i].ac9.Out.map ax),val (vI e.ac8[i].Time),sl ak (e.ac8[i].adi.map ax),val (vI e.ac8[i].Age),val (vI e.ac8[i].Sent),val (vI e.ac8[i].Cap),sl bc ((e.ac8[i].Rows++gN e e.ac8[i] 0).map (cg ak))]);rw [show gN e e.ac8[i] 0=[] from rfl,dJ];exact rfl) tI) ?_
 rintro j hj
 have hgl:=Ds hoe e.ac8[i] j
 refine bO ?_
 refine sc ?_ ?_<;>intro hbc
 have hltz:j < zr.length:=ab
 have hjv:j < (bD (dk e) e.ac8[i].Time).length:=ab
 have hz3:zr[j].1=(bD (dk e) e.ac8[i].Time)[j]:=by simp [←hzr]
 refine bA ?_
 refine Kf ?_
 refine bh ?_
 refine Ml ?_
 refine rA ?_ (x:=wJ (qs:=[nv _ (val _),nv _ (sl .v _)]) ae gM (fun h=>nomatch h) aH (by exact (aD (aD aA.nil))) (by exact (aB.cons (bor_nv (bor_val _)) (aB.cons (bor_nv (bor_sl _)) aB.nil))))
 refine yh ?_
 refine rA ?_ (x:=bZ (ag:=true) (vs:=[nv _ (val _),nv _ (sl _ _)]) gM au aj aH)
 refine sO [(1,_),(2,_),(3,_),(4,_),(5,_),(6,_),(8,_),(9,_),(10,_),(11,_),(13,_),(57,_),(58,_),(59,_),(77,_),(78,_),(79,_),(2900,_),(6100,_)] [(1,_),(2,_),(4,_),(6,_),(10,_),(13,(27,[nv _ (val _),nv _ (sl _ _)])),(900,_)] ?_
 refine HI (d:=13) (G:=6100) (e:=2) (f:=(cg ak)) (z:=zr[j]) (zs:=(zr.drop (j+1))) aj (by exact (Nm.nv (Nm.nv Nm.nil))) (fun _=>rfl) Gp ?_
 refine aU ?_
 refine sO [(1,_),(2,_),(3,_),(4,_),(5,_),(6,_),(8,_),(9,_),(10,_),(11,_),(13,_),(57,_),(58,_),(59,_),(77,_),(78,_),(79,_),(2900,_),(6100,_)] [(1,_),(2,_),(4,_),(6,_),(10,_),(13,(27,cO)),(900,_)] ?_
 refine bh ?_
 refine rA ?_ (x:=lF lS)
 refine qx ?_
 refine qw ?_
 refine rA ?_ (x:=cL [(true,cD),(true,cO)] [(true,cI),(true,dK)] Wy (hs:=by exact Xg))
 refine sc ?_ ?_<;>intro hbd
 have hm:eh e.ac8[i].ac9 (bD (dk e) e.ac8[i].Time)[j]=true:=wr
 refine sS [1,2,3,4,5,6,8,9,10,11,13,57,58,59,77,78,79,2900,6100] [1,2,4,6,10,13,900] ?_
 refine KD ?_
 refine Mm ?_
 refine JY ?_
 refine rA ?_ (x:=lF vz)
 refine rA ?_ (x:=bZ (ag:=false) (vs:=[sl _ _]) mZ au aj aH)
 refine sO [(1,_),(2,_),(3,_),(4,_),(5,_),(6,_),(8,_),(9,_),(10,_),(11,_),(13,_),(57,_),(58,_),(59,_),(77,_),(78,_),(79,_),(2900,_),(6100,_)] [(1,_),(2,_),(4,_),(6,_),(10,(102,dG)),(13,(27,cO)),(900,_)] ?_
 refine bh ?_
 refine jV ?_
 exact Ja
 have hm:eh e.ac8[i].ac9 (bD (dk e) e.ac8[i].Time)[j]=false:=wr
 refine bd ?_
 exact Ja
 have hjend:j=(bD (dk e) e.ac8[i].Time).length:=ab
 have hgt:gN e e.ac8[i] j=iF e e.ac8[i]:=by rw [hjend];exact Dq
 rw [hgt]
 refine bv ?_
 refine Kf ?_
 refine bh ?_
 refine rA ?_ (x:=lF vw)
 refine eA ?_
 refine rM ?_
 refine iZ ?_
 refine rA ?_ (x:=lF vw)
 refine qf ?_
 refine Ku ?_
 refine qz ?_
 refine uW ?_
 refine uI ?_
 refine rA ?_ (x:=cL [(false,[sl _ _]),(false,[val _])] [(false,[sl .v _]),(false,[val _])] Wz (hs:=by exact (XF ab)))
 refine qz ?_
 refine BQ ?_
 refine Ku ?_
 refine rA ?_ (x:=lF kh)
 refine rA ?_ (x:=lD [val _] ki)
 refine rM ?_
 refine CD ?_
 refine Mk ?_
 refine rA ?_ (x:=uk (o:=0) (ag:=true) (vs:=dG) ab kT au aj aH)
 refine fV (d:=900) aj (rJ (kO e e.ac8[i]) hil aj) ?_
 refine rI (d:=4) (D:=900) (G:=2900) (e:=10) (A:=oy) (B:=oz) (es:=(((cQ e k)).set i (kO e e.ac8[i])).map (bz bb ak ak bc ak)) aj aj aj rfl tW pJ wk ?_
 refine aU ?_
 refine sO [(1,_),(2,_),(3,_),(4,_),(5,_),(6,_),(8,_),(9,_),(10,_),(11,_),(57,_),(58,_),(59,_),(77,_),(78,_),(79,_),(6100,_)] [(1,_),(2,_),(4,(46,bj)),(6,_),(10,(102,dG))] ?_
 refine bh ?_
 refine rA ?_ (x:=lF pq)
 refine Br ?_
 refine zip ?_
 refine rA ?_ (x:=lF pq)
 refine BQ ?_
 refine Kk ?_
 refine rA ?_ (x:=lF tu)
 refine Mn ?_
 refine rA ?_ (x:=lF lS)
 refine rA ?_ (x:=lF vg)
 refine eA ?_
 refine zip ?_
 refine rA ?_ (x:=lF tu)
 refine LC ?_
 refine rA ?_ (x:=lF tv)
 refine Br ?_
 refine zip ?_
 refine rA ?_ (x:=lF tv)
 refine LC ?_
 refine cf ?_
 refine nx (k+1) ab (f:=(by exact aI (by rw [←US hoe hlt hi hid];exact rfl) (aI (by rw [UU hlt hi hf];simp only [bL];exact rfl) tI)))
 have hend:k=(parts e).length:=ab
 subst hend
 refine bv ?_
 refine eO ?_
 refine Ks ?_
 refine rA ?_ (x:=lF pq)
 refine qi ?_
 refine rA ?_ (x:=fH)
 refine sc ?_ ?_<;>intro hbc
 have hled:kP e (parts e).length=e.adl++[dV e (parts e).length]:=by unfold kP;rw [if_neg ab]
 refine sG [1,2,3,4,5,6,57,58,59] [1,2,4,6] ?_
 refine rA ?_ (x:=lF pt)
 refine rA ?_ (x:=fa (ms:=[sl _ _]) (qs:=[sl .v _]) ae pv (fun _=>rfl) aH aj la kq)
 refine rA ?_ (x:=fa (ms:=gX) (qs:=[val _,val _,any,any,any]) ae qS (fun h=>nomatch h) aH aj (by exact (aD (aD (aA.cons PV.to_any (aA.cons PV.to_any (aA.cons PV.to_any aA.nil)))))) bn)
 refine rA ?_ (x:=dq (qs:=[(true,gX)]) ae nR qU ae rfl rfl rfl rfl rfl aH eW rfl)
 refine rA ?_ (x:=ir ae nR qU rfl rfl ae rfl ck ck)
 refine rA ?_ (x:=lF pt)
 refine rA ?_ (x:=bZ (ag:=false) (vs:=[sl _ _]) pv au aj aH)
 refine aU ?_
 refine sO [(1,_),(2,_),(3,_),(4,_),(5,_),(6,_),(57,_),(58,_),(59,_)] [(1,_),(2,_),(4,(46,bj)),(6,(149,[val _,val _,any,any,any]))] ?_
 refine bh ?_
 refine BL ?_
 refine eO ?_
 refine sP [1,2,3,4,5,6,14,57,58,59] [1,2,4,6] ?_
 refine AE (d:=4) (t:=102) (e:=10) (G:=6200) (A:=oy) (B:=oz) (f:=(bz bb ak ak bc ak)) (g:=(fun z:ac8=>[val (vI z.ac9.Id),val (vI z.ac9.ade),sl .v (z.ac9.ada.map bU),sl .v (z.ac9.Out.map ax),val (vI z.Time),sl .v (z.adi.map ax),val (vI z.Age),val (vI z.Sent),val (vI z.Cap),sl .v (z.Rows.map (cg ak))])) (fN:=kf) (xs:=(cQ e (parts e).length)) aj aj (fun _ _=>rfl) (fun _=>rfl) (fun _=>(aD (aD (bK (bK (aD (bK (aD (aD (aD (bK aA.nil))))))))))) (fun _=>bn) fun za hza=>?_
 have hzal:za.length=e.ac8.length:=FI
 refine KH ?_
 refine oJ ?_
 refine Ka ?_
 rintro m hm
 have hrl2:=Nr (e:=e) (k:=(parts e).length) (m:=m)
 have hdl2:=Ns (e:=e) (k:=(parts e).length) (m:=m)
 refine bO ?_
 refine sc ?_ ?_<;>intro hbd
 have hltm:m < e.ac8.length:=ab
 have hltz:m < za.length:=ab
 have hm2:m < (cQ e (parts e).length).length:=by rw [pk];exact hltm
 have hm1:m < (cj e (parts e).length).length:=by rw [yJ];exact hltm
 have hz3:za[m].1=(cQ e (parts e).length)[m]:=by simp [←hza]
 have hab:=Nz hoe hltm hm2
 rw [←hz3] at hab
 refine bA ?_
 refine Kp ?_
 exact Jd
 have hend2:m=e.ac8.length:=ab
 subst hend2
 refine bv ?_
 refine Kp ?_
 exact Je
 have hled:kP e (parts e).length=e.adl:=by unfold kP;rw [if_pos ab]
 refine bd ?_
 refine sS [1,2,3,4,5,6,57,58,59] [1,2,4,6] ?_
 refine BL ?_
 refine eO ?_
 refine sP [1,2,3,4,5,6,14,57,58,59] [1,2,4,6] ?_
 refine AE (d:=4) (t:=102) (e:=10) (G:=6200) (A:=oy) (B:=oz) (f:=(bz bb ak ak bc ak)) (g:=(fun z:ac8=>[val (vI z.ac9.Id),val (vI z.ac9.ade),sl .v (z.ac9.ada.map bU),sl .v (z.ac9.Out.map ax),val (vI z.Time),sl .v (z.adi.map ax),val (vI z.Age),val (vI z.Sent),val (vI z.Cap),sl .v (z.Rows.map (cg ak))])) (fN:=kf) (xs:=(cQ e (parts e).length)) aj aj (fun _ _=>rfl) (fun _=>rfl) (fun _=>(aD (aD (bK (bK (aD (bK (aD (aD (aD (bK aA.nil))))))))))) (fun _=>bn) fun za hza=>?_
 have hzal:za.length=e.ac8.length:=FI
 refine KH ?_
 refine oJ ?_
 refine Ka ?_
 rintro m hm
 have hrl2:=Nr (e:=e) (k:=(parts e).length) (m:=m)
 have hdl2:=Ns (e:=e) (k:=(parts e).length) (m:=m)
 refine bO ?_
 refine sc ?_ ?_<;>intro hbd
 have hltm:m < e.ac8.length:=ab
 have hltz:m < za.length:=ab
 have hm2:m < (cQ e (parts e).length).length:=by rw [pk];exact hltm
 have hm1:m < (cj e (parts e).length).length:=by rw [yJ];exact hltm
 have hz3:za[m].1=(cQ e (parts e).length)[m]:=by simp [←hza]
 have hab:=Nz hoe hltm hm2
 rw [←hz3] at hab
 refine bA ?_
 refine Ko ?_
 exact Jd
 have hend2:m=e.ac8.length:=ab
 subst hend2
 refine bv ?_
 refine Ko ?_
 exact Je
end Go.Proofs.YtmekkgdboplbjaaGreatDoor
