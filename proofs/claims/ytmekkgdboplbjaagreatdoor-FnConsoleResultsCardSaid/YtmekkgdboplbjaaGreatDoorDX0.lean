/- What functions of the program compute. No condition. -/
import Derived.Test.YtmekkgdboplbjaaGreatDoorDT0
import Derived.Test.YtmekkgdboplbjaaGreatDoorDW0
set_option linter.all false
namespace Go.Proofs.YtmekkgdboplbjaaGreatDoor
open Go Go.RowKit M PV
set_option maxRecDepth 10000
attribute [local irreducible] PV.Lcl PV.LclR RV.Lcl
def XD{v:aM}{keep:List Int}:aS Tryz.prog 284 [(true,[val (vI v.Id),sl .v (v.Values.map ax),val (vI v.ado),val (vI v.adj)]),(false,[sl .v (keep.map ax)])] (aJ [(false,[val (.bool (hJ v keep))])]):=by
 refine sF Tryz.func284 fun h0 w0 Fz0=>?_
 refine sn 0 1 fun hl0_1=>?_
 refine sj 1 fun hl1=>?_
 refine xJ ?_
 refine gJ ?_
 refine sT [1,2,4] [2] ?_
 refine sB ?_
 refine sP [1,2,4,7,8,9] [2] ?_
 refine sL [1,2,7,8] [2] (fun k:Nat=>k≤keep.length∧(keep.take k).any (eB v)=false) (fun k:Nat=>[(9,RV.int (k:Int))]) (fun k:Nat=>[]) (fun k:Nat=>keep.length - k) 0 kt cb au ?_
 rintro k ⟨hk,ha⟩
 refine bO ?_
 refine sc ?_ ?_<;>intro hba
 have hlt:k < keep.length:=ab
 refine bA ?_
 refine sT [1,2,7,8,9] [2] ?_
 refine oL ?_
 refine sS [1,2,6,7,8,9] [2] ?_
 refine uV ?_
 refine KY ?_
 refine sc ?_ ?_<;>intro hbb
 have hv:eB v keep[k]=true:=gU
 refine sS [1,2,6,7,8,9] [2] ?_
 refine bG ?_
 exact rb ((Uy hlt hv).symm)
 have hvf:eB v keep[k]=false:=gU
 refine bd ?_
 refine sG [1,2,6,7,8,9] [2] ?_
 refine cf ?_
 refine nx (k+1) (by exact ⟨ab,sW ha hlt hvf⟩)
 refine bv ?_
 refine sT [1,2,7,8,9] [2] ?_
 refine rA ?_ (x:=lF pp)
 refine eA ?_
 refine oC ?_
 refine cv ?_
 exact rb (by (have hn:=Uz (v:=v) (MD (by rw [show keep.length=k by omega];exact ha));rw [hn];first|rfl|simp))
def XE{p1 p2:Fl}{s:Store}{keep:List Int}(hb:eQ s≤68719476736)(hk0:keep.length≤68719476736):aS Tryz.prog 247 [(true,[sl .v (s.ac7.map (be p1 p2)),val (vI s.Now)]),(false,[sl .v (keep.map ax)])] (aJ [(true,[sl dg ((cP s keep).ac7.map (be bJ ak)),val (vI (cP s keep).Now)]),(false,[val (vI (yB s keep))])]):=by
 refine uj (largs:=fun L=>[(true,[sl (.lo L) (s.ac7.map (be (.lo L) (.lo L))),val (vI s.Now)]),(false,[sl (.lo L) (keep.map ax)])]) (rs:=[(true,[sl dg ((cP s keep).ac7.map (be bJ ak)),val (vI (cP s keep).Now)]),(false,[val (vI (yB s keep))])]) Tryz.func247 rfl (nl rfl) (fun L=>by exact (aI (aI rfl (ao.cons (bm (fun _=>nl rfl) (fun _=>(ao.cons (bm (fun _=>nl rfl) (fun _=>(ao.cons aG (ao.cons (bm (fun _=>nl rfl) (fun _=>(ao.cons aG ao.nil))) (ao.cons aG (ao.cons aG ao.nil)))))) ao.nil))) (ao.cons aG ao.nil))) (aI (aI rfl (ao.cons (bm (fun _=>nl rfl) (fun _=>(ao.cons aG ao.nil))) ao.nil)) tI))) (fun L=>by exact lq) ?_
 intro w0 Fz0
 refine sn 0 0 fun hl0_0=>?_
 refine sj 1 fun hl1=>?_
 have hrw:=Nh s keep
 have hal:=yx s
 have hal2:=yx (cP s keep)
 have hcv:pi s=(aY s).length:=rfl
 have hcv2:pi (cP s keep)=(aY (cP s keep)).length:=rfl
 refine LH ?_
 refine Ck ?_
 refine sO [(1,_),(2,_),(4,_),(5,_)] [(2,(41,[sl (.lo _) _,val _])),(4,(41,dE))] ?_
 refine bh ?_
 refine BC ?_
 refine rV ?_
 refine eO ?_
 refine sO [(1,_),(2,_),(4,_),(5,_),(6,_)] [(2,_),(4,_),(6,(41,dE))] ?_
 refine bh ?_
 refine Le ?_
 refine fw ?_
 refine sc ?_ ?_<;>intro hba
 have hok:bV s=false:=gp
 have hr:=UL (keep:=keep) hok
 refine sS [1,2,4,5,6] [2,4,6] ?_
 refine uw ?_
 refine bG ?_
 exact (ba 4 (ba _ (aI aj (aI (by refine cV ?_;rw [hr];exact rfl) (aI gy (aI (fun h=>nomatch h) (aI (by refine fU ?_;unfold yB;rw [hok];exact rfl) tI)))))))
 have hok:bV s=true:=gp
 have hst:=yA (keep:=keep) hok
 obtain ⟨hs8,hs1,hn0,hn1,hs4,hver⟩:=qH hok
 refine dH ?_
 refine aU ?_
 refine sP [1,2,4,5,6] [2,4,6] ?_
 refine rH (d:=6) (t:=41) (D:=900) (G:=2900) (E:=114) (e:=1) (L:=(Lw w0.heap.size)) (A:=[]) (B:=[val _]) (es:=(s.ac7).map (be bJ ak)) aj (pS (show 0 < s.ac7.length by omega)) aj aj rfl aj (fun x hx=>hx) bn bn (by exact az.nil) tX (az.map fun x=>(az.cons (lcl_own (az.map fun x=>(az.cons lcl_val (az.cons (lcl_own (az.map fun x=>(az.cons lcl_val az.nil))) (az.cons lcl_val (az.cons lcl_val az.nil)))))) az.nil)) fun uu900 cp900 jk900 hlD900 hcp900 hjk900=>?_
 rw [aO] at hlD900 hcp900 hjk900
 refine fV (d:=900) aj (show _=bo (be bJ ak) (s.ac7) jk900 from rfl) ?_
 refine sO [(1,_),(2,_),(4,_),(5,_),(6,_),(2900,_)] [(2,_),(4,_),(6,(41,rO)),(900,(114,bo (be bJ ak) _ _))] ?_
 refine SP (d:=900) (t:=116) (e:=4) (G:=6000) (f:=(nH ak)) (g:=(fun v:aM=>[val (vI v.Id),sl .v (v.Values.map ax),val (vI v.ado),val (vI v.adj)])) (fN:=vp) (xss:=s.ac7) aj aj (fun _ _=>rfl) (fun _=>rfl) (fun _=>(aD (bK (aD (aD aA.nil))))) (fun _=>bn) fun zss hzss=>?_
 have hzl:=UE hzss
 refine sO [(1,_),(2,_),(4,_),(5,_),(6,_),(2900,_),(6000,_)] [(2,_),(4,_),(6,_),(900,(114,bo tk _ _))] ?_
 refine bh ?_
 refine Cl ?_
 refine rA ?_ (x:=Hq (G:=2900) ae iN)
 refine dM ?_
 refine sP [1,2,4,5,6,19,20,21,2900,6000] [2,4,6,900] ?_
 refine sL [1,2,4,5,6,19,20,2900,6000] [2,4,6] (fun i:Nat=>i≤zss.length) (fun i:Nat=>[(21,RV.int (i:Int))]) (fun i:Nat=>[(900,(114,bo tk (je zss keep i) jk900))]) (fun i:Nat=>zss.length - i) 0 ab cb cb ?_
 rintro i hi
 have hfl0:=Nd (zss:=zss) (keep:=keep) (k:=i)
 refine bO ?_
 refine sc ?_ ?_<;>intro hbb
 try simp only [aO] at hbb
 have hlz:i < zss.length:=ab
 have hls:i < s.ac7.length:=ab
 have hz2:=UG hzss hlz hls
 have hs4i:=hs4 _ (List.getElem_mem hls)
 have hfl:i < (je zss keep i).length:=by rw [Nd];omega
 have hfg:=UA (keep:=keep) hlz hfl
 refine bA ?_
 refine KG ?_
 refine oK ?_
 refine Mc ?_
 refine rA ?_ (x:=Sf (f:=tk) (e:=1) (k:=i) (qs:=[sl .v _]) (fun _=>rfl) rfl ab ae nS (fun _=>rfl) la kq)
 refine rS ?_
 refine rA ?_ (x:=vA false [sl .v _])
 refine sS [1,2,4,5,6,7,8,19,20,21,2900,6000] [2,4,6,900] ?_
 refine BK ?_
 refine eO ?_
 refine sP [1,2,4,5,6,7,8,9,19,20,21,2900,6000] [2,4,6,900] ?_
 refine So (s:=8) [sl .v (zss[i].map vp)] aj (by exact (by rw [hfg];exact (aD aA.nil))) kq ?_
 refine sG [1,2,4,5,6,7,8,9,19,20,21,2900,6000] [2,4,6,900] ?_
 refine sD ?_
 refine sP [1,2,4,5,6,7,8,9,19,20,21,27,28,29,2900,6000] [2,4,6,900] ?_
 refine sL [1,2,4,5,6,7,8,19,20,21,27,28,2900,6000] [2,4,6,900] (fun j:Nat=>j≤zss[i].length) (fun j:Nat=>[(9,RV.slc bJ ((iE keep (zss[i].take j)).map vp)),(29,RV.int (j:Int))]) (fun j:Nat=>[]) (fun j:Nat=>zss[i].length - j) 0 ab jm au ?_
 rintro j hj
 refine bO ?_
 refine sc ?_ ?_<;>intro hbc
 have hlj:j < zss[i].length:=ab
 have hlj2:j < s.ac7[i].length:=ab
 have hz3:=UH hzss hlz hls hlj hlj2
 have hfle:=UK (keep:=keep) (zs:=zss[i]) (j:=j)
 refine sz ?_
 refine KA ?_
 refine Md ?_
 refine rA ?_ (x:=wJ (qs:=[nv _ (val _),nv _ (sl .v _),nv _ (val _),nv _ (val _)]) ae pu (fun h=>nomatch h) aH FU bn)
 refine rX ?_ (x:=(ew ae kj vG))
 refine rA ?_ (x:=bZ (ag:=true) (vs:=wW) pu au aj aH)
 refine aU ?_
 refine sO [(1,_),(2,_),(4,_),(5,_),(6,_),(7,_),(8,_),(9,_),(11,_),(19,_),(20,_),(21,_),(27,_),(28,_),(29,_),(2900,_),(6000,_)] [(2,_),(4,_),(6,_),(11,(116,wW)),(900,_)] ?_
 refine bh ?_
 refine Me ?_
 refine rA ?_ (x:=vM false [sl (.lo _) _])
 refine rA ?_ (x:=wN (qs:=[(true,wW),(false,[sl (.lo _) _])]) (as_:=[(true,mn),(false,[sl .v _])]) ae WB mc (by exact (aI (aI rfl (aA.cons (PV.nv_to (uf _)) (aA.cons (PV.nv_to rN) (aA.cons (PV.nv_to (uf _)) (aA.cons (PV.nv_to (uf _)) aA.nil))))) (aI (aI rfl (bK aA.nil)) tI))) (by exact XD))
 refine sc ?_ ?_<;>intro hbd
 have hnd:hJ s.ac7[i][j] keep=true:=wr
 refine sG [1,2,4,5,6,7,8,9,11,19,20,21,27,28,29,2900,6000] [2,4,6,11,900] ?_
 refine bW ?_
 refine Me ?_
 refine rA ?_ (x:=dq (qs:=[(true,wW)]) ae iM kj ae rfl rfl rfl rfl rfl aH eW rfl)
 refine Ky ?_
 exact IQ
 have hnd:hJ s.ac7[i][j] keep=false:=wr
 refine bd ?_
 exact IQ
 refine bv ?_
 refine KA ?_
 refine Cl ?_
 refine rM ?_
 refine bW ?_
 refine Mc ?_
 refine rA ?_ (x:=Sg (f:=tk) (e:=1) (k:=i) (ag:=false) (vs:=[sl _ _]) _ (fun _=>rfl) rfl (by first|omega|(simp only [List.length_set];omega)) nS au aj)
 refine sG [1,2,4,5,6,7,8,19,20,21,27,28,29,2900,6000] [2,4,6,900] ?_
 refine cf ?_
 refine nx (i+1) ab (f:=(by exact aI (by rw [show j=zss[i].length by omega,cC,UB hlz];exact rfl) tI))
 try simp only [aO] at hbb
 have hend:i=zss.length:=ab
 refine bv ?_
 refine KG ?_
 refine SQ (d:=900) (t:=116) (e:=4) (G:=6000) (f:=(nH ak)) (g:=(fun v:aM=>[val (vI v.Id),sl .v (v.Values.map ax),val (vI v.ado),val (vI v.adj)])) (fN:=vp) (zss:=(je zss keep i)) aj aj (fun _ _=>rfl) (fun _=>rfl) (fun _=>rfl) (by rw [hend,Nf];exact UC) ?_
 refine sO [(1,_),(2,_),(4,_),(5,_),(6,_),(19,_),(20,_),(21,_),(2900,_)] [(2,_),(4,_),(6,_),(900,(114,bo (be bJ ak) _ _))] ?_
 refine fV (d:=900) aj (congrArg (fun z_=>bo (be bJ ak) z_ jk900) (show (je zss keep i).map (List.map Prod.fst)=s.ac7.map (jC keep) from by rw [hend,Nf];exact UD hzss)) ?_
 refine rI (d:=6) (D:=900) (G:=2900) (e:=1) (A:=[]) (B:=[val _]) (es:=((s.ac7.map (jC keep))).map (be bJ ak)) aj aj aj rfl aF pJ wk ?_
 refine Mf ?_
 refine fV (d:=6) aj (show _=[sl dg ((cP s keep).ac7.map (be bJ ak)),val (vI (cP s keep).Now)] from by first|(rw [hst];done)|(rw [hst];exact rfl)) ?_
 refine Mf ?_
 refine HA (d:=6) (G:=1006) aj aj (bK (aD aA.nil)) (aB.cons (bor_sl _) (aB.cons (bor_val _) aB.nil)) fun us hRN=>?_
 obtain ⟨_,_,hRN⟩:=hRN
 obtain ⟨u5_0,u5_1,rfl⟩:=Tx hRN.len
 clear hRN
 refine sO [(1,_),(2,_),(4,_),(5,_),(6,_),(19,_),(20,_),(21,_),(1006,_)] [(2,_),(4,_),(6,(41,[nv _ (sl _ _),nv _ (val _)]))] ?_
 refine dr ?_
 refine Mg ?_
 refine dA 0 ?_ (x:=lD [sl (.lo _) _,val _] gy)
 refine dA 2 ?_ (x:=cL [(true,[sl (.lo _) _,val _])] [(true,gW)] Oc (hs:=by exact (OB ab)))
 refine Mg ?_
 refine dA 14 ?_ (x:=wN (qs:=[(true,[nv _ (sl _ _),nv _ (val _)])]) (as_:=[(true,gW)]) ae Oc eW (by exact (aI (aI rfl (aA.cons (PV.nv_to rN) (aA.cons (PV.nv_to (uf _)) aA.nil))) tI)) (by exact (OB ab)))
 refine dA 30 ?_ (x:=nr)
 refine dA 31 ?_ (x:=bZ (ag:=true) (vs:=[nv _ (sl _ _),nv _ (val _)]) gy au aj aH)
 refine dA 127 ?_ (x:=sA)
 refine RN (d:=4) (G:=1006) aj (by exact (Nm.nv (Nm.nv Nm.nil))) aj ?_
 refine cv ?_
 exact (ba 4 (ba _ (aI aj (aI (by refine cV ?_;exact rfl) (aI gy (aI (fun h=>nomatch h) (aI (by refine fU ?_;unfold yB;rw [if_pos hok]) tI)))))))
end Go.Proofs.YtmekkgdboplbjaaGreatDoor
