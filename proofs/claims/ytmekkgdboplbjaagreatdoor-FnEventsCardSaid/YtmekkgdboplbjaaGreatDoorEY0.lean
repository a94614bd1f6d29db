/- What functions of the program compute. No condition. -/
import Derived.Test.YtmekkgdboplbjaaGreatDoorEW0
import Derived.Test.YtmekkgdboplbjaaGreatDoorEX0
set_option linter.all false
namespace Go.Proofs.YtmekkgdboplbjaaGreatDoor
open Go Go.RowKit M PV Tryz
set_option maxRecDepth 10000
attribute [local irreducible] PV.Lcl PV.LclR RV.Lcl
def asr{v:be}{keep:List Int}:aQ prog 284 [(true,[val (vI v.Id),sl .v (v.Values.map ar),val (vI v.ayh),val (vI v.ayd)]),(false,[sl .v (keep.map ar)])] (aB [(false,[val (.bool (jw v keep))])]):=by
 refine sF func284 fun h0 w0 Fz0=>?_
 refine sn 0 1 fun hl0_1=>?_
 refine sj 1 fun hl1=>?_
 refine Ci ?_
 refine Iz ?_
 refine zH ?_
 refine sP [1,2,4,7,8,9] [2] ?_
 refine sL [1,2,7,8] [2] (fun k:Nat=>k≤keep.length∧(keep.take k).any (gk v)=false) (fun k:Nat=>[(9,RV.int (k:Int))]) (fun k:Nat=>[]) (fun k:Nat=>keep.length - k) 0 iG bp an ?_
 rintro k ⟨hk,ha⟩
 refine cY ?_
 refine sc ?_ ?_<;>intro hba
 have hlt:k < keep.length:=ab
 refine bv ?_
 refine sT [1,2,7,8,9] [2] ?_
 refine xf ?_
 refine sS [1,2,6,7,8,9] [2] ?_
 refine Db ?_
 refine zpl ?_
 refine sc ?_ ?_<;>intro hbb
 have hv:gk v keep[k]=true:=jA
 refine sS [1,2,6,7,8,9] [2] ?_
 refine ca ?_
 exact rb ((ao2 hlt hv).symm)
 have hvf:gk v keep[k]=false:=jA
 refine ba ?_
 refine sG [1,2,6,7,8,9] [2] ?_
 refine dI ?_
 refine nx (k+1) (by exact ⟨ab,Ae ha hlt hvf⟩)
 refine bI ?_
 refine sT [1,2,7,8,9] [2] ?_
 refine rA ?_ (x:=lF ku)
 refine ff ?_
 refine iu ?_
 refine cK ?_
 exact rb (by (have hn:=ao3 (v:=v) (ahg (by rw [show keep.length=k by omega];exact ha));rw [hn];first|rfl|simp))
def ass{p1 p2:Fl}{s:Store}{keep:List Int}(hb:cg s≤68719476736)(hk0:keep.length≤68719476736):aQ prog 247 [(true,[sl .v (s.ax2.map (aO p1 p2)),val (vI s.Now)]),(false,[sl .v (keep.map ar)])] (aB [(true,[sl bH ((hO s keep).ax2.map (aO bc ai)),val (vI (hO s keep).Now)]),(false,[val (vI (Jp s keep))])]):=by
 refine pm (largs:=fun L=>[(true,[sl (.lo L) (s.ax2.map (aO (.lo L) (.lo L))),val (vI s.Now)]),(false,[sl (.lo L) (keep.map ar)])]) (rs:=[(true,[sl bH ((hO s keep).ax2.map (aO bc ai)),val (vI (hO s keep).Now)]),(false,[val (vI (Jp s keep))])]) func247 rfl (nl rfl) (fun L=>by exact (aI (aI rfl (am.cons (aT (fun _=>nl rfl) (fun _=>(am.cons (aT (fun _=>nl rfl) (fun _=>(am.cons ay (am.cons (aT (fun _=>nl rfl) (fun _=>(am.cons ay am.nil))) (am.cons ay (am.cons ay am.nil)))))) am.nil))) (am.cons ay am.nil))) (aI (aI rfl (am.cons (aT (fun _=>nl rfl) (fun _=>(am.cons ay am.nil))) am.nil)) tI))) (fun L=>by exact lq) ?_
 intro w0 Fz0
 refine sn 0 0 fun hl0_0=>?_
 refine sj 1 fun hl1=>?_
 have hrw:=Rr s keep
 have hal:=vg s
 have hal2:=vg (hO s keep)
 have hcv:vm s=(bu s).length:=rfl
 have hcv2:vm (hO s keep)=(bu (hO s keep)).length:=rfl
 refine OC ?_
 refine zpn ?_
 refine OM ?_
 refine oz ?_
 refine zpp ?_
 refine zpq ?_
 refine gx ?_
 refine sc ?_ ?_<;>intro hba
 have hok:cN s=false:=gn
 have hr:=aia (keep:=keep) hok
 refine sS [1,2,4,5,6] [2,4,6] ?_
 refine zM ?_
 exact (bh 4 (bh _ (aI ak (aI (by refine dh ?_;rw [hr];exact rfl) (aI hR (aI (fun h=>nomatch h) (aI (by refine cX ?_;unfold Jp;rw [hok];exact rfl) tI)))))))
 have hok:cN s=true:=gn
 have hst:=Jo (keep:=keep) hok
 obtain ⟨hs8,hs1,hn0,hn1,hs4,hver⟩:=pX hok
 refine dp ?_
 refine aU ?_
 refine sP [1,2,4,5,6] [2,4,6] ?_
 refine lV (d:=6) (t:=41) (D:=900) (G:=2900) (E:=114) (e:=1) (L:=(Lw w0.heap.size)) (A:=[]) (B:=[val _]) (es:=(s.ax2).map (aO bc ai)) ak (kd (show 0 < s.ax2.length by omega)) ak ak rfl ak (fun x hx=>hx) bg bg vS ky (ax.map fun x=>(ax.cons (lcl_own (ax.map fun x=>(ax.cons lcl_val (ax.cons (lcl_own (ax.map fun x=>(ax.cons lcl_val ax.nil))) (ax.cons lcl_val (ax.cons lcl_val ax.nil)))))) ax.nil)) fun uu900 cp900 jk900 hlD900 hcp900 hjk900=>?_
 rw [bf] at hlD900 hcp900 hjk900
 refine zps ?_
 refine Xt (d:=900) (t:=116) (e:=4) (G:=6000) (f:=(gG ai)) (g:=(fun v:be=>[val (vI v.Id),sl .v (v.Values.map ar),val (vI v.ayh),val (vI v.ayd)])) (fN:=vn) (xss:=s.ax2) ak ak (fun _ _=>rfl) (fun _=>rfl) (fun _=>(aD (aV (aD (aD aJ.nil))))) (fun _=>bg) fun zss hzss=>?_
 have hzl:=ah4 hzss
 refine zpt ?_
 refine zg ?_
 refine rA ?_ (x:=WI (G:=2900) aj gB)
 refine fK ?_
 refine sP [1,2,4,5,6,19,20,21,2900,6000] [2,4,6,900] ?_
 refine sL [1,2,4,5,6,19,20,2900,6000] [2,4,6] (fun i:Nat=>i≤zss.length) (fun i:Nat=>[(21,RV.int (i:Int))]) (fun i:Nat=>[(900,(114,bU rC (kr zss keep i) jk900))]) (fun i:Nat=>zss.length - i) 0 ab bp bp ?_
 rintro i hi
 have hfl0:=Jn (zss:=zss) (keep:=keep) (k:=i)
 refine cY ?_
 refine sc ?_ ?_<;>intro hbb
 try simp only [bf] at hbb
 have hlz:i < zss.length:=ab
 have hls:i < s.ax2.length:=ab
 have hz2:=ah5 hzss hlz hls
 have hs4i:=hs4 _ (List.getElem_mem hls)
 have hfl:i < (kr zss keep i).length:=by rw [Jn];omega
 have hfg:=ah2 (keep:=keep) hlz hfl
 refine eB ?_
 refine zpv ?_
 refine nH ?_
 refine NL ?_
 refine rS ?_
 refine rA ?_ (x:=vA false [sl .v _])
 refine sS [1,2,4,5,6,7,8,19,20,21,2900,6000] [2,4,6,900] ?_
 refine zpx ?_
 refine dC ?_
 refine sP [1,2,4,5,6,7,8,9,19,20,21,2900,6000] [2,4,6,900] ?_
 refine WY (s:=8) [sl .v (zss[i].map vn)] ak (by exact (by rw [hfg];exact (aD aJ.nil))) ib ?_
 refine sG [1,2,4,5,6,7,8,9,19,20,21,2900,6000] [2,4,6,900] ?_
 refine zK ?_
 refine sP [1,2,4,5,6,7,8,9,19,20,21,27,28,29,2900,6000] [2,4,6,900] ?_
 refine sL [1,2,4,5,6,7,8,19,20,21,27,28,2900,6000] [2,4,6,900] (fun j:Nat=>j≤zss[i].length) (fun j:Nat=>[(9,RV.slc bc ((kW keep (zss[i].take j)).map vn)),(29,RV.int (j:Int))]) (fun j:Nat=>[]) (fun j:Nat=>zss[i].length - j) 0 ab gp an ?_
 rintro j hj
 refine cY ?_
 refine sc ?_ ?_<;>intro hbc
 have hlj:j < zss[i].length:=ab
 have hlj2:j < s.ax2[i].length:=ab
 have hz3:=ah6 hzss hlz hls hlj hlj2
 have hfle:=ah7 (keep:=keep) (zs:=zss[i]) (j:=j)
 refine eB ?_
 refine zpy ?_
 refine QA ?_
 refine zq0 ?_
 refine zq1 ?_
 refine sO [(1,_),(2,_),(4,_),(5,_),(6,_),(7,_),(8,_),(9,_),(11,_),(19,_),(20,_),(21,_),(27,_),(28,_),(29,_),(2900,_),(6000,_)] [(2,_),(4,_),(6,_),(11,(116,wj)),(900,_)] ?_
 refine aY ?_
 refine zq2 ?_
 refine Dc ?_
 refine rA ?_ (x:=yu (qs:=[(true,wj),(false,[sl (.lo _) _])]) (as_:=[(true,jD),(false,[sl .v _])]) aj aqu ip (by exact (aI (aI rfl (aJ.cons (PV.nv_to (sB _)) (aJ.cons (PV.nv_to ut) (aJ.cons (PV.nv_to (sB _)) (aJ.cons (PV.nv_to (sB _)) aJ.nil))))) (aI (aI rfl (aV aJ.nil)) tI))) (by exact asr))
 refine sc ?_ ?_<;>intro hbd
 have hnd:jw s.ax2[i][j] keep=true:=EK
 refine sG [1,2,4,5,6,7,8,9,11,19,20,21,27,28,29,2900,6000] [2,4,6,11,900] ?_
 refine cb ?_
 refine zq3 ?_
 refine NQ ?_
 exact Zh
 have hnd:jw s.ax2[i][j] keep=false:=EK
 refine ba ?_
 exact Zh
 refine bI ?_
 refine zpy ?_
 refine zg ?_
 refine rM ?_
 refine cb ?_
 refine zq6 ?_
 refine sG [1,2,4,5,6,7,8,19,20,21,27,28,29,2900,6000] [2,4,6,900] ?_
 refine dI ?_
 refine nx (i+1) ab (f:=Ve)
 try simp only [bf] at hbb
 have hend:i=zss.length:=ab
 refine fq ?_
 refine zpv ?_
 refine zq7 ?_
 refine sO [(1,_),(2,_),(4,_),(5,_),(6,_),(19,_),(20,_),(21,_),(2900,_)] [(2,_),(4,_),(6,_),(900,(114,bU (aO bc ai) _ _))] ?_
 refine zq8 ?_
 refine zq9 ?_
 refine zqa ?_
 refine zq9 ?_
 refine BD (d:=6) (G:=1006) ak ak (aV (aD aJ.nil)) (aF.cons (bor_sl _) (aF.cons (bor_val _) aF.nil)) fun us hRN=>?_
 obtain ⟨_,_,hRN⟩:=hRN
 obtain ⟨u5_0,u5_1,rfl⟩:=ahh hRN.len
 clear hRN
 refine sO [(1,_),(2,_),(4,_),(5,_),(6,_),(19,_),(20,_),(21,_),(1006,_)] [(2,_),(4,_),(6,(41,Gd))] ?_
 refine cC ?_
 refine zqb ?_
 refine dA 0 ?_ (x:=lD [sl (.lo _) _,val _] hR)
 refine dA 2 ?_ (x:=cL [(true,[sl (.lo _) _,val _])] [(true,eh)] aiL (hs:=by exact (ajz ab)))
 refine zqb ?_
 refine dA 14 ?_ (x:=yu (qs:=[(true,Gd)]) (as_:=[(true,eh)]) aj aiL bS (by exact (aI (aI rfl (aJ.cons (PV.nv_to ut) (aJ.cons (PV.nv_to (sB _)) aJ.nil))) tI)) (by exact (ajz ab)))
 refine dA 30 ?_ (x:=jo)
 refine dA 31 ?_ (x:=bV (ag:=true) (vs:=Gd) hR an ak az)
 refine dA 127 ?_ (x:=sA)
 refine Bu (d:=4) (G:=1006) ak (by exact (Nm.nv (Nm.nv Nm.nil))) ak ?_
 refine cK ?_
 exact (bh 4 (bh _ (aI ak (aI (by refine dh ?_;exact rfl) (aI hR (aI (fun h=>nomatch h) (aI (by refine cX ?_;unfold Jp;rw [if_pos hok]) tI)))))))
def ast{p1 p2:Fl}{s:Store}{keep:List Int}(hb:cg s≤68719476736)(hk0:keep.length≤68719476736):aQ prog 297 [(true,[sl .v (s.ax2.map (aO p1 p2)),val (vI s.Now)]),(false,[sl .v (keep.map ar)])] (aB [(true,[sl bH ((hO s keep).ax2.map (aO bc ai)),val (vI (hO s keep).Now)]),(false,[val (vI (Jq s keep))])]):=by
 refine pm (largs:=fun L=>[(true,[sl (.lo L) (s.ax2.map (aO (.lo L) (.lo L))),val (vI s.Now)]),(false,[sl (.lo L) (keep.map ar)])]) (rs:=[(true,[sl bH ((hO s keep).ax2.map (aO bc ai)),val (vI (hO s keep).Now)]),(false,[val (vI (Jq s keep))])]) func297 rfl (nl rfl) (fun L=>by exact (aI (aI rfl (am.cons (aT (fun _=>nl rfl) (fun _=>(am.cons (aT (fun _=>nl rfl) (fun _=>(am.cons ay (am.cons (aT (fun _=>nl rfl) (fun _=>(am.cons ay am.nil))) (am.cons ay (am.cons ay am.nil)))))) am.nil))) (am.cons ay am.nil))) (aI (aI rfl (am.cons (aT (fun _=>nl rfl) (fun _=>(am.cons ay am.nil))) am.nil)) tI))) (fun L=>by exact lq) ?_
 intro w0 Fz0
 refine sn 0 0 fun hl0_0=>?_
 refine sj 1 fun hl1=>?_
 have hrw:=Rr s keep
 have hal:=vg s
 refine OC ?_
 refine zpn ?_
 refine zqc ?_
 refine oz ?_
 refine zpp ?_
 refine zqd ?_
 refine gx ?_
 refine sc ?_ ?_<;>intro hba
 have hok:cN s=false:=gn
 have hr:=aia (keep:=keep) hok
 refine sS [1,2,4,5,6] [2,4,6] ?_
 refine zM ?_
 exact (bh 4 (bh _ (aI ak (aI (by refine dh ?_;rw [hr];exact rfl) (aI hR (aI (fun h=>nomatch h) (aI (by refine cX ?_;unfold Jq;rw [hok];exact rfl) tI)))))))
 have hok:cN s=true:=gn
 have hst:=Jo (keep:=keep) hok
 obtain ⟨hs8,hs1,hn0,hn1,hs4,hver⟩:=pX hok
 refine dp ?_
 refine sP [1,2,4,5,6] [2,4,6] ?_
 refine lV (d:=6) (t:=41) (D:=900) (G:=2900) (E:=114) (e:=1) (L:=(Lw w0.heap.size)) (A:=[]) (B:=[val _]) (es:=(s.ax2).map (aO bc ai)) ak (kd (show 0 < s.ax2.length by omega)) ak ak rfl ak (fun x hx=>hx) bg bg vS ky (ax.map fun x=>(ax.cons (lcl_own (ax.map fun x=>(ax.cons lcl_val (ax.cons (lcl_own (ax.map fun x=>(ax.cons lcl_val ax.nil))) (ax.cons lcl_val (ax.cons lcl_val ax.nil)))))) ax.nil)) fun uu900 cp900 jk900 hlD900 hcp900 hjk900=>?_
 rw [bf] at hlD900 hcp900 hjk900
 refine zps ?_
 refine Xt (d:=900) (t:=116) (e:=4) (G:=6000) (f:=(gG ai)) (g:=(fun v:be=>[val (vI v.Id),sl .v (v.Values.map ar),val (vI v.ayh),val (vI v.ayd)])) (fN:=vn) (xss:=s.ax2) ak ak (fun _ _=>rfl) (fun _=>rfl) (fun _=>(aD (aV (aD (aD aJ.nil))))) (fun _=>bg) fun zss hzss=>?_
 have hzl:=ah4 hzss
 refine zpt ?_
 refine iv ?_
 refine sS [1,2,4,5,6,7,2900,6000] [2,4,6,900] ?_
 refine cl ?_
 refine sP [1,2,4,5,6,7,8,2900,6000] [2,4,6,900] ?_
 refine sL [1,2,4,5,6,2900,6000] [2,4,6] (fun i:Nat=>i≤zss.length) (fun i:Nat=>[(7,RV.int (lC s keep i 0:Nat)),(8,RV.int (i:Int))]) (fun i:Nat=>[(900,(114,bU rC (kr zss keep i) jk900))]) (fun i:Nat=>zss.length - i) 0 ab (by exact aI (by exact cX (by rw [apg];rfl)) (aI ak tI)) bp ?_
 rintro i hi
 have hfl0:=Jn (zss:=zss) (keep:=keep) (k:=i)
 refine cP ?_
 refine Cs ?_
 refine rA ?_ (x:=lN gB)
 refine dQ ?_
 refine sc ?_ ?_<;>intro hbb
 try simp only [bf] at hbb
 have hlz:i < zss.length:=ab
 have hls:i < s.ax2.length:=ab
 have hz2:=ah5 hzss hlz hls
 have hs4i:=hs4 _ (List.getElem_mem hls)
 have hfl:i < (kr zss keep i).length:=by rw [Jn];omega
 have hfg:=ah2 (keep:=keep) hlz hfl
 refine eB ?_
 refine zqf ?_
 refine aY ?_
 refine zG ?_
 refine sS [1,2,4,5,6,7,8,9,2900,6000] [2,4,6,900] ?_
 refine cl ?_
 refine sP [1,2,4,5,6,7,8,9,10,2900,6000] [2,4,6,900] ?_
 refine sL [1,2,4,5,6,8,2900,6000] [2,4,6,900] (fun j:Nat=>j≤zss[i].length) (fun j:Nat=>[(7,RV.int (lC s keep i j:Nat)),(9,RV.slc bc ((kW keep (zss[i].take j)).map vn)),(10,RV.int (j:Int))]) (fun j:Nat=>[]) (fun j:Nat=>zss[i].length - j) 0 ab ui an ?_
 rintro j hj
 have hcd:=aph (keep:=keep) (j:=j) hls
 refine cP ?_
 refine zg ?_
 refine rM ?_
 refine NL ?_
 refine Qi ?_
 refine sc ?_ ?_<;>intro hbc
 try rw [hfg] at hbc
 have hlj:j < zss[i].length:=ab
 have hlj2:j < s.ax2[i].length:=ab
 have hz3:=ah6 hzss hlz hls hlj hlj2
 have hfle:=ah7 (keep:=keep) (zs:=zss[i]) (j:=j)
 have hvz:=List.getElem_of_eq hfg (show j < ((kr zss keep i)[i]'hfl).length by rw [hfg];exact hlj)
 refine eB ?_
 refine zqh ?_
 refine zg ?_
 refine rM ?_
 refine NL ?_
 refine rM ?_
 refine rA ?_ (x:=aZ aj dq an ak (by exact fX (by rw [hfg];omega) rfl) ak)
 refine zq0 ?_
 refine zq1 ?_
 refine sO [(1,_),(2,_),(4,_),(5,_),(6,_),(7,_),(8,_),(9,_),(10,_),(11,_),(2900,_),(6000,_)] [(2,_),(4,_),(6,_),(11,(116,wj)),(900,_)] ?_
 refine eg (d:=11) ak (congrArg vn hvz) ?_
 refine sG [1,2,4,5,6,7,8,9,10,11,2900,6000] [2,4,6,11,900] ?_
 refine rA ?_ (x:=lF ku)
 refine zqi ?_
 refine iu ?_
 refine aU ?_
 refine sS [1,2,4,5,6,7,8,9,10,11,12,2900,6000] [2,4,6,11,900] ?_
 refine cl ?_
 refine sP [1,2,4,5,6,7,8,9,10,11,12,13,2900,6000] [2,4,6,11,900] ?_
 refine sL [1,2,4,5,6,7,8,9,10,11,2900,6000] [2,4,6,11,900] (fun m:Nat=>m≤keep.length) (fun m:Nat=>[(12,RV.bool (tO zss[i][j].1 keep m)),(13,RV.int (m:Int))]) (fun m:Nat=>[]) (fun m:Nat=>keep.length - m) 0 ab (by exact aI (by first|exact rfl|exact eG (by unfold tO;simp;rfl)) (aI ak tI)) an ?_
 rintro m hm
 refine cP ?_
 refine Dc ?_
 refine rA ?_ (x:=lN cn)
 refine dQ ?_
 refine sc ?_ ?_<;>intro hbd
 have hlm:m < keep.length:=ab
 refine bv ?_
 refine zqj ?_
 refine zk ?_
 refine dA 1 ?_ (x:=sM)
 refine dx 56 ?_ ?_<;>intro ga sga
 have hg:tO zss[i][j].1 keep m=true:=by simpa using ga
 have sga:=ga
 try simp only [qq] at sga
 refine dT 3 ga ?_
 refine dT 3 ga ?_
 refine dT 3 ga ?_
 refine dT 27 ga ?_
 refine dT 59 ga ?_
 refine dT 127 ga ?_
 refine dA 255 ?_ (x:=bj ga)
 exact Zi
 have hg:tO zss[i][j].1 keep m=false:=by simpa using ga
 have sga:=ga
 try simp only [qq] at sga
 refine dB 3 ga ?_ (x:=jB (qs:=Mn) aj mn (fun h=>nomatch h) az EE bg)
 refine dB 3 ga ?_ (x:=vM false [sl (.lo _) _])
 refine dB 3 ga ?_ (x:=sM)
 refine dB 27 ga ?_ (x:=aZ aj cn an ak bE ak)
 refine dB 59 ga ?_ (x:=lE [val _] bb)
 refine dB 127 ga ?_ (x:=yu (qs:=[(true,wj),(false,[val _])]) (as_:=[(true,jD),(false,[val _])]) aj aiG ip (by exact (aI (aI rfl (aJ.cons (PV.nv_to (sB _)) (aJ.cons (PV.nv_to ut) (aJ.cons (PV.nv_to (sB _)) (aJ.cons (PV.nv_to (sB _)) aJ.nil))))) (aI (aI rfl (aD aJ.nil)) tI))) (by exact aje))
 refine dA 255 ?_ (x:=aR ga)
 exact Zi
 have hme:m=keep.length:=ab
 refine fq ?_
 refine zqj ?_
 refine nH ?_
 refine sc ?_ ?_<;>intro hbe
 have hnd:jw s.ax2[i][j] keep=true:=UD
 refine sG [1,2,4,5,6,7,8,9,10,11,12,13,2900,6000] [2,4,6,11,900] ?_
 refine cb ?_
 refine zq3 ?_
 refine NQ ?_
 exact Zj
 have hnd:jw s.ax2[i][j] keep=false:=UD
 refine Pc ?_
 exact Zj
 try rw [hfg] at hbc
 refine bI ?_
 refine zqh ?_
 refine zg ?_
 refine rM ?_
 refine cb ?_
 refine zq6 ?_
 refine sG [1,2,4,5,6,7,8,10,2900,6000] [2,4,6,900] ?_
 refine cB ?_
 refine nx (i+1) ab (e:=(by exact aI (by exact cX (by rw [show j=s.ax2[i].length by omega,apf hls])) (aI jj tI))) (f:=Ve)
 try simp only [bf] at hbb
 have hend:i=zss.length:=ab
 refine fq ?_
 refine zqf ?_
 refine zq7 ?_
 refine sO [(1,_),(2,_),(4,_),(5,_),(6,_),(7,_),(8,_),(2900,_)] [(2,_),(4,_),(6,_),(900,(114,bU (aO bc ai) _ _))] ?_
 refine zq8 ?_
 refine zqn ?_
 refine zqa ?_
 refine zqn ?_
 refine aY ?_
 refine IM ?_
 refine rM ?_
 refine Dg ?_
 refine db ?_
 exact (bh 4 (bh _ (aI ak (aI (by refine dh ?_;exact rfl) (aI hR (aI (fun h=>nomatch h) (aI (by refine cX ?_;unfold Jq;rw [if_pos hok,←hzl,←hend]) tI)))))))
end Go.Proofs.YtmekkgdboplbjaaGreatDoor
