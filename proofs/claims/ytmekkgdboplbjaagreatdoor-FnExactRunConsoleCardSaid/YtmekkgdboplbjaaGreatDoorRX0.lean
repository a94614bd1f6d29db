/- What functions of the program compute. No condition. -/
import Derived.Test.YtmekkgdboplbjaaGreatDoorRT0
set_option linter.all false
namespace Go.Proofs.YtmekkgdboplbjaaGreatDoor
open Go Go.RowKit M PV Tryz
set_option maxRecDepth 10000
attribute [local irreducible] PV.Lcl PV.LclR RV.Lcl
variable{keep:List Int}
def awM{v:bb}:aE prog 284 [(true,[val (vI v.Id),sl .v (v.Values.map ar),val (vI v.aDk),val (vI v.aDg)]),(false,[sl .v (keep.map ar)])] (aA [(false,[val (.bool (jz v keep))])]):=by
 refine sF func284 fun h0 w0 Fz0=>?_
 refine sn 0 1 fun hl0_1=>?_
 refine sj 1 fun hl1=>?_
 refine Dg ?_
 refine DM ?_
 refine Av ?_
 refine sP [1,2,4,7,8,9] [2] ?_
 refine sL [1,2,7,8] [2] (fun k:Nat=>k≤keep.length∧(keep.take k).any (gp v)=false) (fun k:Nat=>[(9,RV.int (k:Int))]) (fun k:Nat=>[]) (fun k:Nat=>keep.length - k) 0 jp bu ao ?_
 rintro k ⟨hk,ha⟩
 refine bP ?_
 refine sc ?_ ?_<;>intro hba
 have hlt:k < keep.length:=ab
 refine aY ?_
 refine sT [1,2,7,8,9] [2] ?_
 refine rI ?_
 refine sS [1,2,6,7,8,9] [2] ?_
 refine Ee ?_
 refine zsb ?_
 refine sc ?_ ?_<;>intro hbb
 have hv:gp v keep[k]=true:=gy
 refine sS [1,2,6,7,8,9] [2] ?_
 refine cn ?_
 exact rb ((asV hlt hv).symm)
 have hvf:gp v keep[k]=false:=gy
 refine aK ?_
 refine sG [1,2,6,7,8,9] [2] ?_
 refine cc ?_
 refine nx (k+1) (by exact ⟨ab,AS ha hlt hvf⟩)
 refine be ?_
 refine sT [1,2,7,8,9] [2] ?_
 refine IP ?_
 refine mu ?_
 refine cP ?_
 exact rb (by (have hn:=asW (v:=v) (akH (by rw [show keep.length=k by omega];exact ha));rw [hn];first|rfl|simp))
def awN{p1 p2:Fl}{s:Store}(hb:da s≤68719476736)(hk0:keep.length≤68719476736):aE prog 247 [(true,[sl .v (s.aC5.map (aG p1 p2)),val (vI s.Now)]),(false,[sl .v (keep.map ar)])] (aA [(true,[sl bH ((ig s keep).aC5.map (aG bc ai)),val (vI (ig s keep).Now)]),(false,[val (vI (KA s keep))])]):=by
 refine oZ (largs:=fun L=>[(true,[sl (.lo L) (s.aC5.map (aG (.lo L) (.lo L))),val (vI s.Now)]),(false,[sl (.lo L) (keep.map ar)])]) (rs:=[(true,[sl bH ((ig s keep).aC5.map (aG bc ai)),val (vI (ig s keep).Now)]),(false,[val (vI (KA s keep))])]) func247 rfl (nl rfl) (fun L=>by exact (aI (aI rfl (am.cons (aT (fun _=>nl rfl) (fun _=>(am.cons (aT (fun _=>nl rfl) (fun _=>(am.cons ax (am.cons (aT (fun _=>nl rfl) (fun _=>(am.cons ax am.nil))) (am.cons ax (am.cons ax am.nil)))))) am.nil))) (am.cons ax am.nil))) (aI (aI rfl (am.cons (aT (fun _=>nl rfl) (fun _=>(am.cons ax am.nil))) am.nil)) tI))) (fun L=>by exact lq) ?_
 intro w0 Fz0
 refine sn 0 0 fun hl0_0=>?_
 refine sj 1 fun hl1=>?_
 have hrw:=SY s keep
 have hal:=qr s
 have hal2:=qr (ig s keep)
 have hcv:lQ s=(bQ s).length:=rfl
 have hcv2:lQ (ig s keep)=(bQ (ig s keep)).length:=rfl
 refine IC ?_
 refine vT ?_
 refine Jr ?_
 refine Qf ?_
 refine vG ?_
 refine xW ?_
 refine zsh ?_
 refine eZ ?_
 refine sc ?_ ?_<;>intro hba
 have hok:cy s=false:=cR
 have hr:=alK (keep:=keep) hok
 refine Eh ?_
 refine xH ?_
 exact (bi 4 (bi _ (aI aj (aI (by refine dS ?_;rw [hr];exact rfl) (aI iH (aI (fun h=>nomatch h) (aI (by refine cW ?_;unfold KA;rw [hok];exact rfl) tI)))))))
 have hok:cy s=true:=cR
 have hst:=Kz (keep:=keep) hok
 obtain ⟨hs8,hs1,hn0,hn1,hs4,hver⟩:=iE hok
 refine cg ?_
 refine bg ?_
 refine sP [1,2,4,5,6] [2,4,6] ?_
 refine mn (d:=6) (t:=41) (D:=900) (G:=2900) (E:=114) (e:=1) (L:=(Lw w0.heap.size)) (A:=[]) (B:=[val _]) (es:=(s.aC5).map (aG bc ai)) aj (kh (show 0 < s.aC5.length by omega)) aj aj rfl aj (fun x hx=>hx) aQ aQ wM kE (aw.map fun x=>(aw.cons (lcl_own (aw.map fun x=>(aw.cons lcl_val (aw.cons (lcl_own (aw.map fun x=>(aw.cons lcl_val aw.nil))) (aw.cons lcl_val (aw.cons lcl_val aw.nil)))))) aw.nil)) fun uu900 cp900 jk900 hlD900 hcp900 hjk900=>?_
 rw [aX] at hlD900 hcp900 hjk900
 refine zsk ?_
 refine ZG (d:=900) (t:=116) (e:=4) (G:=6000) (f:=(ia ai)) (g:=(fun v:bb=>[val (vI v.Id),sl .v (v.Values.map ar),val (vI v.aDk),val (vI v.aDg)])) (fN:=wv) (xss:=s.aC5) aj aj (fun _ _=>rfl) (fun _=>rfl) (fun _=>(aB (bf (aB (aB az.nil))))) (fun _=>aQ) fun zss hzss=>?_
 have hzl:=alE hzss
 refine zsl ?_
 refine zX ?_
 refine rA ?_ (x:=YI (G:=2900) ak gG)
 refine dm ?_
 refine sP [1,2,4,5,6,19,20,21,2900,6000] [2,4,6,900] ?_
 refine sL [1,2,4,5,6,19,20,2900,6000] [2,4,6] (fun i:Nat=>i≤zss.length) (fun i:Nat=>[(21,RV.int (i:Int))]) (fun i:Nat=>[(900,(114,bW sg (kw zss keep i) jk900))]) (fun i:Nat=>zss.length - i) 0 ab bu bu ?_
 rintro i hi
 have hfl0:=Ky (zss:=zss) (keep:=keep) (k:=i)
 refine bP ?_
 refine sc ?_ ?_<;>intro hbb
 try simp only [aX] at hbb
 have hlz:i < zss.length:=ab
 have hls:i < s.aC5.length:=ab
 have hz2:=alF hzss hlz hls
 have hs4i:=hs4 _ (List.getElem_mem hls)
 have hfl:i < (kw zss keep i).length:=by rw [Ky];omega
 have hfg:=alC (keep:=keep) hlz hfl
 refine fT ?_
 refine zsn ?_
 refine fh ?_
 refine rM ?_
 refine PF ?_
 refine rS ?_
 refine ox ?_
 refine sS [1,2,4,5,6,7,8,19,20,21,2900,6000] [2,4,6,900] ?_
 refine xj ?_
 refine bg ?_
 refine sP [1,2,4,5,6,7,8,9,19,20,21,2900,6000] [2,4,6,900] ?_
 refine xd (s:=8) [sl .v (zss[i].map wv)] aj (by exact (by rw [hfg];exact (aB az.nil))) fp ?_
 refine sG [1,2,4,5,6,7,8,9,19,20,21,2900,6000] [2,4,6,900] ?_
 refine Ax ?_
 refine sP [1,2,4,5,6,7,8,9,19,20,21,27,28,29,2900,6000] [2,4,6,900] ?_
 refine sL [1,2,4,5,6,7,8,19,20,21,27,28,2900,6000] [2,4,6,900] (fun j:Nat=>j≤zss[i].length) (fun j:Nat=>[(9,RV.slc bc ((kZ keep (zss[i].take j)).map wv)),(29,RV.int (j:Int))]) (fun j:Nat=>[]) (fun j:Nat=>zss[i].length - j) 0 ab ej ao ?_
 rintro j hj
 refine bP ?_
 refine sc ?_ ?_<;>intro hbc
 have hlj:j < zss[i].length:=ab
 have hlj2:j < s.aC5[i].length:=ab
 have hz3:=alG hzss hlz hls hlj hlj2
 have hfle:=alH (keep:=keep) (zs:=zss[i]) (j:=j)
 refine fT ?_
 refine zsp ?_
 refine RP ?_
 refine zsr ?_
 refine ahK ?_
 refine sO [(1,_),(2,_),(4,_),(5,_),(6,_),(7,_),(8,_),(9,_),(11,_),(19,_),(20,_),(21,_),(27,_),(28,_),(29,_),(2900,_),(6000,_)] [(2,_),(4,_),(6,_),(11,(116,xb)),(900,_)] ?_
 refine fh ?_
 refine zst ?_
 refine xP ?_
 refine rA ?_ (x:=ta (qs:=[(true,xb),(false,[sl (.lo _) _])]) (as_:=[(true,pc),(false,[sl .v _])]) ak aux iY (by exact (aI (aI rfl (az.cons (PV.nv_to (uR _)) (az.cons (PV.nv_to uX) (az.cons (PV.nv_to (uR _)) (az.cons (PV.nv_to (uR _)) az.nil))))) (aI (aI rfl (bf az.nil)) tI))) (by exact awM))
 refine sc ?_ ?_<;>intro hbd
 have hnd:jz s.aC5[i][j] keep=true:=FX
 refine sG [1,2,4,5,6,7,8,9,11,19,20,21,27,28,29,2900,6000] [2,4,6,11,900] ?_
 refine bL ?_
 refine zsu ?_
 refine PN ?_
 exact zsw
 have hnd:jz s.aC5[i][j] keep=false:=FX
 refine aK ?_
 exact zsw
 refine be ?_
 refine zsp ?_
 refine zX ?_
 refine rM ?_
 refine bL ?_
 refine zsx ?_
 refine sG [1,2,4,5,6,7,8,19,20,21,27,28,29,2900,6000] [2,4,6,900] ?_
 refine cc ?_
 refine nx (i+1) ab (f:=WS)
 try simp only [aX] at hbb
 have hend:i=zss.length:=ab
 refine gk ?_
 refine zsn ?_
 refine zsy ?_
 refine sO [(1,_),(2,_),(4,_),(5,_),(6,_),(19,_),(20,_),(21,_),(2900,_)] [(2,_),(4,_),(6,_),(900,(114,bW (aG bc ai) _ _))] ?_
 refine zsz ?_
 refine sU [1,2,4,5,6,19,20,21] [2,4] [6] ?_
 refine zt0 ?_
 refine sU [1,2,4,5,6,19,20,21] [2,4] [6] ?_
 refine Hk (d:=6) (G:=1006) aj aj (bf (aB az.nil)) aQ fun us hRN=>?_
 obtain ⟨_,_,hRN⟩:=hRN
 obtain ⟨u5_0,u5_1,rfl⟩:=arD hRN.len
 clear hRN
 refine sO [(1,_),(2,_),(4,_),(5,_),(6,_),(19,_),(20,_),(21,_),(1006,_)] [(2,_),(4,_),(6,(41,NJ))] ?_
 refine cJ ?_
 refine zt1 ?_
 refine dA 0 ?_ (x:=lD [sl (.lo _) _,val _] iH)
 refine dA 2 ?_ (x:=cL [(true,[sl (.lo _) _,val _])] lA Tr (hs:=MD))
 refine zt1 ?_
 refine dA 14 ?_ (x:=ta (qs:=[(true,NJ)]) (as_:=lA) ak Tr cN (by exact (aI (aI rfl (az.cons (PV.nv_to uX) (az.cons (PV.nv_to (uR _)) az.nil))) tI)) MD)
 refine dA 30 ?_ (x:=hP)
 refine dA 31 ?_ (x:=bR (ag:=true) (vs:=NJ) iH ao aj ay)
 refine dA 127 ?_ (x:=sA)
 refine Yp (d:=4) (G:=1006) aj (by exact (Nm.nv (Nm.nv Nm.nil))) aj ?_
 refine cP ?_
 exact (bi 4 (bi _ (aI aj (aI (by refine dS ?_;exact rfl) (aI iH (aI (fun h=>nomatch h) (aI (by refine cW ?_;unfold KA;rw [if_pos hok]) tI)))))))
def awO{p1 p2:Fl}{s:Store}(hb:da s≤68719476736)(hk0:keep.length≤68719476736):aE prog 297 [(true,[sl .v (s.aC5.map (aG p1 p2)),val (vI s.Now)]),(false,[sl .v (keep.map ar)])] (aA [(true,[sl bH ((ig s keep).aC5.map (aG bc ai)),val (vI (ig s keep).Now)]),(false,[val (vI (KB s keep))])]):=by
 refine oZ (largs:=fun L=>[(true,[sl (.lo L) (s.aC5.map (aG (.lo L) (.lo L))),val (vI s.Now)]),(false,[sl (.lo L) (keep.map ar)])]) (rs:=[(true,[sl bH ((ig s keep).aC5.map (aG bc ai)),val (vI (ig s keep).Now)]),(false,[val (vI (KB s keep))])]) func297 rfl (nl rfl) (fun L=>by exact (aI (aI rfl (am.cons (aT (fun _=>nl rfl) (fun _=>(am.cons (aT (fun _=>nl rfl) (fun _=>(am.cons ax (am.cons (aT (fun _=>nl rfl) (fun _=>(am.cons ax am.nil))) (am.cons ax (am.cons ax am.nil)))))) am.nil))) (am.cons ax am.nil))) (aI (aI rfl (am.cons (aT (fun _=>nl rfl) (fun _=>(am.cons ax am.nil))) am.nil)) tI))) (fun L=>by exact lq) ?_
 intro w0 Fz0
 refine sn 0 0 fun hl0_0=>?_
 refine sj 1 fun hl1=>?_
 have hrw:=SY s keep
 have hal:=qr s
 refine IC ?_
 refine vT ?_
 refine Jr ?_
 refine zt2 ?_
 refine vG ?_
 refine xW ?_
 refine zt3 ?_
 refine eZ ?_
 refine sc ?_ ?_<;>intro hba
 have hok:cy s=false:=cR
 have hr:=alK (keep:=keep) hok
 refine Eh ?_
 refine xH ?_
 exact (bi 4 (bi _ (aI aj (aI (by refine dS ?_;rw [hr];exact rfl) (aI iH (aI (fun h=>nomatch h) (aI (by refine cW ?_;unfold KB;rw [hok];exact rfl) tI)))))))
 have hok:cy s=true:=cR
 have hst:=Kz (keep:=keep) hok
 obtain ⟨hs8,hs1,hn0,hn1,hs4,hver⟩:=iE hok
 refine cg ?_
 refine sP [1,2,4,5,6] [2,4,6] ?_
 refine mn (d:=6) (t:=41) (D:=900) (G:=2900) (E:=114) (e:=1) (L:=(Lw w0.heap.size)) (A:=[]) (B:=[val _]) (es:=(s.aC5).map (aG bc ai)) aj (kh (show 0 < s.aC5.length by omega)) aj aj rfl aj (fun x hx=>hx) aQ aQ wM kE (aw.map fun x=>(aw.cons (lcl_own (aw.map fun x=>(aw.cons lcl_val (aw.cons (lcl_own (aw.map fun x=>(aw.cons lcl_val aw.nil))) (aw.cons lcl_val (aw.cons lcl_val aw.nil)))))) aw.nil)) fun uu900 cp900 jk900 hlD900 hcp900 hjk900=>?_
 rw [aX] at hlD900 hcp900 hjk900
 refine zsk ?_
 refine ZG (d:=900) (t:=116) (e:=4) (G:=6000) (f:=(ia ai)) (g:=(fun v:bb=>[val (vI v.Id),sl .v (v.Values.map ar),val (vI v.aDk),val (vI v.aDg)])) (fN:=wv) (xss:=s.aC5) aj aj (fun _ _=>rfl) (fun _=>rfl) (fun _=>(aB (bf (aB (aB az.nil))))) (fun _=>aQ) fun zss hzss=>?_
 have hzl:=alE hzss
 refine zsl ?_
 refine dp ?_
 refine sS [1,2,4,5,6,7,2900,6000] [2,4,6,900] ?_
 refine cm ?_
 refine sP [1,2,4,5,6,7,8,2900,6000] [2,4,6,900] ?_
 refine sL [1,2,4,5,6,2900,6000] [2,4,6] (fun i:Nat=>i≤zss.length) (fun i:Nat=>[(7,RV.int (lR s keep i 0:Nat)),(8,RV.int (i:Int))]) (fun i:Nat=>[(900,(114,bW sg (kw zss keep i) jk900))]) (fun i:Nat=>zss.length - i) 0 ab (by exact aI (by exact cW (by rw [as9];rfl)) (aI aj tI)) bu ?_
 rintro i hi
 have hfl0:=Ky (zss:=zss) (keep:=keep) (k:=i)
 refine bI ?_
 refine Dq ?_
 refine rA ?_ (x:=lN gG)
 refine dC ?_
 refine sc ?_ ?_<;>intro hbb
 try simp only [aX] at hbb
 have hlz:i < zss.length:=ab
 have hls:i < s.aC5.length:=ab
 have hz2:=alF hzss hlz hls
 have hs4i:=hs4 _ (List.getElem_mem hls)
 have hfl:i < (kw zss keep i).length:=by rw [Ky];omega
 have hfg:=alC (keep:=keep) hlz hfl
 refine fT ?_
 refine zt5 ?_
 refine fh ?_
 refine xj ?_
 refine sS [1,2,4,5,6,7,8,9,2900,6000] [2,4,6,900] ?_
 refine cm ?_
 refine sP [1,2,4,5,6,7,8,9,10,2900,6000] [2,4,6,900] ?_
 refine sL [1,2,4,5,6,8,2900,6000] [2,4,6,900] (fun j:Nat=>j≤zss[i].length) (fun j:Nat=>[(7,RV.int (lR s keep i j:Nat)),(9,RV.slc bc ((kZ keep (zss[i].take j)).map wv)),(10,RV.int (j:Int))]) (fun j:Nat=>[]) (fun j:Nat=>zss[i].length - j) 0 ab qW ao ?_
 rintro j hj
 have hcd:=ata (keep:=keep) (j:=j) hls
 refine bI ?_
 refine zX ?_
 refine rM ?_
 refine PF ?_
 refine Du ?_
 refine sc ?_ ?_<;>intro hbc
 try rw [hfg] at hbc
 have hlj:j < zss[i].length:=ab
 have hlj2:j < s.aC5[i].length:=ab
 have hz3:=alG hzss hlz hls hlj hlj2
 have hfle:=alH (keep:=keep) (zs:=zss[i]) (j:=j)
 have hvz:=List.getElem_of_eq hfg (show j < ((kw zss keep i)[i]'hfl).length by rw [hfg];exact hlj)
 refine fT ?_
 refine zt7 ?_
 refine zX ?_
 refine rM ?_
 refine PF ?_
 refine rM ?_
 refine rA ?_ (x:=aS ak fz ao aj (by exact eQ (by rw [hfg];omega) rfl) aj)
 refine zsr ?_
 refine ahK ?_
 refine sO [(1,_),(2,_),(4,_),(5,_),(6,_),(7,_),(8,_),(9,_),(10,_),(11,_),(2900,_),(6000,_)] [(2,_),(4,_),(6,_),(11,(116,xb)),(900,_)] ?_
 refine eI (d:=11) aj (congrArg wv hvz) ?_
 refine sG [1,2,4,5,6,7,8,9,10,11,2900,6000] [2,4,6,11,900] ?_
 refine rA ?_ (x:=lF la)
 refine zt8 ?_
 refine mu ?_
 refine bg ?_
 refine sS [1,2,4,5,6,7,8,9,10,11,12,2900,6000] [2,4,6,11,900] ?_
 refine cm ?_
 refine sP [1,2,4,5,6,7,8,9,10,11,12,13,2900,6000] [2,4,6,11,900] ?_
 refine sL [1,2,4,5,6,7,8,9,10,11,2900,6000] [2,4,6,11,900] (fun m:Nat=>m≤keep.length) (fun m:Nat=>[(12,RV.bool (um zss[i][j].1 keep m)),(13,RV.int (m:Int))]) (fun m:Nat=>[]) (fun m:Nat=>keep.length - m) 0 ab (by exact aI (by first|exact rfl|exact dQ (by unfold um;simp;rfl)) (aI aj tI)) ao ?_
 rintro m hm
 refine bI ?_
 refine xP ?_
 refine rA ?_ (x:=lN bY)
 refine dC ?_
 refine sc ?_ ?_<;>intro hbd
 have hlm:m < keep.length:=ab
 refine aY ?_
 refine zt9 ?_
 refine xu ?_
 refine dA 1 ?_ (x:=sM)
 refine dx 56 ?_ ?_<;>intro ga sga
 have hg:um zss[i][j].1 keep m=true:=by simpa using ga
 have sga:=ga
 try simp only [qq] at sga
 refine dT 3 ga ?_
 refine dT 3 ga ?_
 refine dT 3 ga ?_
 refine dT 27 ga ?_
 refine dT 59 ga ?_
 refine dT 127 ga ?_
 refine dA 255 ?_ (x:=cd ga)
 exact zta
 have hg:um zss[i][j].1 keep m=false:=by simpa using ga
 have sga:=ga
 try simp only [qq] at sga
 refine dB 3 ga ?_ (x:=mi (qs:=NI) ak lV (fun h=>nomatch h) ay FS aQ)
 refine dB 3 ga ?_ (x:=vM false [sl (.lo _) _])
 refine dB 3 ga ?_ (x:=sM)
 refine dB 27 ga ?_ (x:=aS ak bY ao aj bD aj)
 refine dB 59 ga ?_ (x:=lE [val _] aV)
 refine dB 127 ga ?_ (x:=ta (qs:=[(true,xb),(false,[val _])]) (as_:=Cj) ak al6 iY (by exact (aI (aI rfl (az.cons (PV.nv_to (uR _)) (az.cons (PV.nv_to uX) (az.cons (PV.nv_to (uR _)) (az.cons (PV.nv_to (uR _)) az.nil))))) (aI (aI rfl (aB az.nil)) tI))) (by exact amt))
 refine dA 255 ?_ (x:=bF ga)
 exact zta
 have hme:m=keep.length:=ab
 refine gk ?_
 refine zt9 ?_
 refine fh ?_
 refine rM ?_
 refine sc ?_ ?_<;>intro hbe
 have hnd:jz s.aC5[i][j] keep=true:=Xj
 refine sG [1,2,4,5,6,7,8,9,10,11,12,13,2900,6000] [2,4,6,11,900] ?_
 refine bL ?_
 refine zsu ?_
 refine PN ?_
 exact ztb
 have hnd:jz s.aC5[i][j] keep=false:=Xj
 refine QG ?_
 exact ztb
 try rw [hfg] at hbc
 refine be ?_
 refine zt7 ?_
 refine zX ?_
 refine rM ?_
 refine bL ?_
 refine zsx ?_
 refine sG [1,2,4,5,6,7,8,10,2900,6000] [2,4,6,900] ?_
 refine bO ?_
 refine nx (i+1) ab (e:=(by exact aI (by exact cW (by rw [show j=s.aC5[i].length by omega,as8 hls])) (aI na tI))) (f:=WS)
 try simp only [aX] at hbb
 have hend:i=zss.length:=ab
 refine gk ?_
 refine zt5 ?_
 refine zsy ?_
 refine sO [(1,_),(2,_),(4,_),(5,_),(6,_),(7,_),(8,_),(2900,_)] [(2,_),(4,_),(6,_),(900,(114,bW (aG bc ai) _ _))] ?_
 refine zsz ?_
 refine sU [1,2,4,5,6,7,8] [2,4] [6] ?_
 refine zt0 ?_
 refine sW [1,2,4,5,6,7,8] [2,4] [6] ?_
 refine Ei ?_
 refine rM ?_
 refine Ej ?_
 refine dI ?_
 exact (bi 4 (bi _ (aI aj (aI (by refine dS ?_;exact rfl) (aI iH (aI (fun h=>nomatch h) (aI (by refine cW ?_;unfold KB;rw [if_pos hok,←hzl,←hend]) tI)))))))
end Go.Proofs.YtmekkgdboplbjaaGreatDoor
