/- What functions of the program compute. No condition. -/
import Derived.Test.YtmekkgdboplbjaaGreatDoorDX0
set_option linter.all false
namespace Go.Proofs.YtmekkgdboplbjaaGreatDoor
open Go Go.RowKit M PV Tryz
set_option maxRecDepth 10000
attribute [local irreducible] PV.Lcl PV.LclR RV.Lcl
def XF{l:List Int}{x:Int}(hb:l.length≤68719476736):aS prog 252 [(false,[sl .v (l.map ax)]),(false,[val (vI x)])] (aJ [(false,[sl ak ((fl l x).map ax)])]):=by
 refine sF func252 fun h0 w0 Fz0=>?_
 refine sj 0 fun hl0=>?_
 refine BY ?_
 refine sS [0,1,4] [] ?_
 refine uD ?_
 refine aU ?_
 refine sS [0,1,4,5] [] ?_
 refine sB ?_
 refine sP [0,1,4,5,9,10,11] [] ?_
 refine sL [0,1,4,9,10] [] (fun k:Nat=>k≤l.length) (fun k:Nat=>[(5,RV.slc ak ((fl (l.take k) x).map ax)),(11,RV.int (k:Int))]) (fun k:Nat=>[]) (fun k:Nat=>l.length - k) 0 ab jm au ?_
 rintro k hk
 refine bO ?_
 refine sc ?_ ?_<;>intro hba
 have hlt:k < l.length:=ab
 have hwl:=Nt (l.take k) x
 rw [cu] at hwl
 refine bA ?_
 refine sS [0,1,4,5,9,10,11] [] ?_
 refine oL ?_
 refine sS [0,1,4,5,7,9,10,11] [] ?_
 refine fv ?_
 refine rA ?_ (x:=lm)
 refine sc ?_ ?_<;>intro hbb
 have hne:¬l[k]=x:=hbb
 refine sG [0,1,4,5,7,9,10,11] [] ?_
 refine bW ?_
 refine rM ?_
 refine uT ?_
 exact IR
 have hne:l[k]=x:=by first|exact hbb|(simp_all;done)|omega
 refine bd ?_
 exact IR
 have hend:k=l.length:=ab
 refine bv ?_
 refine sS [0,1,4,5,9,10,11] [] ?_
 exact xi
def XG{p1 p2:Fl}{s:Store}{i:Int}{t:Int}(hb:eQ s≤68719476736)(hi0:0≤i)(hi2:i.toNat < s.ac7.length):aS prog 250 [(true,[sl .v (s.ac7.map (be p1 p2)),val (vI s.Now)]),(false,[val (vI i)]),(false,[val (vI t)])] (aJ [(false,[sl bc ((bD (s.ac7.getD i.toNat []) t).map (cg ak))])]):=by
 refine sF func250 fun h0 w0 Fz0=>?_
 refine sn 0 0 fun hl0_0=>?_
 have hgd:=oR (d:=([]:List aM)) hi2
 have hws:=gw (f:=dS) hi2
 rw [hgd] at hws
 have hws2:dS (s.ac7.getD i.toNat [])=(s.ac7.getD i.toNat []).length+((s.ac7.getD i.toNat []).map eP).sum:=rfl
 have hbu:=hb
 simp only [eQ,kb,aX] at hbu
 refine rZ ?_
 refine CG ?_
 refine sT [1,2,3,6] [3] ?_
 refine uC ?_
 refine aU ?_
 refine sS [1,2,3,6,7] [3] ?_
 refine rA ?_ (x:=lF nQ)
 refine rA ?_ (x:=lD [sl .v _] nU)
 refine rM ?_
 refine rA ?_ (x:=bT (k:=i.toNat) ae iN au ab (by exact iu hi2 (by rw [oR (d:=([]:List aM)) hi2])) aj)
 refine rA ?_ (x:=lE [sl .v _] nS)
 refine rA ?_ (x:=lN iM)
 refine dM ?_
 refine sP [1,2,3,6,7,15,16,17] [3] ?_
 refine sL [1,2,3,6,15,16] [3] (fun k:Nat=>k≤(s.ac7.getD i.toNat []).length) (fun k:Nat=>[(7,RV.slc bc ((bD ((s.ac7.getD i.toNat []).take k) t).map (cg ak))),(17,RV.int (k:Int))]) (fun k:Nat=>[]) (fun k:Nat=>(s.ac7.getD i.toNat []).length - k) 0 ab jm au ?_
 rintro k hk
 refine bO ?_
 refine sc ?_ ?_<;>intro hba
 have hlt:k < (s.ac7.getD i.toNat []).length:=ab
 have hwm2:=gw (f:=eP) hlt
 have hvl:=yI ((s.ac7.getD i.toNat []).take k) t
 rw [cu] at hvl
 refine bA ?_
 refine sT [1,2,3,6,7,15,16,17] [3] ?_
 refine xE ?_
 refine uz ?_
 refine aU ?_
 refine sO [(1,_),(2,_),(3,_),(6,_),(7,_),(9,_),(15,_),(16,_),(17,_)] [(3,_),(9,(116,gG))] ?_
 refine bh ?_
 refine uV ?_
 refine KY ?_
 refine sc ?_ ?_<;>intro hbb
 have hv:eB (s.ac7.getD i.toNat [])[k] t=true:=gU
 refine sG [1,2,3,6,7,9,15,16,17] [3,9] ?_
 refine bW ?_
 refine KS ?_
 refine uS ?_
 exact IS
 have hv:eB (s.ac7.getD i.toNat [])[k] t=false:=gU
 refine bd ?_
 exact IS
 have hend:k=(s.ac7.getD i.toNat []).length:=ab
 refine bv ?_
 refine sT [1,2,3,6,7,15,16,17] [3] ?_
 exact xi
def El{e:ar}(hb:bw e≤68719476736):Aw prog 200 [(true,[sl dg (e.Store.ac7.map (be bJ ak)),val (vI e.Store.Now),val (vI e.adc),sl ak (e.Order.map ax),sl fq (e.ac8.map (bz bb ak ak bc ak)),sl ft (e.Done.map (cn bb ak bc ak)),sl fu (e.adl.map (cm ak ak ak)),val (vI e.Steps)])] (aJ [(true,[sl dg ((cF e).Store.ac7.map (be bJ ak)),val (vI (cF e).Store.Now),val (vI (cF e).adc),sl ak ((cF e).Order.map ax),sl fq ((cF e).ac8.map (bz bb ak ak bc ak)),sl ft ((cF e).Done.map (cn bb ak bc ak)),sl fu ((cF e).adl.map (cm ak ak ak)),val (vI (cF e).Steps)])]):=by
 refine Sd (rs:=[(true,[sl dg ((cF e).Store.ac7.map (be bJ ak)),val (vI (cF e).Store.Now),val (vI (cF e).adc),sl ak ((cF e).Order.map ax),sl fq ((cF e).ac8.map (bz bb ak ak bc ak)),sl ft ((cF e).Done.map (cn bb ak bc ak)),sl fu ((cF e).adl.map (cm ak ak ak)),val (vI (cF e).Steps)])]) func200 rfl (nl rfl) ?_
 intro h0 w0 Fz0
 refine sn 0 0 fun hl0_0=>?_
 refine sn 0 3 fun hl0_3=>?_
 refine sn 0 4 fun hl0_4=>?_
 refine sn 0 5 fun hl0_5=>?_
 refine sn 0 6 fun hl0_6=>?_
 have hbu:=hb
 simp only [bw,jZ] at hbu
 refine xP ?_
 refine sT [1,2] [1,2] ?_
 refine uD ?_
 refine aU ?_
 refine sS [1,2,3] [1,2] ?_
 refine oJ ?_
 refine sP [1,2,3,8,9,10] [1,2] ?_
 refine sL [1,2,8,9] [1,2] (fun k:Nat=>k≤e.ac8.length) (fun k:Nat=>[(3,RV.slc ak ((fk (e.ac8.take k)).map ax)),(10,RV.int (k:Int))]) (fun k:Nat=>[]) (fun k:Nat=>e.ac8.length - k) 0 ab jm au ?_
 rintro k hk
 refine bO ?_
 refine sc ?_ ?_<;>intro hba
 have hlt:k < e.ac8.length:=ab
 have htl:(fk (e.ac8.take k)).length=k:=by unfold fk;rw [aO,cu];omega
 have hts:fk (e.ac8.take (k+1))=fk (e.ac8.take k)++[e.ac8[k].Time]:=by unfold fk;rw [CW hlt]
 refine bA ?_
 refine sT [1,2,3,8,9,10] [1,2] ?_
 refine ux ?_
 refine xB ?_
 refine sO [(1,_),(2,_),(3,_),(5,_),(8,_),(9,_),(10,_)] [(1,_),(2,_),(5,(102,dG))] ?_
 refine bh ?_
 refine bW ?_
 refine Cm ?_
 refine uT ?_
 refine sG [1,2,3,5,8,9,10] [1,2,5] ?_
 refine cf ?_
 refine nx (k+1) ab (e:=(by exact aI (by exact cU (by rw [hts,bL];rfl)) (aI aj tI)))
 have hend:k=e.ac8.length:=ab
 have hte:fk (e.ac8.take k)=fk e.ac8:=by rw [hend,cC]
 have htl:(fk e.ac8).length=e.ac8.length:=by unfold fk;rw [aO]
 rw [hte]
 refine bv ?_
 refine sT [1,2,3,8,9,10] [1,2] ?_
 refine lB ?_
 refine rA ?_ (x:=lD gW gy)
 refine fc ?_
 refine rA ?_ (x:=cL [(true,dE),(false,[sl _ _])] [(true,gW),(false,[sl .v _])] Wu (hs:=by exact (XE (s:=e.Store) (keep:=fk e.ac8) ab ab)))
 refine bW ?_
 refine Bi ?_
 refine Lq ?_
 refine aU ?_
 refine sO [(1,_),(2,_),(3,_),(8,_),(9,_),(10,_)] [(1,(46,bj)),(2,_)] ?_
 refine bh ?_
 refine mr ?_
 refine cv ?_
 exact (ba 2 (ba _ (aI aj (aI aj (aI dl (aI (fun h=>nomatch h) tI))))))
end Go.Proofs.YtmekkgdboplbjaaGreatDoor
