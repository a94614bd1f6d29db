/- What functions of the program compute. No condition. -/
import Derived.Test.YtmekkgdboplbjaaGreatDoorEO0
set_option linter.all false
namespace Go.Proofs.YtmekkgdboplbjaaGreatDoor
open Go Go.RowKit M PV Tryz
set_option maxRecDepth 10000
attribute [local irreducible] PV.Lcl PV.LclR RV.Lcl
def ajk:eA prog 260=some [(0,1),(1,1)]:=ao
def arM{p1 p2:Fl}{l:List ax4}:aQ prog 308 [(false,[sl .v (l.map (nM p1 p2))])] (aB [(true,[sl wc ((pZ l).Queries.map (nM aH ai)),sl (.own 298 1) ((pZ l).Fields.map (QQ yt ai))])]):=by
 refine sF func308 fun h0 w0 Fz0=>?_
 refine sj 0 fun hl0=>?_
 refine sR ?_
 refine rX ?_ (x:=(fW aj JC JE))
 refine aU ?_
 refine sT [0,2] [2] ?_
 refine dD ?_
 refine rA ?_ (x:=cL [(false,[sl _ _])] [(false,[sl .v _])] RF (hs:=Le))
 refine gx ?_
 refine sc ?_ ?_<;>intro hba
 have hok:eQ l=false:=gn
 refine sS [0,2] [2] ?_
 refine rA ?_ (x:=cy (qs:=[]) (cs:=qQ) aj JC JE ajk ak an rfl ak)
 refine zkv ?_
 exact (bh 2 (bh _ (aI ak (aI (by refine dh ?_;rw [aoJ hok];exact rfl) (aI DQ (aI (fun h=>nomatch h) tI))))))
 have hok:eQ l=true:=gn
 have hqw:=aoF hok
 have hql:=vh hok
 refine ba ?_
 refine sS [0,2] [2] ?_
 refine dD ?_
 refine rA ?_ (x:=cL [(false,[sl _ _])] [(false,[sl .v _])] aqF (hs:=by exact arL ab))
 refine rA ?_ (x:=cy (qs:=[(false,[sl _ _])]) (cs:=qQ) aj JC JE ajk ak bS rfl ak)
 refine zkw ?_
 refine dC ?_
 refine sO [(0,_),(2,_),(3,_)] [(2,_),(3,(260,qQ))] ?_
 refine aY ?_
 refine cl ?_
 refine sP [0,2,3,4] [2,3] ?_
 refine sL [0,2,3] [2] (fun k:Nat=>k≤3) (fun k:Nat=>[(4,RV.int (k:Int))]) (fun k:Nat=>[(3,(260,(QR wc aH ai (.own 298 1) yt ai) ⟨l,vi l k⟩))]) (fun k:Nat=>3 - k) 0 ab bp bp ?_
 rintro k hk
 refine IA ?_
 refine sc ?_ ?_<;>intro hbb
 have hlt:k < 3:=ab
 have hfl:=aoH (l:=l) (k:=k)
 refine bv ?_
 refine sQ [0,2,3,4] [2,3] ?_
 refine cC ?_
 refine dA 0 ?_ (x:=lF RL)
 refine dA 1 ?_ (x:=eN (ms:=[sl _ _]) (qs:=[sl .v _]) aj RN (fun _=>rfl) az ak iE ib)
 refine ij ?_
 refine dA 12 ?_ (x:=cL [(false,[sl _ _]),(false,[val _])] [(false,[sl .v _]),(false,[val _])] aqG (hs:=by exact arJ))
 refine dA 28 ?_ (x:=cj (qs:=[(false,[sl _ _])]) aj RM ai2 aj rfl rfl rfl rfl rfl az bS rfl)
 refine dA 63 ?_ (x:=fc aj RM ai2 rfl rfl aj rfl bq bq)
 refine dA 127 ?_ (x:=lF RL)
 refine dA 255 ?_ (x:=bV (ag:=false) (vs:=[sl _ _]) RN an ak az)
 refine sO [(0,_),(2,_),(3,_),(4,_)] [(2,_),(3,(260,qQ))] ?_
 refine tj ?_
 refine nx (k+1) ab (e:=nu) (f:=(by exact aI (by simp only [aoG];show _=some (260,(QR wc aH ai (.own 298 1) yt ai) (md.mk l (vi l k++[jc l (k:Int)])));simp only [QR,bK];exact rfl) tI))
 have hend:k=3:=ab
 refine bI ?_
 refine sT [0,2,3,4] [2,3] ?_
 refine rA ?_ (x:=eN (ms:=qQ) (qs:=[sl .v _,sl .v _]) aj DQ (fun h=>nomatch h) az ak (by exact (aV (aV aJ.nil))) Uw)
 refine zkv ?_
 exact (bh 2 (bh _ (aI ak (aI (by refine dh ?_;subst hend;rw [aoI hok];exact rfl) (aI DQ (aI (fun h=>nomatch h) tI))))))
def arN{p1 p2:Fl}{l:List ax4}(hb:l.length≤1048576):aQ prog 328 [(false,[sl .v (l.map (nM p1 p2))])] (aB [(false,[sl ai ((vj l).map ar)])]):=by
 refine sF func328 fun h0 w0 Fz0=>?_
 refine sj 0 fun hl0=>?_
 refine sY ?_
 refine nJ ?_
 refine re ?_
 refine wQ ?_
 refine sL [0,2] [] (fun k:Nat=>k≤l.length) (fun k:Nat=>[(3,RV.slc ai ((vj (l.take k)).map ar)),(4,RV.int (k:Int))]) (fun k:Nat=>[]) (fun k:Nat=>l.length - k) 0 ab gp an ?_
 rintro k hk
 refine tb ?_
 refine HU ?_
 refine sc ?_ ?_<;>intro hba
 have hlt:k < l.length:=ab
 have htl:(vj (l.take k)).length=k:=by unfold vj;rw [bf,cI];omega
 refine bv ?_
 refine rg ?_
 refine cb ?_
 refine Hw ?_
 refine HA ?_
 refine rc ?_
 refine rg ?_
 refine cB ?_
 refine nx (k+1) ab (e:=(by exact aI (by exact cz (by unfold vj;rw [Dt hlt,bK];rfl)) (aI ak tI)))
 have hend:k=l.length:=ab
 exact XW
def arO{o:List Int}:aQ prog 158 [(false,[sl .v (o.map ar)])] (aB [(false,[val (.bool (iR o))])]):=by
 refine sF func158 fun h0 w0 Fz0=>?_
 refine sj 0 fun hl0=>?_
 refine zi ?_
 refine mM ?_
 refine mQ ?_
 refine sc ?_ ?_<;>intro hba
 have hbad:iR o=false:=by unfold iR;rw [decide_eq_false ab];rfl
 refine nJ ?_
 exact oy
 have hl3:o.length=3:=ab
 refine dp ?_
 refine nJ ?_
 refine cl ?_
 refine sP [0,2,3] [] ?_
 refine sL [0] [] (fun k:Nat=>k≤o.length∧Ar o k=true) (fun k:Nat=>[(3,RV.int (k:Int))]) (fun k:Nat=>[]) (fun k:Nat=>o.length - k) 0 gF bp an ?_
 rintro k ⟨hk,ha⟩
 refine oH ?_
 refine sc ?_ ?_<;>intro hbb
 have hlt:k < o.length:=ab
 have hgk:=kl (d:=(0:Int)) hlt
 refine eB ?_
 refine sP [0,3] [] ?_
 refine oG ?_
 refine Cg ?_
 refine zj4 ?_
 refine dA 63 ?_ (x:=sM)
 refine dx 19 ?_ ?_<;>intro ga sga
 refine dT 127 ga ?_
 refine dT 127 ga ?_
 refine dT 511 ga ?_
 refine dT 127 ga ?_
 refine dT 127 ga ?_
 refine dT 3199 ga ?_
 refine dT 7295 ga ?_
 refine dT 16383 ga ?_
 refine dA 32767 ?_ (x:=bj ga)
 refine cH ?_
 exact YI
 refine dB 127 ga ?_ (x:=vM false [sl .v _])
 refine dB 127 ga ?_ (x:=sM)
 refine dB 511 ga ?_ (x:=Bv (i:=0) (j:=k) (ys:=(o.take k)) (q:=(0:Int)) aj cn ak an ab ab ab ab (fun _=>rfl) aM)
 refine dB 127 ga ?_ (x:=vM false [sl .v _])
 refine dB 127 ga ?_ (x:=sM)
 refine dB 3199 ga ?_ (x:=aZ aj cn an ak bE ak)
 refine dB 7295 ga ?_ (x:=lE [val _] bb)
 refine dB 16383 ga ?_ (x:=cL [(false,[sl _ _]),(false,[val _])] [(false,[sl .v _]),(false,[val _])] Jb (hs:=EQ))
 refine dA 32767 ?_ (x:=aR ga)
 refine sc ?_ ?_<;>intro hbc
 exact YI
 have hyes:(aK (o.getD k 0) 0 2&&!cv (o.take k) (o.getD k 0))=true:=by rw [←hgk];simp_all
 refine wR ?_
 refine cB ?_
 refine nx (k+1) (by exact ⟨ab,by rw [aoC,ha,hyes];rfl⟩)
 have hend:k=3:=ab
 rw [hend,ahN hl3] at ha
 refine wS ?_
 refine ca ?_
 exact rb (ha.symm)
def arP{p1 p2 p4 p5:Fl}{x:md}{r:Row}{o:List Int}(hxo:DH x=true)(hro:bM r=true)(hoo:iR o=true):aQ prog 314 [(true,[sl .v (x.Queries.map (nM p1 p2)),sl .v (x.Fields.map (QQ p4 p5))]),(true,[val (vI r.Id),sl .v (r.Values.map ar)]),(false,[sl .v (o.map ar)])] (aB [(false,[sl ai ((xD x r o).1.map ar)]),(false,[val (vI (xD x r o).2)])]):=by
 refine sF func314 fun h0 w0 Fz0=>?_
 refine sn 0 0 fun hl0_0=>?_
 refine sn 0 1 fun hl0_1=>?_
 refine sn 1 1 fun hl1_1=>?_
 refine sj 2 fun hl2=>?_
 have hx:=aoA hxo
 have hq:=vh hx.1
 have ho:=ahM hoo
 have hrl:=Ai hro
 refine sR ?_
 refine rX ?_ (x:=(kG (ag:=true) (cs:=qQ) aj an))
 refine IH ?_
 refine IK ?_
 refine rK ?_
 refine sT [2,3,4,6,7] [3,4] ?_
 refine rA ?_ (x:=lF aq0)
 refine rA ?_ (x:=lD [sl .v _] aq2)
 refine rA ?_ (x:=cL [(false,[sl _ _])] [(false,[sl .v _])] aqH (hs:=by exact arN ab))
 refine dJ ?_
 refine sS [2,3,4,6,7,8] [3,4] ?_
 refine iv ?_
 refine sS [2,3,4,6,7,8,9] [3,4] ?_
 refine cl ?_
 refine sP [2,3,4,6,7,8,9,10] [3,4] ?_
 refine sL [2,3,4,6,7] [3,4] (fun k:Nat=>k≤o.length) (fun k:Nat=>[(8,RV.slc ai ((gP x r o k).1.map ar)),(9,RV.int (gP x r o k).2),(10,RV.int (k:Int))]) (fun k:Nat=>[]) (fun k:Nat=>o.length - k) 0 ab ui an ?_
 rintro k hk
 refine oH ?_
 refine rM ?_
 refine cx 19 ?_ ?_<;>intro ga sga
 refine zR ?_
 refine rB ga ?_ (x:=lN cn)
 refine rB ga ?_ (x:=jE)
 refine jq ?_
 refine sc ?_ ?_<;>intro hba
 have hlt:k < o.length:=uk
 have hne:(gP x r o k).1≠[]:=by intro e;simp_all
 have hof:=ho.2 o[k] (List.getElem_mem hlt)
 have hff:o[k].toNat < x.Fields.length:=ab
 have hrf:o[k].toNat < r.Values.length:=ab
 have hpl:=ahQ hq.1 r o k
 have hxf:=hx.2.2 o[k].toNat ab
 have hsi:=aow x.Queries (o[k].toNat:Int)
 rw [←hxf] at hsi
 have hss:∀s∈x.Fields.getD o[k].toNat [],s.Set.length≤1048576:=fun s hs=>Nat.le_trans (hsi.2 s hs) aj
 have hfl:=aoz hsi.2 (ko r.Values o[k])
 have hpe:=ahO (x:=x) (r:=r) hlt hne
 refine eB ?_
 refine sQ [2,3,4,6,7,8,9,10] [3,4] ?_
 refine cC ?_
 refine dA 0 ?_ (x:=lF RL)
 refine dA 1 ?_ (x:=lD [sl .v _] RN)
 refine ij ?_
 refine dA 12 ?_ (x:=aZ aj cn an ak bE ak)
 refine dA 28 ?_ (x:=lE [val _] bb)
 refine dA 63 ?_ (x:=aZ (k:=o[k].toNat) aj RM an ab (by exact fX hff (by rw [kl (d:=([]:List fO)) hff])) ak)
 refine dA 127 ?_ (x:=lE [sl .v _] aq3)
 refine zS ?_
 refine dA 256 ?_ (x:=lD [sl .v _] cW)
 refine ij ?_
 refine dA 3072 ?_ (x:=aZ aj cn an ak bE ak)
 refine dA 7168 ?_ (x:=lE [val _] bb)
 refine dA 16128 ?_ (x:=aZ (k:=o[k].toNat) aj cn an ab (by exact fX hrf (by rw [kl (d:=(0:Int)) hrf])) ak)
 refine dA 32512 ?_ (x:=lE [val _] bb)
 refine dA 65535 ?_ (x:=cL [(false,[sl _ _]),(false,[val _])] [(false,[sl .v _]),(false,[val _])] aqI (hs:=by exact (arK (l:=x.Fields.getD o[k].toNat []) (v:=ko r.Values o[k]) hss)))
 refine dA 131071 ?_ (x:=tA)
 refine sS [2,3,4,6,7,8,9,10,11] [3,4] ?_
 refine lv ?_
 refine mM ?_
 refine mM ?_
 refine rA ?_ (x:=LN aj an an)
 refine wU ?_
 refine sG [2,3,4,6,7,8,9,10,11] [3,4] ?_
 refine dD ?_
 refine dD ?_
 refine rA ?_ (x:=cL [(false,[sl _ _]),(false,[sl _ _])] [(false,[sl .v _]),(false,[sl .v _])] aqJ (hs:=by exact arA))
 refine dJ ?_
 refine sG [2,3,4,6,7,8,9,10,11] [3,4] ?_
 refine cB ?_
 refine nx (k+1) ab (e:=(by exact aI (by exact cz (by rw [hpe])) (aI (by exact cX (by rw [hpe])) (aI ak tI))))
 exact YJ
 refine rf ?_
 exact YJ
end Go.Proofs.YtmekkgdboplbjaaGreatDoor
