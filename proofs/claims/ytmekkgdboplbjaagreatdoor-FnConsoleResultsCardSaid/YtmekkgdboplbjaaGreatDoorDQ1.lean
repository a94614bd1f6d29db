/- What functions of the program compute. No condition. -/
import Derived.Test.YtmekkgdboplbjaaGreatDoorDK1
import Derived.Test.YtmekkgdboplbjaaGreatDoorDH0
set_option linter.all false
namespace Go.Proofs.YtmekkgdboplbjaaGreatDoor
open Go Go.RowKit M PV Tryz
set_option maxRecDepth 10000
attribute [local irreducible] PV.Lcl PV.LclR RV.Lcl
def ZY{ws:List am}(hn:ws.length≤1048576)(hl:(ee ws [32]).length≤140737488355328):aS prog 84 [(false,[sl .v (ws.map nI)])] (aJ [(false,[val (.string (B (vt ws)))])]):=by
 refine sF func84 fun h0 w0 Fz0=>?_
 refine sj 0 fun hl0=>?_
 refine oI ?_
 refine qj ?_
 refine jw ?_
 refine sc ?_ ?_<;>intro hba
 have he:ws=[]:=iS ab
 refine kF ?_
 refine bG ?_
 exact (aI (by refine eb ?_;exact fK (by rw [he];rfl)) tI)
 have he:ws≠[]:=by intro e;subst e;simp at hba
 refine bd ?_
 refine kF ?_
 refine fc ?_
 refine rA ?_ (x:=cL [(false,[sl _ _]),(false,[val _])] [(false,[sl .v _]),(false,[val _])] DO (hs:=by exact (Ej ab hl)))
 refine cW ?_
 exact (aI (by refine eb ?_;exact fK (VP he).symm) tI)
def ZZ{q:ac9}{r:Row}:aS prog 89 [(true,[val (vI q.Id),val (vI q.ade),sl .v (q.ada.map bU),sl .v (q.Out.map ax)]),(true,[val (vI r.Id),sl .v (r.Values.map ax)])] (aJ [(false,[sl ak ((qQ q r).map ax)])]):=by
 refine sF func89 fun h0 w0 Fz0=>?_
 refine sn 0 2 fun hl0_2=>?_
 refine sn 0 3 fun hl0_3=>?_
 refine sn 1 1 fun hl1_1=>?_
 refine BV ?_
 refine yf ?_
 refine sT [2,3,4] [2,3] ?_
 refine uD ?_
 refine aU ?_
 refine sS [2,3,4,5] [2,3] ?_
 refine qe ?_
 refine fj ?_
 refine cx 12 (fun ga sga=>?_) (fun ga sga=>?_)
 refine jT ?_
 exact JI
 refine Lm ?_
 refine oE ?_
 refine sc ?_ ?_<;>intro hba
 exact JI
 have hok:bf r=true∧aQ q=true:=eX
 obtain ⟨hi0,hi1,hvl,hv⟩:=mX hok.1
 have hou:=vu hok.2
 refine dH ?_
 refine sS [2,3,4,5] [2,3] ?_
 refine rA ?_ (x:=lF tc)
 refine sC ?_
 refine sP [2,3,4,5,19,20,21] [2,3] ?_
 refine sL [2,3,4,19,20] [2,3] (fun k:Nat=>k≤q.Out.length) (fun k:Nat=>[(5,RV.slc ak (((q.Out.take k).map fun f=>r.Values.getD f.toNat 0).map ax)),(21,RV.int (k:Int))]) (fun k:Nat=>[]) (fun k:Nat=>q.Out.length - k) 0 ab rj au ?_
 rintro k hk
 refine bO ?_
 refine sc ?_ ?_<;>intro hbb
 have hlt:k < q.Out.length:=by first|omega|(simp_all;done)|(simp_all;omega)
 have hof:=hou.2 q.Out[k] (List.getElem_mem hlt)
 have hfl:q.Out[k].toNat < r.Values.length:=ab
 have hmt:((q.Out.take k).map fun f=>r.Values.getD f.toNat 0).length=k:=zV
 have hmt2:(q.Out.take k).length=k:=fR
 refine bA ?_
 refine sT [2,3,4,5,19,20,21] [2,3] ?_
 refine oL ?_
 refine sG [2,3,4,5,7,19,20,21] [2,3] ?_
 refine bW ?_
 refine xO ?_
 refine rM ?_
 refine rA ?_ (x:=bT (k:=q.Out[k].toNat) ae ej au ab (by exact iu hfl rfl) aj)
 refine rA ?_ (x:=lE [val _] bB)
 refine uT ?_
 refine sG [2,3,4,5,7,19,20,21] [2,3] ?_
 refine cf ?_
 refine nx (k+1) ab (e:=(by exact aI (by exact cU (by rw [CW hlt,bL];simp only [List.map_cons,List.map_nil];rw [←oR hfl];rfl)) (aI aj tI)))
 have hend:k=q.Out.length:=ab
 refine bv ?_
 refine sT [2,3,4,5,19,20,21] [2,3] ?_
 refine se ?_
 refine cv ?_
 exact (aI (by refine cU ?_;unfold qQ;rw [if_pos (by rw [hok.1,hok.2];rfl),hend,cC]) tI)
def aaa{p3:Fl}{x:fJ}:db prog gl 27 [(true,[val (vI x.ac9.Id),val (vI x.ac9.ade),sl .v (x.ac9.ada.map bU),sl .v (x.ac9.Out.map ax),val (vI x.Time),val (vI x.Steps),sl .v (x.Rows.map (cg p3))])] (aJ [(false,[val (.string (B (eG x)))])]):=by
 refine gq (rs:=[(false,[val (.string (B (eG x)))])]) func27 rfl (nl rfl) bn ?_
 intro h0 w0 Fz0
 refine sn 0 2 fun hl0_2=>?_
 refine sn 0 3 fun hl0_3=>?_
 refine sn 0 6 fun hl0_6=>?_
 refine Lt ?_
 refine uM ?_
 refine rA ?_ (x:=lF tx)
 refine qe ?_
 refine fj ?_
 refine cx 10 (fun ga sga=>?_) (fun ga sga=>?_)
 refine jT ?_
 exact JJ
 refine rB ga ?_ (x:=lF vE)
 refine rB ga ?_ (x:=lD [sl .v _] mZ)
 refine rB ga ?_ (x:=cL [(false,[sl _ _])] [(false,[sl .v _])] DP (hs:=zR))
 refine oE ?_
 refine sc ?_ ?_<;>intro hba
 exact JJ
 have hok:aQ x.ac9=true∧fZ x.Rows=true:=eX
 have hrl:=NS hok.2
 refine bd ?_
 refine oQ ?_
 refine Ln ?_
 refine aU ?_
 refine sS [1,2,3,7000] [1] ?_
 refine rA ?_ (x:=lF vE)
 refine rA ?_ (x:=lD [sl .v _] mZ)
 refine rA ?_ (x:=lN jb)
 refine dM ?_
 refine sP [1,2,3,18,19,20,7000] [1] ?_
 refine sL [1,2,18,19,7000] [1] (fun k:Nat=>k≤x.Rows.length) (fun k:Nat=>[(3,RV.slc (.own 9 1) (((x.Rows.take k).map (lR x.ac9)).map nI)),(20,RV.int (k:Int))]) (fun k:Nat=>[]) (fun k:Nat=>x.Rows.length - k) 0 ab rj au ?_
 rintro k hk
 refine bO ?_
 refine sc ?_ ?_<;>intro hbb
 have hlt:k < x.Rows.length:=ab
 have hrk:=NR hok.2 (List.getElem_mem hlt)
 obtain ⟨hi0,hi1,hvl,hv⟩:=mX hrk
 have hil:(itoa x.Rows[k].Id).length≤21:=dj cR
 have hpj:=NQ x.ac9 x.Rows[k]
 have hpl:=mO hpj.2
 have hmt:((x.Rows.take k).map (lR x.ac9)).length=k:=zV
 have hjl:=DI (q:=x.ac9) hok.2 k
 have htk:(x.Rows.take k).length=k:=fR
 refine bA ?_
 refine sT [1,2,3,18,19,20,7000] [1] ?_
 refine uB ?_
 refine uA ?_
 refine sO [(1,_),(2,_),(3,_),(5,_),(18,_),(19,_),(20,_),(7000,_)] [(1,_),(5,(27,cO))] ?_
 refine dr ?_
 refine dA 0 ?_ (x:=tM)
 refine dA 0 ?_ (x:=lF mM)
 refine Ll ?_
 refine dA 14 ?_ (x:=dL)
 refine dA 0 ?_ (x:=lF tx)
 refine dA 32 ?_ (x:=lD cI gi)
 refine dA 0 ?_ (x:=lD dK gM)
 refine dA 238 ?_ (x:=cL [(true,cD),(true,cO)] [(true,cI),(true,dK)] WP (hs:=by exact ZZ))
 refine dA 494 ?_ (x:=gL [(false,[sl _ _])] [(false,[sl .v _])] DQ (hs:=by exact (Ek hpj.2 ab)))
 refine dA 1022 ?_ (x:=dL)
 refine dA 2046 ?_ (x:=dq (qs:=[(false,[val _])]) ae eo nW ae rfl rfl rfl rfl rfl aH eW rfl)
 refine dA 4095 ?_ (x:=ir ae eo nW rfl rfl ae rfl ck ck)
 refine dA 8191 ?_ (x:=tA)
 refine sG [1,2,3,5,18,19,20,7000] [1,5] ?_
 refine cf ?_
 refine nx (k+1) ab (e:=(by exact aI FE (aI aj tI)))
 have hend:k=x.Rows.length:=ab
 have hjl:=DI (q:=x.ac9) hok.2 k
 subst hend
 rw [cC] at hjl ⊢
 have hml:(x.Rows.map (lR x.ac9)).length=x.Rows.length:=aO _
 refine bv ?_
 refine sT [1,2,3,18,19,20,7000] [1] ?_
 refine fc ?_
 refine rA ?_ (x:=cL [(false,[sl _ _])] [(false,[sl .v _])] WO (hs:=by exact (ZY ab ab)))
 refine cW ?_
 exact (aI (by refine eb ?_;exact fK (by unfold eG;rw [if_pos (by rw [hok.1,hok.2];rfl)])) tI)
end Go.Proofs.YtmekkgdboplbjaaGreatDoor
