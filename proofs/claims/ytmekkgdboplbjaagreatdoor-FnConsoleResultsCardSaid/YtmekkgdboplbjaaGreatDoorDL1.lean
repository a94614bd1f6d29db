/- What functions of the program compute. No condition. -/
import Derived.Test.YtmekkgdboplbjaaGreatDoorDJ1
import Derived.Test.YtmekkgdboplbjaaGreatDoorDK1
set_option linter.all false
namespace Go.Proofs.YtmekkgdboplbjaaGreatDoor
open Go Go.RowKit M PV Tryz
set_option maxRecDepth 10000
attribute [local irreducible] PV.Lcl PV.LclR RV.Lcl
def PE:eL prog 27=some [(0,1),(1,1)]:=aq
def EV{s:am}(hl:s.length≤1048576):db prog gl 55 [(false,[val (.string (B s))])] (aJ [(false,[val (vI (bQ s))]),(false,[val (.bool (fz s))])]):=by
 refine gq (rs:=[(false,[val (vI (bQ s))]),(false,[val (.bool (fz s))])]) func55 rfl (nl rfl) (gV (aB.cons (bor_val _) aB.nil) iv) ?_
 intro h0 w0 Fz0
 have hai:=Pi s
 unfold cq at hai
 have hil:=dj (Pi s)
 refine mx ?_
 refine rK ?_
 refine qy ?_
 refine rM ?_
 refine rA ?_ (x:=gL [(false,[val _])] [(false,[val _])] VZ (hs:=by exact (ZL ab)))
 refine bW ?_
 refine kG ?_
 refine rA ?_ (x:=np (cs:=[PV.err _]) (qs:=[PV.err _]) ae aj zM (by exact (aB.cons (bor_err _) aB.nil)))
 refine rS ?_
 refine rA ?_ (x:=rr (r':=RV.sv false [PV.err _]) (.inr rfl) ae FH)
 refine aU ?_
 refine sS [0,2,3,4,5,7000] [] ?_
 refine rA ?_ (x:=rr (r':=RV.sv false [PV.err _]) (.inl rfl) ae FH)
 refine rA ?_ (x:=Tm Tryz.underlying160)
 refine rM ?_
 refine cx 13 (fun ga sga=>?_) (fun ga sga=>?_)
 refine ly ?_
 refine av.cases (s:=19) rfl (fun g2=>?_) (fun g2=>nomatch g2)
 refine mw ?_
 refine rM ?_
 refine av.cases (s:=23) rfl (fun g3=>?_) (fun g3=>nomatch g3)
 refine qn ?_
 refine cd ?_
 exact xt
 refine gv ?_
 refine rB ga ?_ (x:=gL [(false,[val _])] [(false,[val _])] mY (hs:=me))
 refine sq ?_
 refine rM ?_
 refine cx 19 (fun gb sgb=>?_) (fun gb sgb=>?_)
 refine qr ?_
 refine av.cases (s:=23) rfl (fun g6=>?_) (fun g6=>nomatch g6)
 refine uP ?_
 refine cd ?_
 exact xt
 refine lz ?_
 refine rB gb ?_ (x:=uo)
 refine rW ?_
 refine cx 23 (fun gc sgc=>?_) (fun gc sgc=>?_)
 refine qm ?_
 refine cd ?_
 exact xt
 refine rB gc ?_ (x:=sM)
 refine rB gc ?_ (x:=fH)
 refine lA ?_
 refine sc ?_ ?_<;>intro hba
 exact xt
 have hys:ic s=some (gI s):=YM wn wn wn
 refine bd ?_
 refine sS [0,2,3,4,5,7000] [] ?_
 refine rM ?_
 refine rS ?_
 refine bG ?_
 exact (aI (by refine fU ?_;exact (YO hys).symm) (aI (by refine dh ?_;exact (YQ hys).symm) tI))
def ZN{s:am}(hl:s.length≤1048576):db prog gl 140 [(false,[val (.string (B s))])] (aJ [(false,[sl ak ((nZ s).map ax)]),(false,[val (.bool (lV s))])]):=by
 refine gq (rs:=[(false,[sl ak ((nZ s).map ax)]),(false,[val (.bool (lV s))])]) func140 rfl (nl rfl) (gV (aB.cons (bor_val _) aB.nil) iv) ?_
 intro h0 w0 Fz0
 have hsl:=zj 44 s
 refine BY ?_
 refine rK ?_
 refine qy ?_
 refine uD ?_
 refine aU ?_
 refine sS [0,2,3,4,7000] [] ?_
 refine rM ?_
 refine rA ?_ (x:=gL [(false,[val _]),(false,[val _])] [(false,[val _]),(false,[val _])] DR (hs:=by exact (EU 44 ab)))
 refine rA ?_ (x:=lN eo)
 refine dM ?_
 refine sP [0,2,3,4,11,12,13,7000] [] ?_
 refine sL [0,11,12,7000] [] (fun k:Nat=>k≤(aw 44 s).length∧((aw 44 s).take k).all fz=true) (fun k:Nat=>[(4,RV.slc ak ((((aw 44 s).take k).map bQ).map ax)),(13,RV.int (k:Int))]) (fun k:Nat=>[]) (fun k:Nat=>(aw 44 s).length - k) 0 (by exact ⟨ab,Tr⟩) jm au ?_
 rintro k ⟨hk,ha⟩
 refine bO ?_
 refine sc ?_ ?_<;>intro hba
 have hlt:k < (aw 44 s).length:=ab
 have hwl:=Pj (List.getElem_mem hlt)
 have htl:((aw 44 s).take k).length=k:=fR
 refine bA ?_
 refine sS [0,4,11,12,13,7000] [] ?_
 refine Lj ?_
 refine rS ?_
 refine sS [0,4,6,11,12,13,7000] [] ?_
 refine jW ?_
 refine rS ?_
 refine gu ?_
 refine sS [0,4,6,7,8,11,12,13,7000] [] ?_
 refine rM ?_
 refine fw ?_
 refine sc ?_ ?_<;>intro hbb
 have hnn:fz (aw 44 s)[k]=false:=gU
 have hno:=YT hlt hnn
 refine sS [0,4,6,7,8,11,12,13,7000] [] ?_
 refine yf ?_
 refine bG ?_
 exact (aI (by refine cU ?_;rw [YU hno];exact rfl) (aI (by refine dh ?_;exact hno.symm) tI))
 have hnm:fz (aw 44 s)[k]=true:=gU
 refine bd ?_
 refine sG [0,4,6,7,8,11,12,13,7000] [] ?_
 refine bW ?_
 refine rM ?_
 refine uT ?_
 refine sG [0,4,6,7,8,11,12,13,7000] [] ?_
 refine cf ?_
 refine nx (k+1) (by exact ⟨ab,ym ha hlt hnm⟩) (e:=(by exact aI FE (aI aj tI)))
 have hend:k=(aw 44 s).length:=ab
 have hok:lV s=true:=kH (by rw [←hend];exact ha)
 refine bv ?_
 refine sS [0,4,11,12,13,7000] [] ?_
 refine se ?_
 refine bG ?_
 exact (aI (by refine cU ?_;rw [YV hok,hend,cC]) (aI (by refine dh ?_;exact hok.symm) tI))
def ZO{s:am}(hl:s.length≤1048576):db prog gl 220 [(false,[val (.string (B s))])] (aJ [(true,[val (vI ((jG s).getD oa).Id),sl ak (((jG s).getD oa).Values.map ax)]),(false,[val (.bool (jG s).isSome)])]):=by
 refine gq (rs:=[(true,[val (vI ((jG s).getD oa).Id),sl ak (((jG s).getD oa).Values.map ax)]),(false,[val (.bool (jG s).isSome)])]) func220 rfl (nl rfl) (gV (aB.cons (bor_val _) aB.nil) iv) ?_
 intro h0 w0 Fz0
 have hca:=tN s [58]
 have hcz:=tO s [58]
 have hfl:=DH (kl s)
 refine sR ?_
 refine yh ?_
 refine xX ?_
 refine rM ?_
 refine rA ?_ (x:=gL [(false,[val _]),(false,[val _])] [(false,[val _]),(false,[val _])] DM (hs:=by exact (ET (sep:=[58]) ab)))
 refine bW ?_
 refine sE ?_
 refine rS ?_
 refine sS [0,2,3,4,5,6,7000] [2] ?_
 refine jW ?_
 refine jS ?_
 refine sS [0,2,3,4,5,6,7,8,7000] [2] ?_
 refine rM ?_
 refine Lz ?_
 refine Kx ?_
 refine fY ?_
 refine rS ?_
 refine sS [0,2,3,4,5,6,7,8,9,10,7000] [2] ?_
 refine rM ?_
 refine bW ?_
 refine rA ?_ (x:=dZ (qs:=[(false,[val _]),(false,[sl _ _])]) (cs:=cO) ae lK qF PE aj mc rfl aj)
 refine uA ?_
 refine eO ?_
 refine sO [(0,_),(2,_),(3,_),(4,_),(5,_),(6,_),(7,_),(8,_),(10,_),(11,_),(7000,_)] [(2,_),(11,(27,cO))] ?_
 refine oK ?_
 refine fj ?_
 refine cx 33 (fun ga sga=>?_) (fun ga sga=>?_)
 refine ly ?_
 refine av.cases (s:=37) rfl (fun g2=>?_) (fun g2=>nomatch g2)
 refine mw ?_
 refine rM ?_
 refine av.cases (s:=42) rfl (fun g3=>?_) (fun g3=>nomatch g3)
 refine qn ?_
 refine cd ?_
 exact xu
 refine gv ?_
 refine oE ?_
 refine rM ?_
 refine cx 37 (fun gb sgb=>?_) (fun gb sgb=>?_)
 refine qr ?_
 refine av.cases (s:=42) rfl (fun g6=>?_) (fun g6=>nomatch g6)
 refine uP ?_
 refine cd ?_
 exact xu
 refine rB gb ?_ (x:=lD dK gM)
 refine rB gb ?_ (x:=cL [(true,cO)] [(true,dK)] Db (hs:=by exact (Ee (x:=kl s))))
 refine yc ?_
 refine cx 42 (fun gc sgc=>?_) (fun gc sgc=>?_)
 refine qm ?_
 refine cd ?_
 exact xu
 refine rB gc ?_ (x:=lD dK gM)
 refine rB gc ?_ (x:=gL [(true,cO)] [(true,dK)] Oe (hs:=by exact (PD (r:=kl s))))
 refine rB gc ?_ (x:=sM)
 refine rB gc ?_ (x:=wX)
 refine lA ?_
 refine sc ?_ ?_<;>intro hba
 exact xu
 have hys:=Ys (s:=s) eX eX
 refine bd ?_
 refine sS [0,2,3,4,5,6,7,8,10,11,7000] [2,11] ?_
 refine Mm ?_
 refine Lx ?_
 exact (ba 2 (ba _ (aI aj (aI (by refine cV ?_;rw [hys];exact rfl) (aI gM (aI (fun h=>nomatch h) (aI (by refine dh ?_;rw [hys];rfl) tI)))))))
end Go.Proofs.YtmekkgdboplbjaaGreatDoor
