/- What functions of the program compute. No condition. -/
import Derived.Test.YtmekkgdboplbjaaGreatDoorDN1
set_option linter.all false
namespace Go.Proofs.YtmekkgdboplbjaaGreatDoor
open Go Go.RowKit M PV Tryz
set_option maxRecDepth 10000
attribute [local irreducible] PV.Lcl PV.LclR RV.Lcl
set_option maxHeartbeats 8000000
def ZT:eL prog 29=some [(0,1),(1,2),(3,1),(4,1)]:=aq
def ZU{ws:List am}(h0w:0 < ws.length)(hw:∀j,(ws.getD j []).length≤1048576):db prog gl 141 [(false,[sl .v (ws.map nI)])] (aJ [(true,[val (vI (fM ws).Kind),val (vI (fM ws).Row.Id),sl ak ((fM ws).Row.Values.map ax),val (vI (fM ws).Field),val (vI (fM ws).Value)])]):=by
 refine gq (rs:=[(true,[val (vI (fM ws).Kind),val (vI (fM ws).Row.Id),sl ak ((fM ws).Row.Values.map ax),val (vI (fM ws).Field),val (vI (fM ws).Value)])]) func141 rfl (nl rfl) (gV (aB.cons (bor_sl _) aB.nil) iv) ?_
 intro h0 w0 Fz0
 refine sj 0 fun hl0=>?_
 refine sR ?_
 refine rX ?_ (x:=(ew ae vj vk))
 refine sT [0,2,7000] [2] ?_
 refine Ms ?_
 refine KW ?_
 refine aU ?_
 refine fG ?_
 refine aU ?_
 refine qh ?_
 refine xx ?_
 refine qv ?_
 refine cx 10 (fun ga sga=>?_) (fun ga sga=>?_)
 refine Ce ?_
 refine qk ?_
 refine rS ?_
 refine sc ?_ ?_<;>intro hba
 have hc0:(ws.getD 0 []=[105,110,115,101,114,116]∧ws.length=2):=kr
 have hr:=YY hc0
 have h1w:1 < ws.length:=ab
 refine sS [0,2,3,7000] [2,3] ?_
 refine BP ?_
 refine qh ?_
 refine xT ?_
 refine rA ?_ (x:=gL [(false,[val _])] [(false,[val _])] Wq (hs:=by exact (ZO (hw 1))))
 refine bW ?_
 refine rA ?_ (x:=np (cs:=cO) (qs:=dK) ae aj (by exact (aD (bK aA.nil))) zI)
 refine kG ?_
 refine oN ?_
 refine CM ?_
 exact Jx
 have hc0:¬(ws.getD 0 []=[105,110,115,101,114,116]∧ws.length=2):=kr
 refine uJ ?_
 refine qv ?_
 refine cx 29 (fun gb sgb=>?_) (fun gb sgb=>?_)
 refine rB gb ?_ (x:=vM false [sl .v _])
 refine rB gb ?_ (x:=lN eo)
 refine rB gb ?_ (x:=iV)
 refine rA ?_ (x:=bF gb)
 refine rS ?_
 refine sc ?_ ?_<;>intro hbb
 exact Jz
 have hc1:¬(ws.getD 0 []=[100,101,108,101,116,101]∧ws.length=2):=kr
 refine uJ ?_
 refine qv ?_
 refine cx 49 (fun gc sgc=>?_) (fun gc sgc=>?_)
 refine Cf ?_
 refine xI ?_
 refine rS ?_
 refine sc ?_ ?_<;>intro hbc
 exact AX
 exact xv
 exact AY
 refine uN ?_
 refine rS ?_
 refine fW ?_
 exact JA
 refine iA ?_
 refine rS ?_
 refine fW ?_
 have hc0:¬(ws.getD 0 []=[105,110,115,101,114,116]∧ws.length=2):=kr
 refine uJ ?_
 refine qv ?_
 refine cx 29 (fun gb sgb=>?_) (fun gb sgb=>?_)
 refine rB gb ?_ (x:=vM false [sl .v _])
 refine rB gb ?_ (x:=lN eo)
 refine rB gb ?_ (x:=iV)
 refine rA ?_ (x:=bF gb)
 refine rS ?_
 refine sc ?_ ?_<;>intro hba
 exact Jz
 exact JA
 refine uN ?_
 refine rS ?_
 refine fW ?_
 have hc1:¬(ws.getD 0 []=[100,101,108,101,116,101]∧ws.length=2):=kr
 refine uJ ?_
 refine qv ?_
 refine cx 49 (fun gc sgc=>?_) (fun gc sgc=>?_)
 refine Cf ?_
 refine xI ?_
 refine rS ?_
 refine sc ?_ ?_<;>intro hba
 exact AX
 exact xv
 exact AY
def ZV{s:am}(hl:s.length≤1048576):db prog gl 57 [(false,[val (.string (B s))])] (aJ [(true,[val (vI ((gz s).getD cy).Kind),val (vI ((gz s).getD cy).Row.Id),sl ak (((gz s).getD cy).Row.Values.map ax),val (vI ((gz s).getD cy).Field),val (vI ((gz s).getD cy).Value)]),(false,[val (.bool (gz s).isSome)])]):=by
 refine gq (rs:=[(true,[val (vI ((gz s).getD cy).Kind),val (vI ((gz s).getD cy).Row.Id),sl ak (((gz s).getD cy).Row.Values.map ax),val (vI ((gz s).getD cy).Field),val (vI ((gz s).getD cy).Value)]),(false,[val (.bool (gz s).isSome)])]) func57 rfl (nl rfl) (gV (aB.cons (bor_val _) aB.nil) iv) ?_
 intro h0 w0 Fz0
 have hsl:=zj 32 s
 have hfl:=XY (fM (aw 32 s))
 refine sR ?_
 refine rX ?_ (x:=(ew ae vj vk))
 refine xX ?_
 refine BM ?_
 refine rA ?_ (x:=gL [(false,[sl _ _])] [(false,[sl .v _])] Wc (hs:=by exact (ZU (ws:=(aw 32 s)) ab (fun j=>Nat.le_trans (kV 32 s j) ab))))
 refine KW ?_
 refine eO ?_
 refine sO [(0,_),(2,_),(3,_),(4,_),(7000,_)] [(2,_),(4,(29,iX))] ?_
 refine bh ?_
 refine CK ?_
 refine rA ?_ (x:=cL [(true,iX)] [(true,jQ)] Da (hs:=by exact (Eh (x:=fM (aw 32 s)))))
 refine fj ?_
 refine cx 11 (fun ga sga=>?_) (fun ga sga=>?_)
 refine jT ?_
 exact JB
 refine rB ga ?_ (x:=lD jQ nK)
 refine rB ga ?_ (x:=gL [(true,iX)] [(true,jQ)] NT (hs:=by exact (PG (u:=fM (aw 32 s)))))
 refine sq ?_
 refine sc ?_ ?_<;>intro hba
 exact JB
 have hys:=Yy (s:=s) Ab Ab
 rw [Pk] at hys
 refine bd ?_
 refine sS [0,2,3,4,7000] [2,4] ?_
 refine Kl ?_
 refine bG ?_
 exact (ba 2 (ba _ (aI aj (aI (by refine cV ?_;rw [hys];exact rfl) (aI nK (aI (fun h=>nomatch h) (aI (by refine dh ?_;rw [hys];rfl) tI)))))))
end Go.Proofs.YtmekkgdboplbjaaGreatDoor
