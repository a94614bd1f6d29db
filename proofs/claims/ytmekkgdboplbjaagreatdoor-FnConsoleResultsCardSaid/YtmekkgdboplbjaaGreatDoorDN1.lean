/- What functions of the program compute. No condition. -/
import Derived.Test.YtmekkgdboplbjaaGreatDoorDL1
import Derived.Test.YtmekkgdboplbjaaGreatDoorDM1
set_option linter.all false
namespace Go.Proofs.YtmekkgdboplbjaaGreatDoor
open Go Go.RowKit M PV Tryz
set_option maxRecDepth 10000
attribute [local irreducible] PV.Lcl PV.LclR RV.Lcl
set_option maxHeartbeats 8000000
def PH:eL prog 25=some [(0,1),(1,1),(2,1),(3,1)]:=aq
def ZR:eL prog 65=some [(0,1),(1,1),(2,1)]:=aq
def zq{w:am}{l:am}(hl:w.length≤1048576):db prog gl 139 [(false,[val (.string (B w))]),(false,[val (.string (B l))])] (aJ [(false,[val (vI (bQ (lW w l)))]),(false,[val (.bool (vR w l&&fz (lW w l)))])]):=by
 refine gq (rs:=[(false,[val (vI (bQ (lW w l)))]),(false,[val (.bool (vR w l&&fz (lW w l)))])]) func139 rfl (nl rfl) (gV (aB.cons (bor_val _) aB.nil) (gV (aB.cons (bor_val _) aB.nil) iv)) ?_
 intro h0 w0 Fz0
 have htp:=YW w l
 refine mx ?_
 refine rK ?_
 refine sS [0,1,4,5,7000] [] ?_
 refine fv ?_
 refine rA ?_ (x:=cL [(false,[val _]),(false,[val _])] [(false,[val _]),(false,[val _])] Wp (hs:=by exact ZK))
 refine lv ?_
 refine jS ?_
 refine sS [0,1,4,5,6,7,7000] [] ?_
 refine jW ?_
 refine jS ?_
 refine sS [0,1,4,5,6,7,8,9,7000] [] ?_
 refine fv ?_
 refine rM ?_
 refine cx 23 (fun ga sga=>?_) (fun ga sga=>?_)
 refine gv ?_
 refine jx ?_
 exact Jq
 refine av.s0f ga ?_
 refine jY ?_
 exact Jq
def ZS{s:am}(hl:s.length≤1048576):db prog gl 56 [(false,[val (.string (B s))])] (aJ [(true,[val (vI ((gA s).getD dp).Id),val (vI ((gA s).getD dp).ade),sl bb (((gA s).getD dp).ada.map bU),sl ak (((gA s).getD dp).Out.map ax)]),(false,[val (.bool (gA s).isSome)])]):=by
 refine gq (rs:=[(true,[val (vI ((gA s).getD dp).Id),val (vI ((gA s).getD dp).ade),sl bb (((gA s).getD dp).ada.map bU),sl ak (((gA s).getD dp).Out.map ax)]),(false,[val (.bool (gA s).isSome)])]) func56 rfl (nl rfl) (gV (aB.cons (bor_val _) aB.nil) iv) ?_
 intro h0 w0 Fz0
 have hsl:=zj 32 s
 have htm:=YX (aw 32 s).length
 have hfl:=OE (jj (aw 32 s))
 refine sR ?_
 refine rX ?_ (x:=(ew ae qD qE))
 refine xX ?_
 refine BM ?_
 refine fY ?_
 refine sS [0,2,3,4,7000] [2] ?_
 refine qj ?_
 refine gu ?_
 refine sS [0,2,3,4,5,7000] [2] ?_
 refine rM ?_
 refine sx ?_
 refine cx 30 (fun ga sga=>?_) (fun ga sga=>?_)
 refine ly ?_
 refine av.cases (s:=35) rfl (fun g2=>?_) (fun g2=>nomatch g2)
 refine mw ?_
 refine cd ?_
 exact AW
 refine gv ?_
 refine rB ga ?_ (x:=Av ae au (bI rfl) ab)
 refine rB ga ?_ (x:=lm)
 refine qp ?_
 refine cx 35 (fun gb sgb=>?_) (fun gb sgb=>?_)
 refine uO ?_
 refine cd ?_
 exact AW
 refine lz ?_
 refine Cu ?_
 refine sc ?_ ?_<;>intro hba
 exact AW
 have hn4:4≤(aw 32 s).length:=ua
 have hn2:(aw 32 s).length%2=0:=ua
 have hn10:(aw 32 s).length≤10:=ua
 have h0w:0 < (aw 32 s).length:=ab
 have h1w:1 < (aw 32 s).length:=ab
 have hlw:(aw 32 s).length - 1 < (aw 32 s).length:=ab
 have hwd0:=kV 32 s 0
 have hwd1:=kV 32 s 1
 have hwd2:=kV 32 s ((aw 32 s).length - 1)
 refine bd ?_
 refine sS [0,2,3,4,5,7000] [2] ?_
 refine xx ?_
 refine mB ?_
 refine rA ?_ (x:=gL [(false,[val _]),(false,[val _])] [(false,[val _]),(false,[val _])] yQ (hs:=by exact (zq (l:=[113]) ab)))
 refine lv ?_
 refine jS ?_
 refine sS [0,2,3,4,5,6,7,7000] [2] ?_
 refine xT ?_
 refine rA ?_ (x:=gL [(false,[val _]),(false,[val _])] [(false,[val _]),(false,[val _])] yQ (hs:=by exact (zq (l:=[116]) ab)))
 refine lv ?_
 refine jS ?_
 refine sS [0,2,3,4,5,6,7,8,9,7000] [2] ?_
 refine iz ?_
 refine mz ?_
 refine rA ?_ (x:=bT (k:=((aw 32 s).length - 1)) ae eo au ab (by exact iu hlw (by rw [←vV hlw])) aj)
 refine mB ?_
 refine Lz ?_
 refine Kx ?_
 refine fY ?_
 refine rS ?_
 refine sS [0,2,3,4,5,6,7,8,9,10,11,7000] [2] ?_
 refine fv ?_
 refine bW ?_
 refine rA ?_ (x:=dZ (qs:=[(false,[val _]),(false,[val _]),(false,[sl _ _])]) (cs:=cD) ae qD qE PH aj tY rfl aj)
 refine KX ?_
 refine aU ?_
 refine sO [(0,_),(2,_),(3,_),(4,_),(5,_),(6,_),(7,_),(8,_),(9,_),(11,_),(12,_),(7000,_)] [(2,_),(12,(25,cD))] ?_
 refine bh ?_
 refine fv ?_
 refine cx 68 (fun gc sgc=>?_) (fun gc sgc=>?_)
 refine rB gc ?_ (x:=sM)
 refine my ?_
 refine rM ?_
 refine cx 71 (fun gd sgd=>?_) (fun gd sgd=>?_)
 refine xU ?_
 refine Cb ?_
 refine iY ?_
 refine Bd ?_
 rintro k hk
 refine sa ?_
 refine fv ?_
 refine mz ?_
 refine fx ?_
 refine sc ?_ ?_<;>intro hbb
 have hlt:k < (((aw 32 s).length - 4) / 2):=ab
 have h2w:2+2 * k < (aw 32 s).length:=ab
 have h3w:3+2 * k < (aw 32 s).length:=ab
 have hcl:=Ev (aw 32 s) k
 have hw2:=kV 32 s (2+2 * k)
 have hw3:=kV 32 s (3+2 * k)
 have hca:=tN ((aw 32 s).getD (3+2 * k) []) [46,46]
 have hcz:=tO ((aw 32 s).getD (3+2 * k) []) [46,46]
 refine BZ ?_
 refine BH ?_
 refine By ?_
 refine lv ?_
 refine BX ?_
 refine iz ?_
 refine BE ?_
 refine Bz ?_
 refine bW ?_
 refine sE ?_
 refine BW ?_
 refine jW ?_
 refine BU ?_
 refine jW ?_
 refine BS ?_
 refine Bq ?_
 refine fv ?_
 refine rM ?_
 refine Be ?_
 refine Bk ?_
 refine Bh ?_
 refine bh ?_
 refine fv ?_
 refine cx 118 (fun ge sge=>?_) (fun ge sge=>?_)
 refine rB ge ?_ (x:=sM)
 refine sw ?_
 refine cx 121 (fun gf sgf=>?_) (fun gf sgf=>?_)
 exact Js
 refine av.s0f gf ?_
 refine rA ?_ (x:=aK gf)
 refine rM ?_
 refine av.cases (s:=124) rfl (fun g13=>nomatch g13) (fun g13=>?_)
 refine av.s0f g13 ?_
 refine rA ?_ (x:=aK g13)
 exact mq
 refine av.s0f ge ?_
 refine uR ?_
 refine av.cases (s:=121) rfl (fun g14=>nomatch g14) (fun g14=>?_)
 refine av.s0f g14 ?_
 refine rA ?_ (x:=aK g14)
 refine rM ?_
 refine av.cases (s:=124) rfl (fun g15=>nomatch g15) (fun g15=>?_)
 refine av.s0f g15 ?_
 refine rA ?_ (x:=aK g15)
 exact mq
 have hend:k=(((aw 32 s).length - 4) / 2):=ab
 subst hend
 refine Ca ?_
 refine rM ?_
 refine fj ?_
 refine cx 129 (fun ge sge=>?_) (fun ge sge=>?_)
 refine zt ge ?_
 refine sw ?_
 refine av.cases (s:=134) rfl (fun g17=>?_) (fun g17=>nomatch g17)
 refine zt g17 ?_
 refine rA ?_ (x:=bF g17)
 exact uv
 exact Jv
 refine uK ?_
 refine Cb ?_
 refine iY ?_
 refine Bd ?_
 rintro k hk
 refine sa ?_
 refine fv ?_
 refine mz ?_
 refine fx ?_
 refine sc ?_ ?_<;>intro hbb
 have hlt:k < (((aw 32 s).length - 4) / 2):=ab
 have h2w:2+2 * k < (aw 32 s).length:=ab
 have h3w:3+2 * k < (aw 32 s).length:=ab
 have hcl:=Ev (aw 32 s) k
 have hw2:=kV 32 s (2+2 * k)
 have hw3:=kV 32 s (3+2 * k)
 have hca:=tN ((aw 32 s).getD (3+2 * k) []) [46,46]
 have hcz:=tO ((aw 32 s).getD (3+2 * k) []) [46,46]
 refine BZ ?_
 refine BH ?_
 refine By ?_
 refine lv ?_
 refine BX ?_
 refine iz ?_
 refine BE ?_
 refine Bz ?_
 refine bW ?_
 refine sE ?_
 refine BW ?_
 refine jW ?_
 refine BU ?_
 refine jW ?_
 refine BS ?_
 refine Bq ?_
 refine fv ?_
 refine rM ?_
 refine Be ?_
 refine Bk ?_
 refine Bh ?_
 refine bh ?_
 refine fv ?_
 refine cx 118 (fun ge sge=>?_) (fun ge sge=>?_)
 refine rB ge ?_ (x:=sM)
 refine sw ?_
 refine cx 121 (fun gf sgf=>?_) (fun gf sgf=>?_)
 exact Js
 refine av.s0f gf ?_
 refine rA ?_ (x:=aK gf)
 refine rM ?_
 refine av.cases (s:=124) rfl (fun g26=>nomatch g26) (fun g26=>?_)
 refine av.s0f g26 ?_
 refine rA ?_ (x:=aK g26)
 exact mq
 refine av.s0f ge ?_
 refine uR ?_
 refine av.cases (s:=121) rfl (fun g27=>nomatch g27) (fun g27=>?_)
 refine av.s0f g27 ?_
 refine rA ?_ (x:=aK g27)
 refine rM ?_
 refine av.cases (s:=124) rfl (fun g28=>nomatch g28) (fun g28=>?_)
 refine av.s0f g28 ?_
 refine rA ?_ (x:=aK g28)
 exact mq
 have hend:k=(((aw 32 s).length - 4) / 2):=ab
 subst hend
 refine Ca ?_
 refine rM ?_
 refine fj ?_
 refine cx 129 (fun ge sge=>?_) (fun ge sge=>?_)
 refine zt ge ?_
 refine sw ?_
 refine av.cases (s:=134) rfl (fun g30=>?_) (fun g30=>nomatch g30)
 refine zt g30 ?_
 refine rA ?_ (x:=bF g30)
 exact uv
 exact Jv
 refine av.s0f gc ?_
 refine lA ?_
 refine rM ?_
 refine av.cases (s:=71) rfl (fun g35=>nomatch g35) (fun g35=>?_)
 refine av.s0f g35 ?_
 refine rA ?_ (x:=aK g35)
 refine Cb ?_
 refine iY ?_
 refine Bd ?_
 rintro k hk
 refine sa ?_
 refine fv ?_
 refine mz ?_
 refine fx ?_
 refine sc ?_ ?_<;>intro hbb
 have hlt:k < (((aw 32 s).length - 4) / 2):=ab
 have h2w:2+2 * k < (aw 32 s).length:=ab
 have h3w:3+2 * k < (aw 32 s).length:=ab
 have hcl:=Ev (aw 32 s) k
 have hw2:=kV 32 s (2+2 * k)
 have hw3:=kV 32 s (3+2 * k)
 have hca:=tN ((aw 32 s).getD (3+2 * k) []) [46,46]
 have hcz:=tO ((aw 32 s).getD (3+2 * k) []) [46,46]
 refine BZ ?_
 refine BH ?_
 refine By ?_
 refine lv ?_
 refine BX ?_
 refine iz ?_
 refine BE ?_
 refine Bz ?_
 refine bW ?_
 refine sE ?_
 refine BW ?_
 refine jW ?_
 refine BU ?_
 refine jW ?_
 refine BS ?_
 refine Bq ?_
 refine fv ?_
 refine rM ?_
 refine Be ?_
 refine Bk ?_
 refine Bh ?_
 refine bh ?_
 refine fv ?_
 refine cx 118 (fun gd sgd=>?_) (fun gd sgd=>?_)
 refine xU ?_
 refine rM ?_
 refine cx 121 (fun ge sge=>?_) (fun ge sge=>?_)
 refine rB ge ?_ (x:=sM)
 refine sw ?_
 refine cx 124 (fun gf sgf=>?_) (fun gf sgf=>?_)
 refine rB gf ?_ (x:=sM)
 refine rA ?_ (x:=bF gf)
 exact mq
 refine av.s0f gf ?_
 refine rA ?_ (x:=aK gf)
 exact mq
 refine av.s0f ge ?_
 refine uR ?_
 refine av.cases (s:=124) rfl (fun g40=>nomatch g40) (fun g40=>?_)
 refine av.s0f g40 ?_
 refine rA ?_ (x:=aK g40)
 exact mq
 refine uK ?_
 refine rM ?_
 refine av.cases (s:=121) rfl (fun g41=>nomatch g41) (fun g41=>?_)
 refine av.s0f g41 ?_
 refine rA ?_ (x:=aK g41)
 refine rM ?_
 refine av.cases (s:=124) rfl (fun g42=>nomatch g42) (fun g42=>?_)
 refine av.s0f g42 ?_
 refine rA ?_ (x:=aK g42)
 exact mq
 have hend:k=(((aw 32 s).length - 4) / 2):=ab
 subst hend
 refine Ca ?_
 refine rM ?_
 refine fj ?_
 refine cx 129 (fun gd sgd=>?_) (fun gd sgd=>?_)
 refine zt gd ?_
 refine rA ?_ (x:=bF gd)
 refine rM ?_
 refine av.cases (s:=134) rfl (fun g44=>?_) (fun g44=>nomatch g44)
 refine zt g44 ?_
 refine rA ?_ (x:=bF g44)
 exact uv
 refine rB gd ?_ (x:=lD cI gi)
 refine rB gd ?_ (x:=cL [(true,cD)] [(true,cI)] yu (hs:=FT))
 refine rB gd ?_ (x:=nT)
 refine rA ?_ (x:=aK gd)
 refine rM ?_
 refine cx 134 (fun ge sge=>?_) (fun ge sge=>?_)
 refine zt ge ?_
 refine rA ?_ (x:=bF ge)
 exact uv
 refine rB ge ?_ (x:=lD cI gi)
 refine rB ge ?_ (x:=gL [(true,cD)] [(true,cI)] DJ (hs:=FQ))
 refine rB ge ?_ (x:=sM)
 refine rB ge ?_ (x:=wX)
 refine rA ?_ (x:=aK ge)
 exact Ju
end Go.Proofs.YtmekkgdboplbjaaGreatDoor
