/- What functions of the program compute. No condition. -/
import Derived.Test.YtmekkgdboplbjaaGreatDoorES0
import Derived.Test.YtmekkgdboplbjaaGreatDoorEL0
set_option linter.all false
namespace Go.Proofs.YtmekkgdboplbjaaGreatDoor
open Go Go.RowKit M PV
set_option maxRecDepth 10000
attribute [local irreducible] PV.Lcl PV.LclR RV.Lcl
def asa{x:hI}:aQ Tryz.prog 156 [(true,[val (vI x.Segment),val (vI x.Base),sl .v (x.Ids.map ar),sl .v (x.ax9.map ar),sl .v (x.Rows.map ar)])] (aB [(false,[val (.bool (gQ x))])]):=by
 refine sF Tryz.func156 fun h0 w0 Fz0=>?_
 refine sn 0 2 fun hl0_2=>?_
 refine sn 0 3 fun hl0_3=>?_
 refine sn 0 4 fun hl0_4=>?_
 refine Ck ?_
 refine uI ?_
 refine Ie ?_
 refine Iw ?_
 refine rA ?_ (x:=lF rF)
 refine uO ?_
 refine rA ?_ (x:=cL [(false,[sl _ _])] [(false,[sl .v _])] an9 (hs:=by exact arz))
 refine fp ?_
 refine cx 12 ?_ ?_<;>intro ga sga
 refine jH ?_
 refine au.cases (s:=17) rfl (fun g2=>?_) (fun g2=>nomatch g2)
 refine oI ?_
 refine au.cases (s:=24) rfl (fun g3=>?_) (fun g3=>nomatch g3)
 refine oF ?_
 exact sN
 refine gN ?_
 refine Cd ?_
 refine ly ?_
 refine cx 17 ?_ ?_<;>intro gb sgb
 refine nG ?_
 refine au.cases (s:=24) rfl (fun g6=>?_) (fun g6=>nomatch g6)
 refine th ?_
 exact sN
 refine rB gb ?_ (x:=lF tV)
 refine zW ?_
 refine rB gb ?_ (x:=lN cn)
 refine kh ?_
 refine rB gb ?_ (x:=ig)
 refine sW ?_
 refine cx 24 ?_ ?_<;>intro gc sgc
 refine HC ?_
 exact sN
 refine rB gc ?_ (x:=lF qc)
 refine rB gc ?_ (x:=lD [sl .v _] cW)
 refine rB gc ?_ (x:=lN cn)
 refine nL ?_
 refine rB gc ?_ (x:=ig)
 refine to ?_
 refine sc ?_ ?_<;>intro hba
 exact MP
 have hpr:oS x=true:=by
  unfold oS aK
  simp only [aX,decide_eq_true_eq]
  refine ⟨by first|assumption|simp_all,?_⟩
  first|omega|(simp only [aK,aX,decide_eq_true_eq,Bool.not_eq_true,Bool.not_eq_false] at *;omega)
 have hpl:=ahU hpr
 refine dp ?_
 refine pJ ?_
 refine Ie ?_
 refine fK ?_
 refine sP [1,2,3,33,34] [1] ?_
 refine sL [1,3,33] [1] (fun k:Nat=>k≤x.Ids.length∧tL x k=true) (fun k:Nat=>[(34,RV.int (k:Int))]) (fun k:Nat=>[]) (fun k:Nat=>x.Ids.length - k) 0 gF bp an ?_
 rintro k ⟨hk,ha⟩
 refine cY ?_
 refine sc ?_ ?_<;>intro hbb
 have hlt:k < x.Ids.length:=ab
 have htl:k < x.ax9.length:=ab
 have hrl:k < x.Rows.length:=ab
 refine bv ?_
 refine sT [1,3,33,34] [1] ?_
 refine rM ?_
 refine eU ?_
 refine sP [1,3,4,33,34] [1] ?_
 refine Qh ?_
 refine dA 1 ?_ (x:=lD [sl .v _] cW)
 refine dS ?_
 refine zll ?_
 refine dA 31 ?_ (x:=cL [(false,[val _]),(false,[val _]),(false,[val _])] [(false,[val _]),(false,[val _]),(false,[val _])] rq (hs:=qC))
 refine dA 63 ?_ (x:=nT)
 refine dA 127 ?_ (x:=sM)
 refine dx 44 ?_ ?_<;>intro gd sgd
 refine dT 255 gd ?_
 refine dT 511 gd ?_
 refine dT 255 gd ?_
 refine dT 2047 gd ?_
 refine dT 4095 gd ?_
 refine dT 255 gd ?_
 refine dT 8447 gd ?_
 refine dT 32767 gd ?_
 refine dT 65535 gd ?_
 refine dA 131071 ?_ (x:=bj gd)
 refine cH ?_
 exact YN
 refine dB 255 gd ?_ (x:=lF qc)
 refine dB 511 gd ?_ (x:=lD [sl .v _] cW)
 refine dB 255 gd ?_ (x:=sM)
 refine dB 2047 gd ?_ (x:=aZ (k:=k) aj cn an fU Lp ak)
 refine dB 4095 gd ?_ (x:=lE [val _] bb)
 refine dB 255 gd ?_ (x:=lF xP)
 refine dB 8447 gd ?_ (x:=lD [val _] bb)
 refine dB 32767 gd ?_ (x:=cL [(false,[val _]),(false,[val _]),(false,[val _])] [(false,[val _]),(false,[val _]),(false,[val _])] rq (hs:=qC))
 refine dB 65535 gd ?_ (x:=nT)
 refine dA 131071 ?_ (x:=aR gd)
 refine sc ?_ ?_<;>intro hbc
 exact YN
 have hyes:tK x k=true:=EY
 refine ba ?_
 refine sG [1,3,4,33,34] [1] ?_
 refine dI ?_
 exact YO
 have hend:k=x.Ids.length:=ab
 rw [hend] at ha
 refine bI ?_
 refine sT [1,3,33,34] [1] ?_
 refine rA ?_ (x:=lF DP)
 refine xg ?_
 refine cx 59 ?_ ?_<;>intro gd sgd
 refine rB gd ?_ (x:=lF xP)
 refine Oe ?_
 refine rj ?_
 exact YP
 refine zu ?_
 exact YP
def asb{x:hI}:aQ Tryz.prog 160 [(true,[val (vI x.Segment),val (vI x.Base),sl .v (x.Ids.map ar),sl .v (x.ax9.map ar),sl .v (x.Rows.map ar)])] (aB [(false,[val (.bool (gQ x))])]):=by
 refine sF Tryz.func160 fun h0 w0 Fz0=>?_
 refine sn 0 2 fun hl0_2=>?_
 refine sn 0 3 fun hl0_3=>?_
 refine sn 0 4 fun hl0_4=>?_
 refine Ck ?_
 refine uI ?_
 refine Ie ?_
 refine Iw ?_
 refine rA ?_ (x:=lF rF)
 refine uO ?_
 refine rA ?_ (x:=cL [(false,[sl _ _])] [(false,[sl .v _])] Rb (hs:=by exact RZ))
 refine fp ?_
 refine cx 12 ?_ ?_<;>intro ga sga
 refine jH ?_
 refine au.cases (s:=16) rfl (fun g2=>?_) (fun g2=>nomatch g2)
 refine oI ?_
 refine au.cases (s:=20) rfl (fun g3=>?_) (fun g3=>nomatch g3)
 refine oF ?_
 refine rM ?_
 refine au.cases (s:=27) rfl (fun g4=>?_) (fun g4=>nomatch g4)
 refine Is ?_
 refine rM ?_
 refine au.cases (s:=34) rfl (fun g5=>?_) (fun g5=>nomatch g5)
 refine zt g5 ?_
 refine rA ?_ (x:=bj g5)
 refine rM ?_
 refine au.cases (s:=40) rfl (fun g6=>?_) (fun g6=>nomatch g6)
 refine th ?_
 exact sN
 refine gN ?_
 refine rB ga ?_ (x:=iZ)
 refine ly ?_
 refine cx 16 ?_ ?_<;>intro gb sgb
 refine nG ?_
 refine au.cases (s:=20) rfl (fun g9=>?_) (fun g9=>nomatch g9)
 refine It ?_
 refine rM ?_
 refine au.cases (s:=27) rfl (fun g10=>?_) (fun g10=>nomatch g10)
 refine zt g10 ?_
 refine rA ?_ (x:=bj g10)
 refine rM ?_
 refine au.cases (s:=34) rfl (fun g11=>?_) (fun g11=>nomatch g11)
 refine Il ?_
 refine rM ?_
 refine au.cases (s:=40) rfl (fun g12=>?_) (fun g12=>nomatch g12)
 refine Im ?_
 exact sN
 refine HV ?_
 refine sW ?_
 refine cx 20 ?_ ?_<;>intro gc sgc
 refine pF ?_
 refine au.cases (s:=27) rfl (fun g15=>?_) (fun g15=>nomatch g15)
 refine In ?_
 refine rM ?_
 refine au.cases (s:=34) rfl (fun g16=>?_) (fun g16=>nomatch g16)
 refine zt g16 ?_
 refine rA ?_ (x:=bj g16)
 refine rM ?_
 refine au.cases (s:=40) rfl (fun g17=>?_) (fun g17=>nomatch g17)
 refine Io ?_
 exact sN
 refine Pk ?_
 refine rB gc ?_ (x:=lN cn)
 refine nL ?_
 refine rB gc ?_ (x:=ig)
 refine zz ?_
 refine cx 27 ?_ ?_<;>intro gd sgd
 refine zt gd ?_
 refine pA ?_
 refine au.cases (s:=34) rfl (fun g20=>?_) (fun g20=>nomatch g20)
 refine zt g20 ?_
 refine rA ?_ (x:=bj g20)
 refine rM ?_
 refine au.cases (s:=40) rfl (fun g21=>?_) (fun g21=>nomatch g21)
 refine zt g21 ?_
 refine rA ?_ (x:=bj g21)
 exact sN
 refine Pm ?_
 refine rB gd ?_ (x:=lN cn)
 refine rB gd ?_ (x:=sM)
 refine rB gd ?_ (x:=ig)
 refine pB ?_
 refine cx 34 ?_ ?_<;>intro ge sge
 refine zt ge ?_
 refine nF ?_
 refine au.cases (s:=40) rfl (fun g24=>?_) (fun g24=>nomatch g24)
 refine zt g24 ?_
 refine rA ?_ (x:=bj g24)
 exact sN
 refine rB ge ?_ (x:=lF DP)
 refine zm4 ?_
 refine rB ge ?_ (x:=nT)
 refine ra ?_
 refine cx 40 ?_ ?_<;>intro gf sgf
 refine CK ?_
 exact sN
 refine rB gf ?_ (x:=lF xP)
 refine Dd ?_
 refine rB gf ?_ (x:=cL [(false,[val _]),(false,[val _]),(false,[val _])] [(false,[val _]),(false,[val _]),(false,[val _])] mh (hs:=lO))
 refine rB gf ?_ (x:=nT)
 refine pL ?_
 refine sc ?_ ?_<;>intro hba
 exact MP
 have hpr:oS x=true:=by
  unfold oS aK
  simp only [aX,decide_eq_true_eq]
  refine ⟨by first|assumption|simp_all,?_⟩
  first|omega|(simp only [aK,aX,decide_eq_true_eq,Bool.not_eq_true,Bool.not_eq_false] at *;omega)
 have hpl:=ahU hpr
 have hsb:(aK x.Segment 0 7&&aK x.Base 0 4)=true:=dO
 refine dp ?_
 refine Ix ?_
 refine sL [1,3] [1] (fun k:Nat=>k≤x.Ids.length∧tL x k=true) (fun k:Nat=>[(4,RV.int (k:Int))]) (fun k:Nat=>[]) (fun k:Nat=>x.Ids.length - k) 0 gF bp an ?_
 rintro k ⟨hk,ha⟩
 refine cP ?_
 refine uJ ?_
 refine sc ?_ ?_<;>intro hbb
 have hlt:k < x.Ids.length:=ab
 have htl:k < x.ax9.length:=ab
 have hrl:k < x.Rows.length:=ab
 refine eB ?_
 refine sQ [1,3,4] [1] ?_
 refine Qh ?_
 refine dA 1 ?_ (x:=lD [sl .v _] cW)
 refine dS ?_
 refine zll ?_
 refine dA 31 ?_ (x:=cL [(false,[val _]),(false,[val _]),(false,[val _])] [(false,[val _]),(false,[val _]),(false,[val _])] mh (hs:=lO))
 refine dA 63 ?_ (x:=nT)
 refine dA 127 ?_ (x:=sM)
 refine dx 58 ?_ ?_<;>intro gg sgg
 refine dT 255 gg ?_
 refine dT 511 gg ?_
 refine dT 255 gg ?_
 refine dT 2047 gg ?_
 refine dT 4095 gg ?_
 refine dT 255 gg ?_
 refine dT 8447 gg ?_
 refine dT 32767 gg ?_
 refine dT 65535 gg ?_
 refine dA 131071 ?_ (x:=bj gg)
 refine cH ?_
 exact YQ
 refine dB 255 gg ?_ (x:=lF qc)
 refine dB 511 gg ?_ (x:=lD [sl .v _] cW)
 refine dB 255 gg ?_ (x:=sM)
 refine dB 2047 gg ?_ (x:=aZ (k:=k) aj cn an fU Lp ak)
 refine dB 4095 gg ?_ (x:=lE [val _] bb)
 refine dB 255 gg ?_ (x:=lF xP)
 refine dB 8447 gg ?_ (x:=lD [val _] bb)
 refine dB 32767 gg ?_ (x:=cL [(false,[val _]),(false,[val _]),(false,[val _])] [(false,[val _]),(false,[val _]),(false,[val _])] mh (hs:=lO))
 refine dB 65535 gg ?_ (x:=nT)
 refine dA 131071 ?_ (x:=aR gg)
 refine sc ?_ ?_<;>intro hbc
 exact YQ
 have hyes:tK x k=true:=EY
 refine ba ?_
 refine sG [1,3,4] [1] ?_
 refine cB ?_
 exact YO
 have hend:k=x.Ids.length:=ab
 rw [hend] at ha
 refine bI ?_
 refine sT [1,3,4] [1] ?_
 refine ca ?_
 exact rb (by simp_all [gQ])
end Go.Proofs.YtmekkgdboplbjaaGreatDoor
