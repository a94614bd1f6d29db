/- What functions of the program compute. No condition. -/
import Derived.Test.YtmekkgdboplbjaaGreatDoorEL1
import Derived.Test.YtmekkgdboplbjaaGreatDoorEU0
set_option linter.all false
namespace Go.Proofs.YtmekkgdboplbjaaGreatDoor
open Go Go.RowKit M PV Tryz
set_option maxRecDepth 10000
attribute [local irreducible] PV.Lcl PV.LclR RV.Lcl
set_option maxHeartbeats 8000000
def aw8{p1 p3:Fl}{x:List be}{y:List be}:aQ prog 207 [(false,[sl .v (x.map (gG p1))]),(false,[sl .v (y.map (gG p3))])] (aB [(false,[val (.bool (hE x y))])]):=by
 refine sF func207 fun h0 w0 Fz0=>?_
 refine sj 0 fun hl0=>?_
 refine sj 1 fun hl1=>?_
 refine ti ?_
 refine qX ?_
 refine qX ?_
 refine mQ ?_
 refine sc ?_ ?_<;>intro hba
 exact BH
 have hl:x.length=y.length:=ab
 refine CQ ?_
 refine cl ?_
 refine NS ?_
 rintro k ⟨hk,ha⟩
 refine cP ?_
 refine qX ?_
 refine dQ ?_
 refine sc ?_ ?_<;>intro hbb
 have hlt:k < x.length:=ab
 have hlt2:k < y.length:=ab
 refine CR ?_
 refine oG ?_
 refine zuy ?_
 refine dA 15 ?_ (x:=lE [val _] bb)
 refine ij ?_
 refine zuz ?_
 refine dA 224 ?_ (x:=cR aj xO az)
 refine dA 480 ?_ (x:=lE [val _] bb)
 refine dA 1023 ?_ (x:=ig)
 refine dA 2047 ?_ (x:=sM)
 refine dx 28 ?_ ?_<;>intro ga sga
 refine dT 4095 ga ?_
 refine dT 4095 ga ?_
 refine dT 16383 ga ?_
 refine dT 32767 ga ?_
 refine dT 65535 ga ?_
 refine dT 4095 ga ?_
 refine dT 4095 ga ?_
 refine dT 397311 ga ?_
 refine dT 921599 ga ?_
 refine dT 1970175 ga ?_
 refine HR ?_
 refine dA 16777215 ?_ (x:=sM)
 refine bO.cases (s:=41) rfl (fun g4=>?_) (fun g4=>nomatch g4)
 refine dT 33554431 g4 ?_
 refine dT 33554431 g4 ?_
 refine dT 134217727 g4 ?_
 refine dT 268435455 g4 ?_
 refine dT 536870911 g4 ?_
 refine dT 33554431 g4 ?_
 refine dT 33554431 g4 ?_
 refine dT 3254779903 g4 ?_
 refine dT 7549747199 g4 ?_
 refine dT 16139681791 g4 ?_
 refine dT 34359738367 g4 ?_
 refine dA 68719476735 ?_ (x:=bj g4)
 refine dA 137438953471 ?_ (x:=sM)
 refine bO.cases (s:=54) rfl (fun g5=>?_) (fun g5=>nomatch g5)
 refine dT 274877906943 g5 ?_
 refine dT 274877906943 g5 ?_
 refine dT 1099511627775 g5 ?_
 refine dT 2199023255551 g5 ?_
 refine dT 4398046511103 g5 ?_
 refine dT 274877906943 g5 ?_
 refine dT 274877906943 g5 ?_
 refine dT 26663156973567 g5 ?_
 refine dT 61847529062399 g5 ?_
 refine dT 132216273240063 g5 ?_
 refine dT 281474976710655 g5 ?_
 refine dT 562949953421311 g5 ?_
 refine dA 1125899906842623 ?_ (x:=bj g5)
 refine cH ?_
 exact yM
 refine dB 4095 ga ?_ (x:=vM false [sl .v _])
 refine dB 4095 ga ?_ (x:=sM)
 refine dB 16383 ga ?_ (x:=aZ aj dq an ak bE ak)
 refine dB 32767 ga ?_ (x:=cR aj nc az)
 refine dB 65535 ga ?_ (x:=lE [val _] bb)
 refine dB 4095 ga ?_ (x:=vM false [sl .v _])
 refine dB 4095 ga ?_ (x:=sM)
 refine dB 397311 ga ?_ (x:=aZ aj dq an ak bE ak)
 refine dB 921599 ga ?_ (x:=cR aj nc az)
 refine dB 1970175 ga ?_ (x:=lE [val _] bb)
 refine dB 4194303 ga ?_ (x:=ig)
 refine dA 8388607 ?_ (x:=aR ga)
 refine dA 16777215 ?_ (x:=sM)
 refine dx 41 ?_ ?_<;>intro gb sgb
 refine dT 33554431 gb ?_
 refine dT 33554431 gb ?_
 refine dT 134217727 gb ?_
 refine dT 268435455 gb ?_
 refine dT 536870911 gb ?_
 refine dT 33554431 gb ?_
 refine dT 33554431 gb ?_
 refine dT 3254779903 gb ?_
 refine dT 7549747199 gb ?_
 refine dT 16139681791 gb ?_
 refine dT 34359738367 gb ?_
 refine dA 68719476735 ?_ (x:=bj gb)
 refine dA 137438953471 ?_ (x:=sM)
 refine bO.cases (s:=54) rfl (fun g8=>?_) (fun g8=>nomatch g8)
 refine dT 274877906943 g8 ?_
 refine dT 274877906943 g8 ?_
 refine dT 1099511627775 g8 ?_
 refine dT 2199023255551 g8 ?_
 refine dT 4398046511103 g8 ?_
 refine dT 274877906943 g8 ?_
 refine dT 274877906943 g8 ?_
 refine dT 26663156973567 g8 ?_
 refine dT 61847529062399 g8 ?_
 refine dT 132216273240063 g8 ?_
 refine dT 281474976710655 g8 ?_
 refine dT 562949953421311 g8 ?_
 refine dA 1125899906842623 ?_ (x:=bj g8)
 refine cH ?_
 exact yM
 refine dB 33554431 gb ?_ (x:=vM false [sl .v _])
 refine dB 33554431 gb ?_ (x:=sM)
 refine dB 134217727 gb ?_ (x:=aZ aj dq an ak bE ak)
 refine dB 268435455 gb ?_ (x:=cR aj ku az)
 refine dB 536870911 gb ?_ (x:=lE [val _] bb)
 refine dB 33554431 gb ?_ (x:=vM false [sl .v _])
 refine dB 33554431 gb ?_ (x:=sM)
 refine dB 3254779903 gb ?_ (x:=aZ aj dq an ak bE ak)
 refine dB 7549747199 gb ?_ (x:=cR aj ku az)
 refine dB 16139681791 gb ?_ (x:=lE [val _] bb)
 refine dB 34359738367 gb ?_ (x:=ig)
 refine dA 68719476735 ?_ (x:=aR gb)
 refine dA 137438953471 ?_ (x:=sM)
 refine dx 54 ?_ ?_<;>intro gc sgc
 refine dT 274877906943 gc ?_
 refine dT 274877906943 gc ?_
 refine dT 1099511627775 gc ?_
 refine dT 2199023255551 gc ?_
 refine dT 4398046511103 gc ?_
 refine dT 274877906943 gc ?_
 refine dT 274877906943 gc ?_
 refine dT 26663156973567 gc ?_
 refine dT 61847529062399 gc ?_
 refine dT 132216273240063 gc ?_
 refine dT 281474976710655 gc ?_
 refine dT 562949953421311 gc ?_
 refine dA 1125899906842623 ?_ (x:=bj gc)
 refine cH ?_
 exact yM
 refine Zfh ?_
 refine dB 1099511627775 gc ?_ (x:=aZ aj dq an ak bE ak)
 refine dB 2199023255551 gc ?_ (x:=cR aj oU az)
 refine dB 4398046511103 gc ?_ (x:=lE [sl .v _] cW)
 refine Zfh ?_
 refine dB 26663156973567 gc ?_ (x:=aZ aj dq an ak bE ak)
 refine dB 61847529062399 gc ?_ (x:=cR aj oU az)
 refine dB 132216273240063 gc ?_ (x:=lE [sl .v _] cW)
 refine dB 281474976710655 gc ?_ (x:=cL [(false,[sl _ _]),(false,[sl _ _])] [(false,[sl .v _]),(false,[sl .v _])] DA (hs:=Bb))
 refine dB 562949953421311 gc ?_ (x:=nT)
 refine dA 1125899906842623 ?_ (x:=aR gc)
 refine sc ?_ ?_<;>intro hbc
 exact yM
 refine zo ?_
 refine cB ?_
 refine nx (k+1) (by exact ⟨ab,xx ha hlt hlt2 (by rw [anS];simp_all [fZ])⟩)
 exact MO
def aw9{x:hI}{y:hI}:aQ prog 129 [(true,[val (vI x.Segment),val (vI x.Base),sl .v (x.Ids.map ar),sl .v (x.ax9.map ar),sl .v (x.Rows.map ar)]),(true,[val (vI y.Segment),val (vI y.Base),sl .v (y.Ids.map ar),sl .v (y.ax9.map ar),sl .v (y.Rows.map ar)])] (aB [(false,[val (.bool (hE x y))])]):=by
 refine sF func129 fun h0 w0 Fz0=>?_
 refine sn 0 2 fun hl0_2=>?_
 refine sn 0 3 fun hl0_3=>?_
 refine sn 0 4 fun hl0_4=>?_
 refine sn 1 2 fun hl1_2=>?_
 refine sn 1 3 fun hl1_3=>?_
 refine sn 1 4 fun hl1_4=>?_
 refine Ck ?_
 refine Zfi ?_
 refine wM ?_
 refine rA ?_ (x:=lF DP)
 refine ff ?_
 refine rA ?_ (x:=lF DP)
 refine ff ?_
 refine iw ?_
 refine cx 10 ?_ ?_<;>intro ga sga
 refine rB ga ?_ (x:=lF xP)
 refine kg ?_
 refine rB ga ?_ (x:=lF xP)
 refine tl ?_
 refine cx 17 ?_ ?_<;>intro gb sgb
 refine rB gb ?_ (x:=lF rF)
 refine zW ?_
 refine rB gb ?_ (x:=lF rF)
 refine Ot ?_
 refine iM ?_
 refine cx 24 ?_ ?_<;>intro gc sgc
 refine Pk ?_
 refine Pk ?_
 refine zx9 ?_
 refine lx ?_
 refine cx 31 ?_ ?_<;>intro gd sgd
 refine Pm ?_
 refine Pm ?_
 refine rB gd ?_ (x:=cL [(false,[sl _ _]),(false,[sl _ _])] [(false,[sl .v _]),(false,[sl .v _])] DA (hs:=Bb))
 refine rj ?_
 exact BP
 refine zu ?_
 exact BP
 refine nI ?_
 refine au.cases (s:=31) rfl (fun g5=>nomatch g5) (fun g5=>?_)
 refine wL ?_
 exact BP
 refine ix ?_
 refine au.cases (s:=24) rfl (fun g6=>nomatch g6) (fun g6=>?_)
 refine uF ?_
 refine rM ?_
 refine au.cases (s:=31) rfl (fun g7=>nomatch g7) (fun g7=>?_)
 refine wN ?_
 exact BP
 refine jb ?_
 refine au.cases (s:=17) rfl (fun g8=>nomatch g8) (fun g8=>?_)
 refine CL ?_
 refine rM ?_
 refine au.cases (s:=24) rfl (fun g9=>nomatch g9) (fun g9=>?_)
 refine tg ?_
 refine rM ?_
 refine au.cases (s:=31) rfl (fun g10=>nomatch g10) (fun g10=>?_)
 refine tf ?_
 exact BP
def axa{p4 p9:Fl}{x:ax3}{y:ax3}:aQ prog 126 [(true,[val (vI x.ax4.Id),val (vI x.ax4.ax8),sl .v (x.ax4.ax5.map bF),sl .v (x.ax4.Out.map ar),val (vI x.Time),sl .v (x.ayc.map ar),val (vI x.Age),val (vI x.Sent),val (vI x.Cap),sl .v (x.Rows.map (cD p4))]),(true,[val (vI y.ax4.Id),val (vI y.ax4.ax8),sl .v (y.ax4.ax5.map bF),sl .v (y.ax4.Out.map ar),val (vI y.Time),sl .v (y.ayc.map ar),val (vI y.Age),val (vI y.Sent),val (vI y.Cap),sl .v (y.Rows.map (cD p9))])] (aB [(false,[val (.bool (hE x y))])]):=by
 refine sF func126 fun h0 w0 Fz0=>?_
 refine sn 0 2 fun hl0_2=>?_
 refine sn 0 3 fun hl0_3=>?_
 refine sn 0 5 fun hl0_5=>?_
 refine sn 0 9 fun hl0_9=>?_
 refine sn 1 2 fun hl1_2=>?_
 refine sn 1 3 fun hl1_3=>?_
 refine sn 1 5 fun hl1_5=>?_
 refine sn 1 9 fun hl1_9=>?_
 refine zoc ?_
 refine Oz ?_
 refine sT [2,3,4] [2,3] ?_
 refine zub ?_
 refine rm ?_
 refine Zfl ?_
 refine rM ?_
 refine cx 10 ?_ ?_<;>intro ga sga
 refine rB ga ?_ (x:=lF vq)
 refine kg ?_
 refine rB ga ?_ (x:=lF vq)
 refine tl ?_
 refine cx 17 ?_ ?_<;>intro gb sgb
 refine Pn ?_
 refine rB gb ?_ (x:=lF tT)
 refine Ot ?_
 refine iM ?_
 refine cx 24 ?_ ?_<;>intro gc sgc
 refine rB gc ?_ (x:=lF Ay)
 refine oL ?_
 refine rB gc ?_ (x:=lF Ay)
 refine Cq ?_
 refine lx ?_
 refine cx 31 ?_ ?_<;>intro gd sgd
 refine rB gd ?_ (x:=lF qb)
 refine uQ ?_
 refine rB gd ?_ (x:=lF qb)
 refine HL ?_
 refine pA ?_
 refine cx 38 ?_ ?_<;>intro ge sge
 refine Px ?_
 refine Px ?_
 refine rB ge ?_ (x:=iZ)
 refine nF ?_
 refine cx 45 ?_ ?_<;>intro gf sgf
 refine HE ?_
 refine HE ?_
 refine rB gf ?_ (x:=cL [(false,[sl _ _]),(false,[sl _ _])] [(false,[sl .v _]),(false,[sl .v _])] air (hs:=by exact aji))
 refine tq ?_
 exact ww
 refine zf gf ?_
 refine pL ?_
 exact ww
 refine zf ge ?_
 refine ra ?_
 refine au.cases (s:=45) rfl (fun g7=>nomatch g7) (fun g7=>?_)
 refine wN ?_
 exact ww
 refine zf gd ?_
 refine pB ?_
 refine au.cases (s:=38) rfl (fun g8=>nomatch g8) (fun g8=>?_)
 refine CL ?_
 refine rM ?_
 refine au.cases (s:=45) rfl (fun g9=>nomatch g9) (fun g9=>?_)
 refine tg ?_
 exact ww
 refine nI ?_
 refine au.cases (s:=31) rfl (fun g10=>nomatch g10) (fun g10=>?_)
 refine tf ?_
 refine rM ?_
 refine au.cases (s:=38) rfl (fun g11=>nomatch g11) (fun g11=>?_)
 refine CD ?_
 refine rM ?_
 refine au.cases (s:=45) rfl (fun g12=>nomatch g12) (fun g12=>?_)
 refine Ih ?_
 exact ww
 refine ix ?_
 refine au.cases (s:=24) rfl (fun g13=>nomatch g13) (fun g13=>?_)
 refine Ij ?_
 refine rM ?_
 refine au.cases (s:=31) rfl (fun g14=>nomatch g14) (fun g14=>?_)
 refine zf g14 ?_
 refine IC ?_
 refine au.cases (s:=38) rfl (fun g15=>nomatch g15) (fun g15=>?_)
 refine zf g15 ?_
 refine rA ?_ (x:=aR g15)
 refine rM ?_
 refine au.cases (s:=45) rfl (fun g16=>nomatch g16) (fun g16=>?_)
 refine Ik ?_
 exact ww
 refine jb ?_
 refine au.cases (s:=17) rfl (fun g17=>nomatch g17) (fun g17=>?_)
 refine wK ?_
 refine rM ?_
 refine au.cases (s:=24) rfl (fun g18=>nomatch g18) (fun g18=>?_)
 refine CG ?_
 refine rM ?_
 refine au.cases (s:=31) rfl (fun g19=>nomatch g19) (fun g19=>?_)
 refine zm ?_
 refine rM ?_
 refine au.cases (s:=38) rfl (fun g20=>nomatch g20) (fun g20=>?_)
 refine CF ?_
 refine rM ?_
 refine au.cases (s:=45) rfl (fun g21=>nomatch g21) (fun g21=>?_)
 refine Ip ?_
 exact ww
def axb{p1 p2 p4 p5:Fl}{x:Store}{y:Store}:aQ prog 124 [(true,[sl .v (x.ax2.map (aO p1 p2)),val (vI x.Now)]),(true,[sl .v (y.ax2.map (aO p4 p5)),val (vI y.Now)])] (aB [(false,[val (.bool (hE x y))])]):=by
 refine sF func124 fun h0 w0 Fz0=>?_
 refine sn 0 0 fun hl0_0=>?_
 refine sn 1 0 fun hl1_0=>?_
 refine kN ?_
 refine rX ?_ (x:=(kG (ag:=true) (cs:=bW) aj an))
 refine CE ?_
 refine mP ?_
 refine mP ?_
 refine mQ ?_
 refine rM ?_
 refine cx 13 ?_ ?_<;>intro ga sga
 refine mb ?_
 exact Zfn
 refine PB ?_
 refine PB ?_
 refine rB ga ?_ (x:=ig)
 refine lz ?_
 refine sc ?_ ?_<;>intro hba
 exact Zfn
 have hl0:x.ax2.length=y.ax2.length∧x.Now=y.Now:=Lq
 obtain ⟨hl0,hnw⟩:=hl0
 refine Ii ?_
 refine cl ?_
 refine sP [2,3,4,5] [2,3] ?_
 refine sL [2,3] [2,3] (fun k:Nat=>k≤x.ax2.length∧List.take k x.ax2=List.take k y.ax2) (fun k:Nat=>[(5,RV.int (k:Int))]) (fun k:Nat=>[]) (fun k:Nat=>x.ax2.length - k) 0 iG bp an ?_
 rintro k ⟨hk0,ha0⟩
 refine zJ ?_
 refine sc ?_ ?_<;>intro hbb
 have hlt0:k < x.ax2.length:=ab
 have hlu0:k < y.ax2.length:=ab
 refine eB ?_
 refine sQ [2,3,5] [2,3] ?_
 refine cC ?_
 refine zX ?_
 refine dA 1 ?_ (x:=lD [sl .v _] mo)
 refine dS ?_
 refine dA 7 ?_ (x:=aZ aj gB an ak bE ak)
 refine dA 15 ?_ (x:=lE [sl .v _] jS)
 refine zX ?_
 refine dA 32 ?_ (x:=lD [sl .v _] mo)
 refine dS ?_
 refine dA 224 ?_ (x:=aZ aj gB an ak bE ak)
 refine dA 480 ?_ (x:=lE [sl .v _] jS)
 refine dA 1023 ?_ (x:=cL [(false,[sl _ _]),(false,[sl _ _])] [(false,[sl .v _]),(false,[sl .v _])] aqb (hs:=by exact aw8))
 refine dA 2047 ?_ (x:=nT)
 refine sc ?_ ?_<;>intro hbc
 exact Zfo
 have heq:x.ax2[k]=y.ax2[k]:=by exact fZ.1 sr
 exact Zfp
 have hend0:x.ax2=y.ax2:=Af hl0 (by rw [show x.ax2.length=k by omega];exact ha0)
 refine bI ?_
 refine sT [2,3,5] [2,3] ?_
 refine ca ?_
 exact rb ((xy (anW.2 ⟨hend0,hnw⟩)).symm)
def alD{p1 p2 p5 p6 p7 p8 p9 p11 p12 p13 p14 p16 p17 p18 p20 p21 p24 p25 p26 p27 p28 p30 p31 p32 p33 p35 p36 p37:Fl}{x:aC}{y:aC}:aQ prog 46 [(true,[sl .v (x.Store.ax2.map (aO p1 p2)),val (vI x.Store.Now),val (vI x.ax7),sl .v (x.Order.map ar),sl .v (x.ax3.map (bd p5 p6 p7 p8 p9)),sl .v (x.Done.map (bw p11 p12 p13 p14)),sl .v (x.ayf.map (bz p16 p17 p18)),val (vI x.Steps)]),(true,[sl .v (y.Store.ax2.map (aO p20 p21)),val (vI y.Store.Now),val (vI y.ax7),sl .v (y.Order.map ar),sl .v (y.ax3.map (bd p24 p25 p26 p27 p28)),sl .v (y.Done.map (bw p30 p31 p32 p33)),sl .v (y.ayf.map (bz p35 p36 p37)),val (vI y.Steps)])] (aB [(false,[val (.bool (hE x y))])]):=by
 refine sF func46 fun h0 w0 Fz0=>?_
 refine sn 0 0 fun hl0_0=>?_
 refine sn 0 3 fun hl0_3=>?_
 refine sn 0 4 fun hl0_4=>?_
 refine sn 0 5 fun hl0_5=>?_
 refine sn 0 6 fun hl0_6=>?_
 refine sn 1 0 fun hl1_0=>?_
 refine sn 1 3 fun hl1_3=>?_
 refine sn 1 4 fun hl1_4=>?_
 refine sn 1 5 fun hl1_5=>?_
 refine sn 1 6 fun hl1_6=>?_
 refine nE ?_
 refine Zfq ?_
 refine CE ?_
 refine zd ?_
 refine zd ?_
 refine rA ?_ (x:=cL [(true,bW),(true,bW)] [(true,eh),(true,eh)] apF (hs:=by exact axb))
 refine fp ?_
 refine cx 16 ?_ ?_<;>intro ga sga
 refine jH ?_
 refine au.cases (s:=23) rfl (fun g2=>?_) (fun g2=>nomatch g2)
 refine oI ?_
 refine au.cases (s:=31) rfl (fun g3=>?_) (fun g3=>nomatch g3)
 refine oF ?_
 refine rM ?_
 refine au.cases (s:=40) rfl (fun g4=>?_) (fun g4=>nomatch g4)
 refine Is ?_
 refine rM ?_
 refine au.cases (s:=49) rfl (fun g5=>?_) (fun g5=>nomatch g5)
 refine zt g5 ?_
 refine rA ?_ (x:=bj g5)
 refine rM ?_
 refine au.cases (s:=58) rfl (fun g6=>?_) (fun g6=>nomatch g6)
 refine th ?_
 exact yP
 refine Ct ?_
 refine Ct ?_
 refine rB ga ?_ (x:=ig)
 refine ly ?_
 refine cx 23 ?_ ?_<;>intro gb sgb
 refine nG ?_
 refine au.cases (s:=31) rfl (fun g9=>?_) (fun g9=>nomatch g9)
 refine It ?_
 refine rM ?_
 refine au.cases (s:=40) rfl (fun g10=>?_) (fun g10=>nomatch g10)
 refine zt g10 ?_
 refine rA ?_ (x:=bj g10)
 refine rM ?_
 refine au.cases (s:=49) rfl (fun g11=>?_) (fun g11=>nomatch g11)
 refine Il ?_
 refine rM ?_
 refine au.cases (s:=58) rfl (fun g12=>?_) (fun g12=>nomatch g12)
 refine Im ?_
 exact yP
 refine Pp ?_
 refine rB gb ?_ (x:=lF AA)
 refine Ot ?_
 refine wT ?_
 refine cx 31 ?_ ?_<;>intro gc sgc
 refine pF ?_
 refine au.cases (s:=40) rfl (fun g15=>?_) (fun g15=>nomatch g15)
 refine In ?_
 refine rM ?_
 refine au.cases (s:=49) rfl (fun g16=>?_) (fun g16=>nomatch g16)
 refine zt g16 ?_
 refine rA ?_ (x:=bj g16)
 refine rM ?_
 refine au.cases (s:=58) rfl (fun g17=>?_) (fun g17=>nomatch g17)
 refine Io ?_
 exact yP
 refine Ps ?_
 refine rB gc ?_ (x:=lN cQ)
 refine Ps ?_
 refine rB gc ?_ (x:=lN cQ)
 refine rB gc ?_ (x:=ig)
 refine zz ?_
 refine cx 40 ?_ ?_<;>intro gd sgd
 refine zt gd ?_
 refine pA ?_
 refine au.cases (s:=49) rfl (fun g20=>?_) (fun g20=>nomatch g20)
 refine zt g20 ?_
 refine rA ?_ (x:=bj g20)
 refine rM ?_
 refine au.cases (s:=58) rfl (fun g21=>?_) (fun g21=>nomatch g21)
 refine zt g21 ?_
 refine rA ?_ (x:=bj g21)
 exact yP
 refine Pq ?_
 refine rB gd ?_ (x:=lN nf)
 refine Pq ?_
 refine rB gd ?_ (x:=lN nf)
 refine rB gd ?_ (x:=ig)
 refine pB ?_
 refine cx 49 ?_ ?_<;>intro ge sge
 refine zt ge ?_
 refine nF ?_
 refine au.cases (s:=58) rfl (fun g24=>?_) (fun g24=>nomatch g24)
 refine zt g24 ?_
 refine rA ?_ (x:=bj g24)
 exact yP
 refine Pr ?_
 refine rB ge ?_ (x:=lN jR)
 refine Pr ?_
 refine rB ge ?_ (x:=lN jR)
 refine rB ge ?_ (x:=ig)
 refine ra ?_
 refine cx 58 ?_ ?_<;>intro gf sgf
 refine CK ?_
 exact yP
 refine rB gf ?_ (x:=lF ne)
 refine Dd ?_
 refine rB gf ?_ (x:=lF ne)
 refine Dd ?_
 refine rB gf ?_ (x:=ig)
 refine pL ?_
 refine sc ?_ ?_<;>intro hba
 exact Zfs
 have hall:x.Store=y.Store∧x.ax7=y.ax7∧x.Order=y.Order∧x.ax3.length=y.ax3.length∧x.Done.length=y.Done.length∧x.ayf.length=y.ayf.length∧x.Steps=y.Steps:=by refine ⟨?_,?_,?_,?_,?_,?_,?_⟩<;>first|(simp_all [fZ];done)|(simp_all [fZ];omega)
 obtain ⟨he1,he2,he3,hl0,hl1,hl2,he4⟩:=hall
 refine Ii ?_
 refine cl ?_
 refine sP [2,3,4,5] [2,3] ?_
 refine sL [2,3] [2,3] (fun k:Nat=>k≤x.ax3.length∧List.take k x.ax3=List.take k y.ax3) (fun k:Nat=>[(5,RV.int (k:Int))]) (fun k:Nat=>[]) (fun k:Nat=>x.ax3.length - k) 0 iG bp an ?_
 rintro k ⟨hk0,ha0⟩
 refine cP ?_
 refine uH ?_
 refine sc ?_ ?_<;>intro hbb
 have hlt0:k < x.ax3.length:=ab
 have hlu0:k < y.ax3.length:=ab
 refine eB ?_
 refine sQ [2,3,5] [2,3] ?_
 refine cC ?_
 refine uR ?_
 refine dA 1 ?_ (x:=lD [sl .v _] fi)
 refine dS ?_
 refine dA 7 ?_ (x:=aZ aj cQ an ak bE ak)
 refine dA 15 ?_ (x:=lE mI lI)
 refine uR ?_
 refine dA 32 ?_ (x:=lD [sl .v _] fi)
 refine dS ?_
 refine dA 224 ?_ (x:=aZ aj cQ an ak bE ak)
 refine dA 480 ?_ (x:=lE mI lI)
 refine dA 1023 ?_ (x:=cL [(true,du),(true,du)] [(true,mI),(true,mI)] apG (hs:=by exact axa))
 refine dA 2047 ?_ (x:=nT)
 refine sc ?_ ?_<;>intro hbc
 exact Zfo
 have heq:x.ax3[k]=y.ax3[k]:=by exact fZ.1 sr
 exact Zfp
 have hend0:x.ax3=y.ax3:=Af hl0 (by rw [show x.ax3.length=k by omega];exact ha0)
 refine fq ?_
 refine sT [2,3,5] [2,3] ?_
 refine cl ?_
 refine sP [2,3,5,6] [2,3] ?_
 refine sL [2,3,5] [2,3] (fun k:Nat=>k≤x.Done.length∧List.take k x.Done=List.take k y.Done) (fun k:Nat=>[(6,RV.int (k:Int))]) (fun k:Nat=>[]) (fun k:Nat=>x.Done.length - k) 0 iG bp an ?_
 rintro k ⟨hk1,ha1⟩
 refine cP ?_
 refine CH ?_
 refine dQ ?_
 refine sc ?_ ?_<;>intro hbc
 have hlt1:k < x.Done.length:=ab
 have hlu1:k < y.Done.length:=ab
 refine bv ?_
 refine sT [2,3,5,6] [2,3] ?_
 refine Cl ?_
 refine rM ?_
 refine zL ?_
 refine aU ?_
 refine sO [(2,_),(3,_),(5,_),(6,_),(7,_)] [(2,_),(3,_),(7,(56,lW))] ?_
 refine aY ?_
 refine Cl ?_
 refine rM ?_
 refine zL ?_
 refine aU ?_
 refine sO [(2,_),(3,_),(5,_),(6,_),(7,_),(8,_)] [(2,_),(3,_),(7,_),(8,(56,lW))] ?_
 refine aY ?_
 refine rA ?_ (x:=lF vr)
 refine ri ?_
 refine rA ?_ (x:=lF vr)
 refine Zfl ?_
 refine fp ?_
 refine cx 107 ?_ ?_<;>intro gg sgg
 refine zt gg ?_
 refine rA ?_ (x:=bj gg)
 refine rM ?_
 refine au.cases (s:=114) rfl (fun g33=>?_) (fun g33=>nomatch g33)
 refine zt g33 ?_
 refine rA ?_ (x:=bj g33)
 refine rM ?_
 refine au.cases (s:=121) rfl (fun g34=>?_) (fun g34=>nomatch g34)
 refine zt g34 ?_
 refine rA ?_ (x:=bj g34)
 refine cH ?_
 exact GR
 refine PD ?_
 refine PD ?_
 refine rB gg ?_ (x:=ig)
 refine rA ?_ (x:=aR gg)
 refine rM ?_
 refine cx 114 ?_ ?_<;>intro gh sgh
 refine zt gh ?_
 refine rA ?_ (x:=bj gh)
 refine rM ?_
 refine au.cases (s:=121) rfl (fun g37=>?_) (fun g37=>nomatch g37)
 refine zt g37 ?_
 refine rA ?_ (x:=bj g37)
 refine cH ?_
 exact GR
 refine PE ?_
 refine PE ?_
 refine rB gh ?_ (x:=ig)
 refine rA ?_ (x:=aR gh)
 refine rM ?_
 refine cx 121 ?_ ?_<;>intro gi sgi
 refine zt gi ?_
 refine rA ?_ (x:=bj gi)
 refine cH ?_
 exact GR
 refine Pt ?_
 refine Pt ?_
 refine rB gi ?_ (x:=cL [(false,[sl _ _]),(false,[sl _ _])] [(false,[sl .v _]),(false,[sl .v _])] air (hs:=by exact aji))
 refine rB gi ?_ (x:=nT)
 refine rA ?_ (x:=aR gi)
 refine sc ?_ ?_<;>intro hbd
 exact GR
 have heq1:x.Done[k]=y.Done[k]:=by rw [anV];simp_all [fZ]
 refine ba ?_
 refine sG [2,3,5,6,7,8] [2,3,7,8] ?_
 refine cB ?_
 refine nx (k+1) (by exact ⟨ab,xx ha1 hlt1 hlu1 heq1⟩)
 have hend1:x.Done=y.Done:=Af hl1 (by rw [show x.Done.length=k by omega];exact ha1)
 refine fq ?_
 refine sT [2,3,5,6] [2,3] ?_
 refine cl ?_
 refine sP [2,3,5,6,9] [2,3] ?_
 refine sL [2,3,5,6] [2,3] (fun k:Nat=>k≤x.ayf.length∧List.take k x.ayf=List.take k y.ayf) (fun k:Nat=>[(9,RV.int (k:Int))]) (fun k:Nat=>[]) (fun k:Nat=>x.ayf.length - k) 0 iG bp an ?_
 rintro k ⟨hk2,ha2⟩
 refine cP ?_
 refine CI ?_
 refine dQ ?_
 refine sc ?_ ?_<;>intro hbd
 have hlt2:k < x.ayf.length:=ab
 have hlu2:k < y.ayf.length:=ab
 refine eB ?_
 refine sQ [2,3,5,6,9] [2,3] ?_
 refine cC ?_
 refine dA 0 ?_ (x:=lF lH)
 refine dA 1 ?_ (x:=lD [sl .v _] lJ)
 refine dS ?_
 refine dA 7 ?_ (x:=aZ aj jR an ak bE ak)
 refine dA 15 ?_ (x:=lE nC nW)
 refine dA 0 ?_ (x:=lF lH)
 refine dA 32 ?_ (x:=lD [sl .v _] lJ)
 refine dS ?_
 refine dA 224 ?_ (x:=aZ aj jR an ak bE ak)
 refine dA 480 ?_ (x:=lE nC nW)
 refine dA 1023 ?_ (x:=cL [(true,fk),(true,fk)] [(true,nC),(true,nC)] apI (hs:=by exact aw9))
 refine dA 2047 ?_ (x:=nT)
 refine sc ?_ ?_<;>intro hbe
 have hne:¬x=y:=EG
 refine sS [2,3,5,6,9] [2,3] ?_
 exact BQ
 have heq2:x.ayf[k]=y.ayf[k]:=by exact fZ.1 (by simpa using hbe)
 refine ba ?_
 refine sG [2,3,5,6,9] [2,3] ?_
 refine cB ?_
 refine nx (k+1) (by exact ⟨ab,xx ha2 hlt2 hlu2 heq2⟩)
 have hend2:x.ayf=y.ayf:=Af hl2 (by rw [show x.ayf.length=k by omega];exact ha2)
 refine bI ?_
 refine sT [2,3,5,6,9] [2,3] ?_
 refine ca ?_
 exact rb ((xy (anX.2 ⟨he1,he2,he3,hend0,hend1,hend2,he4⟩)).symm)
end Go.Proofs.YtmekkgdboplbjaaGreatDoor
