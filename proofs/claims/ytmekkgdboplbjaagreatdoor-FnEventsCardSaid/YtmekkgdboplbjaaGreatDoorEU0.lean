/- What functions of the program compute. No condition. -/
import Derived.Test.YtmekkgdboplbjaaGreatDoorEK0
import Derived.Test.YtmekkgdboplbjaaGreatDoorEP0
import Derived.Test.YtmekkgdboplbjaaGreatDoorET0
set_option linter.all false
namespace Go.Proofs.YtmekkgdboplbjaaGreatDoor
open Go Go.RowKit M PV Tryz
set_option maxRecDepth 10000
attribute [local irreducible] PV.Lcl PV.LclR RV.Lcl
def asc{o:List Int}:aQ prog 154 [(false,[sl .v (o.map ar)])] (aB [(false,[val (.bool (iR o))])]):=by
 refine sF func154 fun h0 w0 Fz0=>?_
 refine sj 0 fun hl0=>?_
 refine zI ?_
 refine sL [0] [] (fun k:Nat=>k≤3∧xG o k=true) (fun k:Nat=>[(3,RV.int (k:Int))]) (fun k:Nat=>[]) (fun k:Nat=>3 - k) 0 gF bp an ?_
 rintro k ⟨hk,ha⟩
 refine IA ?_
 refine sc ?_ ?_<;>intro hba
 have hlt:k < 3:=ab
 refine bv ?_
 refine sS [0,3] [] ?_
 refine pz ?_
 refine rA ?_ (x:=cL [(false,[sl _ _]),(false,[val _])] [(false,[sl .v _]),(false,[val _])] ahv (hs:=by exact ai7))
 refine gx ?_
 refine sc ?_ ?_<;>intro hbb
 have hno:cv o (k:Int)=false:=jA
 refine zC ?_
 exact rb ((aoT hlt hno).symm)
 have hyes:cv o (k:Int)=true:=jA
 refine wR ?_
 refine cB ?_
 refine nx (k+1) (by exact ⟨ab,by rw [Jm,ha,hyes];rfl⟩) (e:=nu)
 have hend:k=3:=ab
 rw [hend] at ha
 refine wS ?_
 refine mM ?_
 refine iu ?_
 refine cK ?_
 exact rb (by rw [←ahZ,ha,Bool.true_and];first|rfl|(rw [decide_eq_decide];omega)|(rw [Bool.eq_iff_iff];simp;omega)|(rw [Bool.eq_iff_iff];simp))
def asd{p1 p2 p7:Fl}{s:Store}{a:ax3}:aQ prog 155 [(true,[sl .v (s.ax2.map (aO p1 p2)),val (vI s.Now)]),(true,[val (vI a.ax4.Id),val (vI a.ax4.ax8),sl .v (a.ax4.ax5.map bF),sl .v (a.ax4.Out.map ar),val (vI a.Time),sl .v (a.ayc.map ar),val (vI a.Age),val (vI a.Sent),val (vI a.Cap),sl .v (a.Rows.map (cD p7))])] (aB [(false,[val (.bool (gz s a))])]):=by
 refine sF func155 fun h0 w0 Fz0=>?_
 refine sn 0 0 fun hl0_0=>?_
 refine sn 1 2 fun hl1_2=>?_
 refine sn 1 3 fun hl1_3=>?_
 refine sn 1 5 fun hl1_5=>?_
 refine sn 1 9 fun hl1_9=>?_
 refine kN ?_
 refine Qu ?_
 refine CE ?_
 refine CA ?_
 refine fK ?_
 refine sP [2,3,4,8,9,10] [2,3] ?_
 refine sL [2,3,8,9] [2,3] (fun k:Nat=>k≤a.ayc.length∧mT 0 (mY s.ax2.length) mZ a.ayc k=true) (fun k:Nat=>[(10,RV.int (k:Int))]) (fun k:Nat=>[]) (fun k:Nat=>a.ayc.length - k) 0 gF bp an ?_
 rintro k ⟨hk,ha⟩
 refine cY ?_
 refine sc ?_ ?_<;>intro hba
 have hlt:k < a.ayc.length:=ab
 have hgk:a.ayc.getD k 0=a.ayc[k]:=fP hlt
 have hgp:0 < k→a.ayc.getD (k - 1) 0=a.ayc[k - 1]:=fun h=>fP ab
 refine bv ?_
 refine sT [2,3,8,9,10] [2,3] ?_
 refine rM ?_
 refine yQ ?_
 refine td ?_
 refine sS [2,3,5,6,8,9,10] [2,3] ?_
 refine rM ?_
 refine mP ?_
 refine rA ?_ (x:=jo)
 refine zi7 ?_
 refine cx 22 ?_ ?_<;>intro ga sga
 refine mb ?_
 exact YR
 refine gN ?_
 refine rB ga ?_ (x:=jE)
 refine gN ?_
 refine cx 25 ?_ ?_<;>intro gb sgb
 refine Pn ?_
 refine kh ?_
 refine rB gb ?_ (x:=jo)
 refine rB gb ?_ (x:=aZ (k:=k - 1) aj cn an ab bE ak)
 refine rB gb ?_ (x:=lE [val _] bb)
 refine kh ?_
 refine rB gb ?_ (x:=kJ)
 refine rB ga ?_ (x:=bj gb)
 refine lz ?_
 refine sc ?_ ?_<;>intro hbb
 exact YR
 exact YT
 refine zf gb ?_
 refine rB ga ?_ (x:=aR gb)
 refine lz ?_
 refine gv ?_
 exact YT
 have hend:k=a.ayc.length:=ab
 have hall:fh 0 (mY s.ax2.length) mZ a.ayc=true:=uY ha hend
 refine bI ?_
 refine sT [2,3,8,9,10] [2,3] ?_
 refine CA ?_
 refine uC ?_
 refine cx 41 ?_ ?_<;>intro ga sga
 refine rB ga ?_ (x:=lF nb)
 refine zmg ?_
 refine qZ ?_
 refine cx 46 ?_ ?_<;>intro gb sgb
 refine rB gb ?_ (x:=lF vq)
 refine nK ?_
 refine rB gb ?_ (x:=lF lG)
 refine Hg ?_
 refine iM ?_
 refine cx 53 ?_ ?_<;>intro gc sgc
 refine rB gc ?_ (x:=lF Ay)
 refine Od ?_
 refine lx ?_
 refine cx 58 ?_ ?_<;>intro gd sgd
 refine rB gd ?_ (x:=lF qb)
 refine Oe ?_
 refine pA ?_
 refine cx 63 ?_ ?_<;>intro ge sge
 refine Px ?_
 refine rB ge ?_ (x:=cL [(false,[val _]),(false,[val _]),(false,[val _])] [(false,[val _]),(false,[val _]),(false,[val _])] rq (hs:=qC))
 refine nF ?_
 refine cx 68 ?_ ?_<;>intro gf sgf
 refine HE ?_
 refine rB gf ?_ (x:=cL [(false,[sl _ _])] [(false,[sl .v _])] aiQ (hs:=by exact ai8))
 refine tq ?_
 exact wt
 refine zf gf ?_
 refine pL ?_
 exact wt
 refine zf ge ?_
 refine ra ?_
 refine au.cases (s:=68) rfl (fun g13=>nomatch g13) (fun g13=>?_)
 refine Ij ?_
 exact wt
 refine zf gd ?_
 refine pB ?_
 refine au.cases (s:=63) rfl (fun g14=>nomatch g14) (fun g14=>?_)
 refine zf g14 ?_
 refine IC ?_
 refine au.cases (s:=68) rfl (fun g15=>nomatch g15) (fun g15=>?_)
 refine zf g15 ?_
 refine rA ?_ (x:=aR g15)
 exact wt
 refine nI ?_
 refine au.cases (s:=58) rfl (fun g16=>nomatch g16) (fun g16=>?_)
 refine Ik ?_
 refine rM ?_
 refine au.cases (s:=63) rfl (fun g17=>nomatch g17) (fun g17=>?_)
 refine wK ?_
 refine rM ?_
 refine au.cases (s:=68) rfl (fun g18=>nomatch g18) (fun g18=>?_)
 refine CG ?_
 exact wt
 refine ix ?_
 refine au.cases (s:=53) rfl (fun g19=>nomatch g19) (fun g19=>?_)
 refine zm ?_
 refine rM ?_
 refine au.cases (s:=58) rfl (fun g20=>nomatch g20) (fun g20=>?_)
 refine CF ?_
 refine rM ?_
 refine au.cases (s:=63) rfl (fun g21=>nomatch g21) (fun g21=>?_)
 refine Ip ?_
 refine rM ?_
 refine au.cases (s:=68) rfl (fun g22=>nomatch g22) (fun g22=>?_)
 refine zf g22 ?_
 refine rA ?_ (x:=aR g22)
 exact wt
 refine jb ?_
 refine au.cases (s:=46) rfl (fun g23=>nomatch g23) (fun g23=>?_)
 refine zf g23 ?_
 refine rA ?_ (x:=aR g23)
 refine rM ?_
 refine au.cases (s:=53) rfl (fun g24=>nomatch g24) (fun g24=>?_)
 refine zf g24 ?_
 refine rA ?_ (x:=aR g24)
 refine rM ?_
 refine au.cases (s:=58) rfl (fun g25=>nomatch g25) (fun g25=>?_)
 refine zf g25 ?_
 refine rA ?_ (x:=aR g25)
 refine rM ?_
 refine au.cases (s:=63) rfl (fun g26=>nomatch g26) (fun g26=>?_)
 refine zf g26 ?_
 refine rA ?_ (x:=aR g26)
 refine rM ?_
 refine au.cases (s:=68) rfl (fun g27=>nomatch g27) (fun g27=>?_)
 refine zf g27 ?_
 refine rA ?_ (x:=aR g27)
 exact wt
def ase{l:List Int}{n:Int}(hn:0≤n∧n≤9223372036854775807):aQ prog 231 [(false,[sl .v (l.map ar)]),(false,[val (vI n)])] (aB [(false,[val (.bool (na l n))])]):=by
 refine sF func231 fun h0 w0 Fz0=>?_
 refine sj 0 fun hl0=>?_
 refine ti ?_
 refine cl ?_
 refine sP [0,1,4,5] [] ?_
 refine sL [0,1] [] (fun k:Nat=>k≤l.length∧mT 0 (mY n) mZ l k=true) (fun k:Nat=>[(5,RV.int (k:Int))]) (fun k:Nat=>[]) (fun k:Nat=>l.length - k) 0 gF bp an ?_
 rintro k ⟨hk,ha⟩
 refine oH ?_
 refine sc ?_ ?_<;>intro hba
 have hlt:k < l.length:=ab
 have hgk:l.getD k 0=l[k]:=fP hlt
 have hgp:0 < k→l.getD (k - 1) 0=l[k - 1]:=fun h=>fP ab
 refine CR ?_
 refine oG ?_
 refine Cg ?_
 refine dS ?_
 refine dA 16 ?_ (x:=jo)
 refine dA 63 ?_ (x:=cL [(false,[val _]),(false,[val _]),(false,[val _])] [(false,[val _]),(false,[val _]),(false,[val _])] mh (hs:=lO))
 refine dA 127 ?_ (x:=nT)
 refine dA 255 ?_ (x:=sM)
 refine dx 20 ?_ ?_<;>intro ga sga
 refine dT 511 ga ?_
 refine dT 1023 ga ?_
 refine dT 2047 ga ?_
 refine dU 4095 ?_
 refine dU 4095 ?_
 refine dU 16383 ?_
 refine dU 32767 ?_
 refine dU 4095 ?_
 refine dU 4095 ?_
 refine dU 135167 ?_
 refine dU 462847 ?_
 refine dU 987135 ?_
 refine dU 2097151 ?_
 refine HR ?_
 refine cH ?_
 exact YU
 refine xl ?_
 refine dB 1023 ga ?_ (x:=jE)
 refine dB 2047 ga ?_ (x:=sM)
 refine dx 23 ?_ ?_<;>intro gb sgb
 refine dB 4095 gb ?_ (x:=vM false [sl .v _])
 refine dB 4095 gb ?_ (x:=sM)
 refine dB 16383 gb ?_ (x:=aZ aj cn an ak bE ak)
 refine dB 32767 gb ?_ (x:=lE [val _] bb)
 refine dB 4095 gb ?_ (x:=vM false [sl .v _])
 refine dB 4095 gb ?_ (x:=sM)
 refine dB 135167 gb ?_ (x:=jo)
 refine dB 462847 gb ?_ (x:=aZ (k:=k - 1) aj cn an ab bE ak)
 refine dB 987135 gb ?_ (x:=lE [val _] bb)
 refine Pv ?_
 refine dA 8388607 ?_ (x:=aR ga)
 refine sc ?_ ?_<;>intro hbb
 exact YU
 exact YV
 refine dF 4095 gb ?_
 refine dF 4095 gb ?_
 refine dF 16383 gb ?_
 refine dF 32767 gb ?_
 refine dF 4095 gb ?_
 refine dF 4095 gb ?_
 refine dF 135167 gb ?_
 refine dF 462847 gb ?_
 refine dF 987135 gb ?_
 refine dF 2097151 gb ?_
 refine PC ?_
 refine gv ?_
 exact YV
 have hend:k=l.length:=ab
 have hall:fh 0 (mY n) mZ l=true:=uY ha hend
 refine Ir ?_
 refine mM ?_
 refine tn ?_
 refine db ?_
 exact rb (by first|(simp_all [na];done)|(simp_all [na];rfl)|(simp_all [na];omega)|(simp_all [na];intros;omega))
def asf{p1 p2 p5 p6 p7 p8 p9 p11 p12 p13 p14 p16 p17 p18 p23:Fl}{e:aC}{a:ax3}:aQ prog 159 [(true,[sl .v (e.Store.ax2.map (aO p1 p2)),val (vI e.Store.Now),val (vI e.ax7),sl .v (e.Order.map ar),sl .v (e.ax3.map (bd p5 p6 p7 p8 p9)),sl .v (e.Done.map (bw p11 p12 p13 p14)),sl .v (e.ayf.map (bz p16 p17 p18)),val (vI e.Steps)]),(true,[val (vI a.ax4.Id),val (vI a.ax4.ax8),sl .v (a.ax4.ax5.map bF),sl .v (a.ax4.Out.map ar),val (vI a.Time),sl .v (a.ayc.map ar),val (vI a.Age),val (vI a.Sent),val (vI a.Cap),sl .v (a.Rows.map (cD p23))])] (aB [(false,[val (.bool (gz e.Store a))])]):=by
 refine sF func159 fun h0 w0 Fz0=>?_
 refine sn 0 0 fun hl0_0=>?_
 refine sn 0 3 fun hl0_3=>?_
 refine sn 0 4 fun hl0_4=>?_
 refine sn 0 5 fun hl0_5=>?_
 refine sn 0 6 fun hl0_6=>?_
 refine sn 1 2 fun hl1_2=>?_
 refine sn 1 3 fun hl1_3=>?_
 refine sn 1 5 fun hl1_5=>?_
 refine sn 1 9 fun hl1_9=>?_
 refine nE ?_
 refine Oz ?_
 refine sT [2,3,4] [2,3] ?_
 refine rm ?_
 refine Hh ?_
 refine rM ?_
 refine cx 8 ?_ ?_<;>intro ga sga
 refine rB ga ?_ (x:=lF vq)
 refine kg ?_
 refine rB ga ?_ (x:=lF nd)
 refine rB ga ?_ (x:=lF lG)
 refine Ca ?_
 refine qZ ?_
 refine cx 16 ?_ ?_<;>intro gb sgb
 refine Pn ?_
 refine rB gb ?_ (x:=lF nd)
 refine rB gb ?_ (x:=lF rG)
 refine rB gb ?_ (x:=lD [sl .v _] mo)
 refine rB gb ?_ (x:=lN gB)
 refine rB gb ?_ (x:=cL [(false,[sl _ _]),(false,[val _])] [(false,[sl .v _]),(false,[val _])] aqi (hs:=by exact (ase ab)))
 refine iM ?_
 refine cx 25 ?_ ?_<;>intro gc sgc
 refine rB gc ?_ (x:=lF Ay)
 refine zgx ?_
 refine lx ?_
 refine cx 30 ?_ ?_<;>intro gd sgd
 refine rB gd ?_ (x:=lF qb)
 refine Of ?_
 refine pA ?_
 refine cx 35 ?_ ?_<;>intro ge sge
 refine rB ge ?_ (x:=lF Az)
 refine zm4 ?_
 refine nF ?_
 refine cx 40 ?_ ?_<;>intro gf sgf
 refine HE ?_
 refine rB gf ?_ (x:=cL [(false,[sl _ _])] [(false,[sl .v _])] aiS (hs:=by exact ai9))
 refine tq ?_
 exact wu
 refine zf gf ?_
 refine pL ?_
 exact wu
 refine zf ge ?_
 refine ra ?_
 refine au.cases (s:=40) rfl (fun g7=>nomatch g7) (fun g7=>?_)
 refine wN ?_
 exact wu
 refine zf gd ?_
 refine pB ?_
 refine au.cases (s:=35) rfl (fun g8=>nomatch g8) (fun g8=>?_)
 refine CL ?_
 refine rM ?_
 refine au.cases (s:=40) rfl (fun g9=>nomatch g9) (fun g9=>?_)
 refine tg ?_
 exact wu
 refine nI ?_
 refine au.cases (s:=30) rfl (fun g10=>nomatch g10) (fun g10=>?_)
 refine tf ?_
 refine rM ?_
 refine au.cases (s:=35) rfl (fun g11=>nomatch g11) (fun g11=>?_)
 refine CD ?_
 refine rM ?_
 refine au.cases (s:=40) rfl (fun g12=>nomatch g12) (fun g12=>?_)
 refine Ih ?_
 exact wu
 refine ix ?_
 refine au.cases (s:=25) rfl (fun g13=>nomatch g13) (fun g13=>?_)
 refine Ij ?_
 refine rM ?_
 refine au.cases (s:=30) rfl (fun g14=>nomatch g14) (fun g14=>?_)
 refine zf g14 ?_
 refine IC ?_
 refine au.cases (s:=35) rfl (fun g15=>nomatch g15) (fun g15=>?_)
 refine zf g15 ?_
 refine rA ?_ (x:=aR g15)
 refine rM ?_
 refine au.cases (s:=40) rfl (fun g16=>nomatch g16) (fun g16=>?_)
 refine Ik ?_
 exact wu
 refine jb ?_
 refine au.cases (s:=16) rfl (fun g17=>nomatch g17) (fun g17=>?_)
 refine wK ?_
 refine rM ?_
 refine au.cases (s:=25) rfl (fun g18=>nomatch g18) (fun g18=>?_)
 refine CG ?_
 refine rM ?_
 refine au.cases (s:=30) rfl (fun g19=>nomatch g19) (fun g19=>?_)
 refine zm ?_
 refine rM ?_
 refine au.cases (s:=35) rfl (fun g20=>nomatch g20) (fun g20=>?_)
 refine CF ?_
 refine rM ?_
 refine au.cases (s:=40) rfl (fun g21=>nomatch g21) (fun g21=>?_)
 refine Ip ?_
 exact wu
def ajs{p1 p2 p5 p6 p7 p8 p9 p11 p12 p13 p14 p16 p17 p18:Fl}{e:aC}(hb:bA e≤68719476736):aQ prog 66 [(true,[sl .v (e.Store.ax2.map (aO p1 p2)),val (vI e.Store.Now),val (vI e.ax7),sl .v (e.Order.map ar),sl .v (e.ax3.map (bd p5 p6 p7 p8 p9)),sl .v (e.Done.map (bw p11 p12 p13 p14)),sl .v (e.ayf.map (bz p16 p17 p18)),val (vI e.Steps)])] (aB [(false,[val (.bool (bn e))])]):=by
 refine sF func66 fun h0 w0 Fz0=>?_
 refine sn 0 0 fun hl0_0=>?_
 refine sn 0 3 fun hl0_3=>?_
 refine sn 0 4 fun hl0_4=>?_
 refine sn 0 5 fun hl0_5=>?_
 refine sn 0 6 fun hl0_6=>?_
 have hbu:=hb
 simp only [bA] at hbu
 refine nE ?_
 refine ma ?_
 refine zd ?_
 refine rA ?_ (x:=cL [(true,bW)] [(true,eh)] aiN (hs:=by exact ajg ab))
 refine fp ?_
 refine cx 13 ?_ ?_<;>intro ga sga
 refine jH ?_
 refine au.cases (s:=24) rfl (fun g2=>?_) (fun g2=>nomatch g2)
 refine oI ?_
 refine au.cases (s:=30) rfl (fun g3=>?_) (fun g3=>nomatch g3)
 refine oF ?_
 exact sU
 refine Ct ?_
 refine rB ga ?_ (x:=lF nd)
 refine Po ?_
 refine rB ga ?_ (x:=lN gB)
 refine rB ga ?_ (x:=jo)
 refine Cd ?_
 refine ly ?_
 refine cx 24 ?_ ?_<;>intro gb sgb
 refine nG ?_
 refine au.cases (s:=30) rfl (fun g6=>?_) (fun g6=>nomatch g6)
 refine th ?_
 exact sU
 refine Pp ?_
 refine rB gb ?_ (x:=cL [(false,[sl _ _])] [(false,[sl .v _])] apS (hs:=by exact asc))
 refine wT ?_
 refine cx 30 ?_ ?_<;>intro gc sgc
 refine HC ?_
 exact sU
 refine rB gc ?_ (x:=lF ne)
 refine Od ?_
 refine rB gc ?_ (x:=nT)
 refine to ?_
 refine sc ?_ ?_<;>intro hba
 exact MQ
 have hp1:(cN e.Store&&(aK e.ax7 0 (e.Store.ax2.length - 1)&&(iR e.Order&&aK e.Steps 0 100000)))=true:=Lq
 refine wV ?_
 refine px ?_
 refine rA ?_ (x:=lN cQ)
 refine uC ?_
 refine cx 40 ?_ ?_<;>intro gd sgd
 refine zt gd ?_
 refine pA ?_
 refine au.cases (s:=46) rfl (fun g12=>?_) (fun g12=>nomatch g12)
 refine Im ?_
 refine cH ?_
 exact MR
 refine Pq ?_
 refine rB gd ?_ (x:=lN nf)
 refine rB gd ?_ (x:=jE)
 refine pB ?_
 refine cx 46 ?_ ?_<;>intro ge sge
 refine zt ge ?_
 refine rA ?_ (x:=bj ge)
 refine cH ?_
 exact MR
 refine Pr ?_
 refine rB ge ?_ (x:=lN jR)
 refine rB ge ?_ (x:=jE)
 refine rA ?_ (x:=aR ge)
 refine sc ?_ ?_<;>intro hbb
 exact MR
 have hpr:lB e=true:=VN
 refine wV ?_
 refine uM ?_
 refine sP [1,2,53,54,55] [1] ?_
 refine sL [1,53,54] [1] (fun k:Nat=>k≤e.ax3.length∧mT jN (gz e.Store) nV e.ax3 k=true) (fun k:Nat=>[(55,RV.int (k:Int))]) (fun k:Nat=>[]) (fun k:Nat=>e.ax3.length - k) 0 gF bp an ?_
 rintro k ⟨hk,ha⟩
 refine cY ?_
 refine sc ?_ ?_<;>intro hbc
 have hlt:k < e.ax3.length:=ab
 have hgk:e.ax3.getD k jN=e.ax3[k]:=fP hlt
 have hgp:0 < k→e.ax3.getD (k - 1) jN=e.ax3[k - 1]:=fun h=>fP ab
 refine bv ?_
 refine sT [1,53,54,55] [1] ?_
 refine rM ?_
 refine yU ?_
 refine De ?_
 refine rS ?_
 refine znb ?_
 refine sO [(1,_),(3,_),(4,_),(53,_),(54,_),(55,_)] [(1,_),(4,(102,du))] ?_
 refine cC ?_
 refine Pi ?_
 refine znd ?_
 refine dA 7 ?_ (x:=cL [(true,bW),(true,du)] [(true,eh),(true,mI)] apT (hs:=by exact asd))
 refine dA 15 ?_ (x:=nT)
 refine dA 31 ?_ (x:=sM)
 refine dx 65 ?_ ?_<;>intro gf sgf
 refine dT 63 gf ?_
 refine dT 127 gf ?_
 refine dT 255 gf ?_
 refine dU 511 ?_
 refine dU 1023 ?_
 refine dU 511 ?_
 refine dU 2559 ?_
 refine dU 8191 ?_
 refine dU 16383 ?_
 refine dU 32767 ?_
 refine dU 65535 ?_
 refine dU 511 ?_
 refine dU 131583 ?_
 refine dU 393727 ?_
 refine dU 1048575 ?_
 refine dT 2097151 gf ?_
 refine dA 4194303 ?_ (x:=bj gf)
 refine cH ?_
 exact YX
 refine dB 63 gf ?_ (x:=sM)
 refine dB 127 gf ?_ (x:=jE)
 refine dB 255 gf ?_ (x:=sM)
 refine dx 68 ?_ ?_<;>intro gg sgg
 refine dB 511 gg ?_ (x:=lF hP)
 refine dB 1023 gg ?_ (x:=lD [sl .v _] fi)
 refine dB 511 gg ?_ (x:=sM)
 refine dB 2559 gg ?_ (x:=jo)
 refine dB 8191 gg ?_ (x:=aZ (k:=k - 1) aj cQ an ab bE ak)
 refine dB 16383 gg ?_ (x:=cR aj nb az)
 refine dB 32767 gg ?_ (x:=cR aj kQ az)
 refine dB 65535 gg ?_ (x:=lE [val _] bb)
 refine dB 511 gg ?_ (x:=lF nb)
 refine dB 131583 gg ?_ (x:=lF kQ)
 refine dB 393727 gg ?_ (x:=lD [val _] bb)
 refine dB 1048575 gg ?_ (x:=kJ)
 refine dB 2097151 gf ?_ (x:=bj gg)
 refine dA 4194303 ?_ (x:=aR gf)
 refine sc ?_ ?_<;>intro hbd
 exact YX
 exact YZ
 refine dF 511 gg ?_
 refine dF 1023 gg ?_
 refine dF 511 gg ?_
 refine dF 2559 gg ?_
 refine dF 8191 gg ?_
 refine dF 16383 gg ?_
 refine dF 32767 gg ?_
 refine dF 65535 gg ?_
 refine dF 511 gg ?_
 refine dF 131583 gg ?_
 refine dF 393727 gg ?_
 refine dF 1048575 gg ?_
 refine dB 2097151 gf ?_ (x:=aR gg)
 refine dA 4194303 ?_ (x:=aR gf)
 refine gv ?_
 exact YZ
 have hend:k=e.ax3.length:=ab
 have hall:fh jN (gz e.Store) nV e.ax3=true:=uY ha hend
 refine fq ?_
 refine sT [1,53,54,55] [1] ?_
 refine CH ?_
 refine fK ?_
 refine sP [1,53,54,55,85,86,87] [1] ?_
 refine sL [1,53,54,55,85,86] [1] (fun k:Nat=>k≤e.Done.length∧(List.take k e.Done).all (kU e.Store.Now)=true) (fun k:Nat=>[(87,RV.int (k:Int))]) (fun k:Nat=>[]) (fun k:Nat=>e.Done.length - k) 0 gF bp an ?_
 rintro k ⟨hk,ha⟩
 refine cY ?_
 refine sc ?_ ?_<;>intro hbd
 have hlt:k < e.Done.length:=ab
 refine bv ?_
 refine sT [1,53,54,55,85,86,87] [1] ?_
 refine zL ?_
 refine aU ?_
 refine sO [(1,_),(6,_),(53,_),(54,_),(55,_),(85,_),(86,_),(87,_)] [(1,_),(6,(56,lW))] ?_
 refine aY ?_
 refine rA ?_ (x:=lF vr)
 refine Cb ?_
 refine fp ?_
 refine cx 95 ?_ ?_<;>intro gf sgf
 refine CK ?_
 refine rM ?_
 refine au.cases (s:=104) rfl (fun g25=>?_) (fun g25=>nomatch g25)
 refine zt g25 ?_
 refine rA ?_ (x:=bj g25)
 refine rM ?_
 refine au.cases (s:=110) rfl (fun g26=>?_) (fun g26=>nomatch g26)
 refine zt g26 ?_
 refine rA ?_ (x:=bj g26)
 refine cH ?_
 exact Gx
 refine rB gf ?_ (x:=lF aiY)
 refine Dd ?_
 refine rB gf ?_ (x:=lF nd)
 refine rB gf ?_ (x:=lF lG)
 refine Dd ?_
 refine rB gf ?_ (x:=cL [(false,[val _]),(false,[val _]),(false,[val _])] [(false,[val _]),(false,[val _]),(false,[val _])] rq (hs:=qC))
 refine rB gf ?_ (x:=nT)
 refine pL ?_
 refine rM ?_
 refine cx 104 ?_ ?_<;>intro gg sgg
 refine zt gg ?_
 refine rA ?_ (x:=bj gg)
 refine rM ?_
 refine au.cases (s:=110) rfl (fun g29=>?_) (fun g29=>nomatch g29)
 refine zt g29 ?_
 refine rA ?_ (x:=bj g29)
 refine cH ?_
 exact Gx
 refine rB gg ?_ (x:=lF aiZ)
 refine rB gg ?_ (x:=lD [val _] bb)
 refine rB gg ?_ (x:=cL [(false,[val _]),(false,[val _]),(false,[val _])] [(false,[val _]),(false,[val _]),(false,[val _])] rq (hs:=qC))
 refine rB gg ?_ (x:=nT)
 refine rA ?_ (x:=aR gg)
 refine rM ?_
 refine cx 110 ?_ ?_<;>intro gh sgh
 refine zt gh ?_
 refine rA ?_ (x:=bj gh)
 refine cH ?_
 exact Gx
 refine rB gh ?_ (x:=lF AB)
 refine rB gh ?_ (x:=lD [sl .v _] nX)
 refine rB gh ?_ (x:=cL [(false,[sl _ _])] [(false,[sl .v _])] aiQ (hs:=by exact ai8))
 refine rB gh ?_ (x:=nT)
 refine rA ?_ (x:=aR gh)
 refine sc ?_ ?_<;>intro hbe
 exact Gx
 have hyes:(kU e.Store.Now) e.Done[k]=true:=Fk
 refine ba ?_
 refine sG [1,6,53,54,55,85,86,87] [1,6] ?_
 exact BE
 have hfa:e.Done.all (kU e.Store.Now)=true:=mc VC
 refine fq ?_
 refine sT [1,53,54,55,85,86,87] [1] ?_
 refine CI ?_
 refine fK ?_
 refine sP [1,53,54,55,85,86,87,118,119,120] [1] ?_
 refine sL [1,53,54,55,85,86,87,118,119] [1] (fun k:Nat=>k≤e.ayf.length∧(List.take k e.ayf).all gQ=true) (fun k:Nat=>[(120,RV.int (k:Int))]) (fun k:Nat=>[]) (fun k:Nat=>e.ayf.length - k) 0 gF bp an ?_
 rintro k ⟨hk,ha⟩
 refine cY ?_
 refine sc ?_ ?_<;>intro hbe
 have hlt:k < e.ayf.length:=ab
 refine bv ?_
 refine sT [1,53,54,55,85,86,87,118,119,120] [1] ?_
 refine Ok ?_
 refine Og ?_
 refine aU ?_
 refine sO [(1,_),(8,_),(53,_),(54,_),(55,_),(85,_),(86,_),(87,_),(118,_),(119,_),(120,_)] [(1,_),(8,(149,fk))] ?_
 refine aY ?_
 refine rA ?_ (x:=lD nC nW)
 refine rA ?_ (x:=cL [(true,fk)] [(true,nC)] apU (hs:=by exact asa))
 refine gx ?_
 refine sc ?_ ?_<;>intro hbf
 have hno:gQ e.ayf[k]=false:=by simpa using hbf
 have hbad2:=ahX (oM hlt hno)
 refine sS [1,8,53,54,55,85,86,87,118,119,120] [1,8] ?_
 exact yN
 have hyes:gQ e.ayf[k]=true:=by simpa using hbf
 refine ba ?_
 refine sG [1,8,53,54,55,85,86,87,118,119,120] [1,8] ?_
 exact BE
 have hla:e.ayf.all gQ=true:=mc Vy
 refine bI ?_
 refine sT [1,53,54,55,85,86,87,118,119,120] [1] ?_
 exact Za
def asg{p1 p2 p5 p6 p7 p8 p9 p11 p12 p13 p14 p16 p17 p18:Fl}{e:aC}(hb:bA e≤68719476736):aQ prog 69 [(true,[sl .v (e.Store.ax2.map (aO p1 p2)),val (vI e.Store.Now),val (vI e.ax7),sl .v (e.Order.map ar),sl .v (e.ax3.map (bd p5 p6 p7 p8 p9)),sl .v (e.Done.map (bw p11 p12 p13 p14)),sl .v (e.ayf.map (bz p16 p17 p18)),val (vI e.Steps)])] (aB [(false,[val (.bool (bn e))])]):=by
 refine sF func69 fun h0 w0 Fz0=>?_
 refine sn 0 0 fun hl0_0=>?_
 refine sn 0 3 fun hl0_3=>?_
 refine sn 0 4 fun hl0_4=>?_
 refine sn 0 5 fun hl0_5=>?_
 refine sn 0 6 fun hl0_6=>?_
 have hbu:=hb
 simp only [bA] at hbu
 refine nE ?_
 refine ma ?_
 refine zd ?_
 refine zno ?_
 refine fp ?_
 refine cx 11 ?_ ?_<;>intro ga sga
 refine jH ?_
 refine au.cases (s:=22) rfl (fun g2=>?_) (fun g2=>nomatch g2)
 refine oI ?_
 refine au.cases (s:=28) rfl (fun g3=>?_) (fun g3=>nomatch g3)
 refine oF ?_
 refine rM ?_
 refine au.cases (s:=34) rfl (fun g4=>?_) (fun g4=>nomatch g4)
 refine Is ?_
 refine rM ?_
 refine au.cases (s:=40) rfl (fun g5=>?_) (fun g5=>nomatch g5)
 refine zt g5 ?_
 refine rA ?_ (x:=bj g5)
 refine rM ?_
 refine au.cases (s:=46) rfl (fun g6=>?_) (fun g6=>nomatch g6)
 refine th ?_
 exact sU
 refine Ct ?_
 refine rB ga ?_ (x:=lF nd)
 refine Po ?_
 refine rB ga ?_ (x:=lN gB)
 refine rB ga ?_ (x:=jo)
 refine Hj ?_
 refine ly ?_
 refine cx 22 ?_ ?_<;>intro gb sgb
 refine nG ?_
 refine au.cases (s:=28) rfl (fun g9=>?_) (fun g9=>nomatch g9)
 refine It ?_
 refine rM ?_
 refine au.cases (s:=34) rfl (fun g10=>?_) (fun g10=>nomatch g10)
 refine zt g10 ?_
 refine rA ?_ (x:=bj g10)
 refine rM ?_
 refine au.cases (s:=40) rfl (fun g11=>?_) (fun g11=>nomatch g11)
 refine Il ?_
 refine rM ?_
 refine au.cases (s:=46) rfl (fun g12=>?_) (fun g12=>nomatch g12)
 refine Im ?_
 exact sU
 refine Pp ?_
 refine rB gb ?_ (x:=cL [(false,[sl _ _])] [(false,[sl .v _])] apW (hs:=by exact arO))
 refine wT ?_
 refine cx 28 ?_ ?_<;>intro gc sgc
 refine pF ?_
 refine au.cases (s:=34) rfl (fun g15=>?_) (fun g15=>nomatch g15)
 refine In ?_
 refine rM ?_
 refine au.cases (s:=40) rfl (fun g16=>?_) (fun g16=>nomatch g16)
 refine zt g16 ?_
 refine rA ?_ (x:=bj g16)
 refine rM ?_
 refine au.cases (s:=46) rfl (fun g17=>?_) (fun g17=>nomatch g17)
 refine Io ?_
 exact sU
 refine Ps ?_
 refine rB gc ?_ (x:=lN cQ)
 refine wI ?_
 refine rM ?_
 refine cx 34 ?_ ?_<;>intro gd sgd
 refine zt gd ?_
 refine pA ?_
 refine au.cases (s:=40) rfl (fun g20=>?_) (fun g20=>nomatch g20)
 refine zt g20 ?_
 refine rA ?_ (x:=bj g20)
 refine rM ?_
 refine au.cases (s:=46) rfl (fun g21=>?_) (fun g21=>nomatch g21)
 refine zt g21 ?_
 refine rA ?_ (x:=bj g21)
 exact sU
 refine rB gd ?_ (x:=lF ne)
 refine Of ?_
 refine rB gd ?_ (x:=nT)
 refine pB ?_
 refine cx 40 ?_ ?_<;>intro ge sge
 refine zt ge ?_
 refine nF ?_
 refine au.cases (s:=46) rfl (fun g24=>?_) (fun g24=>nomatch g24)
 refine zt g24 ?_
 refine rA ?_ (x:=bj g24)
 exact sU
 refine rB ge ?_ (x:=lF qd)
 refine rB ge ?_ (x:=lD [sl .v _] qf)
 refine rB ge ?_ (x:=lN nf)
 refine rB ge ?_ (x:=jE)
 refine ra ?_
 refine cx 46 ?_ ?_<;>intro gf sgf
 refine CK ?_
 exact sU
 refine rB gf ?_ (x:=lF lH)
 refine rB gf ?_ (x:=lD [sl .v _] lJ)
 refine rB gf ?_ (x:=lN jR)
 refine rB gf ?_ (x:=jE)
 refine pL ?_
 refine sc ?_ ?_<;>intro hba
 exact MQ
 have hpr:lB e=true:=by first|(simp_all [lB];done)|(simp_all [lB];omega)
 refine wV ?_
 refine CM ?_
 refine sL [1] [1] (fun k:Nat=>k≤e.ax3.length∧mT jN (gz e.Store) nV e.ax3 k=true) (fun k:Nat=>[(3,RV.int (k:Int))]) (fun k:Nat=>[]) (fun k:Nat=>e.ax3.length - k) 0 gF bp an ?_
 rintro k ⟨hk,ha⟩
 refine cP ?_
 refine uH ?_
 refine sc ?_ ?_<;>intro hbb
 have hlt:k < e.ax3.length:=ab
 have hgk:e.ax3.getD k jN=e.ax3[k]:=fP hlt
 have hgp:0 < k→e.ax3.getD (k - 1) jN=e.ax3[k - 1]:=fun h=>fP ab
 refine eB ?_
 refine sQ [1,3] [1] ?_
 refine zns ?_
 refine uR ?_
 refine dA 2 ?_ (x:=lD [sl .v _] fi)
 refine dS ?_
 refine dA 14 ?_ (x:=aZ aj cQ an ak bE ak)
 refine dA 30 ?_ (x:=lE mI lI)
 refine dA 63 ?_ (x:=cL [(true,aW),(true,du)] [(true,cO),(true,mI)] apX (hs:=by exact asf))
 refine dA 127 ?_ (x:=nT)
 refine dA 255 ?_ (x:=sM)
 refine dx 67 ?_ ?_<;>intro gg sgg
 refine dT 511 gg ?_
 refine dT 1023 gg ?_
 refine dT 2047 gg ?_
 refine CX ?_
 refine dU 4095 ?_
 refine dU 32767 ?_
 refine dU 65535 ?_
 refine dU 131071 ?_
 refine dU 262143 ?_
 refine dU 4095 ?_
 refine dU 528383 ?_
 refine dU 4095 ?_
 refine dU 2101247 ?_
 refine dU 7868415 ?_
 refine dU 16257023 ?_
 refine dU 33034239 ?_
 refine dU 66588671 ?_
 refine dU 134217727 ?_
 refine dT 268435455 gg ?_
 refine dA 536870911 ?_ (x:=bj gg)
 refine cH ?_
 exact Zb
 refine dB 511 gg ?_ (x:=sM)
 refine dB 1023 gg ?_ (x:=jE)
 refine dB 2047 gg ?_ (x:=sM)
 refine dx 70 ?_ ?_<;>intro gh sgh
 refine dB 4095 gh ?_ (x:=lF hP)
 refine dB 8191 gh ?_ (x:=lD [sl .v _] fi)
 refine dB 4095 gh ?_ (x:=sM)
 refine dB 32767 gh ?_ (x:=aZ aj cQ an ak bE ak)
 refine dB 65535 gh ?_ (x:=cR aj nb az)
 refine dB 131071 gh ?_ (x:=cR aj kQ az)
 refine dB 262143 gh ?_ (x:=lE [val _] bb)
 refine dB 4095 gh ?_ (x:=lF hP)
 refine dB 528383 gh ?_ (x:=lD [sl .v _] fi)
 refine dB 4095 gh ?_ (x:=sM)
 refine dB 2101247 gh ?_ (x:=jo)
 refine dB 7868415 gh ?_ (x:=aZ (k:=k - 1) aj cQ an ab bE ak)
 refine dB 16257023 gh ?_ (x:=cR aj nb az)
 refine dB 33034239 gh ?_ (x:=cR aj kQ az)
 refine dB 66588671 gh ?_ (x:=lE [val _] bb)
 refine dB 134217727 gh ?_ (x:=kf)
 refine dB 268435455 gg ?_ (x:=bj gh)
 refine dA 536870911 ?_ (x:=aR gg)
 refine sc ?_ ?_<;>intro hbc
 exact Zb
 exact Zc
 refine dF 4095 gh ?_
 refine dF 8191 gh ?_
 refine dF 4095 gh ?_
 refine dF 32767 gh ?_
 refine dF 65535 gh ?_
 refine dF 131071 gh ?_
 refine dF 262143 gh ?_
 refine dF 4095 gh ?_
 refine dF 528383 gh ?_
 refine dF 4095 gh ?_
 refine dF 2101247 gh ?_
 refine dF 7868415 gh ?_
 refine dF 16257023 gh ?_
 refine dF 33034239 gh ?_
 refine dF 66588671 gh ?_
 refine dF 134217727 gh ?_
 refine dB 268435455 gg ?_ (x:=aR gh)
 refine dA 536870911 ?_ (x:=aR gg)
 refine gv ?_
 exact Zc
 have hend:k=e.ax3.length:=ab
 have hall:fh jN (gz e.Store) nV e.ax3=true:=uY ha hend
 refine fq ?_
 refine sT [1,3] [1] ?_
 refine cl ?_
 refine sP [1,3,4] [1] ?_
 refine sL [1,3] [1] (fun k:Nat=>k≤e.Done.length∧(List.take k e.Done).all (kU e.Store.Now)=true) (fun k:Nat=>[(4,RV.int (k:Int))]) (fun k:Nat=>[]) (fun k:Nat=>e.Done.length - k) 0 gF bp an ?_
 rintro k ⟨hk,ha⟩
 refine cP ?_
 refine CH ?_
 refine dQ ?_
 refine sc ?_ ?_<;>intro hbc
 have hlt:k < e.Done.length:=ab
 refine bv ?_
 refine sT [1,3,4] [1] ?_
 refine Cl ?_
 refine rM ?_
 refine zL ?_
 refine aU ?_
 refine sO [(1,_),(3,_),(4,_),(5,_)] [(1,_),(5,(56,lW))] ?_
 refine aY ?_
 refine rA ?_ (x:=lF vr)
 refine Hh ?_
 refine fp ?_
 refine cx 105 ?_ ?_<;>intro gg sgg
 refine zt gg ?_
 refine rA ?_ (x:=bj gg)
 refine rM ?_
 refine au.cases (s:=114) rfl (fun g37=>?_) (fun g37=>nomatch g37)
 refine zt g37 ?_
 refine rA ?_ (x:=bj g37)
 refine rM ?_
 refine au.cases (s:=120) rfl (fun g38=>?_) (fun g38=>nomatch g38)
 refine zt g38 ?_
 refine rA ?_ (x:=bj g38)
 refine cH ?_
 exact Gy
 refine PD ?_
 refine rB gg ?_ (x:=lF nd)
 refine rB gg ?_ (x:=lF lG)
 refine rB gg ?_ (x:=lD [val _] bb)
 refine rB gg ?_ (x:=cL [(false,[val _]),(false,[val _]),(false,[val _])] [(false,[val _]),(false,[val _]),(false,[val _])] mh (hs:=lO))
 refine rB gg ?_ (x:=nT)
 refine rA ?_ (x:=aR gg)
 refine rM ?_
 refine cx 114 ?_ ?_<;>intro gh sgh
 refine zt gh ?_
 refine rA ?_ (x:=bj gh)
 refine rM ?_
 refine au.cases (s:=120) rfl (fun g41=>?_) (fun g41=>nomatch g41)
 refine zt g41 ?_
 refine rA ?_ (x:=bj g41)
 refine cH ?_
 exact Gy
 refine PE ?_
 refine rB gh ?_ (x:=cL [(false,[val _]),(false,[val _]),(false,[val _])] [(false,[val _]),(false,[val _]),(false,[val _])] mh (hs:=lO))
 refine rB gh ?_ (x:=nT)
 refine rA ?_ (x:=aR gh)
 refine rM ?_
 refine cx 120 ?_ ?_<;>intro gi sgi
 refine zt gi ?_
 refine rA ?_ (x:=bj gi)
 refine cH ?_
 exact Gy
 refine Pt ?_
 refine rB gi ?_ (x:=cL [(false,[sl _ _])] [(false,[sl .v _])] aiS (hs:=by exact ai9))
 refine rB gi ?_ (x:=nT)
 refine rA ?_ (x:=aR gi)
 refine sc ?_ ?_<;>intro hbd
 exact Gy
 have hyes:(kU e.Store.Now) e.Done[k]=true:=Fk
 refine ba ?_
 refine sG [1,3,4,5] [1,5] ?_
 exact wo
 have hfa:e.Done.all (kU e.Store.Now)=true:=mc VC
 refine fq ?_
 refine sT [1,3,4] [1] ?_
 refine cl ?_
 refine sP [1,3,4,6] [1] ?_
 refine sL [1,3,4] [1] (fun k:Nat=>k≤e.ayf.length∧(List.take k e.ayf).all gQ=true) (fun k:Nat=>[(6,RV.int (k:Int))]) (fun k:Nat=>[]) (fun k:Nat=>e.ayf.length - k) 0 gF bp an ?_
 rintro k ⟨hk,ha⟩
 refine cP ?_
 refine CI ?_
 refine dQ ?_
 refine sc ?_ ?_<;>intro hbd
 have hlt:k < e.ayf.length:=ab
 refine bv ?_
 refine sT [1,3,4,6] [1] ?_
 refine rA ?_ (x:=lF lH)
 refine rA ?_ (x:=lD [sl .v _] lJ)
 refine rM ?_
 refine Ok ?_
 refine rA ?_ (x:=cL [(true,fk)] [(true,nC)] apY (hs:=by exact asb))
 refine gx ?_
 refine sc ?_ ?_<;>intro hbe
 have hno:gQ e.ayf[k]=false:=by simpa using hbe
 have hbad2:=ahX (oM hlt hno)
 refine sS [1,3,4,6] [1] ?_
 exact yN
 have hyes:gQ e.ayf[k]=true:=by simpa using hbe
 refine ba ?_
 refine sG [1,3,4,6] [1] ?_
 exact wo
 have hla:e.ayf.all gQ=true:=mc Vy
 refine bI ?_
 refine sT [1,3,4,6] [1] ?_
 exact Za
end Go.Proofs.YtmekkgdboplbjaaGreatDoor
