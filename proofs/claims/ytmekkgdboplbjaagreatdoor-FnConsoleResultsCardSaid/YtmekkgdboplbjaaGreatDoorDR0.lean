/- What functions of the program compute. No condition. -/
import Derived.Test.YtmekkgdboplbjaaGreatDoorDI0
import Derived.Test.YtmekkgdboplbjaaGreatDoorDN0
import Derived.Test.YtmekkgdboplbjaaGreatDoorDQ0
set_option linter.all false
namespace Go.Proofs.YtmekkgdboplbjaaGreatDoor
open Go Go.RowKit M PV Tryz
set_option maxRecDepth 10000
attribute [local irreducible] PV.Lcl PV.LclR RV.Lcl
def Xu{o:List Int}:aS prog 154 [(false,[sl .v (o.map ax)])] (aJ [(false,[val (.bool (oZ o))])]):=by
 refine sF func154 fun h0 w0 Fz0=>?_
 refine sj 0 fun hl0=>?_
 refine oI ?_
 refine iY ?_
 refine sP [0,2,3] [] ?_
 refine sL [0] [] (fun k:Nat=>k≤3∧qJ o k=true) (fun k:Nat=>[(3,RV.int (k:Int))]) (fun k:Nat=>[]) (fun k:Nat=>3 - k) 0 jM cb au ?_
 rintro k ⟨hk,ha⟩
 refine jU ?_
 refine fx ?_
 refine sc ?_ ?_<;>intro hba
 have hlt:k < 3:=ab
 refine bA ?_
 refine sS [0,3] [] ?_
 refine iz ?_
 refine rA ?_ (x:=cL [(false,[sl _ _]),(false,[val _])] [(false,[sl .v _]),(false,[val _])] MM (hs:=by exact Oj))
 refine fw ?_
 refine sc ?_ ?_<;>intro hbb
 have hno:eR o (k:Int)=false:=gU
 refine sS [0,3] [] ?_
 refine bG ?_
 exact rb ((Ur hlt hno).symm)
 have hyes:eR o (k:Int)=true:=gU
 refine bd ?_
 refine sG [0,3] [] ?_
 refine jV ?_
 refine nx (k+1) (by exact ⟨ab,by rw [yz,ha,hyes];rfl⟩) (e:=oj)
 have hend:k=3:=ab
 rw [hend] at ha
 refine bv ?_
 refine sS [0,3] [] ?_
 refine mu ?_
 refine oC ?_
 refine cv ?_
 exact rb (by rw [←MZ,ha,Bool.true_and];first|rfl|(rw [decide_eq_decide];omega)|(rw [Bool.eq_iff_iff];simp;omega)|(rw [Bool.eq_iff_iff];simp))
def Xv{p1 p2 p7:Fl}{s:Store}{a:ac8}:aS prog 155 [(true,[sl .v (s.ac7.map (be p1 p2)),val (vI s.Now)]),(true,[val (vI a.ac9.Id),val (vI a.ac9.ade),sl .v (a.ac9.ada.map bU),sl .v (a.ac9.Out.map ax),val (vI a.Time),sl .v (a.adi.map ax),val (vI a.Age),val (vI a.Sent),val (vI a.Cap),sl .v (a.Rows.map (cg p7))])] (aJ [(false,[val (.bool (gn s a))])]):=by
 refine sF func155 fun h0 w0 Fz0=>?_
 refine sn 0 0 fun hl0_0=>?_
 refine sn 1 2 fun hl1_2=>?_
 refine sn 1 3 fun hl1_3=>?_
 refine sn 1 5 fun hl1_5=>?_
 refine sn 1 9 fun hl1_9=>?_
 refine rZ ?_
 refine LX ?_
 refine xY ?_
 refine qz ?_
 refine sC ?_
 refine sP [2,3,4,8,9,10] [2,3] ?_
 refine sL [2,3,8,9] [2,3] (fun k:Nat=>k≤a.adi.length∧lG 0 (mQ s.ac7.length) mR a.adi k=true) (fun k:Nat=>[(10,RV.int (k:Int))]) (fun k:Nat=>[]) (fun k:Nat=>a.adi.length - k) 0 jM cb au ?_
 rintro k ⟨hk,ha⟩
 refine bO ?_
 refine sc ?_ ?_<;>intro hba
 have hlt:k < a.adi.length:=ab
 have hgk:a.adi.getD k 0=a.adi[k]:=iC hlt
 have hgp:0 < k→a.adi.getD (k - 1) 0=a.adi[k - 1]:=fun h=>iC ab
 refine bA ?_
 refine sT [2,3,8,9,10] [2,3] ?_
 refine rM ?_
 refine qd ?_
 refine jS ?_
 refine sS [2,3,5,6,8,9,10] [2,3] ?_
 refine rM ?_
 refine nF ?_
 refine mz ?_
 refine Lc ?_
 refine cx 22 (fun ga sga=>?_) (fun ga sga=>?_)
 refine jT ?_
 exact IH
 refine gv ?_
 refine rB ga ?_ (x:=fH)
 refine gv ?_
 refine cx 25 (fun gb sgb=>?_) (fun gb sgb=>?_)
 refine rB gb ?_ (x:=lF vv)
 refine rB gb ?_ (x:=lD [sl .v _] ek)
 refine lz ?_
 refine rB gb ?_ (x:=nr)
 refine rB gb ?_ (x:=bT (k:=k - 1) ae ej au ab dW aj)
 refine rB gb ?_ (x:=lE [val _] bB)
 refine lz ?_
 refine rB gb ?_ (x:=ll)
 refine rB ga ?_ (x:=bF gb)
 refine jY ?_
 refine sc ?_ ?_<;>intro hbb
 exact IH
 exact II
 refine zf gb ?_
 refine rB ga ?_ (x:=aK gb)
 refine jY ?_
 refine fW ?_
 exact II
 have hend:k=a.adi.length:=ab
 have hall:eS 0 (mQ s.ac7.length) mR a.adi=true:=yr ha hend
 refine bv ?_
 refine sT [2,3,8,9,10] [2,3] ?_
 refine qz ?_
 refine qi ?_
 refine rA ?_ (x:=fH)
 refine rM ?_
 refine cx 41 (fun ga sga=>?_) (fun ga sga=>?_)
 refine rB ga ?_ (x:=lF lS)
 refine KR ?_
 refine sr ?_
 refine cx 46 (fun gb sgb=>?_) (fun gb sgb=>?_)
 refine rB gb ?_ (x:=lF Og)
 refine nG ?_
 refine rB gb ?_ (x:=lF kS)
 refine xD ?_
 refine kD ?_
 refine cx 53 (fun gc sgc=>?_) (fun gc sgc=>?_)
 refine rB gc ?_ (x:=lF DS)
 refine Bu ?_
 refine my ?_
 refine rM ?_
 refine cx 58 (fun gd sgd=>?_) (fun gd sgd=>?_)
 refine rB gd ?_ (x:=lF vw)
 refine Bv ?_
 refine rA ?_ (x:=bF gd)
 refine rM ?_
 refine cx 63 (fun ge sge=>?_) (fun ge sge=>?_)
 refine rB ge ?_ (x:=lF DT)
 refine rB ge ?_ (x:=lD [val _] bB)
 refine rB ge ?_ (x:=cL [(false,[val _]),(false,[val _]),(false,[val _])] [(false,[val _]),(false,[val _]),(false,[val _])] mL (hs:=ma))
 refine sw ?_
 refine cx 68 (fun gf sgf=>?_) (fun gf sgf=>?_)
 refine rB gf ?_ (x:=lF vz)
 refine rB gf ?_ (x:=lD [sl .v _] mZ)
 refine rB gf ?_ (x:=cL [(false,[sl _ _])] [(false,[sl .v _])] DP (hs:=zR))
 refine rA ?_ (x:=bF gf)
 exact qc
 refine zf gf ?_
 refine rA ?_ (x:=aK gf)
 exact qc
 refine zf ge ?_
 refine uR ?_
 refine av.cases (s:=68) rfl (fun g13=>nomatch g13) (fun g13=>?_)
 refine zf g13 ?_
 refine rA ?_ (x:=aK g13)
 exact qc
 refine yb ?_
 refine rM ?_
 refine av.cases (s:=63) rfl (fun g14=>nomatch g14) (fun g14=>?_)
 refine zf g14 ?_
 refine rA ?_ (x:=aK g14)
 refine rM ?_
 refine av.cases (s:=68) rfl (fun g15=>nomatch g15) (fun g15=>?_)
 refine zf g15 ?_
 refine rA ?_ (x:=aK g15)
 exact qc
 refine kE ?_
 refine rM ?_
 refine av.cases (s:=58) rfl (fun g16=>nomatch g16) (fun g16=>?_)
 refine zf g16 ?_
 refine rA ?_ (x:=aK g16)
 refine rM ?_
 refine av.cases (s:=63) rfl (fun g17=>nomatch g17) (fun g17=>?_)
 refine zf g17 ?_
 refine rA ?_ (x:=aK g17)
 refine rM ?_
 refine av.cases (s:=68) rfl (fun g18=>nomatch g18) (fun g18=>?_)
 refine zf g18 ?_
 refine rA ?_ (x:=aK g18)
 exact qc
 refine lx ?_
 refine av.cases (s:=53) rfl (fun g19=>nomatch g19) (fun g19=>?_)
 refine zf g19 ?_
 refine rA ?_ (x:=aK g19)
 refine rM ?_
 refine av.cases (s:=58) rfl (fun g20=>nomatch g20) (fun g20=>?_)
 refine zf g20 ?_
 refine rA ?_ (x:=aK g20)
 refine rM ?_
 refine av.cases (s:=63) rfl (fun g21=>nomatch g21) (fun g21=>?_)
 refine zf g21 ?_
 refine rA ?_ (x:=aK g21)
 refine rM ?_
 refine av.cases (s:=68) rfl (fun g22=>nomatch g22) (fun g22=>?_)
 refine zf g22 ?_
 refine rA ?_ (x:=aK g22)
 exact qc
 refine qu ?_
 refine av.cases (s:=46) rfl (fun g23=>nomatch g23) (fun g23=>?_)
 refine zf g23 ?_
 refine rA ?_ (x:=aK g23)
 refine rM ?_
 refine av.cases (s:=53) rfl (fun g24=>nomatch g24) (fun g24=>?_)
 refine zf g24 ?_
 refine rA ?_ (x:=aK g24)
 refine rM ?_
 refine av.cases (s:=58) rfl (fun g25=>nomatch g25) (fun g25=>?_)
 refine zf g25 ?_
 refine rA ?_ (x:=aK g25)
 refine rM ?_
 refine av.cases (s:=63) rfl (fun g26=>nomatch g26) (fun g26=>?_)
 refine zf g26 ?_
 refine rA ?_ (x:=aK g26)
 refine rM ?_
 refine av.cases (s:=68) rfl (fun g27=>nomatch g27) (fun g27=>?_)
 refine zf g27 ?_
 refine rA ?_ (x:=aK g27)
 exact qc
def Ov{p1 p2 p5 p6 p7 p8 p9 p11 p12 p13 p14 p16 p17 p18:Fl}{e:ar}(hb:bw e≤68719476736):aS prog 66 [(true,[sl .v (e.Store.ac7.map (be p1 p2)),val (vI e.Store.Now),val (vI e.adc),sl .v (e.Order.map ax),sl .v (e.ac8.map (bz p5 p6 p7 p8 p9)),sl .v (e.Done.map (cn p11 p12 p13 p14)),sl .v (e.adl.map (cm p16 p17 p18)),val (vI e.Steps)])] (aJ [(false,[val (.bool (aP e))])]):=by
 refine sF func66 fun h0 w0 Fz0=>?_
 refine sn 0 0 fun hl0_0=>?_
 refine sn 0 3 fun hl0_3=>?_
 refine sn 0 4 fun hl0_4=>?_
 refine sn 0 5 fun hl0_5=>?_
 refine sn 0 6 fun hl0_6=>?_
 have hbu:=hb
 simp only [bw] at hbu
 refine oB ?_
 refine oG ?_
 refine lB ?_
 refine rA ?_ (x:=lD gW gy)
 refine rA ?_ (x:=cL [(true,dE)] [(true,gW)] Od (hs:=by exact Oo ab))
 refine fj ?_
 refine cx 13 (fun ga sga=>?_) (fun ga sga=>?_)
 refine ly ?_
 refine av.cases (s:=24) rfl (fun g2=>?_) (fun g2=>nomatch g2)
 refine mw ?_
 refine rM ?_
 refine av.cases (s:=30) rfl (fun g3=>?_) (fun g3=>nomatch g3)
 refine qn ?_
 refine cd ?_
 exact xn
 refine rB ga ?_ (x:=lF vC)
 refine jz ?_
 refine rB ga ?_ (x:=lF tw)
 refine rB ga ?_ (x:=lF nQ)
 refine rB ga ?_ (x:=lD [sl .v _] nU)
 refine rB ga ?_ (x:=lN iN)
 refine rB ga ?_ (x:=nr)
 refine rU ?_
 refine qp ?_
 refine cx 24 (fun gb sgb=>?_) (fun gb sgb=>?_)
 refine qr ?_
 refine av.cases (s:=30) rfl (fun g6=>?_) (fun g6=>nomatch g6)
 refine uP ?_
 refine cd ?_
 exact xn
 refine rB gb ?_ (x:=lF Oi)
 refine rB gb ?_ (x:=lD [sl .v _] ek)
 refine rB gb ?_ (x:=cL [(false,[sl _ _])] [(false,[sl .v _])] Wd (hs:=by exact Xu))
 refine yc ?_
 refine cx 30 (fun gc sgc=>?_) (fun gc sgc=>?_)
 refine qm ?_
 refine cd ?_
 exact xn
 refine rB gc ?_ (x:=lF vD)
 refine Bu ?_
 refine rB gc ?_ (x:=nT)
 refine lA ?_
 refine sc ?_ ?_<;>intro hba
 exact xn
 have hp1:(bV e.Store&&(aE e.adc 0 (e.Store.ac7.length - 1)&&(oZ e.Order&&aE e.Steps 0 100000)))=true:=GB
 refine dH ?_
 refine sS [1,2] [1] ?_
 refine KC ?_
 refine rA ?_ (x:=fH)
 refine rM ?_
 refine cx 40 (fun gd sgd=>?_) (fun gd sgd=>?_)
 refine zt gd ?_
 refine rA ?_ (x:=bF gd)
 refine rM ?_
 refine av.cases (s:=46) rfl (fun g12=>?_) (fun g12=>nomatch g12)
 refine zt g12 ?_
 refine rA ?_ (x:=bF g12)
 refine cd ?_
 exact AR
 refine rB gd ?_ (x:=lF qR)
 refine rB gd ?_ (x:=lD [sl .v _] qT)
 refine rB gd ?_ (x:=lN lT)
 refine rB gd ?_ (x:=fH)
 refine rA ?_ (x:=aK gd)
 refine rM ?_
 refine cx 46 (fun ge sge=>?_) (fun ge sge=>?_)
 refine zt ge ?_
 refine rA ?_ (x:=bF ge)
 refine cd ?_
 exact AR
 refine rB ge ?_ (x:=lF pt)
 refine rB ge ?_ (x:=lD [sl .v _] pv)
 refine rB ge ?_ (x:=lN nR)
 refine rB ge ?_ (x:=fH)
 refine rA ?_ (x:=aK ge)
 refine sc ?_ ?_<;>intro hbb
 exact AR
 have hpr:kd e=true:=Gk
 refine dH ?_
 refine sS [1,2] [1] ?_
 refine oJ ?_
 refine sP [1,2,53,54,55] [1] ?_
 refine sL [1,53,54] [1] (fun k:Nat=>k≤e.ac8.length∧lG nN (gn e.Store) nO e.ac8 k=true) (fun k:Nat=>[(55,RV.int (k:Int))]) (fun k:Nat=>[]) (fun k:Nat=>e.ac8.length - k) 0 jM cb au ?_
 rintro k ⟨hk,ha⟩
 refine bO ?_
 refine sc ?_ ?_<;>intro hbc
 have hlt:k < e.ac8.length:=ab
 have hgk:e.ac8.getD k nN=e.ac8[k]:=iC hlt
 have hgp:0 < k→e.ac8.getD (k - 1) nN=e.ac8[k - 1]:=fun h=>iC ab
 refine bA ?_
 refine sT [1,53,54,55] [1] ?_
 refine rM ?_
 refine ux ?_
 refine uX ?_
 refine rS ?_
 refine KU ?_
 refine sO [(1,_),(3,_),(4,_),(53,_),(54,_),(55,_)] [(1,_),(4,(102,dG))] ?_
 refine dr ?_
 refine dA 0 ?_ (x:=lF tw)
 refine dA 1 ?_ (x:=lD gW gy)
 refine LY ?_
 refine dA 7 ?_ (x:=cL [(true,dE),(true,dG)] [(true,gW),(true,ox)] We (hs:=by exact Xv))
 refine dA 15 ?_ (x:=nT)
 refine dA 31 ?_ (x:=sM)
 refine dx 65 (fun gf sgf=>?_) (fun gf sgf=>?_)
 refine dT 63 gf ?_
 refine dT 127 gf ?_
 refine dT 255 gf ?_
 refine dU 511 ?_
 refine dU 1023 ?_
 refine dU 511 ?_
 refine dU 2559 ?_
 refine dU 8191 ?_
 refine dU 16383 ?_
 refine dU 32767 ?_
 refine dU 65535 ?_
 refine dU 511 ?_
 refine dU 131583 ?_
 refine dU 393727 ?_
 refine dU 1048575 ?_
 refine dT 2097151 gf ?_
 refine dA 4194303 ?_ (x:=bF gf)
 refine cd ?_
 exact IK
 refine dB 63 gf ?_ (x:=sM)
 refine dB 127 gf ?_ (x:=fH)
 refine dB 255 gf ?_ (x:=sM)
 refine dx 68 (fun gg sgg=>?_) (fun gg sgg=>?_)
 refine dB 511 gg ?_ (x:=lF kh)
 refine dB 1023 gg ?_ (x:=lD [sl .v _] ki)
 refine dB 511 gg ?_ (x:=sM)
 refine dB 2559 gg ?_ (x:=nr)
 refine dB 8191 gg ?_ (x:=bT (k:=k - 1) ae gR au ab dW aj)
 refine dB 16383 gg ?_ (x:=lg ae lS aH)
 refine dB 32767 gg ?_ (x:=lg ae nJ aH)
 refine dB 65535 gg ?_ (x:=lE [val _] bB)
 refine dB 511 gg ?_ (x:=lF lS)
 refine dB 131583 gg ?_ (x:=lF nJ)
 refine dB 393727 gg ?_ (x:=lD [val _] bB)
 refine dB 1048575 gg ?_ (x:=ll)
 refine dB 2097151 gf ?_ (x:=bF gg)
 refine dA 4194303 ?_ (x:=aK gf)
 refine sc ?_ ?_<;>intro hbd
 exact IK
 exact IL
 refine dF 511 gg ?_
 refine dF 1023 gg ?_
 refine dF 511 gg ?_
 refine dF 2559 gg ?_
 refine dF 8191 gg ?_
 refine dF 16383 gg ?_
 refine dF 32767 gg ?_
 refine dF 65535 gg ?_
 refine dF 511 gg ?_
 refine dF 131583 gg ?_
 refine dF 393727 gg ?_
 refine dF 1048575 gg ?_
 refine dB 2097151 gf ?_ (x:=aK gg)
 refine dA 4194303 ?_ (x:=aK gf)
 refine fW ?_
 exact IL
 have hend:k=e.ac8.length:=ab
 have hall:eS nN (gn e.Store) nO e.ac8=true:=yr ha hend
 refine qo ?_
 refine sT [1,53,54,55] [1] ?_
 refine uG ?_
 refine rA ?_ (x:=lN lT)
 refine dM ?_
 refine sP [1,53,54,55,85,86,87] [1] ?_
 refine sL [1,53,54,55,85,86] [1] (fun k:Nat=>k≤e.Done.length∧(List.take k e.Done).all (jB e.Store.Now)=true) (fun k:Nat=>[(87,RV.int (k:Int))]) (fun k:Nat=>[]) (fun k:Nat=>e.Done.length - k) 0 jM cb au ?_
 rintro k ⟨hk,ha⟩
 refine bO ?_
 refine sc ?_ ?_<;>intro hbd
 have hlt:k < e.Done.length:=ab
 refine bA ?_
 refine sT [1,53,54,55,85,86,87] [1] ?_
 refine KN ?_
 refine Bs ?_
 refine aU ?_
 refine sO [(1,_),(6,_),(53,_),(54,_),(55,_),(85,_),(86,_),(87,_)] [(1,_),(6,(56,iW))] ?_
 refine bh ?_
 refine rA ?_ (x:=lF tx)
 refine qe ?_
 refine fj ?_
 refine cx 95 (fun gf sgf=>?_) (fun gf sgf=>?_)
 refine zt gf ?_
 refine rA ?_ (x:=bF gf)
 refine rM ?_
 refine av.cases (s:=104) rfl (fun g25=>?_) (fun g25=>nomatch g25)
 refine zt g25 ?_
 refine rA ?_ (x:=bF g25)
 refine rM ?_
 refine av.cases (s:=110) rfl (fun g26=>?_) (fun g26=>nomatch g26)
 refine zt g26 ?_
 refine rA ?_ (x:=bF g26)
 refine cd ?_
 exact xo
 refine rB gf ?_ (x:=lF WR)
 refine rB gf ?_ (x:=lD [val _] bB)
 refine rB gf ?_ (x:=lF tw)
 refine rB gf ?_ (x:=lF kS)
 refine rB gf ?_ (x:=lD [val _] bB)
 refine rB gf ?_ (x:=cL [(false,[val _]),(false,[val _]),(false,[val _])] [(false,[val _]),(false,[val _]),(false,[val _])] mL (hs:=ma))
 refine rB gf ?_ (x:=nT)
 refine rA ?_ (x:=aK gf)
 refine rM ?_
 refine cx 104 (fun gg sgg=>?_) (fun gg sgg=>?_)
 refine zt gg ?_
 refine rA ?_ (x:=bF gg)
 refine rM ?_
 refine av.cases (s:=110) rfl (fun g29=>?_) (fun g29=>nomatch g29)
 refine zt g29 ?_
 refine rA ?_ (x:=bF g29)
 refine cd ?_
 exact xo
 refine rB gg ?_ (x:=lF WS)
 refine rB gg ?_ (x:=lD [val _] bB)
 refine rB gg ?_ (x:=cL [(false,[val _]),(false,[val _]),(false,[val _])] [(false,[val _]),(false,[val _]),(false,[val _])] mL (hs:=ma))
 refine rB gg ?_ (x:=nT)
 refine rA ?_ (x:=aK gg)
 refine rM ?_
 refine cx 110 (fun gh sgh=>?_) (fun gh sgh=>?_)
 refine zt gh ?_
 refine rA ?_ (x:=bF gh)
 refine cd ?_
 exact xo
 refine rB gh ?_ (x:=lF vE)
 refine rB gh ?_ (x:=lD [sl .v _] mZ)
 refine rB gh ?_ (x:=cL [(false,[sl _ _])] [(false,[sl .v _])] DP (hs:=zR))
 refine rB gh ?_ (x:=nT)
 refine rA ?_ (x:=aK gh)
 refine sc ?_ ?_<;>intro hbe
 exact xo
 have hyes:(jB e.Store.Now) e.Done[k]=true:=Gn
 refine bd ?_
 refine sG [1,6,53,54,55,85,86,87] [1,6] ?_
 exact ur
 have hfa:e.Done.all (jB e.Store.Now)=true:=kH (by rw [show e.Done.length=k by omega];exact ha)
 refine qo ?_
 refine sT [1,53,54,55,85,86,87] [1] ?_
 refine rA ?_ (x:=lF pt)
 refine rA ?_ (x:=lD [sl .v _] pv)
 refine rA ?_ (x:=lN nR)
 refine dM ?_
 refine sP [1,53,54,55,85,86,87,118,119,120] [1] ?_
 refine sL [1,53,54,55,85,86,87,118,119] [1] (fun k:Nat=>k≤e.adl.length∧(List.take k e.adl).all gk=true) (fun k:Nat=>[(120,RV.int (k:Int))]) (fun k:Nat=>[]) (fun k:Nat=>e.adl.length - k) 0 jM cb au ?_
 rintro k ⟨hk,ha⟩
 refine bO ?_
 refine sc ?_ ?_<;>intro hbe
 have hlt:k < e.adl.length:=ab
 refine bA ?_
 refine sT [1,53,54,55,85,86,87,118,119,120] [1] ?_
 refine KV ?_
 refine Bx ?_
 refine aU ?_
 refine sO [(1,_),(8,_),(53,_),(54,_),(55,_),(85,_),(86,_),(87,_),(118,_),(119,_),(120,_)] [(1,_),(8,(149,gX))] ?_
 refine bh ?_
 refine rA ?_ (x:=lD rQ qS)
 refine rA ?_ (x:=cL [(true,gX)] [(true,rQ)] Wf (hs:=by exact Xt))
 refine fw ?_
 refine sc ?_ ?_<;>intro hbf
 have hno:gk e.adl[k]=false:=by simpa using hbf
 have hbad2:=Uq (mC hlt hno)
 refine sS [1,8,53,54,55,85,86,87,118,119,120] [1,8] ?_
 exact AS
 have hyes:gk e.adl[k]=true:=by simpa using hbf
 refine bd ?_
 refine sG [1,8,53,54,55,85,86,87,118,119,120] [1,8] ?_
 exact ur
 have hla:e.adl.all gk=true:=kH (by rw [show e.adl.length=k by omega];exact ha)
 refine bv ?_
 refine sT [1,53,54,55,85,86,87,118,119,120] [1] ?_
 refine bG ?_
 exact rb ((MY hpr hall hfa hla).symm)
end Go.Proofs.YtmekkgdboplbjaaGreatDoor
