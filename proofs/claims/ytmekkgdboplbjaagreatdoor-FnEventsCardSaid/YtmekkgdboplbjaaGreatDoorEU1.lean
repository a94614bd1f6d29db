/- What functions of the program compute. No condition. -/
import Derived.Test.YtmekkgdboplbjaaGreatDoorES1
import Derived.Test.YtmekkgdboplbjaaGreatDoorET1
set_option linter.all false
namespace Go.Proofs.YtmekkgdboplbjaaGreatDoor
open Go Go.RowKit M PV Tryz
set_option maxRecDepth 10000
attribute [local irreducible] PV.Lcl PV.LclR RV.Lcl
set_option maxHeartbeats 8000000
def TZ:eA prog 25=some [(0,1),(1,1),(2,1),(3,1)]:=ao
def alA:eA prog 65=some [(0,1),(1,1),(2,1)]:=ao
def yg:prog.underlying 9=some .string:=ao
def KA{w:av}{l:av}(hl:w.length≤1048576):gu prog gl 139 [(false,[val (.string (B w))]),(false,[val (.string (B l))])] (aB [(false,[val (vI (eL (qw w l)))]),(false,[val (.bool (Eo w l&&gV (qw w l)))])]):=by
 refine lX (rs:=[(false,[val (vI (eL (qw w l)))]),(false,[val (.bool (Eo w l&&gV (qw w l)))])]) func139 rfl (nl rfl) (jn (aF.cons (bor_val _) aF.nil) (jn (aF.cons (bor_val _) aF.nil) jm)) ?_
 intro h0 w0 Fz0
 have htp:=avV w l
 refine uL ?_
 refine rK ?_
 refine sS [0,1,4,5,7000] [] ?_
 refine fB ?_
 refine rA ?_ (x:=cL [(false,[val _]),(false,[val _])] [(false,[val _]),(false,[val _])] aqe (hs:=by exact awF))
 refine uN ?_
 refine sS [0,1,4,5,6,7,7000] [] ?_
 refine oJ ?_
 refine td ?_
 refine sS [0,1,4,5,6,7,8,9,7000] [] ?_
 refine fB ?_
 refine rM ?_
 refine cx 23 ?_ ?_<;>intro ga sga
 refine gN ?_
 refine jq ?_
 exact Zbb
 refine au.s0f ga ?_
 refine lz ?_
 exact Zbb
def Ua{s:av}{b:Int}(hl:s.length≤1048576)(hu0:0≤b)(hu1:b≤255):aQ prog 133 [(false,[val (.string (B s))]),(false,[val (.int .u8 b)])] (aB [(false,[val (vI (jX (u8 b) s))])]):=by
 refine sF func133 fun h0 w0 Fz0=>?_
 refine ti ?_
 refine rM ?_
 refine rA ?_ (x:=pt yg)
 refine dQ ?_
 refine rM ?_
 refine cx 8 ?_ ?_<;>intro ga sga
 refine mb ?_
 exact Zbc
 have h0:0 < s.length:=Lr;have hi0:=(TH (x:=s[0]) hu0 hu1);have hi1:=avW (s:=s) (c:=u8 b) h0
 have sga:=ga
 try simp only [qq] at sga
 refine gN ?_
 refine rB ga ?_ (x:=Sa h0 yg)
 refine gN ?_
 refine rB ga ?_ (x:=amO)
 refine lz ?_
 refine sc ?_ ?_<;>intro hba
 exact Zbc
 have hr:jX (u8 b) s=er (s.drop 1):=avY uk dO
 refine ba ?_
 refine pK ?_
 refine rM ?_
 refine rA ?_ (x:=sSc yg (u:=(s.drop 1)) ab uf)
 refine rA ?_ (x:=cL [(false,[val _])] [(false,[val _])] xN (hs:=by exact (TW vX)))
 refine rS ?_
 exact Zbd
def awQ{s:av}(hl:s.length≤1048576):aQ prog 133 [(false,[val (.string (B s))]),(false,[val (.int .u8 113)])] (aB [(false,[val (vI (jX 113 s))])]):=Ua hl (b:=113) aj aj
def awR{s:av}(hl:s.length≤1048576):aQ prog 133 [(false,[val (.string (B s))]),(false,[val (.int .u8 116)])] (aB [(false,[val (vI (jX 116 s))])]):=Ua hl (b:=116) aj aj
def alB{s:av}(hl:s.length≤1048576):aQ prog 133 [(false,[val (.string (B s))]),(false,[val (.int .u8 102)])] (aB [(false,[val (vI (jX 102 s))])]):=Ua hl (b:=102) aj aj
def awS{s:av}(hl:s.length≤1048576):aQ prog 134 [(false,[val (.string (B s))])] (aB [(false,[val (vI (uc s).1)]),(false,[val (vI (uc s).2)])]):=by
 refine sF func134 fun h0 w0 Fz0=>?_
 refine uL ?_
 refine iv ?_
 refine wQ ?_
 refine sL [0] [] (fun k:Nat=>k≤s.length∧∀j,j < k→nq s j=false) (fun k:Nat=>[(4,RV.int (k:Int))]) (fun k:Nat=>[]) (fun k:Nat=>s.length - k) 0 (by exact ⟨ab,fun j hj=>absurd hj (Nat.not_lt_zero j)⟩) bp an ?_
 rintro k ⟨hk,ha⟩
 refine aU ?_
 refine sR ?_
 refine lv ?_
 refine rM ?_
 refine rA ?_ (x:=pt yg)
 refine dQ ?_
 refine sc ?_ ?_<;>intro hba
 have hlt:k+1 < s.length:=ab
 refine bv ?_
 refine sS [0,4] [] ?_
 refine fB ?_
 refine lv ?_
 refine rA ?_ (x:=sS2 k (k+2) yg (u:=((s.drop k).take 2)) ab ab ab ab (by rw [List.drop_take,Nat.add_sub_cancel_left]))
 refine rA ?_ (x:=qS)
 refine sc ?_ ?_<;>intro hbb
 have hdy:nq s k=true:=by unfold nq;simpa using hbb
 have hr:=ak1 hlt ha hdy
 refine aU ?_
 refine sP [0,4] [] ?_
 refine cC ?_
 refine uB ?_
 refine dA 3 ?_ (x:=Sb k yg (u:=(s.take k)) ab ab Lb)
 refine dA 7 ?_ (x:=cL [(false,[val _])] [(false,[val _])] xN (hs:=Vg))
 refine uB ?_
 refine dA 32 ?_ (x:=jF)
 refine dA 112 ?_ (x:=DW (k+2) yg (u:=(s.drop (k+2))) ab ab uf)
 refine dA 255 ?_ (x:=cL [(false,[val _])] [(false,[val _])] xN (hs:=Vg))
 refine dA 511 ?_ (x:=sA)
 refine dA 1023 ?_ (x:=sA)
 exact Zbf
 have hdn:nq s k=false:=by unfold nq;simpa using hbb
 refine ba ?_
 refine sG [0,4] [] ?_
 refine cB ?_
 refine nx (k+1) (by exact ⟨ab,avZ ha hdn⟩)
 have hr:=avp (w:=s) (fun j hj=>ha j ab)
 refine bI ?_
 refine sS [0,4] [] ?_
 refine rK ?_
 refine rK ?_
 exact Zbf
def awT{s:av}(hl:s.length≤1048576):gu prog gl 56 [(false,[val (.string (B s))])] (aB [(true,[val (vI ((fT s).getD fa).Id),val (vI ((fT s).getD fa).ax8),sl aH (((fT s).getD fa).ax5.map bF),sl ai (((fT s).getD fa).Out.map ar)]),(false,[val (.bool (fT s).isSome)])]):=by
 refine lX (rs:=[(true,[val (vI ((fT s).getD fa).Id),val (vI ((fT s).getD fa).ax8),sl aH (((fT s).getD fa).ax5.map bF),sl ai (((fT s).getD fa).Out.map ar)]),(false,[val (.bool (fT s).isSome)])]) func56 rfl (nl rfl) (jn (aF.cons (bor_val _) aF.nil) jm) ?_
 intro h0 w0 Fz0
 have hsl:=sf 32 s
 have htm:=av2 (aq 32 s).length
 have hfl:=Kc (mC (aq 32 s))
 refine PK ?_
 refine Ig ?_
 refine Zbg ?_
 refine dJ ?_
 refine sS [0,2,3,4,7000] [2] ?_
 refine qW ?_
 refine eU ?_
 refine sS [0,2,3,4,5,7000] [2] ?_
 refine uJ ?_
 refine rM ?_
 refine cx 30 ?_ ?_<;>intro ga sga
 refine jH ?_
 refine au.cases (s:=35) rfl (fun g2=>?_) (fun g2=>nomatch g2)
 refine zb ?_
 refine cH ?_
 exact Nj
 refine gN ?_
 refine rB ga ?_ (x:=FZ aj an (bi rfl) ab)
 refine rB ga ?_ (x:=ig)
 refine ly ?_
 refine cx 35 ?_ ?_<;>intro gb sgb
 refine xd ?_
 exact Nj
 refine HV ?_
 refine pI ?_
 refine sc ?_ ?_<;>intro hba
 exact Nj
 have hn4:4≤(aq 32 s).length:=kc
 have hn2:(aq 32 s).length%2=0:=kc
 have hn10:(aq 32 s).length≤10:=kc
 have h0w:0 < (aq 32 s).length:=ab
 have h1w:1 < (aq 32 s).length:=ab
 have hlw:(aq 32 s).length - 1 < (aq 32 s).length:=ab
 have hwd0:=jg 32 s 0
 have hwd1:=jg 32 s 1
 have hwd2:=jg 32 s ((aq 32 s).length - 1)
 refine ba ?_
 refine sS [0,2,3,4,5,7000] [2] ?_
 refine OV ?_
 refine rA ?_ (x:=gL [(false,[val _]),(false,[val _])] [(false,[val _]),(false,[val _])] Jw (hs:=by exact (KA (l:=[113]) ab)))
 refine uN ?_
 refine sS [0,2,3,4,5,6,7,7000] [2] ?_
 refine Cn ?_
 refine rA ?_ (x:=gL [(false,[val _]),(false,[val _])] [(false,[val _]),(false,[val _])] Jw (hs:=by exact (KA (l:=[116]) ab)))
 refine uN ?_
 refine sS [0,2,3,4,5,6,7,8,9,7000] [2] ?_
 refine pz ?_
 refine rA ?_ (x:=jo)
 refine Zbk ?_
 refine Za4 ?_
 refine Za5 ?_
 refine dJ ?_
 refine rS ?_
 refine sS [0,2,3,4,5,6,7,8,9,10,11,7000] [2] ?_
 refine fB ?_
 refine cb ?_
 refine rA ?_ (x:=cy (qs:=[(false,[val _]),(false,[val _]),(false,[sl _ _])]) (cs:=bX) aj nS ve TZ ak qD rfl ak)
 refine Cf ?_
 refine aU ?_
 refine sO [(0,_),(2,_),(3,_),(4,_),(5,_),(6,_),(7,_),(8,_),(9,_),(11,_),(12,_),(7000,_)] [(2,_),(12,(25,bX))] ?_
 refine aY ?_
 refine fB ?_
 refine cx 68 ?_ ?_<;>intro gc sgc
 refine nL ?_
 refine lx ?_
 refine cx 71 ?_ ?_<;>intro gd sgd
 refine rB gd ?_ (x:=sM)
 refine rj ?_
 refine Ph ?_
 refine cl ?_
 refine Nz ?_
 rintro k hk
 refine cP ?_
 refine ID ?_
 refine sc ?_ ?_<;>intro hbb
 have hlt:k < (((aq 32 s).length - 4) / 2):=ab
 have h2w:2+2 * k < (aq 32 s).length:=ab
 have h3w:3+2 * k < (aq 32 s).length:=ab
 have hcl:=TA (aq 32 s) k
 have hw2:=jg 32 s (2+2 * k)
 have hw3:=jg 32 s (3+2 * k)
 have hca:=AU ((aq 32 s).getD (3+2 * k) []) [46,46]
 have hcz:=AV ((aq 32 s).getD (3+2 * k) []) [46,46]
 refine Pe ?_
 refine OB ?_
 refine Om ?_
 refine uN ?_
 refine OX ?_
 refine lv ?_
 refine Hm ?_
 refine Ou ?_
 refine zQ ?_
 refine Pb ?_
 refine oJ ?_
 refine OY ?_
 refine oJ ?_
 refine OW ?_
 refine He ?_
 refine fB ?_
 refine rM ?_
 refine NR ?_
 refine xp ?_
 refine NK ?_
 refine aY ?_
 refine fB ?_
 refine cx 118 ?_ ?_<;>intro ge sge
 refine rB ge ?_ (x:=sM)
 refine nF ?_
 refine cx 121 ?_ ?_<;>intro gf sgf
 exact Zc0
 refine au.s0f gf ?_
 refine pL ?_
 refine rM ?_
 refine au.cases (s:=124) rfl (fun g13=>nomatch g13) (fun g13=>?_)
 refine au.s0f g13 ?_
 refine rA ?_ (x:=aR g13)
 exact qV
 refine au.s0f ge ?_
 refine ra ?_
 refine au.cases (s:=121) rfl (fun g14=>nomatch g14) (fun g14=>?_)
 refine au.s0f g14 ?_
 refine IC ?_
 refine au.cases (s:=124) rfl (fun g15=>nomatch g15) (fun g15=>?_)
 refine au.s0f g15 ?_
 refine rA ?_ (x:=aR g15)
 exact qV
 have hend:k=(((aq 32 s).length - 4) / 2):=ab
 subst hend
 refine Pf ?_
 refine rM ?_
 refine fp ?_
 refine cx 129 ?_ ?_<;>intro ge sge
 refine zt ge ?_
 refine nF ?_
 refine au.cases (s:=134) rfl (fun g17=>?_) (fun g17=>nomatch g17)
 refine Io ?_
 exact BK
 exact Zc4
 refine au.s0f gd ?_
 refine rA ?_ (x:=aR gd)
 refine Ph ?_
 refine cl ?_
 refine Nz ?_
 rintro k hk
 refine cP ?_
 refine ID ?_
 refine sc ?_ ?_<;>intro hbb
 have hlt:k < (((aq 32 s).length - 4) / 2):=ab
 have h2w:2+2 * k < (aq 32 s).length:=ab
 have h3w:3+2 * k < (aq 32 s).length:=ab
 have hcl:=TA (aq 32 s) k
 have hw2:=jg 32 s (2+2 * k)
 have hw3:=jg 32 s (3+2 * k)
 have hca:=AU ((aq 32 s).getD (3+2 * k) []) [46,46]
 have hcz:=AV ((aq 32 s).getD (3+2 * k) []) [46,46]
 refine Pe ?_
 refine OB ?_
 refine Om ?_
 refine uN ?_
 refine OX ?_
 refine lv ?_
 refine Hm ?_
 refine Ou ?_
 refine zQ ?_
 refine Pb ?_
 refine oJ ?_
 refine OY ?_
 refine oJ ?_
 refine OW ?_
 refine He ?_
 refine fB ?_
 refine rM ?_
 refine NR ?_
 refine xp ?_
 refine NK ?_
 refine aY ?_
 refine fB ?_
 refine cx 118 ?_ ?_<;>intro ge sge
 refine rB ge ?_ (x:=sM)
 refine nF ?_
 refine cx 121 ?_ ?_<;>intro gf sgf
 exact Zc0
 refine au.s0f gf ?_
 refine pL ?_
 refine rM ?_
 refine au.cases (s:=124) rfl (fun g26=>nomatch g26) (fun g26=>?_)
 refine au.s0f g26 ?_
 refine rA ?_ (x:=aR g26)
 exact qV
 refine au.s0f ge ?_
 refine ra ?_
 refine au.cases (s:=121) rfl (fun g27=>nomatch g27) (fun g27=>?_)
 refine au.s0f g27 ?_
 refine rA ?_ (x:=aR g27)
 refine rM ?_
 refine au.cases (s:=124) rfl (fun g28=>nomatch g28) (fun g28=>?_)
 refine au.s0f g28 ?_
 refine rA ?_ (x:=aR g28)
 exact qV
 have hend:k=(((aq 32 s).length - 4) / 2):=ab
 subst hend
 refine Pf ?_
 refine rM ?_
 refine fp ?_
 refine cx 129 ?_ ?_<;>intro ge sge
 refine zt ge ?_
 refine nF ?_
 refine au.cases (s:=134) rfl (fun g30=>?_) (fun g30=>nomatch g30)
 refine zt g30 ?_
 refine rA ?_ (x:=bj g30)
 exact BK
 exact Zc4
 refine au.s0f gc ?_
 refine zz ?_
 refine au.cases (s:=71) rfl (fun g35=>nomatch g35) (fun g35=>?_)
 refine au.s0f g35 ?_
 refine rA ?_ (x:=aR g35)
 refine Ph ?_
 refine cl ?_
 refine Nz ?_
 rintro k hk
 refine cP ?_
 refine ID ?_
 refine sc ?_ ?_<;>intro hbb
 have hlt:k < (((aq 32 s).length - 4) / 2):=ab
 have h2w:2+2 * k < (aq 32 s).length:=ab
 have h3w:3+2 * k < (aq 32 s).length:=ab
 have hcl:=TA (aq 32 s) k
 have hw2:=jg 32 s (2+2 * k)
 have hw3:=jg 32 s (3+2 * k)
 have hca:=AU ((aq 32 s).getD (3+2 * k) []) [46,46]
 have hcz:=AV ((aq 32 s).getD (3+2 * k) []) [46,46]
 refine Pe ?_
 refine OB ?_
 refine Om ?_
 refine uN ?_
 refine OX ?_
 refine lv ?_
 refine Hm ?_
 refine Ou ?_
 refine zQ ?_
 refine Pb ?_
 refine oJ ?_
 refine OY ?_
 refine oJ ?_
 refine OW ?_
 refine He ?_
 refine fB ?_
 refine rM ?_
 refine NR ?_
 refine xp ?_
 refine NK ?_
 refine aY ?_
 refine fB ?_
 refine cx 118 ?_ ?_<;>intro gd sgd
 refine rB gd ?_ (x:=sM)
 refine pA ?_
 refine cx 121 ?_ ?_<;>intro ge sge
 refine rB ge ?_ (x:=sM)
 refine nF ?_
 refine cx 124 ?_ ?_<;>intro gf sgf
 refine rB gf ?_ (x:=sM)
 refine tq ?_
 exact qV
 refine au.s0f gf ?_
 refine pL ?_
 exact qV
 refine au.s0f ge ?_
 refine ra ?_
 refine au.cases (s:=124) rfl (fun g40=>nomatch g40) (fun g40=>?_)
 refine au.s0f g40 ?_
 refine rA ?_ (x:=aR g40)
 exact qV
 refine au.s0f gd ?_
 refine pB ?_
 refine au.cases (s:=121) rfl (fun g41=>nomatch g41) (fun g41=>?_)
 refine au.s0f g41 ?_
 refine rA ?_ (x:=aR g41)
 refine rM ?_
 refine au.cases (s:=124) rfl (fun g42=>nomatch g42) (fun g42=>?_)
 refine au.s0f g42 ?_
 refine rA ?_ (x:=aR g42)
 exact qV
 have hend:k=(((aq 32 s).length - 4) / 2):=ab
 subst hend
 refine Pf ?_
 refine rM ?_
 refine fp ?_
 refine cx 129 ?_ ?_<;>intro gd sgd
 refine zt gd ?_
 refine pA ?_
 refine au.cases (s:=134) rfl (fun g44=>?_) (fun g44=>nomatch g44)
 refine zt g44 ?_
 refine rA ?_ (x:=bj g44)
 exact BK
 refine rB gd ?_ (x:=lD di gO)
 refine rB gd ?_ (x:=cL [(true,bX)] [(true,di)] Jc (hs:=UN))
 refine rB gd ?_ (x:=nT)
 refine pB ?_
 refine cx 134 ?_ ?_<;>intro ge sge
 refine zt ge ?_
 refine rA ?_ (x:=bj ge)
 exact BK
 refine rB ge ?_ (x:=lD di gO)
 refine rB ge ?_ (x:=gL [(true,bX)] [(true,di)] Rz (hs:=UJ))
 refine rB ge ?_ (x:=sM)
 refine rB ge ?_ (x:=qT)
 refine rA ?_ (x:=aR ge)
 exact Zc5
def awU{s:av}(hl:s.length≤1048576):aQ prog 51 [(false,[val (.string (B s))])] (aB [(true,[val (vI ((fT s).getD fa).Id),val (vI ((fT s).getD fa).ax8),sl aH (((fT s).getD fa).ax5.map bF),sl ai (((fT s).getD fa).Out.map ar)]),(false,[val (.bool (fT s).isSome)])]):=by
 refine sF func51 fun h0 w0 Fz0=>?_
 have hsl:=sf 32 s
 have hfl:=Kc (se (aq 32 s))
 refine PK ?_
 refine rK ?_
 refine sT [0,2,3] [2] ?_
 refine OJ ?_
 refine oD ?_
 refine sS [0,2,3,4] [2] ?_
 refine qW ?_
 refine dQ ?_
 refine sc ?_ ?_<;>intro hba
 have hno:fT s=none:=avw ab
 refine sS [0,2,3,4] [2] ?_
 exact GL
 have hn4:4≤(aq 32 s).length:=ab
 have h0w:0 < (aq 32 s).length:=ab
 have h1w:1 < (aq 32 s).length:=ab
 have hlw:(aq 32 s).length - 1 < (aq 32 s).length:=ab
 have hwd0:=jg 32 s 0
 have hwd1:=jg 32 s 1
 have hwd2:=jg 32 s ((aq 32 s).length - 1)
 have hvl:=sf 44 ((aq 32 s).getD ((aq 32 s).length - 1) [])
 refine dp ?_
 refine sP [0,2,3,4] [2] ?_
 refine cC ?_
 refine Zc8 ?_
 refine Dl ?_
 refine dA 7 ?_ (x:=cL [(false,[val _]),(false,[val _])] [(false,[val _]),(false,[val _])] Jv (hs:=by exact (awQ ab)))
 refine Zca ?_
 refine dA 48 ?_ (x:=lE [val _] ng)
 refine dA 127 ?_ (x:=cL [(false,[val _]),(false,[val _])] [(false,[val _]),(false,[val _])] Jv (hs:=by exact (awR ab)))
 refine dA 255 ?_ (x:=cy (qs:=[(false,[val _]),(false,[val _])]) (cs:=bX) aj nS ve TZ ak ip rfl ak)
 refine bO.step 0 an an (cc.of rfl (fW aj nS ve)) (sD (cV.of_ rfl)) ao ?_
 refine zoe ?_
 refine aU ?_
 refine sO [(0,_),(2,_),(3,_),(4,_),(5,_)] [(2,_),(5,(25,bX))] ?_
 refine aY ?_
 refine qW ?_
 refine eU ?_
 refine sS [0,2,3,4,5,6] [2,5] ?_
 refine cl ?_
 refine sP [0,2,3,4,5,6,7] [2,5] ?_
 refine sL [0,2,3,4,5,6] [2] (fun k:Nat=>k≤(((aq 32 s).length - 4) / 2)) (fun k:Nat=>[(7,RV.int (2+2 * (k:Int)))]) (fun k:Nat=>[(5,(25,[val (vI (jX 113 ((aq 32 s).getD 0 []))),val (vI (jX 116 ((aq 32 s).getD 1 []))),sl aH ((ud (aq 32 s) k).map bF),sl ai (([]:List Int).map ar)]))]) (fun k:Nat=>(((aq 32 s).length - 4) / 2) - k) 0 ab bp bp ?_
 rintro k hk
 refine aU ?_
 refine sR ?_
 refine lv ?_
 refine ID ?_
 refine sc ?_ ?_<;>intro hbb
 have hlt:k < (((aq 32 s).length - 4) / 2):=ab
 have h2w:2+2 * k < (aq 32 s).length:=ab
 have h3w:3+2 * k < (aq 32 s).length:=ab
 have hcl:=avo (aq 32 s) k
 have hw2:=jg 32 s (2+2 * k)
 have hw3:=jg 32 s (3+2 * k)
 refine bv ?_
 refine sT [0,2,3,4,5,6,7] [2,5] ?_
 refine dD ?_
 refine lv ?_
 refine Hm ?_
 refine rA ?_ (x:=cL [(false,[val _])] [(false,[val _])] apJ (hs:=by exact (awS ab)))
 refine uN ?_
 refine sP [0,2,3,4,5,6,7,8,9] [2,5] ?_
 refine cC ?_
 refine xo ?_
 refine dA 1 ?_ (x:=eN (ms:=[sl _ _]) (qs:=[sl .v _]) aj kp (fun _=>rfl) az ak iE ib)
 refine ij ?_
 refine dA 12 ?_ (x:=aZ (k:=(2+2 * k)) aj eR an ab EF ak)
 refine dA 28 ?_ (x:=lE [val _] ng)
 refine dA 60 ?_ (x:=cL [(false,[val _]),(false,[val _])] [(false,[val _]),(false,[val _])] Jv (hs:=by exact (alB ab)))
 refine uB ?_
 refine dA 508 ?_ (x:=cy (qs:=[(false,[val _]),(false,[val _]),(false,[val _])]) (cs:=iY) aj nU DD alA ak qD rfl ak)
 refine dA 1020 ?_ (x:=cj (qs:=[(true,iY)]) aj il nU aj rfl rfl rfl rfl rfl az bS rfl)
 refine dA 2047 ?_ (x:=fc aj il nU rfl rfl aj rfl bq bq)
 refine dA 4095 ?_ (x:=lF tB)
 refine dA 8191 ?_ (x:=bV (ag:=false) (vs:=[sl _ _]) kp an ak az)
 refine sO [(0,_),(2,_),(3,_),(4,_),(5,_),(6,_),(7,_),(8,_),(9,_)] [(2,_),(5,(25,bX))] ?_
 refine tj ?_
 refine nx (k+1) ab (e:=nu) (f:=(by exact aI (by rw [avn,bK];exact rfl) tI))
 have hend:k=(((aq 32 s).length - 4) / 2):=ab
 subst hend
 refine bI ?_
 refine sT [0,2,3,4,5,6,7] [2,5] ?_
 refine pz ?_
 refine rA ?_ (x:=jo)
 refine Zbk ?_
 refine Zac ?_
 refine oD ?_
 refine sS [0,2,3,4,5,6,7,10] [2,5] ?_
 refine cl ?_
 refine sP [0,2,3,4,5,6,7,10,11] [2,5] ?_
 refine sL [0,2,3,4,5,6,7,10] [2] (fun k:Nat=>k≤(aq 44 ((aq 32 s).getD ((aq 32 s).length - 1) [])).length) (fun k:Nat=>[(11,RV.int (k:Int))]) (fun k:Nat=>[(5,(25,[val (vI (jX 113 ((aq 32 s).getD 0 []))),val (vI (jX 116 ((aq 32 s).getD 1 []))),sl aH ((ud (aq 32 s) (((aq 32 s).length - 4) / 2)).map bF),sl ai ((((aq 44 ((aq 32 s).getD ((aq 32 s).length - 1) [])).take k).map er).map ar)]))]) (fun k:Nat=>(aq 44 ((aq 32 s).getD ((aq 32 s).length - 1) [])).length - k) 0 ab bp bp ?_
 rintro k hk
 refine cP ?_
 refine qW ?_
 refine dQ ?_
 refine sc ?_ ?_<;>intro hbc
 have hlt:k < (aq 44 ((aq 32 s).getD ((aq 32 s).length - 1) [])).length:=ab
 have hwk:=yf (List.getElem_mem hlt)
 have htl:((aq 44 ((aq 32 s).getD ((aq 32 s).length - 1) [])).take k).length=k:=fb
 refine bv ?_
 refine sQ [0,2,3,4,5,6,7,10,11] [2,5] ?_
 refine cC ?_
 refine dA 0 ?_ (x:=lF rr)
 refine Zad ?_
 refine Zae ?_
 refine Zaf ?_
 refine dA 511 ?_ (x:=lF rr)
 refine Qv ?_
 refine sO [(0,_),(2,_),(3,_),(4,_),(5,_),(6,_),(7,_),(10,_),(11,_)] [(2,_),(5,(25,bX))] ?_
 exact Zag
 have hend:k=(aq 44 ((aq 32 s).getD ((aq 32 s).length - 1) [])).length:=ab
 subst hend
 rw [cJ]
 refine fq ?_
 refine sT [0,2,3,4,5,6,7,10,11] [2,5] ?_
 refine ri ?_
 refine rA ?_ (x:=cL [(true,bX)] [(true,di)] aiI (hs:=by exact (alw (q:=se (aq 32 s)))))
 refine rM ?_
 refine rA ?_ (x:=qT)
 refine sc ?_ ?_<;>intro hbd
 have hno:fT s=none:=avx gE
 refine sS [0,2,3,4,5,6,7,10,11] [2,5] ?_
 exact GL
 have hys:=avy (s:=s) hn4 gE
 refine ba ?_
 refine sS [0,2,3,4,5,6,7,10,11] [2,5] ?_
 exact Zcb
end Go.Proofs.YtmekkgdboplbjaaGreatDoor
