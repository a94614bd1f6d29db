/- What functions of the program compute. No condition. -/
import Derived.Test.YtmekkgdboplbjaaGreatDoorEJ0
import Derived.Test.YtmekkgdboplbjaaGreatDoorEL0
import Derived.Test.YtmekkgdboplbjaaGreatDoorEN0
set_option linter.all false
namespace Go.Proofs.YtmekkgdboplbjaaGreatDoor
open Go Go.RowKit M PV Tryz
set_option maxRecDepth 10000
attribute [local irreducible] PV.Lcl PV.LclR RV.Lcl
def arE:eA prog 25=some [(0,1),(1,1),(2,1),(3,1)]:=ao
def arF:eA prog 307=some [(0,1),(1,1),(2,1)]:=ao
def arG{p1 p2:Fl}{l:List ax4}:aQ prog 324 [(false,[sl .v (l.map (nM p1 p2))])] (aB [(false,[val (.bool (eQ l))])]):=by
 refine sF func324 fun h0 w0 Fz0=>?_
 refine sj 0 fun hl0=>?_
 refine zI ?_
 refine sL [0] [] (fun k:Nat=>k≤l.length∧mT Ap bN xC l k=true) (fun k:Nat=>[(3,RV.int (k:Int))]) (fun k:Nat=>[]) (fun k:Nat=>l.length - k) 0 gF bp an ?_
 rintro k ⟨hk,ha⟩
 refine tb ?_
 refine HU ?_
 refine sc ?_ ?_<;>intro hba
 have hlt:k < l.length:=ab
 have hgk:l.getD k Ap=l[k]:=fP hlt
 have hgp:0 < k→l.getD (k - 1) Ap=l[k - 1]:=fun h=>fP ab
 refine eB ?_
 refine sP [0,3] [] ?_
 refine oG ?_
 refine dA 3 ?_ (x:=aZ aj qe an ak bE ak)
 refine dA 7 ?_ (x:=lE di gO)
 refine dA 15 ?_ (x:=cL [(true,bX)] [(true,di)] Rc (hs:=by exact RW))
 refine dA 31 ?_ (x:=nT)
 refine dA 63 ?_ (x:=sM)
 refine dx 16 ?_ ?_<;>intro ga sga
 refine dT 127 ga ?_
 refine dT 255 ga ?_
 refine dT 511 ga ?_
 refine zE ?_
 refine CX ?_
 refine dU 16383 ?_
 refine zE ?_
 refine dU 66559 ?_
 refine dU 230399 ?_
 refine dU 492543 ?_
 refine dU 1016831 ?_
 refine dU 2097151 ?_
 refine HR ?_
 refine cH ?_
 exact Yy
 refine PW ?_
 refine xl ?_
 refine dx 19 ?_ ?_<;>intro gb sgb
 refine zc ?_
 refine dB 4095 gb ?_ (x:=aZ aj qe an ak bE ak)
 refine dB 8191 gb ?_ (x:=cR aj kQ az)
 refine dB 16383 gb ?_ (x:=lE [val _] bb)
 refine zc ?_
 refine dB 66559 gb ?_ (x:=jo)
 refine dB 230399 gb ?_ (x:=aZ (k:=k - 1) aj qe an ab bE ak)
 refine dB 492543 gb ?_ (x:=cR aj kQ az)
 refine dB 1016831 gb ?_ (x:=lE [val _] bb)
 refine Pv ?_
 refine dA 8388607 ?_ (x:=aR ga)
 refine sc ?_ ?_<;>intro hbb
 exact Yy
 exact Yz
 refine zv ?_
 refine dF 4095 gb ?_
 refine dF 8191 gb ?_
 refine dF 16383 gb ?_
 refine zv ?_
 refine dF 66559 gb ?_
 refine dF 230399 gb ?_
 refine dF 492543 gb ?_
 refine dF 1016831 gb ?_
 refine dF 2097151 gb ?_
 refine PC ?_
 refine gv ?_
 exact Yz
 have hend:k=l.length:=ab
 have hall:fh Ap bN xC l=true:=uY ha hend
 refine wS ?_
 refine dD ?_
 refine rA ?_ (x:=lN qe)
 refine rA ?_ (x:=kf)
 refine db ?_
 exact rb (by simp [eQ,hall])
def arH{q:ax4}{f:Int}{v:Int}:aQ prog 342 [(true,[val (vI q.Id),val (vI q.ax8),sl .v (q.ax5.map bF),sl .v (q.Out.map ar)]),(false,[val (vI f)]),(false,[val (vI v)])] (aB [(false,[val (.bool (kP q f v))])]):=by
 refine sF func342 fun h0 w0 Fz0=>?_
 refine sn 0 2 fun hl0_2=>?_
 refine sn 0 3 fun hl0_3=>?_
 refine py ?_
 refine iv ?_
 refine sT [1,2,3,6] [3] ?_
 refine cl ?_
 refine sP [1,2,3,6,7] [3] ?_
 refine sL [1,2,3] [3] (fun k:Nat=>k≤q.ax5.length∧(q.ax5.take k).all (mg f v)=true) (fun k:Nat=>[(7,RV.int (k:Int))]) (fun k:Nat=>[]) (fun k:Nat=>q.ax5.length - k) 0 iG bp an ?_
 rintro k ⟨hk,ha⟩
 refine cP ?_
 refine IB ?_
 refine sc ?_ ?_<;>intro hba
 have hlt:k < q.ax5.length:=ab
 refine eB ?_
 refine sQ [1,2,3,7] [3] ?_
 refine Qg ?_
 refine OI ?_
 refine dA 15 ?_ (x:=cR aj rt az)
 refine dA 31 ?_ (x:=lE [val _] bb)
 refine dS ?_
 refine dA 127 ?_ (x:=iZ)
 refine dA 255 ?_ (x:=sM)
 refine dx 23 ?_ ?_<;>intro ga sga
 refine xl ?_
 refine dB 511 ga ?_ (x:=lF tB)
 refine dB 1535 ga ?_ (x:=lD [sl .v _] kp)
 refine xl ?_
 refine dB 7679 ga ?_ (x:=aZ aj il an ak bE ak)
 refine dB 15871 ga ?_ (x:=cR aj DC az)
 refine dB 32255 ga ?_ (x:=lE [val _] bb)
 refine dB 511 ga ?_ (x:=lF tB)
 refine dB 66047 ga ?_ (x:=lD [sl .v _] kp)
 refine xl ?_
 refine dB 459263 ga ?_ (x:=aZ aj il an ak bE ak)
 refine dB 983551 ga ?_ (x:=cR aj vc az)
 refine dB 2032127 ga ?_ (x:=lE [val _] bb)
 refine dB 4194303 ga ?_ (x:=cL [(false,[val _]),(false,[val _]),(false,[val _])] [(false,[val _]),(false,[val _]),(false,[val _])] mh (hs:=lO))
 refine dB 8388607 ga ?_ (x:=nT)
 refine dA 16777215 ?_ (x:=bj ga)
 refine sc ?_ ?_<;>intro hbb
 have hno:mg f v q.ax5[k]=false:=Fe
 refine sS [1,2,3,7] [3] ?_
 exact Yc
 exact YA
 refine dF 511 ga ?_
 refine dF 511 ga ?_
 refine dF 1535 ga ?_
 refine dF 511 ga ?_
 refine dF 7679 ga ?_
 refine dF 15871 ga ?_
 refine dF 32255 ga ?_
 refine dF 511 ga ?_
 refine dF 66047 ga ?_
 refine dF 511 ga ?_
 refine dF 459263 ga ?_
 refine dF 983551 ga ?_
 refine dF 2032127 ga ?_
 refine dF 4194303 ga ?_
 refine dF 8388607 ga ?_
 refine dA 16777215 ?_ (x:=aR ga)
 refine gv ?_
 exact YA
 have hall:q.ax5.all (mg f v)=true:=mc VA
 refine bI ?_
 refine sT [1,2,3,7] [3] ?_
 exact Ye
def arI{p1 p2:Fl}{l:List ax4}{f:Int}{v:Int}:aQ prog 338 [(false,[sl .v (l.map (nM p1 p2))]),(false,[val (vI f)]),(false,[val (vI v)])] (aB [(false,[sl ai ((Jk l f v).map ar)])]):=by
 refine sF func338 fun h0 w0 Fz0=>?_
 refine sj 0 fun hl0=>?_
 refine sY ?_
 refine sS [0,1,2,6] [] ?_
 refine re ?_
 refine sS [0,1,2,6,7] [] ?_
 refine cl ?_
 refine sP [0,1,2,6,7,8] [] ?_
 refine sL [0,1,2,6] [] (fun k:Nat=>k≤l.length∧(0 < k→(eQ l&&(aK f 0 2&&aK v 0 99))=true)) (fun k:Nat=>[(7,RV.slc ai ((iz (l.take k) f v).map ar)),(8,RV.int (k:Int))]) (fun k:Nat=>[]) (fun k:Nat=>l.length - k) 0 Lm gp an ?_
 rintro k ⟨hk,ha⟩
 refine tb ?_
 refine HU ?_
 refine rM ?_
 refine cx 14 ?_ ?_<;>intro ga sga
 refine zR ?_
 refine rB ga ?_ (x:=cL [(false,[sl _ _])] [(false,[sl .v _])] RF (hs:=Le))
 refine qZ ?_
 refine cx 18 ?_ ?_<;>intro gb sgb
 refine kh ?_
 refine Oq ?_
 refine cx 22 ?_ ?_<;>intro gc sgc
 refine zhm ?_
 refine rh ?_
 refine sc ?_ ?_<;>intro hba
 have hok:(eQ l&&(aK f 0 2&&aK v 0 99))=true:=dO
 have hok2:=vh (Bool.and_eq_true_iff.1 hok).1
 have hlt:k < l.length:=uk
 have hsl:=Rn (l.take k) f v
 rw [cI] at hsl
 refine bv ?_
 refine sS [0,1,2,6,7,8] [] ?_
 refine Hw ?_
 refine rA ?_ (x:=lE di gO)
 refine fB ?_
 refine rA ?_ (x:=cL [(true,bX),(false,[val _]),(false,[val _])] [(true,di),(false,[val _]),(false,[val _])] aqL (hs:=by exact arH))
 refine sc ?_ ?_<;>intro hbb
 have hc:=hbb
 refine sG [0,1,2,6,7,8] [] ?_
 refine cb ?_
 refine Hw ?_
 refine HA ?_
 refine rc ?_
 exact YB
 have hc:=hbb
 refine ba ?_
 exact YB
 exact Gw
 refine oB ?_
 refine gv ?_
 exact Gw
 refine ix ?_
 refine au.cases (s:=22) rfl (fun g7=>nomatch g7) (fun g7=>?_)
 refine wN ?_
 refine gv ?_
 exact Gw
 refine jb ?_
 refine au.cases (s:=18) rfl (fun g9=>nomatch g9) (fun g9=>?_)
 refine tg ?_
 refine rM ?_
 refine au.cases (s:=22) rfl (fun g10=>nomatch g10) (fun g10=>?_)
 refine tf ?_
 refine gv ?_
 exact Gw
def arJ{p1 p2:Fl}{l:List ax4}{f:Int}:aQ prog 326 [(false,[sl .v (l.map (nM p1 p2))]),(false,[val (vI f)])] (aB [(false,[sl yt ((jc l f).map (uW ai))])]):=by
 refine pm (largs:=fun L=>[(false,[sl (.lo L) (l.map (nM (.lo L) (.lo L)))]),(false,[val (vI f)])]) (rs:=[(false,[sl yt ((jc l f).map (uW ai))])]) func326 rfl (nl rfl) (fun L=>by exact (aI (aI rfl (am.cons (aT (fun _=>nl rfl) (fun _=>(am.cons ay (am.cons ay (am.cons (aT (fun _=>nl rfl) (fun _=>(am.cons ay (am.cons ay (am.cons ay am.nil))))) (am.cons (aT (fun _=>nl rfl) (fun _=>(am.cons ay am.nil))) am.nil)))))) am.nil)) (aI (aI rfl (am.cons ay am.nil)) tI))) (fun L=>by exact lq) ?_
 intro w0 Fz0
 refine sj 0 fun hl0=>?_
 refine sR ?_
 refine rA ?_ (x:=nw (.inr rfl) aj (pk (t:=307) (e:=3)))
 refine pK ?_
 refine rA ?_ (x:=cj (qs:=[]) aj rH JD aj rfl rfl rfl rfl rfl az an rfl)
 refine oD ?_
 refine sS [0,1,4,5] [] ?_
 refine Dc ?_
 refine rA ?_ (x:=cL [(false,[sl (.lo _) _])] [(false,[sl .v _])] RF (hs:=Le))
 refine fp ?_
 refine cx 13 ?_ ?_<;>intro ga sga
 refine mb ?_
 exact YC
 refine gN ?_
 refine Hj ?_
 refine lz ?_
 refine sc ?_ ?_<;>intro hba
 exact YC
 have hok:(eQ l&&aK f 0 2)=true:=dO
 obtain ⟨hq,hf⟩:=Bool.and_eq_true_iff.1 hok
 have hq2:=vh hq
 refine dp ?_
 refine sS [0,1,4,5] [] ?_
 refine cl ?_
 refine sP [0,1,4,5,6] [] ?_
 refine sL [0,1,4] [] (fun k:Nat=>k≤100) (fun k:Nat=>[(5,RV.slc yt ((en l f k).map (uW ai))),(6,RV.int (k:Int))]) (fun k:Nat=>[]) (fun k:Nat=>100 - k) 0 ab gp an ?_
 rintro k hk
 refine cP ?_
 refine rA ?_ (x:=kf)
 refine sc ?_ ?_<;>intro hbb
 have hlt:k < 100:=ab
 have hse:Jk l f (k:Int)=iz l f (k:Int):=if_pos (by rw [hq,hf];simp [aK];omega)
 have hsl:=Ro l f k
 have hss:=Rn l f (k:Int)
 refine bv ?_
 refine xn ?_
 refine Dc ?_
 refine fB ?_
 refine rA ?_ (x:=cL [(false,[sl (.lo _) _]),(false,[val _]),(false,[val _])] [(false,[sl .v _]),(false,[val _]),(false,[val _])] aqK (hs:=by exact (arI (l:=l) (f:=f) (v:=(k:Int)))))
 refine dJ ?_
 refine sS [0,1,4,5,6,7] [] ?_
 refine dD ?_
 refine rA ?_ (x:=lN rH)
 refine rS ?_
 refine sS [0,1,4,5,6,7,8] [] ?_
 refine rM ?_
 refine uC ?_
 refine cx 31 ?_ ?_<;>intro gb sgb
 refine xm ?_
 refine kh ?_
 refine rB gb ?_ (x:=jo)
 refine rB gb ?_ (x:=aZ (k:=(en l f k).length - 1) aj rH an ab (by exact fX ab (by rw [kl (d:=mX) ab])) ak)
 refine rB gb ?_ (x:=cR aj aiX az)
 refine rB gb ?_ (x:=lE [sl .v _] cW)
 refine xm ?_
 refine zkf ?_
 refine kO ?_
 refine sc ?_ ?_<;>intro hbc
 have hls:pY (en l f k) (iz l f (k:Int))=true:=aot ab (by rw [←hse];simpa using hbc)
 have hl1:(en l f k).length - 1 < (en l f k).length:=ab
 refine sP [0,1,4,5,6,7,8] [] ?_
 refine Mb (s:=5) (D:=900) (G:=2900) (E:=307) (e:=3) (L:=(Lw w0.heap.size)) (es:=((en l f k)).map (uW ai)) ak (kd hl1) ak ak rfl ak (fun x hx=>hx) bg an (ax.map fun x=>(ax.cons lcl_val (ax.cons lcl_val (ax.cons (lcl_own (ax.map fun x=>(ax.cons lcl_val ax.nil))) ax.nil)))) fun uu900 cp900 jk900 hlD900 hcp900 hjk900=>?_
 rw [bf] at hlD900 hcp900 hjk900
 refine eg (d:=900) ak (ox (k:=((en l f k).length - 1)) hl1) ?_
 have hA900:=lp (f:=(uW ai)) (e:=3) (xs:=(en l f k)) (k:=((en l f k).length - 1)) (fun _=>rfl) (Nat.le_of_lt hl1)
 refine sO [(0,_),(1,_),(4,_),(5,_),(6,_),(7,_),(8,_),(2900,_)] [(900,(307,_++([val _,val _,sl _ _]++_)))] ?_
 refine Qn ?_
 refine uD ?_
 refine rM ?_
 refine rA ?_ (x:=kI (k:=((en l f k).length - 1)) (G:=2900) aj rH an ab (by first|(rw [bf];exact hl1)|exact hl1))
 refine rA ?_ (x:=lF aiW)
 refine rA ?_ (x:=qM (o:=1) (ag:=false) (vs:=[val _]) ab bb an ak az)
 refine eg (d:=900) ak (po (⟨((en l f k).getD ((en l f k).length - 1) mX).From,(k:Int),((en l f k).getD ((en l f k).length - 1) mX).Set⟩) hl1 (by rw [kl (d:=mX) hl1];exact rfl)) ?_
 refine Mc (s:=5) (D:=900) (G:=2900) (e:=3) (es:=(((en l f k)).set ((en l f k).length - 1) (⟨((en l f k).getD ((en l f k).length - 1) mX).From,(k:Int),((en l f k).getD ((en l f k).length - 1) mX).Set⟩)).map (uW ai)) ak ak ak rfl aj qz oq vQ ?_
 refine sG [0,1,4,5,6,7,8] [] ?_
 exact YD
 exact YE
 refine oE ?_
 refine gv ?_
 exact YE
 have hend:k=100:=ab
 refine bI ?_
 refine xn ?_
 refine pD ?_
 exact (aI (by refine cz ?_;unfold jc;rw [if_pos hok,hend]) tI)
def arK{p1:Fl}{l:List fO}{v:Int}(hs:∀s∈l,s.Set.length≤1048576):aQ prog 329 [(false,[sl .v (l.map (uW p1))]),(false,[val (vI v)])] (aB [(false,[sl ai ((jd l v).map ar)])]):=by
 refine sF func329 fun h0 w0 Fz0=>?_
 refine sj 0 fun hl0=>?_
 refine sY ?_
 refine aU ?_
 refine pK ?_
 refine cl ?_
 refine sP [0,1,4,5] [] ?_
 refine sL [0,1] [] (fun k:Nat=>k≤l.length∧(l.take k).any (jM v)=false) (fun k:Nat=>[(5,RV.int (k:Int))]) (fun k:Nat=>[]) (fun k:Nat=>l.length - k) 0 iG bp an ?_
 rintro k ⟨hk,ha⟩
 refine tb ?_
 refine rA ?_ (x:=lN rH)
 refine dQ ?_
 refine sc ?_ ?_<;>intro hba
 have hlt:k < l.length:=ab
 refine CR ?_
 refine zk ?_
 refine ij ?_
 refine dA 6 ?_ (x:=aZ aj rH an ak bE ak)
 refine dA 14 ?_ (x:=cR aj aq1 az)
 refine dA 30 ?_ (x:=lE [val _] bb)
 refine ij ?_
 refine dA 192 ?_ (x:=aZ aj rH an ak bE ak)
 refine dA 448 ?_ (x:=cR aj aiW az)
 refine dA 960 ?_ (x:=lE [val _] bb)
 refine dA 2047 ?_ (x:=cL [(false,[val _]),(false,[val _]),(false,[val _])] [(false,[val _]),(false,[val _]),(false,[val _])] mh (hs:=lO))
 refine sc ?_ ?_<;>intro hbb
 have hy:jM v l[k]=true:=by simpa [jM] using hbb
 have hst:=hs l[k] (List.getElem_mem hlt)
 refine sS [0,1,5] [] ?_
 refine zV ?_
 refine pz ?_
 refine rA ?_ (x:=aZ aj rH an ak bE ak)
 refine rA ?_ (x:=cR aj aiX az)
 refine GY ?_
 refine dJ ?_
 refine cK ?_
 exact (aI (by refine cz ?_;rw [aox hlt ha hy];exact rfl) tI)
 have hno:jM v l[k]=false:=by simpa [jM] using hbb
 refine zo ?_
 exact YG
 have hend:k=l.length:=ab
 rw [hend,cJ] at ha
 refine Ir ?_
 refine zkm ?_
 refine cK ?_
 exact (aI (by refine cz ?_;rw [aoy ha];exact rfl) tI)
def ajj{x:ax4}(hb:fM x≤68719476736):aQ prog 272 [(true,[val (vI x.Id),val (vI x.ax8),sl .v (x.ax5.map bF),sl .v (x.Out.map ar)])] (aB [(true,[val (vI x.Id),val (vI x.ax8),sl aH (x.ax5.map bF),sl ai (x.Out.map ar)])]):=by
 refine sF func272 fun h0 w0 Fz0=>?_
 refine sn 0 2 fun hl0_2=>?_
 refine sn 0 3 fun hl0_3=>?_
 have hbu:=hb
 simp only [fM,gj,bo,Ah] at hbu
 refine py ?_
 refine IJ ?_
 refine wY ?_
 refine dA 0 ?_ (x:=lF kQ)
 refine xk ?_
 refine dA 0 ?_ (x:=lF tz)
 refine dA 4 ?_ (x:=lD [val _] bb)
 refine dA 0 ?_ (x:=cj (qs:=[]) aj il nU aj rfl rfl rfl rfl rfl az an rfl)
 refine xo ?_
 refine dA 32 ?_ (x:=lD [sl .v _] kp)
 refine dA 112 ?_ (x:=lU aj il nU rfl rfl aj oo Uh bq bq)
 refine tm ?_
 refine dA 0 ?_ (x:=lF rr)
 refine zkq ?_
 refine dA 4095 ?_ (x:=cy (qs:=[(false,[val _]),(false,[val _]),(false,[sl _ _]),(false,[sl _ _])]) (cs:=bX) aj nS ve arE ak vU rfl ak)
 refine dA 8191 ?_ (x:=bV (ag:=true) (vs:=bX) gO an ak az)
 exact YH
def arL{p1 p2:Fl}{x:List ax4}(hb:IX x≤68719476736):aQ prog 325 [(false,[sl .v (x.map (nM p1 p2))])] (aB [(false,[sl wc (x.map (nM aH ai))])]):=by
 refine sF func325 fun h0 w0 Fz0=>?_
 refine sj 0 fun hl0=>?_
 have hbu:=hb
 simp only [IX] at hbu
 refine sR ?_
 refine rA ?_ (x:=nw (.inr rfl) aj (pk (t:=25) (e:=4)))
 refine nJ ?_
 refine zks ?_
 refine wQ ?_
 refine sL [0,2] [] (fun k:Nat=>k≤x.length) (fun k:Nat=>[(3,RV.slc wc ((x.take k).map (nM aH ai))),(4,RV.int (k:Int))]) (fun k:Nat=>[]) (fun k:Nat=>x.length - k) 0 ab vV an ?_
 rintro k hk
 refine tb ?_
 refine HU ?_
 refine sc ?_ ?_<;>intro hba
 have hlt:k < x.length:=ab
 have hwm:=fg (f:=fM) hlt
 have htl:(x.take k).length=k:=fb
 refine bv ?_
 refine sS [0,2,3,4] [] ?_
 refine Hw ?_
 refine rA ?_ (x:=lE di gO)
 refine zkt ?_
 refine Cf ?_
 refine sH [0,2,3,4,5] [5] ?_
 refine cb ?_
 refine Qt ?_
 refine rA ?_ (x:=cj (qs:=[(true,bX)]) aj qe nS aj rfl rfl rfl rfl rfl az bS rfl)
 refine rA ?_ (x:=fc aj qe nS rfl rfl aj rfl bq bq)
 refine dJ ?_
 refine sH [0,2,3,4,5] [5] ?_
 exact MC
 exact MD
end Go.Proofs.YtmekkgdboplbjaaGreatDoor
