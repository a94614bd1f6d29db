/- What functions of the program compute. No condition. -/
import Derived.Test.YtmekkgdboplbjaaGreatDoorRG0
set_option linter.all false
namespace Go.Proofs.YtmekkgdboplbjaaGreatDoor
open Go Go.RowKit M PV Tryz
set_option maxRecDepth 10000
attribute [local irreducible] PV.Lcl PV.LclR RV.Lcl
variable{p1 p2:Fl}{l:List aC7}{f v:Int}
def avP:er prog 25=some [(0,1),(1,1),(2,1),(3,1)]:=au
def avQ:er prog 307=some [(0,1),(1,1),(2,1)]:=au
def avR:aE prog 324 [(false,[sl .v (l.map (fj p1 p2))])] (aA [(false,[val (.bool (dZ l))])]):=by
 refine sF func324 fun h0 w0 Fz0=>?_
 refine sj 0 fun hl0=>?_
 refine Aw ?_
 refine sL [0] [] (fun k:Nat=>k≤l.length∧mA qt bp qu l k=true) (fun k:Nat=>[(3,RV.int (k:Int))]) (fun k:Nat=>[]) (fun k:Nat=>l.length - k) 0 fS bu ao ?_
 rintro k ⟨hk,ha⟩
 refine bI ?_
 refine vq ?_
 refine dC ?_
 refine sc ?_ ?_<;>intro hba
 have hlt:k < l.length:=ab
 have hgk:l.getD k qt=l[k]:=fy hlt
 have hgp:0 < k→l.getD (k - 1) qt=l[k - 1]:=fun h=>fy ab
 refine fT ?_
 refine sP [0,3] [] ?_
 refine qg ?_
 refine dA 3 ?_ (x:=aS ak lT ao aj bD aj)
 refine dA 7 ?_ (x:=lE iB gD)
 refine dA 15 ?_ (x:=cL il ju Kk (hs:=Gg))
 refine dA 31 ?_ (x:=nT)
 refine dA 63 ?_ (x:=sM)
 refine dx 16 ?_ ?_<;>intro ga sga
 refine dT 127 ga ?_
 refine dT 255 ga ?_
 refine dT 511 ga ?_
 refine Au ?_
 refine Eb ?_
 refine dU 16383 ?_
 refine Au ?_
 refine dU 66559 ?_
 refine dU 230399 ?_
 refine dU 492543 ?_
 refine dU 1016831 ?_
 refine dU 2097151 ?_
 refine IX ?_
 refine fH ?_
 exact ziu
 refine Ro ?_
 refine vQ ?_
 refine dx 19 ?_ ?_<;>intro gb sgb
 refine zU ?_
 refine dB 4095 gb ?_ (x:=aS ak lT ao aj bD aj)
 refine dB 8191 gb ?_ (x:=cr ak jf ay)
 refine dB 16383 gb ?_ (x:=lE [val _] aV)
 refine zU ?_
 refine dB 66559 gb ?_ (x:=hP)
 refine dB 230399 gb ?_ (x:=aS (k:=k - 1) ak lT ao ab bD aj)
 refine dB 492543 gb ?_ (x:=cr ak jf ay)
 refine dB 1016831 gb ?_ (x:=lE [val _] aV)
 refine QN ?_
 refine dA 8388607 ?_ (x:=bF ga)
 refine sc ?_ ?_<;>intro hbb
 exact ziu
 exact ziw
 refine Am ?_
 refine dF 4095 gb ?_
 refine dF 8191 gb ?_
 refine dF 16383 gb ?_
 refine Am ?_
 refine dF 66559 gb ?_
 refine dF 230399 gb ?_
 refine dF 492543 gb ?_
 refine dF 1016831 gb ?_
 refine dF 2097151 gb ?_
 refine QU ?_
 refine gB ?_
 exact ziw
 have hend:k=l.length:=ab
 have hall:eT qt bp qu l=true:=ue ha hend
 refine xA ?_
 exact ziy
def avS{q:aC7}:aE prog 342 [(true,[val (vI q.Id),val (vI q.aDb),sl .v (q.aC8.map bM),sl .v (q.Out.map ar)]),(false,[val (vI f)]),(false,[val (vI v)])] (aA [(false,[val (.bool (kU q f v))])]):=by
 refine sF func342 fun h0 w0 Fz0=>?_
 refine sn 0 2 fun hl0_2=>?_
 refine sn 0 3 fun hl0_3=>?_
 refine om ?_
 refine dp ?_
 refine sT [1,2,3,6] [3] ?_
 refine cm ?_
 refine sP [1,2,3,6,7] [3] ?_
 refine sL [1,2,3] [3] (fun k:Nat=>k≤q.aC8.length∧(q.aC8.take k).all (mB f v)=true) (fun k:Nat=>[(7,RV.int (k:Int))]) (fun k:Nat=>[]) (fun k:Nat=>q.aC8.length - k) 0 jp bu ao ?_
 rintro k ⟨hk,ha⟩
 refine bI ?_
 refine Ag ?_
 refine dC ?_
 refine sc ?_ ?_<;>intro hba
 have hlt:k < q.aC8.length:=ab
 refine fT ?_
 refine sQ [1,2,3,7] [3] ?_
 refine Rv ?_
 refine dA 1 ?_ (x:=lD [sl .v _] kq)
 refine zda ?_
 refine dA 15 ?_ (x:=cr ak rV ay)
 refine dA 31 ?_ (x:=lE [val _] aV)
 refine dt ?_
 refine dA 127 ?_ (x:=kL)
 refine dA 255 ?_ (x:=sM)
 refine dx 23 ?_ ?_<;>intro ga sga
 refine vQ ?_
 refine dB 511 ga ?_ (x:=lF kV)
 refine dB 1535 ga ?_ (x:=lD [sl .v _] kq)
 refine vQ ?_
 refine dB 7679 ga ?_ (x:=aS ak ic ao aj bD aj)
 refine dB 15871 ga ?_ (x:=cr ak ED ay)
 refine dB 32255 ga ?_ (x:=lE [val _] aV)
 refine dB 511 ga ?_ (x:=lF kV)
 refine dB 66047 ga ?_ (x:=lD [sl .v _] kq)
 refine vQ ?_
 refine dB 459263 ga ?_ (x:=aS ak ic ao aj bD aj)
 refine dB 983551 ga ?_ (x:=cr ak wi ay)
 refine dB 2032127 ga ?_ (x:=lE [val _] aV)
 refine dB 4194303 ga ?_ (x:=cL cF cF mC (hs:=md))
 refine dB 8388607 ga ?_ (x:=nT)
 refine dA 16777215 ?_ (x:=cd ga)
 refine sc ?_ ?_<;>intro hbb
 have hno:mB f v q.aC8[k]=false:=GG
 refine sS [1,2,3,7] [3] ?_
 exact ze6
 exact zj0
 refine dF 511 ga ?_
 refine dF 511 ga ?_
 refine dF 1535 ga ?_
 refine dF 511 ga ?_
 refine dF 7679 ga ?_
 refine dF 15871 ga ?_
 refine dF 32255 ga ?_
 refine dF 511 ga ?_
 refine dF 66047 ga ?_
 refine dF 511 ga ?_
 refine dF 459263 ga ?_
 refine dF 983551 ga ?_
 refine dF 2032127 ga ?_
 refine dF 4194303 ga ?_
 refine dF 8388607 ga ?_
 refine dA 16777215 ?_ (x:=bF ga)
 refine gB ?_
 exact zj0
 have hall:q.aC8.all (mB f v)=true:=mz Xn
 refine be ?_
 refine sT [1,2,3,7] [3] ?_
 exact ze9
def avT:aE prog 338 [(false,[sl .v (l.map (fj p1 p2))]),(false,[val (vI f)]),(false,[val (vI v)])] (aA [(false,[sl ai ((Kp l f v).map ar)])]):=by
 refine sF func338 fun h0 w0 Fz0=>?_
 refine sj 0 fun hl0=>?_
 refine pi ?_
 refine sS [0,1,2,6] [] ?_
 refine jO ?_
 refine sS [0,1,2,6,7] [] ?_
 refine cm ?_
 refine sP [0,1,2,6,7,8] [] ?_
 refine sL [0,1,2,6] [] (fun k:Nat=>k≤l.length∧(0 < k→(dZ l&&(aF f 0 2&&aF v 0 99))=true)) (fun k:Nat=>[(7,RV.slc ai ((gO (l.take k) f v).map ar)),(8,RV.int (k:Int))]) (fun k:Nat=>[]) (fun k:Nat=>l.length - k) 0 uL ej ao ?_
 rintro k ⟨hk,ha⟩
 refine bI ?_
 refine vq ?_
 refine kQ ?_
 refine cx 14 ?_ ?_<;>intro ga sga
 refine vR ?_
 refine rB ga ?_ (x:=cL cf cC Tk (hs:=Mp))
 refine rG ?_
 refine cx 18 ?_ ?_<;>intro gb sgb
 refine ir ?_
 refine Qg ?_
 refine cx 22 ?_ ?_<;>intro gc sgc
 refine zg4 ?_
 refine tS ?_
 refine sc ?_ ?_<;>intro hba
 have hok:(dZ l&&(aF f 0 2&&aF v 0 99))=true:=cS
 have hok2:=pu (Bool.and_eq_true_iff.1 hok).1
 have hlt:k < l.length:=me
 have hsl:=EF (l.take k) f v
 rw [cj] at hsl
 refine aY ?_
 refine sS [0,1,2,6,7,8] [] ?_
 refine iO ?_
 refine zM ?_
 refine gn ?_
 refine rA ?_ (x:=cL NC YX au4 (hs:=by exact avS))
 refine sc ?_ ?_<;>intro hbb
 have hc:=hbb
 refine sG [0,1,2,6,7,8] [] ?_
 refine bL ?_
 refine zj2 ?_
 refine zS ?_
 refine oo ?_
 exact zj4
 have hc:=hbb
 refine aK ?_
 exact zj4
 exact Oh
 refine kl ?_
 refine gB ?_
 exact Oh
 refine hY ?_
 exact zj6
 refine ip ?_
 refine rN 18 ?_
 refine dz ?_
 exact zj6
def amz:aE prog 326 [(false,[sl .v (l.map (fj p1 p2))]),(false,[val (vI f)])] (aA [(false,[sl pO ((gq l f).map (kT ai))])]):=by
 refine oZ (largs:=fun L=>[(false,[sl (.lo L) (l.map (fj (.lo L) (.lo L)))]),(false,[val (vI f)])]) (rs:=[(false,[sl pO ((gq l f).map (kT ai))])]) func326 rfl (nl rfl) (fun L=>by exact (aI (aI rfl (am.cons (aT (fun _=>nl rfl) (fun _=>(am.cons ax (am.cons ax (am.cons (aT (fun _=>nl rfl) (fun _=>(am.cons ax (am.cons ax (am.cons ax am.nil))))) (am.cons (aT (fun _=>nl rfl) (fun _=>(am.cons ax am.nil))) am.nil)))))) am.nil)) (aI (aI rfl (am.cons ax am.nil)) tI))) (fun L=>by exact lq) ?_
 intro w0 Fz0
 refine sj 0 fun hl0=>?_
 refine sR ?_
 refine zj7 ?_
 refine iP ?_
 refine sS [0,1,4,5] [] ?_
 refine xP ?_
 refine rA ?_ (x:=cL [(false,[sl (.lo _) _])] cC Tk (hs:=Mp))
 refine dq ?_
 refine cx 13 ?_ ?_<;>intro ga sga
 exact zj9
 refine fI ?_
 refine JA ?_
 refine sc ?_ ?_<;>intro hba
 exact Oi
 have hok:(dZ l&&aF f 0 2)=true:=cS
 obtain ⟨hq,hf⟩:=Bool.and_eq_true_iff.1 hok
 have hq2:=pu hq
 refine cg ?_
 refine DI ?_
 refine zjb ?_
 rintro k hk
 refine bI ?_
 refine rA ?_ (x:=mp)
 refine sc ?_ ?_<;>intro hbb
 have hlt:k < 100:=ab
 have hse:Kp l f (k:Int)=gO l f (k:Int):=if_pos (by rw [hq,hf];simp [aF];omega)
 have hsl:=Kq l f k
 have hss:=EF l f (k:Int)
 refine DD ?_
 refine xP ?_
 refine gn ?_
 refine rA ?_ (x:=cL [(false,[sl (.lo _) _]),(false,[val _]),(false,[val _])] YY auZ (hs:=by exact (avT (l:=l) (f:=f) (v:=(k:Int)))))
 refine Rq ?_
 refine rC ?_
 refine rS ?_
 refine sS [0,1,4,5,6,7,8] [] ?_
 refine rM ?_
 refine qf ?_
 refine cx 31 ?_ ?_<;>intro gb sgb
 refine pm ?_
 refine Ry ?_
 refine zjg ?_
 refine rB gb ?_ (x:=lE [sl .v _] bZ)
 refine pm ?_
 refine rB gb ?_ (x:=cL pS pT akW (hs:=by exact amy))
 refine jP ?_
 refine sc ?_ ?_<;>intro hbc
 have hls:mE (db l f k) (gO l f (k:Int))=true:=ak8 ab (by rw [←hse];simpa using hbc)
 have hl1:(db l f k).length - 1 < (db l f k).length:=ab
 refine sP [0,1,4,5,6,7,8] [] ?_
 refine Nq (s:=5) (D:=900) (G:=2900) (E:=307) (e:=3) (L:=(Lw w0.heap.size)) (es:=((db l f k)).map (kT ai)) aj (kh hl1) aj aj rfl aj (fun x hx=>hx) aQ ao (aw.map fun x=>(aw.cons lcl_val (aw.cons lcl_val (aw.cons (lcl_own (aw.map fun x=>(aw.cons lcl_val aw.nil))) aw.nil)))) fun uu900 cp900 jk900 hlD900 hcp900 hjk900=>?_
 rw [aX] at hlD900 hcp900 hjk900
 refine eI (d:=900) aj (pb (k:=((db l f k).length - 1)) hl1) ?_
 have hA900:=lv (f:=(kT ai)) (e:=3) (xs:=(db l f k)) (k:=((db l f k).length - 1)) (fun _=>rfl) (Nat.le_of_lt hl1)
 refine zjh ?_
 refine rA ?_ (x:=vM false [val _])
 refine xC ?_
 refine rM ?_
 refine zjj ?_
 refine zjk ?_
 refine xQ ?_
 exact zjm
 exact zjn
 refine tL ?_
 exact zjn
 exact zjo
def avU{l:List eB}(hs:∀s∈l,s.Set.length≤1048576):aE prog 329 [(false,[sl .v (l.map (kT p1))]),(false,[val (vI v)])] (aA [(false,[sl ai ((iS l v).map ar)])]):=by
 refine sF func329 fun h0 w0 Fz0=>?_
 refine sj 0 fun hl0=>?_
 refine pi ?_
 refine bg ?_
 refine mw ?_
 refine cm ?_
 refine sP [0,1,4,5] [] ?_
 refine sL [0,1] [] (fun k:Nat=>k≤l.length∧(l.take k).any (ji v)=false) (fun k:Nat=>[(5,RV.int (k:Int))]) (fun k:Nat=>[]) (fun k:Nat=>l.length - k) 0 jp bu ao ?_
 rintro k ⟨hk,ha⟩
 refine bI ?_
 refine rC ?_
 refine dC ?_
 refine sc ?_ ?_<;>intro hba
 have hlt:k < l.length:=ab
 refine JG ?_
 refine xu ?_
 refine gC ?_
 refine dA 6 ?_ (x:=aS ak kz ao aj bD aj)
 refine dA 14 ?_ (x:=cr ak Bk ay)
 refine RB ?_
 refine dA 192 ?_ (x:=aS ak kz ao aj bD aj)
 refine dA 448 ?_ (x:=cr ak yq ay)
 refine dA 960 ?_ (x:=lE [val _] aV)
 refine dA 2047 ?_ (x:=cL cF cF mC (hs:=md))
 refine sc ?_ ?_<;>intro hbb
 have hy:ji v l[k]=true:=Ga
 have hst:=hs l[k] (List.getElem_mem hlt)
 refine sS [0,1,5] [] ?_
 refine Ef ?_
 refine iO ?_
 refine zjs ?_
 refine rA ?_ (x:=cr ak yr ay)
 refine Pz ?_
 refine dJ ?_
 refine cP ?_
 exact (aI (by refine bC ?_;rw [ald hlt ha hy];exact rfl) tI)
 have hno:ji v l[k]=false:=Ga
 refine DG ?_
 exact zjv
 have hend:k=l.length:=ab
 rw [hend,bG] at ha
 refine DH ?_
 refine CM ?_
 exact zjx
def avV{p3:Fl}{x:List eB}{y:List eB}:aE prog 327 [(false,[sl .v (x.map (kT p1))]),(false,[sl .v (y.map (kT p3))])] (aA [(false,[val (.bool (it x y))])]):=by
 refine sF func327 fun h0 w0 Fz0=>?_
 refine sj 0 fun hl0=>?_
 refine sj 1 fun hl1=>?_
 refine tE ?_
 refine rC ?_
 refine rC ?_
 refine nu ?_
 refine sc ?_ ?_<;>intro hba
 exact Cv
 have hl:x.length=y.length:=ab
 refine DQ ?_
 refine cm ?_
 refine zih ?_
 rintro k ⟨hk,ha⟩
 refine bI ?_
 refine rC ?_
 refine dC ?_
 refine sc ?_ ?_<;>intro hbb
 have hlt:k < x.length:=ab
 have hlt2:k < y.length:=ab
 refine JG ?_
 refine qg ?_
 refine dA 3 ?_ (x:=aS ak kz ao aj bD aj)
 refine dA 7 ?_ (x:=cr ak Bk ay)
 refine dA 15 ?_ (x:=lE [val _] aV)
 refine gC ?_
 refine dA 96 ?_ (x:=aS ak kz ao aj bD aj)
 refine dA 224 ?_ (x:=cr ak Bk ay)
 refine dA 480 ?_ (x:=lE [val _] aV)
 refine dA 1023 ?_ (x:=kN)
 refine dA 2047 ?_ (x:=sM)
 refine dx 28 ?_ ?_<;>intro ga sga
 refine dT 4095 ga ?_
 refine dT 4095 ga ?_
 refine dT 16383 ga ?_
 refine dT 32767 ga ?_
 refine dT 65535 ga ?_
 refine dT 4095 ga ?_
 refine dT 4095 ga ?_
 refine dT 397311 ga ?_
 refine dT 921599 ga ?_
 refine dT 1970175 ga ?_
 refine IX ?_
 refine dA 16777215 ?_ (x:=sM)
 refine dY 41 ?_
 refine dT 33554431 rfl ?_
 refine dT 33554431 rfl ?_
 refine dT 134217727 rfl ?_
 refine dT 268435455 rfl ?_
 refine dT 536870911 rfl ?_
 refine dT 33554431 rfl ?_
 refine dT 33554431 rfl ?_
 refine dT 3254779903 rfl ?_
 refine dT 7549747199 rfl ?_
 refine dT 16139681791 rfl ?_
 refine dT 34359738367 rfl ?_
 refine dT 68719476735 rfl ?_
 refine dA 137438953471 ?_ (x:=cd rfl)
 refine fH ?_
 exact Hy
 refine dB 4095 ga ?_ (x:=vM false [sl .v _])
 refine dB 4095 ga ?_ (x:=sM)
 refine dB 16383 ga ?_ (x:=aS ak kz ao aj bD aj)
 refine dB 32767 ga ?_ (x:=cr ak yq ay)
 refine dB 65535 ga ?_ (x:=lE [val _] aV)
 refine dB 4095 ga ?_ (x:=vM false [sl .v _])
 refine dB 4095 ga ?_ (x:=sM)
 refine dB 397311 ga ?_ (x:=aS ak kz ao aj bD aj)
 refine dB 921599 ga ?_ (x:=cr ak yq ay)
 refine dB 1970175 ga ?_ (x:=lE [val _] aV)
 refine dB 4194303 ga ?_ (x:=kN)
 refine dA 8388607 ?_ (x:=bF ga)
 refine dA 16777215 ?_ (x:=sM)
 refine dx 41 ?_ ?_<;>intro gb sgb
 refine dT 33554431 gb ?_
 refine dT 33554431 gb ?_
 refine dT 134217727 gb ?_
 refine dT 268435455 gb ?_
 refine dT 536870911 gb ?_
 refine dT 33554431 gb ?_
 refine dT 33554431 gb ?_
 refine dT 3254779903 gb ?_
 refine dT 7549747199 gb ?_
 refine dT 16139681791 gb ?_
 refine dT 34359738367 gb ?_
 refine dT 68719476735 gb ?_
 refine dA 137438953471 ?_ (x:=cd gb)
 refine fH ?_
 exact Hy
 refine dB 33554431 gb ?_ (x:=vM false [sl .v _])
 refine dB 33554431 gb ?_ (x:=sM)
 refine dB 134217727 gb ?_ (x:=aS ak kz ao aj bD aj)
 refine dB 268435455 gb ?_ (x:=cr ak yr ay)
 refine dB 536870911 gb ?_ (x:=lE [sl .v _] bZ)
 refine dB 33554431 gb ?_ (x:=vM false [sl .v _])
 refine dB 33554431 gb ?_ (x:=sM)
 refine dB 3254779903 gb ?_ (x:=aS ak kz ao aj bD aj)
 refine dB 7549747199 gb ?_ (x:=cr ak yr ay)
 refine dB 16139681791 gb ?_ (x:=lE [sl .v _] bZ)
 refine dB 34359738367 gb ?_ (x:=cL pS pT akW (hs:=by exact amy))
 refine dB 68719476735 gb ?_ (x:=nT)
 refine dA 137438953471 ?_ (x:=bF gb)
 refine sc ?_ ?_<;>intro hbc
 exact Hy
 refine DG ?_
 refine bO ?_
 exact zjy
 refine DH ?_
 exact Hz
def amA{x:aC7}(hb:eS x≤68719476736):aE prog 272 [(true,[val (vI x.Id),val (vI x.aDb),sl .v (x.aC8.map bM),sl .v (x.Out.map ar)])] (aA [(true,[val (vI x.Id),val (vI x.aDb),sl aH (x.aC8.map bM),sl ai (x.Out.map ar)])]):=by
 refine sF func272 fun h0 w0 Fz0=>?_
 refine sn 0 2 fun hl0_2=>?_
 refine sn 0 3 fun hl0_3=>?_
 have hbu:=hb
 simp only [eS,fU,bh,ye] at hbu
 refine om ?_
 refine AF ?_
 refine vw ?_
 refine dA 0 ?_ (x:=lF jf)
 refine tQ ?_
 refine dA 0 ?_ (x:=lF rU)
 refine dA 4 ?_ (x:=lD [val _] aV)
 refine dA 0 ?_ (x:=cB (qs:=[]) ak ic pp ak rfl rfl rfl rfl rfl ay ao rfl)
 refine dA 0 ?_ (x:=lF kV)
 refine dA 32 ?_ (x:=lD [sl .v _] kq)
 refine dA 112 ?_ (x:=ml ak ic pp rfl rfl ak oW Mu bm bm)
 refine tR ?_
 refine dA 0 ?_ (x:=lF AV)
 refine zk1 ?_
 refine dA 4095 ?_ (x:=cz (qs:=[(false,[val _]),(false,[val _]),(false,[sl _ _]),(false,[sl _ _])]) (cs:=jL) ak lM yg avP aj wQ rfl aj)
 refine dA 8191 ?_ (x:=bR (ag:=true) (vs:=jL) gD ao aj ay)
 exact zk2
def avW{x:List aC7}(hb:AU x≤68719476736):aE prog 325 [(false,[sl .v (x.map (fj p1 p2))])] (aA [(false,[sl nd (x.map (fj aH ai))])]):=by
 refine sF func325 fun h0 w0 Fz0=>?_
 refine sj 0 fun hl0=>?_
 have hbu:=hb
 simp only [AU] at hbu
 refine sR ?_
 refine zk3 ?_
 refine Iu ?_
 refine tF ?_
 refine sL [0,2] [] (fun k:Nat=>k≤x.length) (fun k:Nat=>[(3,RV.slc nd ((x.take k).map (fj aH ai))),(4,RV.int (k:Int))]) (fun k:Nat=>[]) (fun k:Nat=>x.length - k) 0 ab kd ao ?_
 rintro k hk
 refine bI ?_
 refine vq ?_
 refine dC ?_
 refine sc ?_ ?_<;>intro hba
 have hlt:k < x.length:=ab
 have hwm:=dK (f:=eS) hlt
 have htl:(x.take k).length=k:=dh
 refine aY ?_
 refine qm ?_
 refine iO ?_
 refine zM ?_
 refine zk5 ?_
 refine zL ?_
 refine sH [0,2,3,4,5] [5] ?_
 refine bL ?_
 refine RF ?_
 refine zk8 ?_
 refine dJ ?_
 refine sH [0,2,3,4,5] [5] ?_
 exact NV
 exact NW
variable{p1 p2:Fl}
def amB:er prog 260=some [(0,1),(1,1)]:=au
def avX{l:List aC7}:aE prog 308 [(false,[sl .v (l.map (fj p1 p2))])] (aA [(true,[sl nd ((kr l).Queries.map (fj aH ai)),sl wT ((kr l).Fields.map (oB pO ai))])]):=by
 refine sF func308 fun h0 w0 Fz0=>?_
 refine sj 0 fun hl0=>?_
 refine sR ?_
 refine JL ?_
 refine bg ?_
 refine sT [0,2] [2] ?_
 refine cv ?_
 refine zka ?_
 refine eZ ?_
 refine sc ?_ ?_<;>intro hba
 have hok:dZ l=false:=cR
 refine sS [0,2] [2] ?_
 refine rA ?_ (x:=cz (qs:=[]) (cs:=oi) ak EQ ET amB aj ao rfl aj)
 exact zkb
 have hok:dZ l=true:=cR
 have hqw:=ali hok
 have hql:=pu hok
 refine aK ?_
 refine sS [0,2] [2] ?_
 refine cv ?_
 refine rA ?_ (x:=cL cf cC auR (hs:=by exact avW ab))
 refine rA ?_ (x:=cz (qs:=cf) (cs:=oi) ak EQ ET amB aj cN rfl aj)
 refine Db ?_
 refine bg ?_
 refine sV [0,2,3] [2] [3] ?_
 refine cm ?_
 refine zkd ?_
 rintro k hk
 refine xB ?_
 refine sc ?_ ?_<;>intro hbb
 have hlt:k < 3:=ab
 have hfl:=alj (l:=l) (k:=k)
 refine aY ?_
 refine sQ [0,2,3,4] [2,3] ?_
 refine cJ ?_
 refine zke ?_
 refine gC ?_
 refine dA 12 ?_ (x:=cL gJ gK al9 (hs:=by exact amz))
 exact zkf
 exact zkg
def avY{p4 p5:Fl}{x:dL}:aE prog 309 [(true,[sl .v (x.Queries.map (fj p1 p2)),sl .v (x.Fields.map (oB p4 p5))])] (aA [(false,[val (.bool (fb x))])]):=by
 refine sF func309 fun h0 w0 Fz0=>?_
 refine sn 0 0 fun hl0_0=>?_
 refine sn 0 1 fun hl0_1=>?_
 refine vn ?_
 refine jd ?_
 refine Dr ?_
 refine zka ?_
 refine dq ?_
 refine cx 8 ?_ ?_<;>intro ga sga
 exact zkj
 refine rB ga ?_ (x:=lF Bj)
 refine rB ga ?_ (x:=lD [sl .v _] Bm)
 refine rB ga ?_ (x:=lN uv)
 refine rB ga ?_ (x:=kN)
 refine jQ ?_
 refine sc ?_ ?_<;>intro hba
 exact Ok
 have hpr:(dZ x.Queries&&decide (x.Fields.length=3))=true:=Gu
 have hf3:x.Fields.length=3:=of_decide_eq_true (Bool.and_eq_true_iff.1 hpr).2
 refine tG ?_
 refine Ak ?_
 refine sL [1] [1] (fun k:Nat=>k≤3∧wj x k=true) (fun k:Nat=>[(3,RV.int (k:Int))]) (fun k:Nat=>[]) (fun k:Nat=>3 - k) 0 fS bu ao ?_
 rintro k ⟨hk,ha⟩
 refine xB ?_
 refine sc ?_ ?_<;>intro hbb
 have hlt:k < 3:=ab
 have hfl:k < x.Fields.length:=ab
 refine fT ?_
 refine sQ [1,3] [1] ?_
 refine cJ ?_
 refine QM ?_
 refine dt ?_
 refine dA 7 ?_ (x:=aS (k:=k) ak uv ao MK (by exact eQ hfl (by rw [dM (d:=[]) hfl])) aj)
 refine dA 15 ?_ (x:=lE [sl .v _] KH)
 refine dA 0 ?_ (x:=lF amh)
 refine dA 32 ?_ (x:=lD [sl .v _] amk)
 refine dt ?_
 refine dA 224 ?_ (x:=cL gJ gK al9 (hs:=by exact amz))
 refine dA 511 ?_ (x:=cL pS pT auS (hs:=by exact avV))
 refine dA 1023 ?_ (x:=nT)
 refine sc ?_ ?_<;>intro hbc
 have hd:it (x.Fields.getD k []) (gq x.Queries (k:Int))=false:=gx
 refine sS [1,3] [1] ?_
 refine cn ?_
 exact rb ((alf hlt hd).symm)
 have hd:it (x.Fields.getD k []) (gq x.Queries (k:Int))=true:=gx
 refine Al ?_
 refine bO ?_
 exact zkm
 have hend:k=3:=ab
 rw [hend] at ha
 refine DL ?_
 exact zkn
def avZ{l:List aC7}(hb:l.length≤1048576):aE prog 328 [(false,[sl .v (l.map (fj p1 p2))])] (aA [(false,[sl ai ((qv l).map ar)])]):=by
 refine sF func328 fun h0 w0 Fz0=>?_
 refine sj 0 fun hl0=>?_
 refine pi ?_
 refine lI ?_
 refine jO ?_
 refine tF ?_
 refine sL [0,2] [] (fun k:Nat=>k≤l.length) (fun k:Nat=>[(3,RV.slc ai ((qv (l.take k)).map ar)),(4,RV.int (k:Int))]) (fun k:Nat=>[]) (fun k:Nat=>l.length - k) 0 ab ej ao ?_
 rintro k hk
 refine bI ?_
 refine vq ?_
 refine dC ?_
 refine sc ?_ ?_<;>intro hba
 have hlt:k < l.length:=ab
 have htl:(qv (l.take k)).length=k:=XF
 refine Jv ?_
 refine bL ?_
 refine zj2 ?_
 refine zS ?_
 refine oo ?_
 refine DJ ?_
 refine nx (k+1) ab (e:=(by exact aI (by exact bC (by unfold qv;rw [ny hlt,bo];rfl)) (aI aj tI)))
 have hend:k=l.length:=ab
 exact zkp
def TD{o:List Int}:aE prog 158 [(false,[sl .v (o.map ar)])] (aA [(false,[val (.bool (cb o))])]):=by
 refine sF func158 fun h0 w0 Fz0=>?_
 refine sj 0 fun hl0=>?_
 refine tC ?_
 refine jv ?_
 refine nu ?_
 refine sc ?_ ?_<;>intro hba
 have hbad:cb o=false:=by unfold cb;rw [decide_eq_false ab];rfl
 refine lI ?_
 exact qa
 have hl3:o.length=3:=ab
 refine cg ?_
 refine lI ?_
 refine cm ?_
 refine sP [0,2,3] [] ?_
 refine sL [0] [] (fun k:Nat=>k≤o.length∧Bd o k=true) (fun k:Nat=>[(3,RV.int (k:Int))]) (fun k:Nat=>[]) (fun k:Nat=>o.length - k) 0 fS bu ao ?_
 rintro k ⟨hk,ha⟩
 refine pj ?_
 refine sc ?_ ?_<;>intro hbb
 have hlt:k < o.length:=ab
 have hgk:=dM (d:=(0:Int)) hlt
 refine fT ?_
 refine sP [0,3] [] ?_
 refine qg ?_
 refine Dd ?_
 refine zhq ?_
 refine dA 63 ?_ (x:=sM)
 refine dx 19 ?_ ?_<;>intro ga sga
 refine dT 127 ga ?_
 refine dT 127 ga ?_
 refine dT 511 ga ?_
 refine dT 127 ga ?_
 refine dT 127 ga ?_
 refine dT 3199 ga ?_
 refine dT 7295 ga ?_
 refine dT 16383 ga ?_
 refine dA 32767 ?_ (x:=cd ga)
 refine fH ?_
 exact zkq
 refine dB 127 ga ?_ (x:=vM false [sl .v _])
 refine dB 127 ga ?_ (x:=sM)
 refine dB 511 ga ?_ (x:=zi (i:=0) (j:=k) (ys:=(o.take k)) (q:=(0:Int)) ak bY aj ao ab ab ab ab (fun _=>rfl) aP)
 refine dB 127 ga ?_ (x:=vM false [sl .v _])
 refine dB 127 ga ?_ (x:=sM)
 refine dB 3199 ga ?_ (x:=aS ak bY ao aj bD aj)
 refine dB 7295 ga ?_ (x:=lE [val _] aV)
 refine dB 16383 ga ?_ (x:=cL gJ gK Kj (hs:=Ge))
 refine dA 32767 ?_ (x:=bF ga)
 refine sc ?_ ?_<;>intro hbc
 exact zkq
 have hyes:(aF (o.getD k 0) 0 2&&!ce (o.take k) (o.getD k 0))=true:=by rw [←hgk];simp_all
 refine xz ?_
 refine bO ?_
 refine nx (k+1) (by exact ⟨ab,by rw [aso,ha,hyes];rfl⟩)
 have hend:k=3:=ab
 rw [hend,alg hl3] at ha
 refine xA ?_
 refine cn ?_
 exact rb (ha.symm)
def amC{p4 p5:Fl}{x:dL}{r:Row}{o:List Int}(hxo:fb x=true)(hro:bA r=true)(hoo:cb o=true):aE prog 314 [(true,[sl .v (x.Queries.map (fj p1 p2)),sl .v (x.Fields.map (oB p4 p5))]),(true,[val (vI r.Id),sl .v (r.Values.map ar)]),(false,[sl .v (o.map ar)])] (aA [(false,[sl ai ((mF x r o).1.map ar)]),(false,[val (vI (mF x r o).2)])]):=by
 refine sF func314 fun h0 w0 Fz0=>?_
 refine sn 0 0 fun hl0_0=>?_
 refine sn 0 1 fun hl0_1=>?_
 refine sn 1 1 fun hl1_1=>?_
 refine sj 2 fun hl2=>?_
 have hx:=SF hxo
 have hq:=pu hx.1
 have ho:=Kr hoo
 have hrl:=yf hro
 refine vn ?_
 refine Im ?_
 refine rK ?_
 refine sT [2,3,4,6,7] [3,4] ?_
 refine Dr ?_
 refine rA ?_ (x:=cL cf cC auT (hs:=by exact avZ ab))
 refine dJ ?_
 refine sS [2,3,4,6,7,8] [3,4] ?_
 refine dp ?_
 refine sS [2,3,4,6,7,8,9] [3,4] ?_
 refine cm ?_
 refine sP [2,3,4,6,7,8,9,10] [3,4] ?_
 refine sL [2,3,4,6,7] [3,4] (fun k:Nat=>k≤o.length) (fun k:Nat=>[(8,RV.slc ai ((gt x r o k).1.map ar)),(9,RV.int (gt x r o k).2),(10,RV.int (k:Int))]) (fun k:Nat=>[]) (fun k:Nat=>o.length - k) 0 ab qW ao ?_
 rintro k hk
 refine bI ?_
 refine jv ?_
 refine kQ ?_
 refine cx 19 ?_ ?_<;>intro ga sga
 refine vR ?_
 refine rB ga ?_ (x:=lN bY)
 refine rB ga ?_ (x:=iN)
 refine iq ?_
 refine sc ?_ ?_<;>intro hba
 have hlt:k < o.length:=me
 have hne:(gt x r o k).1≠[]:=by intro e;simp_all
 have hof:=ho.2 o[k] (List.getElem_mem hlt)
 have hff:o[k].toNat < x.Fields.length:=ab
 have hrf:o[k].toNat < r.Values.length:=ab
 have hpl:=Kt hq.1 r o k
 have hxf:=hx.2.2 o[k].toNat ab
 have hsi:=alc x.Queries (o[k].toNat:Int)
 rw [←hxf] at hsi
 have hss:∀s∈x.Fields.getD o[k].toNat [],s.Set.length≤1048576:=fun s hs=>Nat.le_trans (hsi.2 s hs) ak
 have hfl:=ale hsi.2 (jx r.Values o[k])
 have hpe:=SG (x:=x) (r:=r) hlt hne
 refine fT ?_
 refine sQ [2,3,4,6,7,8,9,10] [3,4] ?_
 refine cJ ?_
 refine QM ?_
 refine gC ?_
 refine dA 12 ?_ (x:=aS ak bY ao aj bD aj)
 refine dA 28 ?_ (x:=lE [val _] aV)
 refine dA 63 ?_ (x:=aS (k:=o[k].toNat) ak uv ao ab Wk aj)
 refine dA 127 ?_ (x:=lE [sl .v _] KH)
 refine vL ?_
 refine dA 256 ?_ (x:=lD [sl .v _] bZ)
 refine gC ?_
 refine dA 3072 ?_ (x:=aS ak bY ao aj bD aj)
 refine dA 7168 ?_ (x:=lE [val _] aV)
 refine dA 16128 ?_ (x:=aS (k:=o[k].toNat) ak bY ao ab Wp aj)
 refine dA 32512 ?_ (x:=lE [val _] aV)
 refine dA 65535 ?_ (x:=cL gJ gK auU (hs:=by exact (avU (l:=x.Fields.getD o[k].toNat []) (v:=jx r.Values o[k]) hss)))
 refine dA 131071 ?_ (x:=tA)
 refine sS [2,3,4,6,7,8,9,10,11] [3,4] ?_
 refine qb ?_
 refine jv ?_
 refine jv ?_
 refine rA ?_ (x:=Yg ak ao ao)
 refine vF ?_
 refine sG [2,3,4,6,7,8,9,10,11] [3,4] ?_
 refine cv ?_
 refine cv ?_
 refine rA ?_ (x:=cL pS pT auV (hs:=by exact avM))
 refine dJ ?_
 refine sG [2,3,4,6,7,8,9,10,11] [3,4] ?_
 refine bO ?_
 refine nx (k+1) ab (e:=(by exact aI (by exact bC (by rw [hpe])) (aI (by exact cW (by rw [hpe])) (aI aj tI))))
 exact zku
 refine nt ?_
 exact zku
variable{p1 p2:Fl}{l:List aC7}
def amG:er prog 260=some [(0,1),(1,1)]:=au
def awi:er prog 307=some [(0,1),(1,1),(2,1)]:=au
def amH:aE prog 333 [(false,[sl .v (l.map (fj p1 p2))])] (aA [(false,[val (.bool (dZ l))])]):=by
 refine sF func333 fun h0 w0 Fz0=>?_
 refine sj 0 fun hl0=>?_
 refine tC ?_
 refine vq ?_
 refine Jn ?_
 refine sL [0,5,6] [] (fun k:Nat=>k≤l.length∧mA qt bp qu l k=true) (fun k:Nat=>[(7,RV.int (k:Int))]) (fun k:Nat=>[]) (fun k:Nat=>l.length - k) 0 fS bu ao ?_
 rintro k ⟨hk,ha⟩
 refine bP ?_
 refine sc ?_ ?_<;>intro hba
 have hlt:k < l.length:=ab
 have hgk:l.getD k qt=l[k]:=fy hlt
 have hgp:0 < k→l.getD (k - 1) qt=l[k - 1]:=fun h=>fy ab
 refine aY ?_
 refine sS [0,5,6,7] [] ?_
 refine rM ?_
 refine zM ?_
 refine AF ?_
 refine rS ?_
 refine xR ?_
 refine bg ?_
 refine sQ [0,3,4,5,6,7] [4] ?_
 refine QI ?_
 refine dA 1 ?_ (x:=cL il ju EA (hs:=by exact KK))
 refine dA 3 ?_ (x:=nT)
 refine dA 7 ?_ (x:=sM)
 refine dx 15 ?_ ?_<;>intro ga sga
 refine dT 15 ga ?_
 refine dT 31 ga ?_
 refine dT 63 ga ?_
 refine dU 127 ?_
 refine dU 127 ?_
 refine dU 383 ?_
 refine dU 1023 ?_
 refine dU 2047 ?_
 refine dU 4095 ?_
 refine dU 127 ?_
 refine dU 8319 ?_
 refine dU 32767 ?_
 refine dT 65535 ga ?_
 refine dA 131071 ?_ (x:=cd ga)
 refine fH ?_
 exact zoe
 refine dB 15 ga ?_ (x:=sM)
 refine dB 31 ga ?_ (x:=iN)
 refine dB 63 ga ?_ (x:=sM)
 refine dx 18 ?_ ?_<;>intro gb sgb
 refine dB 127 gb ?_ (x:=vM false [sl .v _])
 refine dB 127 gb ?_ (x:=sM)
 refine dB 383 gb ?_ (x:=hP)
 refine dB 1023 gb ?_ (x:=aS (k:=k - 1) ak lT ao ab bD aj)
 refine dB 2047 gb ?_ (x:=cr ak jf ay)
 refine dB 4095 gb ?_ (x:=lE [val _] aV)
 refine dB 127 gb ?_ (x:=lF jf)
 refine dB 8319 gb ?_ (x:=lD [val _] aV)
 refine dB 32767 gb ?_ (x:=jc)
 refine dB 65535 ga ?_ (x:=cd gb)
 refine dA 131071 ?_ (x:=bF ga)
 refine sc ?_ ?_<;>intro hbb
 exact zoe
 exact zof
 refine dF 127 gb ?_
 refine dF 127 gb ?_
 refine dF 383 gb ?_
 refine dF 1023 gb ?_
 refine dF 2047 gb ?_
 refine dF 4095 gb ?_
 refine dF 127 gb ?_
 refine dF 8319 gb ?_
 refine dF 32767 gb ?_
 refine dB 65535 ga ?_ (x:=bF gb)
 refine dA 131071 ?_ (x:=bF ga)
 refine gB ?_
 exact zof
 have hend:k=l.length:=ab
 have hall:eT qt bp qu l=true:=ue ha hend
 refine Jo ?_
 exact ziy
def awj{f:Int}{v:Int}(hb:l.length≤1048576):aE prog 339 [(false,[sl .v (l.map (fj p1 p2))]),(false,[val (vI f)]),(false,[val (vI v)])] (aA [(false,[sl ai ((gO l f v).map ar)])]):=by
 refine sF func339 fun h0 w0 Fz0=>?_
 refine sj 0 fun hl0=>?_
 refine pi ?_
 refine sS [0,1,2,6] [] ?_
 refine jO ?_
 refine sS [0,1,2,6,7] [] ?_
 refine vq ?_
 refine dm ?_
 refine sP [0,1,2,6,7,11,12,13] [] ?_
 refine sL [0,1,2,6,11,12] [] (fun k:Nat=>k≤l.length) (fun k:Nat=>[(7,RV.slc ai ((gO (l.take k) f v).map ar)),(13,RV.int (k:Int))]) (fun k:Nat=>[]) (fun k:Nat=>l.length - k) 0 ab ej ao ?_
 rintro k hk
 refine bP ?_
 refine sc ?_ ?_<;>intro hba
 have hlt:k < l.length:=ab
 have hsl:=EF (l.take k) f v
 rw [cj] at hsl
 refine aY ?_
 refine sS [0,1,2,6,7,11,12,13] [] ?_
 refine zM ?_
 refine zL ?_
 refine sT [0,1,2,6,7,9,11,12,13] [9] ?_
 refine tT ?_
 refine zej ?_
 refine sc ?_ ?_<;>intro hbb
 have hc:=hbb
 refine sG [0,1,2,6,7,9,11,12,13] [9] ?_
 refine bL ?_
 refine vt ?_
 refine oo ?_
 exact zoh
 have hc:=hbb
 refine aK ?_
 exact zoh
 have hend:k=l.length:=ab
 refine be ?_
 refine sS [0,1,2,6,7,11,12,13] [] ?_
 exact zx
def amI{f:Int}:aE prog 335 [(false,[sl .v (l.map (fj p1 p2))]),(false,[val (vI f)])] (aA [(false,[sl pO ((gq l f).map (kT ai))])]):=by
 refine oZ (largs:=fun L=>[(false,[sl (.lo L) (l.map (fj (.lo L) (.lo L)))]),(false,[val (vI f)])]) (rs:=[(false,[sl pO ((gq l f).map (kT ai))])]) func335 rfl (nl rfl) (fun L=>by exact (aI (aI rfl (am.cons (aT (fun _=>nl rfl) (fun _=>(am.cons ax (am.cons ax (am.cons (aT (fun _=>nl rfl) (fun _=>(am.cons ax (am.cons ax (am.cons ax am.nil))))) (am.cons (aT (fun _=>nl rfl) (fun _=>(am.cons ax am.nil))) am.nil)))))) am.nil)) (aI (aI rfl (am.cons ax am.nil)) tI))) (fun L=>by exact lq) ?_
 intro w0 Fz0
 refine sj 0 fun hl0=>?_
 refine sR ?_
 refine zj7 ?_
 refine iP ?_
 refine sS [0,1,4,5] [] ?_
 refine xP ?_
 refine rA ?_ (x:=cL [(false,[sl (.lo _) _])] cC amb (hs:=by exact amH))
 refine dq ?_
 refine cx 13 ?_ ?_<;>intro ga sga
 exact zj9
 refine fI ?_
 refine rB ga ?_ (x:=cL aM aM Kh (hs:=Gi))
 refine kP ?_
 refine sc ?_ ?_<;>intro hba
 exact Oi
 have hok:(dZ l&&aF f 0 2)=true:=cS
 obtain ⟨hq,hf⟩:=Bool.and_eq_true_iff.1 hok
 have hq2:=pu hq
 refine cg ?_
 refine DI ?_
 refine zjb ?_
 rintro k hk
 refine bI ?_
 refine rA ?_ (x:=mp)
 refine sc ?_ ?_<;>intro hbb
 have hlt:k < 100:=ab
 have hsl:=Kq l f k
 have hss:=EF l f (k:Int)
 refine DD ?_
 refine xP ?_
 refine gn ?_
 refine rA ?_ (x:=cL [(false,[sl (.lo _) _]),(false,[val _]),(false,[val _])] YY au0 (hs:=by exact (awj (l:=l) (f:=f) (v:=(k:Int)) ab)))
 refine Rq ?_
 refine rC ?_
 refine rS ?_
 refine sS [0,1,4,5,6,7,8] [] ?_
 refine rM ?_
 refine qf ?_
 refine cx 31 ?_ ?_<;>intro gb sgb
 refine pm ?_
 refine Ry ?_
 refine zjg ?_
 refine rB gb ?_ (x:=lE [sl .v _] bZ)
 refine pm ?_
 refine rB gb ?_ (x:=cL pS pT Ki (hs:=Gf))
 refine jP ?_
 refine sc ?_ ?_<;>intro hbc
 have hls:mE (db l f k) (gO l f (k:Int))=true:=ak8 ab gx
 have hl1:(db l f k).length - 1 < (db l f k).length:=ab
 refine sP [0,1,4,5,6,7,8] [] ?_
 refine Nq (s:=5) (D:=900) (G:=2900) (E:=307) (e:=3) (L:=(Lw w0.heap.size)) (es:=((db l f k)).map (kT ai)) aj (kh hl1) aj aj rfl aj (fun x hx=>hx) aQ ao (aw.map fun x=>(aw.cons lcl_val (aw.cons lcl_val (aw.cons (lcl_own (aw.map fun x=>(aw.cons lcl_val aw.nil))) aw.nil)))) fun uu900 cp900 jk900 hlD900 hcp900 hjk900=>?_
 rw [aX] at hlD900 hcp900 hjk900
 refine eI (d:=900) aj (pb (k:=((db l f k).length - 1)) hl1) ?_
 have hA900:=lv (f:=(kT ai)) (e:=3) (xs:=(db l f k)) (k:=((db l f k).length - 1)) (fun _=>rfl) (Nat.le_of_lt hl1)
 refine zjh ?_
 refine rA ?_ (x:=vM false [val _])
 refine xC ?_
 refine rM ?_
 refine zjj ?_
 refine zjk ?_
 refine xQ ?_
 exact zoj
 exact zok
 refine tL ?_
 exact zok
 exact zjo
def awk{l:List eB}{v:Int}(hs:∀s∈l,s.Set.length≤1048576):aE prog 340 [(false,[sl .v (l.map (kT p1))]),(false,[val (vI v)])] (aA [(false,[sl ai ((iS l v).map ar)])]):=by
 refine sF func340 fun h0 w0 Fz0=>?_
 refine sj 0 fun hl0=>?_
 refine pi ?_
 refine bg ?_
 refine mw ?_
 refine rC ?_
 refine dm ?_
 refine sP [0,1,4,7,8,9] [] ?_
 refine sL [0,1,7,8] [] (fun k:Nat=>k≤l.length∧(l.take k).any (ji v)=false) (fun k:Nat=>[(9,RV.int (k:Int))]) (fun k:Nat=>[]) (fun k:Nat=>l.length - k) 0 jp bu ao ?_
 rintro k ⟨hk,ha⟩
 refine bP ?_
 refine sc ?_ ?_<;>intro hba
 have hlt:k < l.length:=ab
 refine aY ?_
 refine sS [0,1,7,8,9] [] ?_
 refine zol ?_
 refine rX ?_ (x:=(gW ak yt KI))
 refine zom ?_
 refine sT [0,1,6,7,8,9] [6] ?_
 refine rM ?_
 refine rA ?_ (x:=lF Bk)
 refine eJ ?_
 refine rA ?_ (x:=lF yq)
 refine Pw ?_
 refine sc ?_ ?_<;>intro hbb
 have hy:ji v l[k]=true:=Ga
 have hst:=hs l[k] (List.getElem_mem hlt)
 refine sS [0,1,6,7,8,9] [6] ?_
 refine rA ?_ (x:=lF yr)
 refine zon ?_
 refine dJ ?_
 refine cP ?_
 exact (aI (by refine bC ?_;rw [ald hlt ha hy]) tI)
 have hno:ji v l[k]=false:=Ga
 refine aK ?_
 refine sG [0,1,6,7,8,9] [6] ?_
 refine cc ?_
 exact Oj
 have hend:k=l.length:=ab
 rw [hend,bG] at ha
 refine be ?_
 refine sS [0,1,7,8,9] [] ?_
 refine rP ?_
 exact zjx
def awl{p3:Fl}{x:List eB}{y:List eB}:aE prog 336 [(false,[sl .v (x.map (kT p1))]),(false,[sl .v (y.map (kT p3))])] (aA [(false,[val (.bool (it x y))])]):=by
 refine sF func336 fun h0 w0 Fz0=>?_
 refine sj 0 fun hl0=>?_
 refine sj 1 fun hl1=>?_
 refine tE ?_
 refine rC ?_
 refine rC ?_
 refine nu ?_
 refine sc ?_ ?_<;>intro hba
 exact Cv
 have hl:x.length=y.length:=ab
 refine DQ ?_
 refine rC ?_
 refine dm ?_
 refine sP [0,1,4,12,13,14] [] ?_
 refine sL [0,1,12,13] [] (fun k:Nat=>k≤x.length∧x.take k=y.take k) (fun k:Nat=>[(14,RV.int (k:Int))]) (fun k:Nat=>[]) (fun k:Nat=>x.length - k) 0 jp bu ao ?_
 rintro k ⟨hk,ha⟩
 refine bP ?_
 refine sc ?_ ?_<;>intro hbb
 have hlt:k < x.length:=ab
 have hlt2:k < y.length:=ab
 refine aY ?_
 refine sS [0,1,12,13,14] [] ?_
 refine rM ?_
 refine zol ?_
 refine rX ?_ (x:=(gW ak yt KI))
 refine rS ?_
 refine zom ?_
 refine bg ?_
 refine sQ [0,1,5,6,12,13,14] [6] ?_
 refine cJ ?_
 refine dA 0 ?_ (x:=lF Bk)
 refine tQ ?_
 refine gC ?_
 refine dA 12 ?_ (x:=aS ak kz ao aj bD aj)
 refine dA 28 ?_ (x:=cr ak Bk ay)
 refine dA 60 ?_ (x:=lE [val _] aV)
 refine dA 127 ?_ (x:=kN)
 refine dA 255 ?_ (x:=sM)
 refine dx 27 ?_ ?_<;>intro ga sga
 refine dT 511 ga ?_
 refine dT 1023 ga ?_
 refine dT 511 ga ?_
 refine dT 511 ga ?_
 refine dT 6655 ga ?_
 refine dT 14847 ga ?_
 refine dT 31231 ga ?_
 refine dT 65535 ga ?_
 refine dA 131071 ?_ (x:=cd ga)
 refine dA 262143 ?_ (x:=sM)
 refine dY 37 ?_
 refine dT 524287 rfl ?_
 refine dT 1048575 rfl ?_
 refine dT 524287 rfl ?_
 refine dT 524287 rfl ?_
 refine dT 6815743 rfl ?_
 refine dT 15204351 rfl ?_
 refine dT 31981567 rfl ?_
 refine dT 67108863 rfl ?_
 refine dT 134217727 rfl ?_
 refine dA 268435455 ?_ (x:=cd rfl)
 exact zoq
 refine dB 511 ga ?_ (x:=lF yq)
 refine dB 1023 ga ?_ (x:=lD [val _] aV)
 refine dB 511 ga ?_ (x:=vM false [sl .v _])
 refine vQ ?_
 refine dB 6655 ga ?_ (x:=aS ak kz ao aj bD aj)
 refine dB 14847 ga ?_ (x:=cr ak yq ay)
 refine dB 31231 ga ?_ (x:=lE [val _] aV)
 refine dB 65535 ga ?_ (x:=kN)
 refine dA 131071 ?_ (x:=bF ga)
 refine dA 262143 ?_ (x:=sM)
 refine dx 37 ?_ ?_<;>intro gb sgb
 refine dT 524287 gb ?_
 refine dT 1048575 gb ?_
 refine dT 524287 gb ?_
 refine dT 524287 gb ?_
 refine dT 6815743 gb ?_
 refine dT 15204351 gb ?_
 refine dT 31981567 gb ?_
 refine dT 67108863 gb ?_
 refine dT 134217727 gb ?_
 refine dA 268435455 ?_ (x:=cd gb)
 exact zoq
 refine dB 524287 gb ?_ (x:=lF yr)
 refine dB 1048575 gb ?_ (x:=lD [sl .v _] bZ)
 refine dB 524287 gb ?_ (x:=vM false [sl .v _])
 refine dB 524287 gb ?_ (x:=sM)
 refine dB 6815743 gb ?_ (x:=aS ak kz ao aj bD aj)
 refine dB 15204351 gb ?_ (x:=cr ak yr ay)
 refine dB 31981567 gb ?_ (x:=lE [sl .v _] bZ)
 refine dB 67108863 gb ?_ (x:=cL pS pT Ki (hs:=Gf))
 refine dB 134217727 gb ?_ (x:=nT)
 refine dA 268435455 ?_ (x:=bF gb)
 refine sc ?_ ?_<;>intro hbc
 refine sS [0,1,5,6,12,13,14] [6] ?_
 exact Cw
 refine aK ?_
 refine sG [0,1,5,6,12,13,14] [6] ?_
 refine cc ?_
 exact zjy
 refine be ?_
 refine sS [0,1,12,13,14] [] ?_
 exact Hz
def awm{x:aC7}(hb:eS x≤68719476736):aE prog 199 [(true,[val (vI x.Id),val (vI x.aDb),sl .v (x.aC8.map bM),sl .v (x.Out.map ar)])] (aA [(true,[val (vI x.Id),val (vI x.aDb),sl aH (x.aC8.map bM),sl ai (x.Out.map ar)])]):=by
 refine sF func199 fun h0 w0 Fz0=>?_
 refine sn 0 2 fun hl0_2=>?_
 refine sn 0 3 fun hl0_3=>?_
 have hbu:=hb
 simp only [eS,fU,bh,ye] at hbu
 refine om ?_
 refine AF ?_
 refine sT [1,2] [1,2] ?_
 refine rA ?_ (x:=cB (qs:=[]) ak ic pp ak rfl rfl rfl rfl rfl ay ao rfl)
 refine rA ?_ (x:=lF kV)
 refine rA ?_ (x:=lD [sl .v _] kq)
 refine rA ?_ (x:=ml ak ic pp rfl rfl ak oW Mu bm bm)
 refine rA ?_ (x:=lF kV)
 refine zor ?_
 refine sV [1,2] [2] [1] ?_
 refine vO ?_
 refine zon ?_
 refine vO ?_
 refine xS ?_
 refine sV [1,2] [2] [1] ?_
 refine zot ?_
 exact zk2
def awn{x:List aC7}(hb:AU x≤68719476736):aE prog 334 [(false,[sl .v (x.map (fj p1 p2))])] (aA [(false,[sl nd (x.map (fj aH ai))])]):=by
 refine sF func334 fun h0 w0 Fz0=>?_
 refine sj 0 fun hl0=>?_
 have hbu:=hb
 simp only [AU] at hbu
 refine sR ?_
 refine zk3 ?_
 refine Iu ?_
 refine qk ?_
 refine vq ?_
 refine dm ?_
 refine sP [0,2,3,7,8,9] [] ?_
 refine sL [0,2,7,8] [] (fun k:Nat=>k≤x.length) (fun k:Nat=>[(3,RV.slc nd ((x.take k).map (fj aH ai))),(9,RV.int (k:Int))]) (fun k:Nat=>[]) (fun k:Nat=>x.length - k) 0 ab kd ao ?_
 rintro k hk
 refine bP ?_
 refine sc ?_ ?_<;>intro hba
 have hlt:k < x.length:=ab
 have hwm:=dK (f:=eS) hlt
 have htl:(x.take k).length=k:=dh
 refine aY ?_
 refine sS [0,2,3,7,8,9] [] ?_
 refine zM ?_
 refine zL ?_
 refine sH [0,2,3,5,7,8,9] [5] ?_
 refine bL ?_
 refine tT ?_
 refine rA ?_ (x:=cL il ju Te (hs:=MH))
 refine zk8 ?_
 exact zch
 exact zci
def awo:aE prog 321 [(false,[sl .v (l.map (fj p1 p2))])] (aA [(true,[sl nd ((kr l).Queries.map (fj aH ai)),sl wT ((kr l).Fields.map (oB pO ai))])]):=by
 refine sF func321 fun h0 w0 Fz0=>?_
 refine sj 0 fun hl0=>?_
 refine sR ?_
 refine JL ?_
 refine bg ?_
 refine sT [0,2] [2] ?_
 refine cv ?_
 refine zou ?_
 refine eZ ?_
 refine sc ?_ ?_<;>intro hba
 have hok:dZ l=false:=cR
 refine sS [0,2] [2] ?_
 refine rA ?_ (x:=cz (qs:=[]) (cs:=oi) ak EQ ET amG aj ao rfl aj)
 exact zkb
 have hok:dZ l=true:=cR
 have hqw:=ali hok
 have hql:=pu hok
 refine aK ?_
 refine sS [0,2] [2] ?_
 refine cv ?_
 refine rA ?_ (x:=cL cf cC auW (hs:=by exact awn ab))
 refine rA ?_ (x:=cz (qs:=cf) (cs:=oi) ak EQ ET amG aj cN rfl aj)
 refine Db ?_
 refine bg ?_
 refine sV [0,2,3] [2] [3] ?_
 refine cm ?_
 refine zkd ?_
 rintro k hk
 refine xB ?_
 refine sc ?_ ?_<;>intro hbb
 have hlt:k < 3:=ab
 have hfl:=alj (l:=l) (k:=k)
 refine aY ?_
 refine sQ [0,2,3,4] [2,3] ?_
 refine cJ ?_
 refine zke ?_
 refine gC ?_
 refine dA 12 ?_ (x:=cL gJ gK amc (hs:=by exact amI))
 exact zkf
 exact zkg
def awp{p4 p5:Fl}{x:dL}:aE prog 322 [(true,[sl .v (x.Queries.map (fj p1 p2)),sl .v (x.Fields.map (oB p4 p5))])] (aA [(false,[val (.bool (fb x))])]):=by
 refine sF func322 fun h0 w0 Fz0=>?_
 refine sn 0 0 fun hl0_0=>?_
 refine sn 0 1 fun hl0_1=>?_
 refine vn ?_
 refine jd ?_
 refine Dr ?_
 refine zou ?_
 refine dq ?_
 refine cx 9 ?_ ?_<;>intro ga sga
 exact zkj
 refine rB ga ?_ (x:=lF Bj)
 refine rB ga ?_ (x:=lD [sl .v _] Bm)
 refine rB ga ?_ (x:=lN uv)
 refine rB ga ?_ (x:=kN)
 refine jQ ?_
 refine sc ?_ ?_<;>intro hba
 exact Ok
 have hpr:(dZ x.Queries&&decide (x.Fields.length=3))=true:=Gu
 have hf3:x.Fields.length=3:=of_decide_eq_true (Bool.and_eq_true_iff.1 hpr).2
 refine tG ?_
 refine rA ?_ (x:=lF Bj)
 refine rA ?_ (x:=lD [sl .v _] Bm)
 refine rA ?_ (x:=lN uv)
 refine dm ?_
 refine sP [1,2,16,17,18] [1] ?_
 refine sL [1,16,17] [1] (fun k:Nat=>k≤x.Fields.length∧wj x k=true) (fun k:Nat=>[(18,RV.int (k:Int))]) (fun k:Nat=>[]) (fun k:Nat=>x.Fields.length - k) 0 fS bu ao ?_
 rintro k ⟨hk,ha⟩
 refine bP ?_
 refine sc ?_ ?_<;>intro hbb
 have hlt:k < x.Fields.length:=ab
 have hgk:=dM (d:=([]:List eB)) hlt
 refine aY ?_
 refine sT [1,16,17,18] [1] ?_
 refine rM ?_
 refine rA ?_ (x:=aS ak uv ao aj bD aj)
 refine rA ?_ (x:=lE [sl .v _] KH)
 refine rS ?_
 refine ox ?_
 refine sS [1,3,4,16,17,18] [1] ?_
 refine cv ?_
 refine Dr ?_
 refine rM ?_
 refine rA ?_ (x:=cL gJ gK amc (hs:=by exact amI))
 refine rA ?_ (x:=cL pS pT auX (hs:=by exact awl))
 refine eZ ?_
 refine sc ?_ ?_<;>intro hbc
 have hd:it (x.Fields.getD k []) (gq x.Queries (k:Int))=false:=by rw [←hgk];simpa using hbc
 refine sS [1,3,4,16,17,18] [1] ?_
 refine cn ?_
 exact rb ((alf ab hd).symm)
 have hd:it (x.Fields.getD k []) (gq x.Queries (k:Int))=true:=by rw [←hgk];simpa using hbc
 refine aK ?_
 refine sG [1,3,4,16,17,18] [1] ?_
 refine cc ?_
 exact zkm
 have hend:k=3:=ab
 rw [hend] at ha
 refine be ?_
 refine sT [1,16,17,18] [1] ?_
 exact zkn
def awq{p4 p5:Fl}{x:dL}{r:Row}{o:List Int}(hxo:fb x=true)(hro:bA r=true)(hoo:cb o=true):aE prog 337 [(true,[sl .v (x.Queries.map (fj p1 p2)),sl .v (x.Fields.map (oB p4 p5))]),(true,[val (vI r.Id),sl .v (r.Values.map ar)]),(false,[sl .v (o.map ar)])] (aA [(false,[sl ai ((mF x r o).1.map ar)]),(false,[val (vI (mF x r o).2)])]):=by
 refine sF func337 fun h0 w0 Fz0=>?_
 refine sn 0 0 fun hl0_0=>?_
 refine sn 0 1 fun hl0_1=>?_
 refine sn 1 1 fun hl1_1=>?_
 refine sj 2 fun hl2=>?_
 have hx:=SF hxo
 have hq:=pu hx.1
 have ho:=Kr hoo
 have hrl:=yf hro
 refine vn ?_
 refine Im ?_
 refine rK ?_
 refine sT [2,3,4,6,7] [3,4] ?_
 refine jO ?_
 refine sS [2,3,4,6,7,8] [3,4] ?_
 refine Dr ?_
 refine rA ?_ (x:=lN lT)
 refine dm ?_
 refine sP [2,3,4,6,7,8,17,18,19] [3,4] ?_
 refine sL [2,3,4,6,7,17,18] [3,4] (fun k:Nat=>k≤x.Queries.length) (fun k:Nat=>[(8,RV.slc ai ((qv (x.Queries.take k)).map ar)),(19,RV.int (k:Int))]) (fun k:Nat=>[]) (fun k:Nat=>x.Queries.length - k) 0 ab ej ao ?_
 rintro k hk
 refine bP ?_
 refine sc ?_ ?_<;>intro hba
 have hltq:k < x.Queries.length:=ab
 have htl:(qv (x.Queries.take k)).length=k:=XF
 refine aY ?_
 refine sT [2,3,4,6,7,8,17,18,19] [3,4] ?_
 refine zM ?_
 refine zL ?_
 refine sW [2,3,4,6,7,8,10,17,18,19] [3,4] [10] ?_
 refine bL ?_
 refine vt ?_
 refine oo ?_
 refine sG [2,3,4,6,7,8,10,17,18,19] [3,4,10] ?_
 refine cc ?_
 refine nx (k+1) ab (e:=(by exact aI (by exact bC (by unfold qv;rw [ny hltq,bo];rfl)) (aI aj tI)))
 have hendq:k=x.Queries.length:=ab
 refine be ?_
 refine sT [2,3,4,6,7,8,17,18,19] [3,4] ?_
 refine dp ?_
 refine sS [2,3,4,6,7,8,11,17,18,19] [3,4] ?_
 refine Av ?_
 refine sP [2,3,4,6,7,8,11,17,18,19,29,30,31] [3,4] ?_
 refine sL [2,3,4,6,7,17,18,19,29,30] [3,4] (fun k:Nat=>k≤o.length) (fun k:Nat=>[(8,RV.slc ai ((gt x r o k).1.map ar)),(11,RV.int (gt x r o k).2),(31,RV.int (k:Int))]) (fun k:Nat=>[]) (fun k:Nat=>o.length - k) 0 ab (by exact aI (by exact bC (by rw [hendq,bG];rfl)) (aI aj (aI aj tI))) ao ?_
 rintro k hk
 refine bP ?_
 refine sc ?_ ?_<;>intro hbb
 have hlt:k < o.length:=ab
 have hof:=ho.2 o[k] (List.getElem_mem hlt)
 have hff:o[k].toNat < x.Fields.length:=ab
 have hrf:o[k].toNat < r.Values.length:=ab
 have hpl:=Kt hq.1 r o k
 have hxf:=hx.2.2 o[k].toNat ab
 have hsi:=alc x.Queries (o[k].toNat:Int)
 rw [←hxf] at hsi
 have hss:∀s∈x.Fields.getD o[k].toNat [],s.Set.length≤1048576:=fun s hs=>Nat.le_trans (hsi.2 s hs) ak
 have hfl:=ale hsi.2 (jx r.Values o[k])
 refine aY ?_
 refine sT [2,3,4,6,7,8,11,17,18,19,29,30,31] [3,4] ?_
 refine tu ?_
 refine dr ?_
 refine sS [2,3,4,6,7,8,11,13,17,18,19,29,30,31] [3,4] ?_
 refine jv ?_
 refine jw ?_
 refine sc ?_ ?_<;>intro hbc
 have hpe:=Ks (x:=x) (r:=r) (o:=o) (k:=k) (.inr (by rw [←List.length_eq_zero_iff];first|omega|(simp_all;done)))
 refine be ?_
 refine sS [2,3,4,6,7,8,11,13,17,18,19,29,30,31] [3,4] ?_
 exact Ol
 have hne:(gt x r o k).1≠[]:=by intro e;simp_all
 have hpe:=SG (x:=x) (r:=r) hlt hne
 refine cg ?_
 refine sP [2,3,4,6,7,8,11,13,17,18,19,29,30,31] [3,4] ?_
 refine cJ ?_
 refine QM ?_
 refine dt ?_
 refine dA 7 ?_ (x:=aS (k:=o[k].toNat) ak uv ao ab Wk aj)
 refine dA 15 ?_ (x:=lE [sl .v _] KH)
 refine vL ?_
 refine dA 32 ?_ (x:=lD [sl .v _] bZ)
 refine dt ?_
 refine dA 224 ?_ (x:=aS (k:=o[k].toNat) ak bY ao ab Wp aj)
 refine dA 480 ?_ (x:=lE [val _] aV)
 refine dA 1023 ?_ (x:=cL gJ gK au2 (hs:=by exact (awk (l:=x.Fields.getD o[k].toNat []) (v:=jx r.Values o[k]) hss)))
 refine dA 2047 ?_ (x:=tA)
 refine sS [2,3,4,6,7,8,11,13,14,17,18,19,29,30,31] [3,4] ?_
 refine rM ?_
 refine jv ?_
 refine jv ?_
 refine rA ?_ (x:=Yg ak ao ao)
 refine rA ?_ (x:=mq)
 refine vF ?_
 refine sG [2,3,4,6,7,8,11,13,14,17,18,19,29,30,31] [3,4] ?_
 refine cv ?_
 refine cv ?_
 refine rA ?_ (x:=cL pS pT au3 (hs:=by exact avL))
 refine dJ ?_
 refine sG [2,3,4,6,7,8,11,13,14,17,18,19,29,30,31] [3,4] ?_
 refine cc ?_
 refine nx (k+1) ab (e:=(by exact aI (by exact bC (by rw [hpe])) (aI (by exact cW (by rw [hpe];dsimp only;omega)) (aI aj tI))))
 have hpe:=Ks (x:=x) (r:=r) (.inl (show k=o.length by omega))
 refine be ?_
 refine sT [2,3,4,6,7,8,11,17,18,19,29,30,31] [3,4] ?_
 exact Ol
def ayt{x:aC7}:aE prog 109 [(true,[val (vI x.Id),val (vI x.aDb),sl .v (x.aC8.map bM),sl .v (x.Out.map ar)])] (aA [(false,[val (.bool (oF x))])]):=by
 refine sF func109 fun h0 w0 Fz0=>?_
 refine sn 0 2 fun hl0_2=>?_
 refine sn 0 3 fun hl0_3=>?_
 refine om ?_
 refine rH ?_
 refine vt ?_
 refine iC ?_
 refine cx 6 ?_ ?_<;>intro ga sga
 refine rB ga ?_ (x:=lF rU)
 refine zT ?_
 refine rM ?_
 refine cx 11 ?_ ?_<;>intro gb sgb
 refine Do ?_
 refine rB gb ?_ (x:=lN ic)
 refine rB gb ?_ (x:=kL)
 refine hZ ?_
 refine cx 17 ?_ ?_<;>intro gc sgc
 refine IJ ?_
 refine rB gc ?_ (x:=lN bY)
 refine Dl ?_
 exact OE
 refine kl ?_
 exact OE
 refine hY ?_
 exact zyf
 refine ip ?_
 refine rN 11 ?_
 refine dz ?_
 exact zyf
def ayu{x:aC9}:aE prog 108 [(true,[val (vI x.Kind),val (vI x.Row.Id),sl .v (x.Row.Values.map ar),val (vI x.Field),val (vI x.Value)])] (aA [(false,[val (.bool (oG x))])]):=by
 refine sF func108 fun h0 w0 Fz0=>?_
 refine sn 0 2 fun hl0_2=>?_
 refine zO ?_
 refine rH ?_
 refine vl ?_
 refine iC ?_
 refine cx 6 ?_ ?_<;>intro ga sga
 refine AE ?_
 refine rB ga ?_ (x:=lF kW)
 refine zT ?_
 refine rM ?_
 refine cx 12 ?_ ?_<;>intro gb sgb
 refine rB gb ?_ (x:=lF AW)
 refine rB gb ?_ (x:=lF oH)
 refine AG ?_
 refine rB gb ?_ (x:=lN bY)
 refine rB gb ?_ (x:=kL)
 refine hZ ?_
 refine cx 19 ?_ ?_<;>intro gc sgc
 refine rB gc ?_ (x:=lF we)
 refine Dx ?_
 refine rM ?_
 refine cx 24 ?_ ?_<;>intro gd sgd
 refine rB gd ?_ (x:=lF qp)
 refine Rf ?_
 refine rO ?_
 exact OF
 refine vz ?_
 exact OF
 refine kl ?_
 exact zyi
 refine hY ?_
 exact zyj
 refine ip ?_
 refine rN 12 ?_
 refine dz ?_
 exact zyj
def anW{x:fx}:aE prog 40 [(true,[val (vI x.Kind),val (vI x.aC7.Id),val (vI x.aC7.aDb),sl .v (x.aC7.aC8.map bM),sl .v (x.aC7.Out.map ar),val (vI x.Limit),val (vI x.Id),val (vI x.aC9.Kind),val (vI x.aC9.Row.Id),sl .v (x.aC9.Row.Values.map ar),val (vI x.aC9.Field),val (vI x.aC9.Value),val (vI x.Steps)])] (aA [(false,[val (.bool (ew x))])]):=by
 refine sF func40 fun h0 w0 Fz0=>?_
 refine sn 0 3 fun hl0_3=>?_
 refine sn 0 4 fun hl0_4=>?_
 refine sn 0 9 fun hl0_9=>?_
 refine Ii ?_
 refine jd ?_
 refine xE ?_
 refine xw ?_
 refine sc ?_ ?_<;>intro hba
 refine rJ ?_
 refine rA ?_ (x:=lF EB)
 refine CZ ?_
 refine rM ?_
 refine cx 10 ?_ ?_<;>intro ga sga
 refine rB ga ?_ (x:=lF wg)
 refine Jb ?_
 refine rM ?_
 refine cx 15 ?_ ?_<;>intro gb sgb
 refine rB gb ?_ (x:=lF wh)
 refine xn ?_
 refine hZ ?_
 refine cx 20 ?_ ?_<;>intro gc sgc
 refine rB gc ?_ (x:=lF AX)
 refine PT ?_
 refine vD ?_
 refine cx 25 ?_ ?_<;>intro gd sgd
 exact OG
 exact HK
 refine kl ?_
 refine rM ?_
 refine rN 25 ?_
 exact vh
 refine hY ?_
 exact zyq
 refine ip ?_
 refine rN 15 ?_
 refine dz ?_
 exact zyq
 refine xw ?_
 refine sc ?_ ?_<;>intro hbb
 refine rJ ?_
 refine Qq ?_
 refine rM ?_
 refine cx 35 ?_ ?_<;>intro ga sga
 refine Jj ?_
 refine rM ?_
 refine cx 40 ?_ ?_<;>intro gb sgb
 refine rB gb ?_ (x:=lF wh)
 refine ou ?_
 refine Qg ?_
 refine cx 45 ?_ ?_<;>intro gc sgc
 refine rB gc ?_ (x:=lF AX)
 refine PT ?_
 refine vD ?_
 refine cx 50 ?_ ?_<;>intro gd sgd
 exact OG
 exact HK
 refine kl ?_
 refine rM ?_
 refine rN 50 ?_
 exact vh
 refine hY ?_
 exact zyt
 refine ip ?_
 refine rN 40 ?_
 refine dz ?_
 exact zyt
 refine xw ?_
 refine sc ?_ ?_<;>intro hbc
 refine rJ ?_
 refine Qq ?_
 refine rM ?_
 refine cx 60 ?_ ?_<;>intro ga sga
 refine Jj ?_
 refine rM ?_
 refine cx 65 ?_ ?_<;>intro gb sgb
 refine rB gb ?_ (x:=lF wh)
 refine xn ?_
 refine hZ ?_
 refine cx 70 ?_ ?_<;>intro gc sgc
 refine rB gc ?_ (x:=lF AX)
 refine rB gc ?_ (x:=lD tm mD)
 refine rB gc ?_ (x:=cL ti pR Sy (hs:=Mt))
 refine vD ?_
 refine cx 75 ?_ ?_<;>intro gd sgd
 exact OG
 exact HK
 refine kl ?_
 refine rM ?_
 refine rN 75 ?_
 exact vh
 refine hY ?_
 exact zyu
 refine ip ?_
 refine rN 65 ?_
 refine dz ?_
 exact zyu
 refine xw ?_
 refine sc ?_ ?_<;>intro hbd
 refine rJ ?_
 refine Qq ?_
 refine rM ?_
 refine cx 85 ?_ ?_<;>intro ga sga
 refine Jj ?_
 refine rM ?_
 refine cx 90 ?_ ?_<;>intro gb sgb
 refine rB gb ?_ (x:=lF wh)
 refine xn ?_
 refine hZ ?_
 refine cx 95 ?_ ?_<;>intro gc sgc
 refine rB gc ?_ (x:=lF AX)
 refine PT ?_
 refine vD ?_
 refine cx 100 ?_ ?_<;>intro gd sgd
 refine rB gd ?_ (x:=lF EC)
 refine Qa ?_
 refine rO ?_
 refine rS ?_
 exact Cz
 exact HK
 refine kl ?_
 refine rM ?_
 refine rN 100 ?_
 exact vh
 refine hY ?_
 exact zyw
 refine ip ?_
 refine rN 90 ?_
 refine dz ?_
 exact zyw
 refine aK ?_
 refine rJ ?_
 refine rK ?_
 exact Cz
def UL{x:fx}:aE prog 41 [(true,[val (vI x.Kind),val (vI x.aC7.Id),val (vI x.aC7.aDb),sl .v (x.aC7.aC8.map bM),sl .v (x.aC7.Out.map ar),val (vI x.Limit),val (vI x.Id),val (vI x.aC9.Kind),val (vI x.aC9.Row.Id),sl .v (x.aC9.Row.Values.map ar),val (vI x.aC9.Field),val (vI x.aC9.Value),val (vI x.Steps)])] (aA [(false,[val (.bool (ew x))])]):=by
 refine sF func41 fun h0 w0 Fz0=>?_
 refine sn 0 3 fun hl0_3=>?_
 refine sn 0 4 fun hl0_4=>?_
 refine sn 0 9 fun hl0_9=>?_
 refine Ii ?_
 refine rH ?_
 refine Ix ?_
 refine rA ?_ (x:=cz (qs:=[]) (cs:=jL) ak lM yg ar9 aj ao rfl aj)
 refine rA ?_ (x:=cL [(true,jL),(true,jL)] [(true,iB),(true,iB)] arX (hs:=by exact (ayr (x:=x.aC7) (y:=⟨0,0,[],[]⟩))))
 refine rM ?_
 refine cx 9 ?_ ?_<;>intro ga sga
 refine Jj ?_
 refine rS ?_
 refine mx ?_
 refine xl ?_
 refine zyz ?_
 refine Jt ?_
 refine xE ?_
 refine vv ?_
 refine sc ?_ ?_<;>intro hba
 exact zz1
 refine vv ?_
 refine sc ?_ ?_<;>intro hbb
 refine ua ?_
 refine xZ ?_
 refine xK ?_
 refine cx 48 ?_ ?_<;>intro gb sgb
 refine ir ?_
 refine hZ ?_
 refine cx 51 ?_ ?_<;>intro gc sgc
 refine ow ?_
 refine vD ?_
 refine cx 54 ?_ ?_<;>intro gd sgd
 exact zz4
 refine vz ?_
 exact tq
 refine bS.s0f gc ?_
 refine DU ?_
 refine rN 54 ?_
 exact zB
 exact zz7
 refine vv ?_
 refine sc ?_ ?_<;>intro hbc
 refine ua ?_
 refine zz8 ?_
 refine rM ?_
 refine cx 64 ?_ ?_<;>intro gb sgb
 refine ir ?_
 refine hZ ?_
 refine cx 67 ?_ ?_<;>intro gc sgc
 refine rB gc ?_ (x:=lF wh)
 refine Dx ?_
 refine rM ?_
 refine cx 72 ?_ ?_<;>intro gd sgd
 exact zz4
 refine vz ?_
 exact tq
 refine kl ?_
 refine rM ?_
 refine rN 72 ?_
 exact zB
 exact zz9
 refine vv ?_
 refine sc ?_ ?_<;>intro hbd
 refine ua ?_
 refine ya ?_
 refine xK ?_
 refine cx 82 ?_ ?_<;>intro gb sgb
 refine ir ?_
 refine hZ ?_
 refine cx 85 ?_ ?_<;>intro gc sgc
 refine rB gc ?_ (x:=lF wh)
 refine Dx ?_
 refine rM ?_
 refine cx 90 ?_ ?_<;>intro gd sgd
 refine Jc ?_
 exact tq
 refine Jk ?_
 exact tq
 refine kl ?_
 exact zzd
 exact zze
 exact zzf
 refine lG ?_
 refine rS ?_
 refine mx ?_
 refine xl ?_
 refine zyz ?_
 refine Jt ?_
 refine xE ?_
 refine vv ?_
 refine sc ?_ ?_<;>intro hba
 exact zz1
 refine vv ?_
 refine sc ?_ ?_<;>intro hbb
 refine ua ?_
 refine xZ ?_
 refine xK ?_
 refine cx 48 ?_ ?_<;>intro gb sgb
 refine Dy ?_
 exact zzh
 exact zz7
 refine vv ?_
 refine sc ?_ ?_<;>intro hbc
 refine ua ?_
 refine zz8 ?_
 refine rM ?_
 refine cx 64 ?_ ?_<;>intro gb sgb
 refine Dy ?_
 exact zzi
 exact zz9
 refine vv ?_
 refine sc ?_ ?_<;>intro hbd
 refine ua ?_
 refine ya ?_
 refine xK ?_
 refine cx 82 ?_ ?_<;>intro gb sgb
 refine Dy ?_
 exact zzj
 exact zze
 exact zzf
end Go.Proofs.YtmekkgdboplbjaaGreatDoor
