/- The logic. No condition. -/
import Derived.WalkKit
import Derived.Laws.OwnMore
import Derived.Deep.OwnRows
import Derived.Laws.MakeOwn
import Derived.Orders
import Derived.IntWalk
set_option linter.all false
namespace Go.Proofs.YtmekkgdboplbjaaGreatDoor.M
open Go Go.RowKit
variable{F:List Nat}{w w':World}{vs:List Value}{e:Nat}{v:Value}{t p:Nat}{o:Oper}{x:Operand}{b:Bool}{r:Nat}{X:List Nat}{i d:Nat}{g:Option (Nat×Bool)}{l:List Oper}{Q:Exit→Act→World→Prop}{S:Nat→Bool}{β:Type}{s:Nat}{ag:Bool}{off:Nat}{ty:TypeId}{pos:String}{af:Array Edge}{T:Nat}{z:Value}{k E bs f fo m:Nat}
section
variable{G:Prop}
def ak(h:G:=by exact rfl):G:=h
def ab(h:G:=by omega):G:=h
def ai(h:G:=by decide):G:=h
def aq(h:G:=by exact tI):G:=h
def ao(h:G:=by kernel_rfl):G:=h
def DN(h:G:=by exact (az.cons (PV.to_map (fun _=>(az.cons (PV.to_map (fun _=>(aA (az.cons (PV.to_map (fun _=>(aA az.nil))) (aA (aA az.nil)))))) az.nil))) (aA (aA (az.cons (PV.to_map (fun _=>(aA az.nil))) (az.cons (PV.to_map (fun _=>(aA (aA (az.cons (PV.to_map (fun _=>(aA (aA (aA az.nil))))) (az.cons (PV.to_map (fun _=>(aA az.nil))) (aA (az.cons (PV.to_map (fun _=>(aA az.nil))) (aA (aA (aA (az.cons (PV.to_map (fun _=>(aA (az.cons (PV.to_map (fun _=>(aA az.nil))) az.nil)))) az.nil)))))))))))) (az.cons (PV.to_map (fun _=>(aA (aA (az.cons (PV.to_map (fun _=>(aA (aA (aA az.nil))))) (az.cons (PV.to_map (fun _=>(aA az.nil))) (aA (aA (az.cons (PV.to_map (fun _=>(aA (az.cons (PV.to_map (fun _=>(aA az.nil))) az.nil)))) az.nil))))))))) (az.cons (PV.to_map (fun _=>(aA (aA (az.cons (PV.to_map (fun _=>(aA az.nil))) (az.cons (PV.to_map (fun _=>(aA az.nil))) (az.cons (PV.to_map (fun _=>(aA az.nil))) az.nil))))))) (aA az.nil))))))))):G:=h
def ax(h:G:=by exact nl rfl):G:=h
def aJ(h:G:=by exact lq):G:=h
def fR(h:G:=by exact (aS.cons (bor_sl _) aS.nil)):G:=h
def aL(h:G:=by simp):G:=h
def pm(h:G:=by intro L' h;exact nomatch (show (none:Option aM)=some L' from h)):G:=h
def nt(h:G:=by exact (aS.cons (bor_val _) aS.nil)):G:=h
def io(h:G:=by exact (bg az.nil)):G:=h
def uw(h:G:=by rw [aU,List.length_set,aU]):G:=h
def pn(h:G:=by exact (aI (aI rfl (aA az.nil)) tI)):G:=h
def mF(h:G:=by rw [St.setB_b,if_pos rfl]):G:=h
def lQ(h:G:=by exact ⟨rfl,⟨⟩⟩):G:=h
def yL(h:G:=by first|(rw [aU];exact hil)|exact hil):G:=h
def AQ(h:G:=by repeat (first|exact ru.nil|apply ru.val|apply ru.sl)):G:=h
def ux(h:G:=by exact eI h0w (by rw [←wG h0w])):G:=h
def Pr(h:G:=by exact (az.cons PV.to_any (aA (aA (az.cons PV.to_any (az.cons PV.to_any (az.cons PV.to_any (az.cons PV.to_any (aA az.nil))))))))):G:=h
def Io(h:G:=by exact (bg (aA (aA (bg (bg (bg (bg (aA az.nil))))))))):G:=h
def nu(h:G:=by exact aAs):G:=h
def Ip(h:G:=by rw [aU,aU,←e1,aU]):G:=h
def uy(h:G:=by rw [bF]):G:=h
def AR(h:G:=by exact (aI (aI rfl (bg az.nil)) tI)):G:=h
def AS(h:G:=by rw [aU];exact hjk900):G:=h
def Iq(h:G:=by rw [←aU (f:=Prod.fst),hza,yz]):G:=h
def Ps(h:G:=by exact Cp.sv (az.cons (PV.nv_to xc) az.nil) (aS.cons (bor_sl _) aS.nil)):G:=h
def Pt(h:G:=by exact (aA (aA (aA (aA (aA (aA (aA (aA (aA (aA az.nil))))))))))):G:=h
def yM(h:G:=by exact (aI (aY rfl) tI)):G:=h
def Ir(h:G:=by exact (az.cons (PV.nv_to (wU _)) az.nil)):G:=h
def lR(h:G:=by exact lc):G:=h
def wK(h:G:=by exact (aA az.nil)):G:=h
def sY(h:G:=by exact aAr):G:=h
def Is(h:G:=by rw [hend,bF] at ha;exact ha):G:=h
def It(h:G:=by exact (aI (aI rfl (bg (aA az.nil))) tI)):G:=h
def Iu(h:G:=by exact (aA (aA (aA (aA az.nil))))):G:=h
def Pu(h:G:=by exact (aA (aA (bg (bg (aA (aA (bg az.nil)))))))):G:=h
def yN(h:G:=by rw [hlen];exact hrow):G:=h
def DO(h:G:=by exact ⟨rfl,rfl,⟨⟩⟩):G:=h
def aaq(h:G:=by first|exact bC (by rw [axF hlt hc,bj];rfl)|exact bC (by rw [axG hlt hc])):G:=h
def Iv(h:G:=by exact eI h2w (by rw [←wG h2w])):G:=h
def Iw(h:G:=by exact eI h1w (by rw [←wG h1w])):G:=h
def aar(h:G:=by exact (aI (aI rfl (bg (aA (aA (bg (bg (bg (bg (aA az.nil))))))))) (aI (aI rfl (bg az.nil)) tI))):G:=h
def AT(h:G:=by exact (Nm.val Nm.nil)):G:=h
def aas(h:G:=by first|exact bC (by rw [axh hlt hc,bj];rfl)|exact bC (by rw [axi hlt hc])):G:=h
def aat(h:G:=by exact (aI (aI rfl (bg (bg az.nil))) (aI (aI rfl (aA (bg az.nil))) (aI (aI rfl (bg az.nil)) tI)))):G:=h
def aau(h:G:=by exact (aA (aA (aA (bg (bg (aA (aA (aA (aA (bg (aA (aA (aA az.nil)))))))))))))):G:=h
def Pv(h:G:=by exact eI hfp.2 (by rw [dH (d:=kV) hfp.2])):G:=h
def yO(h:G:=by exact aw.nil):G:=h
def Pw(h:G:=by exact (aS.cons (bor_nv (bor_sl _)) aS.nil)):G:=h
def DP(h:G:=by rw [hok.1,hok.2];rfl):G:=h
def aav(h:G:=by exact (Nm.nv (Nm.nv (Nm.nv (Nm.nv (Nm.nv (Nm.nv (Nm.nv (Nm.nv (Nm.nv (Nm.nv Nm.nil))))))))))):G:=h
def Px(h:G:=by rw [←aU (f:=Prod.fst),hza]):G:=h
def aaw(h:G:=by exact (aA (aA (az.cons PV.to_any (az.cons PV.to_any (az.cons PV.to_any az.nil)))))):G:=h
def aax(h:G:=by exact (aI (aI rfl (bg (aA (aA (bg (bg (bg (bg (aA az.nil))))))))) tI)):G:=h
def Ix(h:G:=by exact (aA (bg az.nil))):G:=h
def Py(h:G:=by exact (aA (aA (bg (bg az.nil))))):G:=h
def aay(h:G:=by exact (aA (aA (bg (bg (aA (bg (aA (aA (aA (bg az.nil))))))))))):G:=h
def Iy(h:G:=by rw [yz];exact hltm):G:=h
def DQ(h:G:=by rw [List.drop_zero]):G:=h
def uz(h:G:=by cases hd):G:=h
def Pz(h:G:=by exact eI h3w (by rw [←wG h3w])):G:=h
def Iz(h:G:=by rw [Yj];exact hltm):G:=h
def PD(h:G:=by exact (atA (x:=gC s))):G:=h
def aaz(h:G:=by exact bC (by rw [oG hlt,bj,hla];rfl)):G:=h
def aaA(h:G:=by exact Cp.sv (aA az.nil) (aS.cons (bor_nv (bor_sl _)) aS.nil)):G:=h
def aaB(h:G:=by exact bC (by rw [oG hlt,bj];rfl)):G:=h
def aaC(h:G:=by intro L' h;exact Option.some.inj (show some _=some L' from h)):G:=h
def aaD(h:G:=by rw [hz3];exact hnd):G:=h
def IA(h:G:=by rw [hws];exact hll):G:=h
def aaE(h:G:=by exact Cp.sv (aA az.nil) (aS.cons (bor_err _) aS.nil)):G:=h
def IB(h:G:=by exact auv):G:=h
def aaF(h:G:=by rw [←List.drop_eq_getElem_cons hk,iq]):G:=h
def aaG(h:G:=by exact eI hff (by rw [dH (d:=([]:List eT)) hff])):G:=h
def PE(h:G:=by exact (bg (bg az.nil))):G:=h
def PF(h:G:=by exact (bg (aA az.nil))):G:=h
def IC(h:G:=by exact aAu):G:=h
def aaH(h:G:=by rw [List.nil_append];exact (List.nodup_append.1 hnd).1):G:=h
def aaI(h:G:=by first|(rw [aU];exact hum)|exact hum):G:=h
def aaJ(h:G:=by first|(rw [aU];exact hru)|exact hru):G:=h
def PG(h:G:=by rw [←hX0];exact c1.nod 0):G:=h
def ID(h:G:=by exact aAP):G:=h
def aaK(h:G:=by rw [aU,←hz900,aU]):G:=h
def aaL(h:G:=by exact eI hrf (by rw [dH (d:=(0:Int)) hrf])):G:=h
def IE(h:G:=by exact aAD):G:=h
def IF(h:G:=by exact aAt):G:=h
def aaM(h:G:=by rw [←List.flatten_append,iq]):G:=h
def aaN(h:G:=by exact (aA (aA (bg (aA (aA az.nil)))))):G:=h
def aaO(h:G:=by rw [bv,hown.1,hnl,Nat.add_mul]):G:=h
def aaP(h:G:=by rw [←hz900,aU] at hi;exact hi):G:=h
def aaQ(h:G:=by rw [NZ hm1 hm2,←hz3];exact arJ hbc):G:=h
def aaR(h:G:=by exact (atw (q:=oj (an 32 s)))):G:=h
def aaS(h:G:=by rw [←wa hok];exact List.getElem_mem hlt):G:=h
def aaT(h:G:=by rw [NZ hm1 hm2,←hz3];exact arK hbc):G:=h
def aaU(h:G:=by rw [hoff,mK hf (Nat.le_of_lt hk)];rfl):G:=h
def aaV(h:G:=by exact (NN (x:=oj (an 32 s)))):G:=h
def PH(h:G:=by unfold eg;rw [hu]):G:=h
def PJ(h:G:=by rw [List.map_cons,e1]):G:=h
def PK(h:G:=by unfold sf;rw [ha]):G:=h
def PL(h:G:=by rw [←eu];exact ev):G:=h
def PM(h:G:=by exact aHn):G:=h
def PN(h:G:=by exact aAT):G:=h
def PO(h:G:=by unfold lL;rw [ha]):G:=h
def aaW(h:G:=by exact (az.cons (axN rfl) az.nil)):G:=h
def IG(h:G:=by exact Cp.sc):G:=h
def aaX(h:G:=by rw [aU,List.length_range]):G:=h
def aaY(h:G:=by rw [aU];exact hjk930):G:=h
def aaZ(h:G:=by rw [hle];exact List.getElem_mem hlt):G:=h
def PP(h:G:=by rw [h2];exact h1):G:=h
def aa0(h:G:=by rw [←hls];exact List.length_dropLast):G:=h
def PQ(h:G:=by exact aAx):G:=h
def PR(h:G:=by exact aAG):G:=h
def aa1(h:G:=by rw [aU];exact hhi):G:=h
def aa2(h:G:=by exact ⟨rfl,rfl,rfl,⟨⟩⟩):G:=h
def aa3(h:G:=by unfold jD;rw [oG hlt]):G:=h
def aa4(h:G:=by unfold jD;rw [aU]):G:=h
def bo(h:G:=by simp only [aU,bv,List.length_cons,List.length_nil];omega):G:=h
def fk(h:G:=by first|(simp_all;done)|(constructor<;>first|omega|(simp_all;done))|(rintro ⟨a_,b_⟩;first|omega|(simp_all;done)|(simp_all;omega))):G:=h
def br(h:G:=by unfold dN;omega):G:=h
def lS(h:G:=by first|(simp_all;done)|omega|(simp_all;omega)|(rintro ⟨a_,b_⟩;first|omega|(simp_all;done)|(simp_all;omega))):G:=h
def bD(h:G:=by exact eI ab rfl):G:=h
def bp(h:G:=by exact aI ak tI):G:=h
def ia(h:G:=by first|assumption|omega|(simp_all;done)|(simp_all;omega)):G:=h
def bP(h:G:=by exact (aI aq tI)):G:=h
def dm(h:G:=by rw [cc];omega):G:=h
def dL(h:G:=by exact aI ak (aI ak tI)):G:=h
def qi(h:G:=by first|(intro cs hcs;obtain ⟨x,_,rfl⟩:=List.mem_map.1 hcs;exact rfl)|simp):G:=h
def uA(h:G:=by first|(intro cs hcs;obtain ⟨x,_,rfl⟩:=List.mem_map.1 hcs;exact (aS.cons (bor_val _) aS.nil))|simp):G:=h
def lg(h:G:=by exact aI (by first|exact rfl|simp) (aI ak tI)):G:=h
def IH(h:G:=by exact cy (by rw [hp];first|done|rfl|(dsimp only;first|rfl|omega|(rw [if_pos (by first|assumption|omega|exact ⟨ab,ab⟩)];done)|(rw [if_neg (by first|assumption|omega|(rintro ⟨a_,b_⟩;omega))];done)|(rw [if_pos ab];omega)|(split<;>omega)))):G:=h
def cZ(h:G:=by simpa using hba):G:=h
def iQ(h:G:=by exact (aI aq (aI aq tI))):G:=h
def lh(h:G:=by exact cy ab):G:=h
def gH(h:G:=by exact ⟨ab,rfl⟩):G:=h
def ra(h:G:=by intro c hc;obtain ⟨y,_,rfl⟩:=List.mem_map.1 hc;exact rfl):G:=h
def kI(h:G:=by exact (aS.cons (hbo _) aJ)):G:=h
def lj(h:G:=by first|omega|(simp_all;omega)):G:=h
def yP(h:G:=by first|(simp;omega)|(simp;done)|(simp_all;done)|(simp_all;omega)|omega):G:=h
def DR(h:G:=by simp only [bv,cc,ll,auf,List.length_cons,List.length_nil];omega):G:=h
def kd(h:G:=by exact ⟨ab,aL⟩):G:=h
def gt(h:G:=by simpa using hbb):G:=h
def aa5(h:G:=by exact aI (by show _=some (46,[sl bI (e.Store.aJr.map (aQ ba aj)),val (vI e.Store.Now),val (vI e.aJw),sl aj (e.Order.map ar),sl .v (za.map iw),sl cw ((e.Done++kC e (parts e).length 0).map (bS aG aj aK aj)),sl cD ((kD e (parts e).length).map (bL aj aj aj)),val (vI e.Steps)]);rw [show kC e (parts e).length 0=[] from rfl,fS];exact rfl) tI):G:=h
def gI(h:G:=by simpa using hbc):G:=h
def gJ(h:G:=by rw [h];simp):G:=h
def II(h:G:=by simp only [aU,bv,List.length_cons,List.length_nil,ll,cc];omega):G:=h
def wL(h:G:=by exact ⟨ab,fun h=>absurd h (Nat.lt_irrefl 0)⟩):G:=h
def sZ(h:G:=by exact (aI aq (aI aq (aI aq tI)))):G:=h
def ta(h:G:=by exact aI ak (aI ak (aI ak tI))):G:=h
def DS(h:G:=by unfold nq;first|omega|(rw [aHc hlt];omega)|(simp_all;done)|(simp_all;omega)):G:=h
def yQ(h:G:=by exact (aI aq (aI aq (aI aq (aI aq tI))))):G:=h
def tb(h:G:=by first|exact hbd|simpa using hbd):G:=h
def DT(h:G:=by simp only [bv,List.length_cons,List.length_nil];omega):G:=h
def IJ(h:G:=by first|(simp_all;done)|(cases h1_:aV e<;>cases h2_:(fh e.Store u).2<;>simp_all)):G:=h
def yR(h:G:=by rw [aU,cc];omega):G:=h
def tc(h:G:=by simp [eqGuard,binOp,Op.intCmp]):G:=h
def ib(h:G:=by simp [hx]):G:=h
def IK(h:G:=by first|(simp_all;done)|(cases h1_:aV e<;>cases h2_:eC x<;>simp_all)):G:=h
def uB(h:G:=by rw [ll];omega):G:=h
def hI(h:G:=by simp [mv]):G:=h
def IL(h:G:=by cases h1:cv s<;>cases h2:aE i 0 (s.aJr.length - 1)<;>simp_all):G:=h
def AU(h:G:=by simp only [dt,fL,bf];omega):G:=h
def yS(h:G:=by exact (aI (aY rfl) (aI aq tI))):G:=h
def AV(h:G:=by simp only [ew,fL,bf];omega):G:=h
def IM(h:G:=by first|(simp_all [mw];done)|(unfold mw;simp_all)):G:=h
def PT(h:G:=by first|(intro cs hcs;obtain ⟨x,_,rfl⟩:=List.mem_map.1 hcs;exact aJ)|simp):G:=h
def IN(h:G:=by first|(simp_all [mn];done)|(simp_all [mn];omega)):G:=h
def qj(h:G:=by rw [hok];simp):G:=h
def wM(h:G:=by exact aAv ab):G:=h
def AW(h:G:=by exact ⟨ab,fun _=>hok⟩):G:=h
def rc(h:G:=by simpa using hq):G:=h
def IP(h:G:=by first|(simp_all [iu];done)|simpa [iu] using hbb):G:=h
def DU(h:G:=by rw [hgk];first|assumption|simp_all):G:=h
def aa6(h:G:=by exact aI (by exact bC (by rw [oG hlt,bj];simp only [List.map_cons,List.map_nil];rw [←dH hfl];rfl)) (aI ak tI)):G:=h
def qk(h:G:=by rw [h.2];simp):G:=h
def DV(h:G:=by rcases hb with hb|hb<;>simp [hb]):G:=h
def PU(h:G:=by first|(simp_all [fb,gx];done)|(simp_all [fb,gx];omega)):G:=h
def IQ(h:G:=by exact aI (by exact cy aL) (aI ak tI)):G:=h
def aa7(h:G:=by rw [←Bool.not_eq_true];intro hc_;obtain ⟨h1_,h2_,h3_,h4_,h5_⟩:=AC hc_;first|omega|(simp_all;done)|(simp_all;omega)):G:=h
def AX(h:G:=by first|exact hf2|omega):G:=h
def IR(h:G:=by first|(simp_all;done)|(simp_all;omega)):G:=h
def IS(h:G:=by rw [show x.length=k by omega];exact ha):G:=h
def aa8(h:G:=by first|exact bC (by rw [axZ hlj aaD,bj];exact rfl)|exact bC (by rw [ax0 hlj aaD])):G:=h
def uC(h:G:=by simpa using hbe):G:=h
def PW(h:G:=by cases h1_:aV e<;>cases h2_:ci o<;>simp_all):G:=h
def wN(h:G:=by dsimp only;omega):G:=h
def aa9(h:G:=by simp only [aU,bv,List.length_cons,List.length_nil,ll];omega):G:=h
def aba(h:G:=by first|exact (congrArg (IntKind.wrap .i64) adt).trans (IntWalk.i64_in _ ab)|exact IntWalk.i64_in _ ab):G:=h
def abb(h:G:=by first|exact (congrArg (IntKind.wrap .u8) adt).trans (IntWalk.u8_in _ ab)|exact IntWalk.u8_in _ ab):G:=h
def IT(h:G:=by have:=gb;(try simp at this);omega):G:=h
def AY(h:G:=by simp [Value.ownBlock]):G:=h
def abc(h:G:=by first|exact Zr h0|(rw [Ia h0];have:=hb_;(try simp at this);show ¬s[0].toNat=45;omega)):G:=h
def PX(h:G:=by rw [hoff];simp only [bv];omega):G:=h
def PY(h:G:=by rw [←List.drop_eq_getElem_cons hltz];exact rfl):G:=h
def ql(h:G:=by simp [h]):G:=h
def PZ(h:G:=by exact eI ab (by rw [dH (d:=0) ab])):G:=h
def abd(h:G:=by exact aI (by rw [show j=zss[i].length by omega,bF,axV hlz];exact rfl) tI):G:=h
def IU(h:G:=by rw [hga];simpa [gy] using hbd):G:=h
def IV(h:G:=by rw [aU];omega):G:=h
def yT(h:G:=by simpa using hi):G:=h
def abe(h:G:=by unfold la;rw [show j=s.aJr[i].length by omega,bF] at hc;exact hc):G:=h
def Qa(h:G:=by rw [acE,cc];simp;omega):G:=h
def abf(h:G:=by unfold qf;rw [aU];exact Nat.le_trans (kh _ _) ab):G:=h
def DW(h:G:=by apply Array.ext';simp):G:=h
def IW(h:G:=by rw [←hz3];simpa using hbd):G:=h
def abg(h:G:=by exact aI (by exact cy (by rw [axJ hlt,hwo];try omega)) (aI ak tI)):G:=h
def AZ(h:G:=by simpa using hl):G:=h
def Ba(h:G:=by simpa using hn):G:=h
def abh(h:G:=by exact (Ig (by simp only [cc,ll];omega))):G:=h
def Bb(h:G:=by simpa using hx):G:=h
def wP(h:G:=by simp [hr]):G:=h
def abi(h:G:=by exact aI ak (aI (by simp only [ml,bj];exact rfl) tI)):G:=h
def yU(h:G:=by simp [pb]):G:=h
def abj(h:G:=by rw [←hFp1];simp only [if_true];congr 1;simp only [mv,if_true];rw [e2]):G:=h
def Qb(h:G:=by have:=ga;(try simp at this);omega):G:=h
def Qc(h:G:=by have:=gc;(try simp at this);omega):G:=h
def wQ(h:G:=by simp [k]):G:=h
def IX(h:G:=by exact (Ig ab)):G:=h
def IY(h:G:=by simpa [jW] using hbb):G:=h
def Bc(h:G:=by rw [e];simp):G:=h
def IZ(h:G:=by simpa [nJ] using hbb):G:=h
def Qd(h:G:=by simp [eqGuard,binOp,Op.intArith]):G:=h
def abk(h:G:=by cases h1:bq x.aJt<;>cases h2:jj x.Rows<;>simp_all):G:=h
def DX(h:G:=by simpa using hu):G:=h
def Qe(h:G:=by exact (aBY ab)):G:=h
def Qf(h:G:=by show (0:Int)≤100000;decide):G:=h
def Ja(h:G:=by rw [hr];exact rfl):G:=h
def abl(h:G:=by exact (aI aq (aI aq (aI aq (aI (aY rfl) tI))))):G:=h
def abm(h:G:=by exact (aI (aY rfl) (aI aq (aI aq (aI aq tI))))):G:=h
def abn(h:G:=by exact aI (by rw [hend0,bF];exact rfl) tI):G:=h
def abo(h:G:=by exact aI (by rw [hend1,bF];exact rfl) tI):G:=h
def abp(h:G:=by first|omega|(simp only [aU] at hbc;omega)):G:=h
def abq(h:G:=by first|omega|(simp only [aU] at hbd;omega)):G:=h
def Qg(h:G:=by exact (XG hbo ab)):G:=h
def abr(h:G:=by exact (aFr hbo (by first|assumption|omega))):G:=h
def abt(h:G:=by exact cy (by rw [hsn];try dsimp only;try omega)):G:=h
def abu(h:G:=by rw [show k+(j+1)=k+1+j by omega];exact hs):G:=h
def abv(h:G:=by rw [show k+(i+1)=k+1+i by omega];exact hs):G:=h
def abw(h:G:=by rw [show i+(j+1)=i+1+j by omega];exact hs):G:=h
def Jb(h:G:=by simp [St.setB_b]):G:=h
def DY(h:G:=by simp [←hza]):G:=h
def abx(h:G:=by simp only [aQ,bj];exact rfl):G:=h
def Qh(h:G:=by exact (XT ab)):G:=h
def Jc(h:G:=by simpa [] using hbb):G:=h
def aby(h:G:=by rw [sB ai,sz (kF ai)]):G:=h
def abz(h:G:=by rw [hend,bF] at hbf;simpa using hbf):G:=h
def Qi(h:G:=by exact aBL ab):G:=h
def abA(h:G:=by rw [show x.Values.length=k by omega];exact ha):G:=h
def abB(h:G:=by rw [show e.aJE.length=k by omega];exact ha):G:=h
def abC(h:G:=by exact (aI (aY rfl) (aI aq (aI aq tI)))):G:=h
def abD(h:G:=by rw [show q.aJu.length=k by omega];exact ha):G:=h
def Jd(h:G:=by simpa using hr):G:=h
def abE(h:G:=by rw [cc,ll];omega):G:=h
def Je(h:G:=by simpa using hs):G:=h
def Qj(h:G:=by exact (aBX ab)):G:=h
def abF(h:G:=by rw [show e.Done.length=k by omega];exact ha):G:=h
def abG(h:G:=by unfold oZ;rw [hoe,decide_eq_true hge];rfl):G:=h
def abH(h:G:=by rw [←aCk hoe hlt hi hid];exact rfl):G:=h
def Jf(h:G:=by simp_all [tZ]):G:=h
def Qk(h:G:=by rw [atd];simp_all):G:=h
def Jg(h:G:=by simp_all [kW]):G:=h
def abI(h:G:=by intro b hb;simp [eQ] at hb ⊢;exact hb):G:=h
def abJ(h:G:=by simp only [mv];rw [if_neg ab,if_neg ab]):G:=h
def abK(h:G:=by have h_:=hpr;simp [tX,aE] at h_;omega):G:=h
def abL(h:G:=by have:=hrw k ab;rwa [←dH hlt] at this):G:=h
def abM(h:G:=by have:=hrw k ab;rwa [←dH hrl] at this):G:=h
def DZ(h:G:=by simp [hp]):G:=h
def Jh(h:G:=by simpa using e2):G:=h
def Ji(h:G:=by simp_all [nL]):G:=h
def Jj(h:G:=by simpa using h1):G:=h
def abN(h:G:=by first|exact hbb|(simp_all;done)|omega):G:=h
def abO(h:G:=by exact ⟨ab,CT ha hlt hno1⟩):G:=h
def abP(h:G:=by exact aI (by rw [hcs];exact rfl) tI):G:=h
def abQ(h:G:=by exact (aI aq (aI (aY rfl) tI))):G:=h
def Jk(h:G:=by simp at hb):G:=h
def abR(h:G:=by have:=hba;(try simp at this);omega):G:=h
def abS(h:G:=by rw [←hp];congr 1;simp;omega):G:=h
def abT(h:G:=by have:=gb;simp at this;simp [this]):G:=h
def abU(h:G:=by rw [←hph,←hz4];simpa using ga):G:=h
def kf(h:G:=by first|omega|(simp_all;done)|(simp_all;omega)):G:=h
def jc(h:G:=by exact (aBu br)):G:=h
def kJ(h:G:=by exact (aBt br)):G:=h
def lT(h:G:=by exact aI lh tI):G:=h
def jq(h:G:=by simp;omega):G:=h
def wR(h:G:=by first|exact hbc|simpa using hbc):G:=h
def ej(h:G:=by rfl):G:=h
def Bd(h:G:=by first|exact hbb|simpa using hbb):G:=h
def qm(h:G:=by simpa using hbd):G:=h
def Ql(h:G:=by unfold lG;rw [aU,cc];omega):G:=h
def Jl(h:G:=by first|exact hbe|simpa using hbe):G:=h
def abV(h:G:=by simp only [aE,aR,decide_eq_true_eq] at *;unfold dN;omega):G:=h
def abW(h:G:=by rw [cI hk,ic];simp [h]):G:=h
def abX(h:G:=by unfold nc;rw [hp1];first|(simp_all;done)|(simp_all;omega)):G:=h
def yV(h:G:=by simp [hb]):G:=h
def Qm(h:G:=by exact aI ak (aI lh tI)):G:=h
def abY(h:G:=by unfold jD;rw [aU,cc];omega):G:=h
def abZ(h:G:=by rw [aca];exact ⟨j,dm,aL⟩):G:=h
def ab0(h:G:=by unfold rU;rw [aU,cc];omega):G:=h
def ab1(h:G:=by unfold qY;first|(simp_all;done)|(simp_all;omega)):G:=h
def Qn(h:G:=by unfold aV;rw [h];simp):G:=h
def ab2(h:G:=by rw [←hz3,←axU,←hme];simpa using hbe):G:=h
def Jm(h:G:=by simpa using hbf):G:=h
def ab3(h:G:=by unfold sr;first|omega|(simp_all;omega)):G:=h
def ab4(h:G:=by first|(simpa using hba)|(simp_all;done)):G:=h
def ab5(h:G:=by rw [huk];first|exact hba|simpa using hba):G:=h
def ab6(h:G:=by first|simpa using hbc|(simp_all;done)):G:=h
def ab7(h:G:=by first|simpa using hbb|(simp_all;done)):G:=h
def da(h:G:=by simp_all):G:=h
def qn(h:G:=by simpa using h):G:=h
def Qo(h:G:=by intro cs hcs;obtain ⟨x,_,rfl⟩:=List.mem_map.1 hcs;exact aJ):G:=h
def Qp(h:G:=by intro cs hcs;obtain ⟨x,_,rfl⟩:=List.mem_map.1 hcs;exact rfl):G:=h
def Qq(h:G:=by first|rfl|omega):G:=h
def Jn(h:G:=by rw [huk];first|exact hbb|simpa using hbb):G:=h
def Ea(h:G:=by first|omega|(simp_all;done)):G:=h
def ab8(h:G:=by unfold AO;rw [hre];first|exact hbb|simpa using hbb):G:=h
def ab9(h:G:=by rw [huk];first|exact hbc|simpa using hbc):G:=h
end
def aU:=@List.length_map
def bv:=@List.length_append
def bn:=@List.append_assoc
def cc:=@List.length_take
def fm:=@List.mem_append
def dD:=@List.nodup_append
def Jo:=@List.mem_map
def bj:=@List.map_append
def cI:=@List.take_succ_eq_append_getElem
def bF:=@List.take_length
def nw:=@List.all_eq_true
def ip:=@List.mem_cons
def kg:=@List.nodup_cons
def iq:=@List.take_append_drop
def aR:=@Bool.and_eq_true
def bc:=@Exists.intro
def jd:=@List.eq_nil_of_length_eq_zero
def jr:=@List.Perm.append_left
def lU:=@List.Perm.append_right
def ll:=@List.length_drop
def aca:=@List.mem_iff_getElem
def tf:=@List.take_of_length_le
def kh:=@List.length_filter_le
def ny:=@List.perm_append_comm
def ic:=@List.filter_append
def fS:=@List.append_nil
section
abbrev aC:=Nat→Nat→Prop
def jt(Fz:aC)(w:World)(Fz':aC)(w':World):Prop:=∀b o,Fz b o→Fz' b o∧w'.cell? ⟨b,o,none⟩=w.cell? ⟨b,o,none⟩
def jt.refl(Fz:aC)(w:World):jt Fz w Fz w:=fun _ _ h=>⟨h,rfl⟩
def mG(F:List Nat)(Fz:aC)(w:World)(Fz':aC)(w':World):Prop:=∀b,b∈F→w'.heap[b]?=w.heap[b]?∧∀o,Fz' b o→Fz b o
def mG.refl(F:List Nat)(Fz:aC)(w:World):mG F Fz w Fz w:=fun _ _=>⟨rfl,fun _ h=>h⟩
def mG.sub{G:List Nat}{Fz Fz':aC}(h:mG F Fz w Fz' w')(hs:∀b,b∈G→b∈F):mG G Fz w Fz' w':=fun b hb=>h b (hs b hb)
structure PV where
 rel:aC→World→Value→Prop
 own:aC→World→Value→List Nat→Prop
 one:∀{Fz:aC} {w:World} {v:Value},rel Fz w v→v.oneCell'=true
 toRel:∀{Fz:aC} {w:World} {v:Value} {F:List Nat},own Fz w v F→rel Fz w v
 relMono:∀{Fz Fz':aC} {w w':World} {v:Value},rel Fz w v→jt Fz w Fz' w'→rel Fz' w' v
 ownMono:∀{Fz Fz':aC} {w w':World} {v:Value} {F:List Nat},own Fz w v F→jt Fz w Fz' w'→mG F Fz w Fz' w'→own Fz' w' v F
 lt:∀{Fz:aC} {w:World} {v:Value} {F:List Nat},own Fz w v F→∀b,b∈F→b < w.heap.size
def PV.val(x:Value):PV where
 rel _ _ v:=v=x∧x.oneCell'=true
 own _ _ v F:=(v=x∧x.oneCell'=true)∧F=[]
 one h:=by rw [h.1];exact h.2
 toRel h:=h.1
 relMono h _:=h
 ownMono h _ _:=h
 lt h:=qk
def cC:List PV→aC→World→List Value→Prop
 | [],_,_,vs=>vs=[]
 | p::ps,Fz,w,vs=>∃v vs',vs=v::vs'∧p.rel Fz w v∧cC ps Fz w vs'
def aN:List PV→aC→World→List Value→List Nat→Prop
 | [],_,_,vs,F=>vs=[]∧F=[]
 | p::ps,Fz,w,vs,F=>∃v vs' F1 F2,vs=v::vs'∧F=F1++F2∧p.own Fz w v F1∧aN ps Fz w vs' F2
def cX(e:Nat):List (List PV)→aC→World→List Value→List Nat→Prop
 | [],_,_,vs,F=>vs=[]∧F=[]
 | cs::es,Fz,w,vs,F=>∃c d F1 F2,vs=c++d∧F=F1++F2∧c.length=e∧aN cs Fz w c F1∧cX e es Fz w d F2
section
variable{Fz Fz':aC}{w w':World}
def cC.len:∀{ps:List PV} {vs:List Value},cC ps Fz w vs→vs.length=ps.length
 | [],vs,h=>by rw [show vs=[] from h];rfl
 | p::ps,vs,h=>by obtain ⟨v,vs',rfl,_,h2⟩:=h;simp [cC.len h2]
def cC.one:∀{ps:List PV} {vs:List Value},cC ps Fz w vs→∀v,v∈vs→v.oneCell'=true
 | [],vs,h=>by rw [show vs=[] from h];simp
 | p::ps,vs,h=>by
  obtain ⟨v,vs',rfl,h1,h2⟩:=h;intro u hu;rcases List.mem_cons.1 hu with rfl|hu;·exact p.one h1
  ·exact cC.one h2 u hu
def cC.mono:∀{ps:List PV} {vs:List Value},cC ps Fz w vs→jt Fz w Fz' w'→cC ps Fz' w' vs
 | [],_,h,_=>h
 | p::ps,vs,h,k=>by obtain ⟨v,vs',rfl,h1,h2⟩:=h;exact ⟨v,vs',rfl,p.relMono h1 k,cC.mono h2 k⟩
def cC.at_:∀{ps:List PV} {vs:List Value},cC ps Fz w vs→∀{j:Nat} {p:PV},ps[j]?=some p→∃v,vs[j]?=some v∧p.rel Fz w v
 | [],vs,_,j,p,hp=>by simp at hp
 | q::ps,vs,h,0,p,hp=>by obtain ⟨v,vs',rfl,h1,_⟩:=h;simp at hp;subst hp;exact ⟨v,rfl,h1⟩
 | q::ps,vs,h,j+1,p,hp=>by obtain ⟨v,vs',rfl,_,h2⟩:=h;simp at hp;simpa using cC.at_ h2 hp
def cC.of_at:∀{ps:List PV} {vs:List Value},vs.length=ps.length→(∀(j:Nat) (p:PV) (v:Value),ps[j]?=some p→vs[j]?=some v→p.rel Fz w v)→cC ps Fz w vs
 | [],[],_,_=>rfl
 | p::ps,v::vs,hl,h=>⟨v,vs,rfl,h 0 p v rfl rfl,cC.of_at AZ fun j q u hq hu=>h (j+1) q u rc DX⟩
def cC.append:∀{ps qs:List PV} {vs us:List Value},cC ps Fz w vs→cC qs Fz w us→cC (ps++qs) Fz w (vs++us)
 | [],_,vs,_,h,k=>by rw [show vs=[] from h];exact k
 | p::ps,_,vs,_,h,k=>by obtain ⟨v,vs',rfl,h1,h2⟩:=h;exact ⟨v,_,rfl,h1,cC.append h2 k⟩
def cC.split:∀{ps qs:List PV} {vs:List Value},cC (ps++qs) Fz w vs→∃v1 v2,vs=v1++v2∧cC ps Fz w v1∧cC qs Fz w v2
 | [],_,vs,h=>⟨[],vs,rfl,rfl,h⟩
 | p::ps,_,vs,h=>by obtain ⟨v,vs',rfl,h1,h2⟩:=h;obtain ⟨v1,v2,rfl,k1,k2⟩:=cC.split h2;exact ⟨v::v1,v2,rfl,⟨v,v1,rfl,h1,k1⟩,k2⟩
def aN.rel:∀{ps:List PV} {vs:List Value} {F:List Nat},aN ps Fz w vs F→cC ps Fz w vs
 | [],_,_,h=>h.1
 | p::ps,vs,_,h=>by obtain ⟨v,vs',F1,F2,rfl,_,h1,h2⟩:=h;exact ⟨v,vs',rfl,p.toRel h1,aN.rel h2⟩
def aN.len{ps:List PV}(h:aN ps Fz w vs F):vs.length=ps.length:=h.rel.len
def aN.one{ps:List PV}(h:aN ps Fz w vs F):∀v,v∈vs→v.oneCell'=true:=h.rel.one
def aN.mono:∀{ps:List PV} {vs:List Value} {F:List Nat},aN ps Fz w vs F→jt Fz w Fz' w'→mG F Fz w Fz' w'→aN ps Fz' w' vs F
 | [],_,_,h,_,_=>h
 | p::ps,vs,_,h,k,hh=>by obtain ⟨v,vs',F1,F2,rfl,rfl,h1,h2⟩:=h;exact ⟨v,vs',F1,F2,rfl,rfl,p.ownMono h1 k (hh.sub fun b hb=>by simp [hb]),aN.mono h2 k (hh.sub fun b hb=>by simp [hb])⟩
def aN.lt:∀{ps:List PV} {vs:List Value} {F:List Nat},aN ps Fz w vs F→∀b,b∈F→b < w.heap.size
 | [],_,_,h=>by rw [h.2];simp
 | p::ps,vs,_,h=>by
  obtain ⟨v,vs',F1,F2,rfl,rfl,h1,h2⟩:=h;intro b hb;rcases List.mem_append.1 hb with hb|hb;·exact p.lt h1 b hb
  ·exact aN.lt h2 b hb
def aN.append:∀{ps qs:List PV} {vs us:List Value} {F G:List Nat},aN ps Fz w vs F→aN qs Fz w us G→aN (ps++qs) Fz w (vs++us) (F++G)
 | [],_,vs,_,F,_,h,k=>by rw [show vs=[] from h.1,show F=[] from h.2];exact k
 | p::ps,_,vs,us,_,G,h,k=>by obtain ⟨v,vs',F1,F2,rfl,rfl,h1,h2⟩:=h;exact ⟨v,vs'++us,F1,F2++G,rfl,aL,h1,aN.append h2 k⟩
def aN.split:∀{ps qs:List PV} {vs:List Value} {F:List Nat},aN (ps++qs) Fz w vs F→∃v1 v2 F1 F2,vs=v1++v2∧F=F1++F2∧aN ps Fz w v1 F1∧aN qs Fz w v2 F2
 | [],_,vs,F,h=>⟨[],vs,[],F,rfl,rfl,⟨rfl,rfl⟩,h⟩
 | p::ps,_,vs,_,h=>by obtain ⟨v,vs',G1,G2,rfl,rfl,h1,h2⟩:=h;obtain ⟨v1,v2,F1,F2,rfl,rfl,k1,k2⟩:=aN.split h2;exact ⟨v::v1,v2,G1++F1,F2,rfl,aL,⟨v,v1,G1,F1,rfl,rfl,h1,k1⟩,k2⟩
def cX.len:∀{es:List (List PV)} {vs:List Value} {F:List Nat},cX e es Fz w vs F→vs.length=es.length * e
 | [],vs,_,h=>by rw [show vs=[] from h.1];simp
 | cs::es,vs,_,h=>by obtain ⟨c,d,F1,F2,rfl,_,hl,_,h2⟩:=h;rw [bv,hl,cX.len h2,List.length_cons,Nat.succ_mul];omega
def cX.one:∀{es:List (List PV)} {vs:List Value} {F:List Nat},cX e es Fz w vs F→∀v,v∈vs→v.oneCell'=true
 | [],vs,_,h=>by rw [show vs=[] from h.1];simp
 | cs::es,vs,_,h=>by
  obtain ⟨c,d,F1,F2,rfl,_,_,h1,h2⟩:=h;intro v hv;rcases List.mem_append.1 hv with hv|hv;·exact h1.one v hv
  ·exact cX.one h2 v hv
def cX.mono:∀{es:List (List PV)} {vs:List Value} {F:List Nat},cX e es Fz w vs F→jt Fz w Fz' w'→mG F Fz w Fz' w'→cX e es Fz' w' vs F
 | [],_,_,h,_,_=>h
 | cs::es,vs,_,h,k,hh=>by obtain ⟨c,d,F1,F2,rfl,rfl,hl,h1,h2⟩:=h;exact ⟨c,d,F1,F2,rfl,rfl,hl,h1.mono k (hh.sub fun b hb=>by simp [hb]),cX.mono h2 k (hh.sub fun b hb=>by simp [hb])⟩
def cX.lt:∀{es:List (List PV)} {vs:List Value} {F:List Nat},cX e es Fz w vs F→∀b,b∈F→b < w.heap.size
 | [],_,_,h=>by rw [h.2];simp
 | cs::es,vs,_,h=>by
  obtain ⟨c,d,F1,F2,rfl,rfl,_,h1,h2⟩:=h;intro b hb;rcases List.mem_append.1 hb with hb|hb;·exact h1.lt b hb
  ·exact cX.lt h2 b hb
def cX.append:∀{es ds:List (List PV)} {vs us:List Value} {F G:List Nat},cX e es Fz w vs F→cX e ds Fz w us G→cX e (es++ds) Fz w (vs++us) (F++G)
 | [],_,vs,_,F,_,h,k=>by rw [show vs=[] from h.1,show F=[] from h.2];exact k
 | cs::es,_,vs,us,_,G,h,k=>by obtain ⟨c,d,F1,F2,rfl,rfl,hl,h1,h2⟩:=h;exact ⟨c,d++us,F1,F2++G,aL,aL,hl,h1,cX.append h2 k⟩
def cX.lens:∀{es:List (List PV)} {vs:List Value} {F:List Nat},cX e es Fz w vs F→∀cs,cs∈es→cs.length=e
 | [],_,_,_=>by simp
 | cs::es,vs,_,h=>by
  obtain ⟨c,d,F1,F2,rfl,_,hl,h1,h2⟩:=h;intro x hx;rcases List.mem_cons.1 hx with rfl|hx;·rw [←h1.len];exact hl
  ·exact cX.lens h2 x hx
def cX.at_:∀{es:List (List PV)} {vs:List Value} {F:List Nat},cX e es Fz w vs F→∀{i:Nat} {cs:List PV},es[i]?=some cs →
  ∀(j:Nat) (p:PV),cs[j]?=some p→∃v,vs[i * e+j]?=some v∧p.rel Fz w v
 | [],_,_,_,i,cs,hi=>by simp at hi
 | ds::es,vs,_,h,0,cs,hi=>by obtain ⟨c,d,F1,F2,rfl,_,hl,h1,h2⟩:=h;simp at hi;subst hi;intro j p hp;obtain ⟨v,hv,hr⟩:=h1.rel.at_ hp;refine ⟨v,?_,hr⟩;rw [Nat.zero_mul,Nat.zero_add,List.getElem?_append_left (List.getElem?_eq_some_iff.1 hv).1];exact hv
 | ds::es,vs,_,h,i+1,cs,hi=>by obtain ⟨c,d,F1,F2,rfl,_,hl,h1,h2⟩:=h;intro j p hp;obtain ⟨v,hv,hr⟩:=cX.at_ h2 yT j p hp;refine ⟨v,?_,hr⟩;rw [Nat.succ_mul,List.getElem?_append_right ab,hl];rw [←hv];congr 1;omega
def cX.of_bor:∀{es:List (List PV)} {vs:List Value},vs.length=es.length * e→(∀cs,cs∈es→cs.length=e) →
  (∀i cs j p v,es[i]?=some cs→cs[j]?=some p→vs[i * e+j]?=some v→p.own Fz w v [])→cX e es Fz w vs []
 | [],vs,hl,_,_=>⟨jd AZ,rfl⟩
 | cs::es,vs,hl,hc,h=>by
  have h0:=hc cs aL;rw [List.length_cons,Nat.succ_mul] at hl;have key:∀(ps:List PV) (us:List Value),us.length=ps.length→(∀(j:Nat) (p:PV) (v:Value),ps[j]?=some p→us[j]?=some v→p.own Fz w v [])→aN ps Fz w us []:=by
   intro ps;induction ps with
   | nil=>intro us hu _;exact ⟨jd DX,rfl⟩
   | cons p ps ih=>
    intro us hu hh;cases us with
    | nil=>simp at hu
    | cons u us=>exact ⟨u,us,[],[],rfl,rfl,hh 0 p u rfl rfl,ih us DX fun j q v hq hv=>hh (j+1) q v rc (by simpa using hv)⟩
  refine ⟨vs.take e,vs.drop e,[],[],(iq _ _).symm,rfl,dm,key cs _ dm ?_,cX.of_bor uB (fun c hc'=>hc c (by simp [hc'])) ?_⟩
  ·intro j p v hp hv
   have hj:j < e:=by rw [←h0];exact (List.getElem?_eq_some_iff.1 hp).1
   refine h 0 cs j p v rfl hp ?_;rw [List.getElem?_take_of_lt hj] at hv;simpa using hv
  ·intro i ds j p v hi hp hv
   refine h (i+1) ds j p v yT hp ?_;rw [List.getElem?_drop] at hv;rw [←hv];congr 1;rw [Nat.succ_mul];omega
end
def tg(es:List (List PV))(Fz:aC)(w:World)(v:Value):Prop:=
 ∃(a:Option Addr) (c e:Nat) (u:Nat→Nat→Value),v = .slice a es.length c∧es.length≤c∧c≤maxLen∧(∀cs,cs∈es→cs.length=e) ∧
  (es=[]∨∃b off,a=some ⟨b,off,none⟩∧∀i j,i < es.length→j < e→Fz b (off+(i * e+j))∧w.cell? ⟨b,off+(i * e+j),none⟩=some (u i j)) ∧
  ∀i cs j (p:PV),es[i]?=some cs→cs[j]?=some p→p.rel Fz w (u i j)
def Jp(w:World)(v:Value):Prop:=∀g,v.ownBlock=some g→∀cur t o,w.heap[g]?=some (.cells cur t o)→∀x,x∈cur.toList→x.oneCell'=true
def eG(t e:Nat)(es:List (List PV))(Fz:aC)(w:World)(v:Value)(F:List Nat):Prop:=
 ∃css F',w.ownsRow 0 t e v es.length css∧cX e es Fz w css F'∧(∀g,v.ownBlock=some g→∀o,Fz g o↔o < es.length * e)∧F=v.ownBlock.toList++F'∧Jp w v
def tg.mono{es:List (List PV)}{Fz Fz':aC}(h:tg es Fz w v)(k:jt Fz w Fz' w'):tg es Fz' w' v:=by
 obtain ⟨a,c,e,u,rfl,h1,h2,h3,h4,h5⟩:=h;refine ⟨a,c,e,u,rfl,h1,h2,h3,?_,fun i cs j p hi hj=>p.relMono (h5 i cs j p hi hj) k⟩;rcases h4 with h4|⟨b,off,ha,h4⟩;·exact .inl h4
 ·exact .inr ⟨b,off,ha,fun i j hi hj=>⟨(k _ _ (h4 i j hi hj).1).1,(k _ _ (h4 i j hi hj).1).2.trans (h4 i j hi hj).2⟩⟩
def eG.rel{es:List (List PV)}{Fz:aC}(h:eG t e es Fz w v F):tg es Fz w v:=by
 obtain ⟨css,F',ho,hl,hf,_,_⟩:=h;have hlen:=hl.len;have hu:∀i cs j (p:PV),es[i]?=some cs→cs[j]?=some p→p.rel Fz w (css.getD (i * e+j) undef):=by intro i cs j p hi hj;obtain ⟨x,hx,hr⟩:=hl.at_ hi j p hj;rw [List.getD_eq_getElem?_getD,hx];exact hr
 rcases ho.2 with ⟨rfl,hn⟩|⟨g,cap,cur,rfl,_,hg,hnc,hcm,hcs,htake⟩
 ·have he:es=[]:=jd hn
  subst he;exact ⟨none,0,e,fun i j=>css.getD (i * e+j) undef,rfl,Nat.le_refl _,Nat.zero_le _,aL,.inl rfl,hu⟩
 ·refine ⟨_,cap,e,fun i j=>css.getD (i * e+j) undef,rfl,hnc,hcm,hl.lens,?_,hu⟩
  by_cases he:es=[];·exact .inl he
  ·refine .inr ⟨g,0,rfl,fun i j hi hj=>?_⟩
   have hlt:i * e+j < es.length * e:=by have:(i+1) * e≤es.length * e:=Nat.mul_le_mul_right _ hi;rw [Nat.succ_mul] at this;omega
   rw [Nat.zero_add];refine ⟨(hf g rfl _).2 hlt,?_⟩;show w.cell? ⟨g,i * e+j,none⟩=some (css.getD (i * e+j) undef);rw [cell_of_row w g _ cur t (0,0) hg,List.getD_eq_getElem?_getD,←htake,List.getElem?_take_of_lt hlt];have hsz:i * e+j < cur.size:=by rw [hcs];exact Nat.lt_of_lt_of_le hlt (Nat.mul_le_mul_right _ hnc)
   simp [hsz]
def eG.mono{es:List (List PV)}{Fz Fz':aC}(h:eG t e es Fz w v F)(k:jt Fz w Fz' w')(hh:mG F Fz w Fz' w'):eG t e es Fz' w' v F:=by
 obtain ⟨css,F',ho,hl,hf,rfl,h1⟩:=h;refine ⟨css,F',⟨ho.1,?_⟩,hl.mono k (hh.sub fun b hb=>by simp [hb]),?_,rfl,?_⟩
 ·rcases ho.2 with hn|⟨g,cap,cur,rfl,hb,hg,rest⟩
  ·exact .inl hn
  ·exact .inr ⟨g,cap,cur,rfl,hb,(hh g AY).1.trans hg,rest⟩
 ·intro g hg o
  refine ⟨fun h=>(hf g hg o).1 ((hh g (by simp [hg])).2 o h),fun h=>(k g o ((hf g hg o).2 h)).1⟩
 ·intro g hg cur t' o hc
  rw [(hh g (by simp [hg])).1] at hc;exact h1 g hg cur t' o hc
def eG.lt{es:List (List PV)}{Fz:aC}(h:eG t e es Fz w v F):∀b,b∈F→b < w.heap.size:=by
 obtain ⟨css,F',ho,hl,hf,rfl,_⟩:=h;intro b hb;rcases List.mem_append.1 hb with hb|hb
 ·cases hv:v.ownBlock with
  | none=>rw [hv] at hb;simp at hb
  | some g=>rw [hv] at hb;simp at hb;subst hb;exact (ho.lt _ hv).2
 ·exact hl.lt b hb
def Lw(n:Nat):Nat→Prop:=fun x=>x < n
def Qr:Nat→Prop:=fun _=>False
inductive Fl where
 | v
 | lo (L:Nat→Prop)
 | own (t e:Nat)
def acb:Fl→Nat→Value→Prop
 | .lo L,m,v=>m=0∨∀g,v.ownBlock=some g→L g
 | _,_,_=>True
def PV.sl(o:Fl)(es:List (List PV)):PV where
 rel Fz w v:=tg es Fz w v∧acb o es.length v
 own Fz w v F:=match o with
  | .v=>tg es Fz w v∧F=[]
  | .lo L=>(tg es Fz w v∧acb (.lo L) es.length v)∧F=[]
  | .own t e=>eG t e es Fz w v F
 one h:=by obtain ⟨⟨a,c,e,u,rfl,_⟩,_⟩:=h;rfl
 toRel h:=by
  cases o with
  | v=>exact ⟨h.1,True.intro⟩
  | lo L=>exact h.1
  | own t e=>exact ⟨eG.rel h,True.intro⟩
 relMono h k:=⟨h.1.mono k,h.2⟩
 ownMono h k hh:=by
  cases o with
  | v=>exact ⟨h.1.mono k,h.2⟩
  | lo L=>exact ⟨⟨h.1.1.mono k,h.1.2⟩,h.2⟩
  | own t e=>exact eG.mono h k hh
 lt h:=by
  cases o with
  | v=>rw [h.2];simp
  | lo L=>rw [h.2];simp
  | own t e=>exact eG.lt h
def PV.Bor(p:PV):Prop:=∀{Fz:aC} {w:World} {v:Value},p.rel Fz w v→p.own Fz w v []
def PV.bor_val(x:Value):(PV.val x).Bor:=fun h=>⟨h,rfl⟩
def PV.bor_sl(es:List (List PV)):(PV.sl .v es).Bor:=fun h=>⟨h.1,rfl⟩
def PV.bor_lo(L:Nat→Prop)(es:List (List PV)):(PV.sl (.lo L) es).Bor:=fun h=>⟨h,rfl⟩
def PV.To(p q:PV):Prop:=∀{Fz:aC} {w:World} {v:Value},p.rel Fz w v→q.rel Fz w v
def az:List PV→List PV→Prop
 | [],[]=>True
 | p::ps,q::qs=>p.To q∧az ps qs
 | _,_=>False
def aS(ps:List PV):Prop:=∀p,p∈ps→p.Bor
def PV.To.refl(p:PV):p.To p:=fun h=>h
def az.refl:∀ps:List PV,az ps ps
 | []=>True.intro
 | _::ps=>⟨fun h=>h,az.refl ps⟩
def az.len:∀{ps qs:List PV},az ps qs→ps.length=qs.length
 | [],[],_=>rfl
 | _::_,_::_,h=>by simp [az.len h.2]
def az.rel{Fz:aC}:∀{ps qs:List PV} {vs:List Value},az ps qs→cC ps Fz w vs→cC qs Fz w vs
 | [],[],_,_,h=>h
 | p::ps,q::qs,_,k,h=>by obtain ⟨v,vs',rfl,h1,h2⟩:=h;exact ⟨v,vs',rfl,k.1 h1,az.rel k.2 h2⟩
def aS.own{Fz:aC}:∀{ps:List PV} {vs:List Value},aS ps→cC ps Fz w vs→aN ps Fz w vs []
 | [],_,_,h=>⟨h,rfl⟩
 | p::ps,_,k,h=>by obtain ⟨v,vs',rfl,h1,h2⟩:=h;exact ⟨v,vs',[],[],rfl,rfl,k p aL h1,aS.own (fun q hq=>k q (by simp [hq])) h2⟩
def aS.nil:aS []:=fun p hp=>by simp at hp
def aS.cons{p:PV}{ps:List PV}(h:p.Bor)(k:aS ps):aS (p::ps):=fun q hq=>by
 rcases List.mem_cons.1 hq with rfl|hq;·exact h
 ·exact k q hq
def PV.to_sl{o:Fl}{es ds:List (List PV)}(hl:es.length=ds.length)(h:∀(i:Nat) (cs cs':List PV),es[i]?=some cs→ds[i]?=some cs'→az cs cs'):(PV.sl o es).To (PV.sl .v ds):=by
 intro Fz w v hr;obtain ⟨⟨a,c,e,u,rfl,h1,h2,h3,h4,h5⟩,_⟩:=hr;refine ⟨⟨a,c,e,u,by rw [hl],ab,h2,?_,?_,?_⟩,True.intro⟩
 ·intro cs hcs
  obtain ⟨i,hi,rfl⟩:=List.mem_iff_getElem.1 hcs;have hi':i < es.length:=ab;have:=h i es[i] ds[i] (List.getElem?_eq_getElem hi') (List.getElem?_eq_getElem hi);rw [←this.len];exact h3 _ (List.getElem_mem hi')
 ·rcases h4 with rfl|⟨b,off,ha,h4⟩
  ·exact .inl (jd (by simpa using hl.symm))
  ·exact .inr ⟨b,off,ha,fun i j hi hj=>h4 i j ab hj⟩
 ·intro i cs' j q hi hj
  have hi':i < es.length:=by rw [hl];exact (List.getElem?_eq_some_iff.1 hi).1
  have ht:=h i es[i] cs' (List.getElem?_eq_getElem hi') hi;have key:∀(ps qs:List PV) (j:Nat),az ps qs→qs[j]?=some q→∃p,ps[j]?=some p∧p.To q:=by
   intro ps;induction ps with
   | nil=>intro qs j ht hq;cases qs<;>simp_all [az]
   | cons p ps ih=>
    intro qs j ht hq;cases qs with
    | nil=>simp at hq
    | cons q' qs=>
     cases j with
     | zero=>simp at hq;subst hq;exact ⟨p,rfl,ht.1⟩
     | succ j=>simp at hq;simpa using ih qs j ht.2 hq
  obtain ⟨p,hp,hto⟩:=key _ _ j ht hj;exact hto (h5 i es[i] j p (List.getElem?_eq_getElem hi') hp)
def PV.to_map{α:Type}{o:Fl}{xs:List α}{f g:α→List PV}(h:∀x,az (f x) (g x)):(PV.sl o (xs.map f)).To (PV.sl .v (xs.map g)):=
 PV.to_sl aL fun i cs cs' hi hi'=>by
  rw [List.getElem?_map] at hi hi';cases hx:xs[i]? with
  | none=>rw [hx] at hi;simp at hi
  | some x=>rw [hx] at hi hi';simp at hi hi';subst hi;subst hi';exact h x
end
section
structure RV where
 holds:(Nat→Nat)→aC→World→Value→List Nat→Prop
 men:Nat→Bool
 mono:∀{φ φ':Nat→Nat} {Fz Fz':aC} {w w':World} {v:Value} {F:List Nat},holds φ Fz w v F→jt Fz w Fz' w'→mG F Fz w Fz' w' →
  (∀d,men d=true→φ' d=φ d)→holds φ' Fz' w' v F
 lt:∀{φ:Nat→Nat} {Fz:aC} {w:World} {v:Value} {F:List Nat},holds φ Fz w v F→∀b,b∈F→b < w.heap.size
def th:Value→Bool
 | .agg _=>true
 | _=>false
def bY(ag:Bool)(cs:List PV)(Fz:aC)(w:World)(v:Value)(F:List Nat):Prop:=th v=ag∧aN cs Fz w v.cells.toList F
def kK(ag:Bool)(cs:List PV)(Fz:aC)(w:World)(v:Value):Prop:=th v=ag∧cC cs Fz w v.cells.toList
def RV.sv(ag:Bool)(cs:List PV):RV where
 holds _ Fz w v F:=bY ag cs Fz w v F
 men _:=false
 mono h k hh _:=⟨h.1,h.2.mono k hh⟩
 lt h:=h.2.lt
def fz:List (Bool×List PV)→aC→World→List Value→List Nat→Prop
 | [],_,_,vs,F=>vs=[]∧F=[]
 | p::ps,Fz,w,vs,F=>∃v vs' F1 F2,vs=v::vs'∧F=F1++F2∧bY p.1 p.2 Fz w v F1∧fz ps Fz w vs' F2
def fz.mono{Fz Fz':aC}:∀{l:List (Bool×List PV)} {vs:List Value} {F:List Nat},fz l Fz w vs F→jt Fz w Fz' w'→mG F Fz w Fz' w'→fz l Fz' w' vs F
 | [],_,_,h,_,_=>h
 | p::ps,vs,_,h,k,hh=>by obtain ⟨v,vs',F1,F2,rfl,rfl,h1,h2⟩:=h;exact ⟨v,vs',F1,F2,rfl,rfl,⟨h1.1,h1.2.mono k (hh.sub fun b hb=>by simp [hb])⟩,fz.mono h2 k (hh.sub fun b hb=>by simp [hb])⟩
def fz.lt{Fz:aC}:∀{l:List (Bool×List PV)} {vs:List Value} {F:List Nat},fz l Fz w vs F→∀b,b∈F→b < w.heap.size
 | [],_,_,h=>by rw [h.2];simp
 | p::ps,vs,_,h=>by
  obtain ⟨v,vs',F1,F2,rfl,rfl,h1,h2⟩:=h;intro b hb;rcases List.mem_append.1 hb with hb|hb;·exact h1.2.lt b hb
  ·exact fz.lt h2 b hb
def fz.len{Fz:aC}:∀{l:List (Bool×List PV)} {vs:List Value} {F:List Nat},fz l Fz w vs F→vs.length=l.length
 | [],_,_,h=>by rw [h.1];rfl
 | p::ps,vs,_,h=>by obtain ⟨v,vs',F1,F2,rfl,_,_,h2⟩:=h;simp [fz.len h2]
def RV.tup(l:List (Bool×List PV)):RV where
 holds _ Fz w v F:=∃vs,v = .tuple vs∧fz l Fz w vs.toList F
 men _:=false
 mono h k hh _:=by obtain ⟨vs,rfl,h⟩:=h;exact ⟨vs,rfl,h.mono k hh⟩
 lt h:=by obtain ⟨vs,rfl,h⟩:=h;exact h.lt
def RV.ptr(d off:Nat):RV where
 holds φ _ _ v F:=v = .pointer (some ⟨φ d,off,none⟩)∧F=[]
 men x:=Nat.beq x d
 mono h _ _ hφ:=⟨by rw [hφ d aL];exact h.1,h.2⟩
 lt h:=qk
def RV.eptr(cs:List PV):RV where
 holds _ Fz w v F:=(∃b off vs,v = .pointer (some ⟨b,off,none⟩)∧cC cs Fz w vs∧∀(j:Nat) u,vs[j]?=some u→Fz b (off+j)∧w.cell? ⟨b,off+j,none⟩=some u)∧F=[]
 men _:=false
 mono h k _ _:=by obtain ⟨⟨b,off,vs,hv,hr,hc⟩,hF⟩:=h;exact ⟨⟨b,off,vs,hv,hr.mono k,fun j u hu=>⟨(k _ _ (hc j u hu).1).1,(k _ _ (hc j u hu).1).2.trans (hc j u hu).2⟩⟩,hF⟩
 lt h:=qk
structure St where
 s:Nat→Option RV
 b:Nat→Option (Nat×List PV)
def St.set(σ:St)(i:Nat)(r:Option RV):St:=⟨fun x=>bif Nat.beq x i then r else σ.s x,σ.b⟩
def St.setB(σ:St)(d:Nat)(cs:Option (Nat×List PV)):St:=⟨σ.s,fun x=>bif Nat.beq x d then cs else σ.b x⟩
def beq_eq{x y:Nat}:Nat.beq x y=decide (x=y):=by rw [Bool.eq_iff_iff];simp [Nat.beq_eq]
def St.set_s(σ:St)(i:Nat)(r:Option RV)(x:Nat):(σ.set i r).s x=if x=i then r else σ.s x:=by simp only [St.set,beq_eq];by_cases h:x=i<;>simp [h]
def St.setB_b(σ:St)(i:Nat)(r:Option (Nat×List PV))(x:Nat):(σ.setB i r).b x=if x=i then r else σ.b x:=by simp only [St.setB,beq_eq];by_cases h:x=i<;>simp [h]
def St.set_b(σ:St)(i:Nat)(r:Option RV):(σ.set i r).b=σ.b:=rfl
def St.setB_s(σ:St)(i:Nat)(r:Option (Nat×List PV)):(σ.setB i r).s=σ.s:=rfl
structure re(h0:Nat→Prop)(w w':World):Prop where
 os:w'.os=w.os
 tape:w'.tape=w.tape
 output:w'.output=w.output
 size:w.heap.size≤w'.heap.size
 block:∀k,h0 k→w'.heap[k]?=w.heap[k]?
def re.refl(h0:Nat→Prop)(w:World):re h0 w w:=⟨rfl,rfl,rfl,Nat.le_refl _,fun _ _=>rfl⟩
def re.trans{h0:Nat→Prop}{a b c:World}(h:re h0 a b)(k:re h0 b c):re h0 a c:=
 ⟨k.os.trans h.os,k.tape.trans h.tape,k.output.trans h.output,Nat.le_trans h.size k.size,fun i hi=>(k.block i hi).trans (h.block i hi)⟩
structure bU(h0:Nat→Prop)(w0:World)(Fz0:aC)(n:Nat)(σ:St)(a:Act)(w:World)(φ:Nat→Nat)(Fz:aC)(Fp:Nat→List Nat):Prop where
 bel:re h0 w0 w
 dfr:a.defers=[]
 siz:a.tmps.size=n
 hlt:∀b,h0 b→b < w.heap.size
 fz0:∀b o,h0 b→(Fz b o↔Fz0 b o)
 fzl:∀b o,Fz b o→b < w.heap.size
 slot:∀i rv,σ.s i=some rv→rv.holds φ Fz w (a.tmps.getD i undef) (Fp (2 * i+1))
 box:∀d bx,σ.b d=some bx→∃cur,w.heap[φ d]?=some (.cells cur bx.1 (0,0))∧aN bx.2 Fz w cur.toList (Fp (2 * d+2))
 bxb:∀d cs,σ.b d=some cs→¬h0 (φ d)∧(∀o,¬Fz (φ d) o)∧∀r,φ d∉Fp r
 inj:∀d d' cs cs',σ.b d=some cs→σ.b d'=some cs'→φ d=φ d'→d=d'
 dis:∀r r',r≠r'→∀b,b∈Fp r→b∉Fp r'
 nod:∀r,(Fp r).Nodup
 low:∀r b,b∈Fp r→¬h0 b∧b < w.heap.size
def bB(h0:Nat→Prop)(w0:World)(Fz0:aC)(n:Nat)(σ:St)(a:Act)(w:World):Prop:=∃φ Fz Fp,bU h0 w0 Fz0 n σ a w φ Fz Fp
section
variable{h0:Nat→Prop}{n:Nat}{w0 w w':World}{Fz0 Fz Fz':aC}{σ:St}{a:Act}{φ:Nat→Nat}{Fp:Nat→List Nat}
def mv(Fp:Nat→List Nat)(r:Nat):Nat→List Nat:=fun x=>if x=0 then Fp r++Fp 0 else if x=r then [] else Fp x
def ti{x b:Nat}(h:b∈mv Fp r x):(x=0∧(b∈Fp r∨b∈Fp 0))∨(x≠r∧b∈Fp x):=by
 unfold mv at h;split at h;·rename_i hx;exact .inl ⟨hx,List.mem_append.1 h⟩
 ·split at h
  ·simp at h
  ·rename_i hx;exact .inr ⟨hx,h⟩
def acd(hr:r≠0)(dis:∀r r',r≠r'→∀b,b∈Fp r→b∉Fp r'):∀x y,x≠y→∀b,b∈mv Fp r x→b∉mv Fp r y:=by
 intro x y hxy b hb hb';rcases ti hb with ⟨hx,k⟩|⟨hx,k⟩<;>rcases ti hb' with ⟨hy,k'⟩|⟨hy,k'⟩;·omega
 ·subst hx
  rcases k with k|k;·exact dis _ _ (fun e=>hy e.symm) b k k'
  ·exact dis _ _ hxy b k k'
 ·subst hy
  rcases k' with k'|k';·exact dis _ _ hx b k k'
  ·exact dis _ _ hxy b k k'
 ·exact dis _ _ hxy b k k'
def ace(hr:r≠0)(dis:∀r r',r≠r'→∀b,b∈Fp r→b∉Fp r')(nod:∀r,(Fp r).Nodup):∀x,(mv Fp r x).Nodup:=by
 intro x;unfold mv;split
 ·rw [dD]
  exact ⟨nod _,nod _,fun u hu v hv e=>dis _ _ hr u hu (e▸hv)⟩
 ·split
  ·exact List.nodup_nil
  ·exact nod x
def bU.pull(h:bU h0 w0 Fz0 n σ a w φ Fz Fp)(i:Nat):bU h0 w0 Fz0 n (σ.set i none) a w φ Fz (mv Fp (2 * i+1)) where
 bel:=h.bel
 dfr:=h.dfr
 siz:=h.siz
 hlt:=h.hlt
 fz0:=h.fz0
 fzl:=h.fzl
 slot j rv hj:=by
  rw [St.set_s] at hj;split at hj;·cases hj
  ·rename_i hne
   have:=h.slot j rv hj;unfold mv;rw [if_neg ab,if_neg ab];exact this
 box d cs hd:=by obtain ⟨cur,h1,h2⟩:=h.box d cs hd;refine ⟨cur,h1,?_⟩;unfold mv;rw [if_neg ab,if_neg ab];exact h2
 bxb d cs hd:=by obtain ⟨h1,h2,h3⟩:=h.bxb d cs hd;refine ⟨h1,h2,fun r hr=>?_⟩;rcases ti hr with ⟨_,hr|hr⟩|⟨_,hr⟩<;>exact h3 _ hr
 inj d d' cs cs':=h.inj d d' cs cs'
 dis:=acd ab h.dis
 nod:=ace ab h.dis h.nod
 low r b hb:=by rcases ti hb with ⟨_,hr|hr⟩|⟨_,hr⟩<;>exact h.low _ _ hr
def eQ(Fp:Nat→List Nat)(r:Nat)(F X:List Nat):Nat→List Nat:=fun x=>if x=r then F else if x=0 then X else Fp x
def uD{x b:Nat}(h:b∈eQ Fp r F X x):(x=r∧b∈F)∨(x≠r∧x=0∧b∈X)∨(x≠r∧x≠0∧b∈Fp x):=by
 unfold eQ at h;split at h;·rename_i hx;exact .inl ⟨hx,h⟩
 ·split at h
  ·rename_i h1 h2;exact .inr (.inl ⟨h1,h2,h⟩)
  ·rename_i h1 h2;exact .inr (.inr ⟨h1,h2,h⟩)
def Qs(hr:r≠0)(hX:∀b,b∈F++X→b∈Fp 0)(hn:(F++X).Nodup)(dis:∀r r',r≠r'→∀b,b∈Fp r→b∉Fp r') :
  ∀x y,x≠y→∀b,b∈eQ Fp r F X x→b∉eQ Fp r F X y:=by
 intro x y hxy b hb hb';rw [dD] at hn;rcases uD hb with ⟨e1,hb⟩|⟨e1,e2,hb⟩|⟨e1,e2,hb⟩<;>rcases uD hb' with ⟨f1,hb'⟩|⟨f1,f2,hb'⟩|⟨f1,f2,hb'⟩;·omega
 ·exact hn.2.2 b hb b hb' rfl
 ·exact dis 0 y ab b (hX b yV) hb'
 ·exact hn.2.2 b hb' b hb rfl
 ·omega
 ·exact dis 0 y ab b (hX b yV) hb'
 ·exact dis x 0 ab b hb (hX b (by simp [hb']))
 ·exact dis x 0 ab b hb (hX b (by simp [hb']))
 ·exact dis x y hxy b hb hb'
def Qt(hn:(F++X).Nodup)(nod:∀r,(Fp r).Nodup):∀x,(eQ Fp r F X x).Nodup:=by
 intro x;rw [dD] at hn;unfold eQ;split;·exact hn.1
 ·split
  ·exact hn.2.1
  ·exact nod x
def auH(t:Array Value)(i j:Nat)(v:Value)(hi:i < t.size):(t.setIfInBounds i v).getD j undef=if j=i then v else t.getD j undef:=by
 by_cases h:j=i;·subst h;simp [hi]
 ·rw [if_neg h]
  rw [Array.getD_eq_getD_getElem?,Array.getD_eq_getD_getElem?,Array.getElem?_setIfInBounds_ne ab]
def bU.push(h:bU h0 w0 Fz0 n σ a w φ Fz Fp){rv:RV}(hi:i < n)(hv:rv.holds φ Fz w v F)(hX:∀b,b∈F++X→b∈Fp 0)(hn:(F++X).Nodup) :
  bU h0 w0 Fz0 n (σ.set i (some rv)) (a.put (some i) v) w φ Fz (eQ Fp (2 * i+1) F X) where
 bel:=h.bel
 dfr:=h.dfr
 siz:=by simp [Act.put,h.siz]
 hlt:=h.hlt
 fz0:=h.fz0
 fzl:=h.fzl
 slot j rv' hj:=by
  rw [St.set_s] at hj;show rv'.holds φ Fz w ((a.tmps.setIfInBounds i v).getD j undef) _;rw [auH _ _ _ _ (by rw [h.siz];exact hi)];split at hj
  ·rename_i hji
   subst hji;injection hj with hj;subst hj;rw [if_pos rfl];unfold eQ;rw [if_pos rfl];exact hv
  ·rename_i hne
   rw [if_neg hne];unfold eQ;rw [if_neg ab,if_neg ab];exact h.slot j rv' hj
 box d cs hd:=by obtain ⟨cur,h1,h2⟩:=h.box d cs hd;refine ⟨cur,h1,?_⟩;unfold eQ;rw [if_neg ab,if_neg ab];exact h2
 bxb d cs hd:=by
  obtain ⟨h1,h2,h3⟩:=h.bxb d cs hd;refine ⟨h1,h2,fun r hr=>?_⟩;rcases uD hr with ⟨_,hr⟩|⟨_,_,hr⟩|⟨_,_,hr⟩;·exact h3 0 (hX _ wP)
  ·exact h3 0 (hX _ wP)
  ·exact h3 _ hr
 inj d d' cs cs':=h.inj d d' cs cs'
 dis:=Qs ab hX hn h.dis
 nod:=Qt hn h.nod
 low r b hb:=by
  rcases uD hb with ⟨_,hr⟩|⟨_,_,hr⟩|⟨_,_,hr⟩;·exact h.low 0 b (hX _ wP)
  ·exact h.low 0 b (hX _ wP)
  ·exact h.low _ b hr
def bU.wipe(h:bU h0 w0 Fz0 n σ a w φ Fz Fp)(i:Nat)(v:Value):bU h0 w0 Fz0 n (σ.set i none) (a.put (some i) v) w φ Fz (mv Fp (2 * i+1)):=
 let k:=h.pull i
 { k with
  siz:=by simp [Act.put,h.siz]
  slot:=fun j rv hj=>by
   have hj':=hj;rw [St.set_s] at hj;split at hj;·cases hj
   ·rename_i hne
    have:=k.slot j rv hj';show rv.holds φ Fz w ((a.tmps.setIfInBounds i v).getD j undef) _;have e:(a.tmps.setIfInBounds i v).getD j undef=a.tmps.getD j undef:=by rw [Array.getD_eq_getD_getElem?,Array.getD_eq_getD_getElem?,Array.getElem?_setIfInBounds_ne ab]
    rw [e];exact this }
def bU.world(h:bU h0 w0 Fz0 n σ a w φ Fz Fp)(hos:w'.os=w.os)(htape:w'.tape=w.tape)(hout:w'.output=w.output)(hsz:w.heap.size≤w'.heap.size)
  (hb:∀b,b < w.heap.size→b∉Fp 0→w'.heap[b]?=w.heap[b]?∧∀o,Fz' b o→Fz b o) (hk:jt Fz w Fz' w') (hl:∀b o,Fz' b o→b < w'.heap.size)
  {X:List Nat} (hX:∀b,b∈X→b∈Fp 0∨(w.heap.size≤b∧b < w'.heap.size)) (hn:X.Nodup) :
  bU h0 w0 Fz0 n σ a w' φ Fz' (fun x=>if x=0 then X else Fp x):=by
 have key:∀r,r≠0→mG (Fp r) Fz w Fz' w':=fun r hr b hbr=>hb b (h.low r b hbr).2 (h.dis r 0 hr b hbr);have hmem:∀x b,b∈(if x=0 then X else Fp x)→(x=0∧b∈X)∨(x≠0∧b∈Fp x):=by
  intro x b hb;split at hb;·rename_i hx;exact .inl ⟨hx,hb⟩
  ·rename_i hx;exact .inr ⟨hx,hb⟩
 refine ⟨h.bel.trans ⟨hos,htape,hout,hsz,fun k hk'=>(hb k (h.hlt k hk') fun hm=>(h.low 0 k hm).1 hk').1⟩,h.dfr,h.siz,fun b hb'=>Nat.lt_of_lt_of_le (h.hlt b hb') hsz,?_,hl,?_,?_,?_,h.inj,?_,?_,?_⟩
 ·intro b o hbl
  rw [←h.fz0 b o hbl];exact ⟨fun hh=>(hb b (h.hlt b hbl) fun hm=>(h.low 0 b hm).1 hbl).2 o hh,fun hh=>(hk b o hh).1⟩
 ·intro i rv hi
  rw [if_neg ab];exact rv.mono (h.slot i rv hi) hk (key _ ab) fun _ _=>rfl
 ·intro d cs hd
  obtain ⟨cur,h1,h2⟩:=h.box d cs hd;obtain ⟨k1,k2,k3⟩:=h.bxb d cs hd;have hlt:φ d < w.heap.size:=(Array.getElem?_eq_some_iff.1 h1).1;rw [if_neg ab];exact ⟨cur,(hb _ hlt (k3 0)).1.trans h1,h2.mono hk (key _ ab)⟩
 ·intro d cs hd
  obtain ⟨cur,h1,h2⟩:=h.box d cs hd;obtain ⟨k1,k2,k3⟩:=h.bxb d cs hd;have hlt:φ d < w.heap.size:=(Array.getElem?_eq_some_iff.1 h1).1;refine ⟨k1,fun o ho=>k2 o ((hb _ hlt (k3 0)).2 o ho),fun r hr=>?_⟩;rcases hmem _ _ hr with ⟨rfl,hr⟩|⟨_,hr⟩
  ·rcases hX _ hr with hr|hr
   ·exact k3 0 hr
   ·omega
  ·exact k3 r hr
 ·intro r r' hne b hr hr'
  rcases hmem _ _ hr with ⟨rfl,hr⟩|⟨e1,hr⟩<;>rcases hmem _ _ hr' with ⟨rfl,hr'⟩|⟨e2,hr'⟩;·exact hne rfl
  ·rcases hX _ hr with hr|hr
   ·exact h.dis 0 r' hne b hr hr'
   ·have:=(h.low r' b hr').2;omega
  ·rcases hX _ hr' with hr'|hr'
   ·exact h.dis r 0 hne b hr hr'
   ·have:=(h.low r b hr).2;omega
  ·exact h.dis r r' hne b hr hr'
 ·intro r
  split;·exact hn
  ·exact h.nod r
 ·intro r b hr
  rcases hmem _ _ hr with ⟨rfl,hr⟩|⟨e1,hr⟩
  ·rcases hX _ hr with hr|hr
   ·exact ⟨(h.low 0 b hr).1,by have:=(h.low 0 b hr).2;omega⟩
   ·exact ⟨fun hh=>by have:=h.hlt b hh;omega,hr.2⟩
  ·exact ⟨(h.low r b hr).1,by have:=(h.low r b hr).2;omega⟩
def bU.pullB(h:bU h0 w0 Fz0 n σ a w φ Fz Fp){cs:Nat×List PV}(hd:σ.b d=some cs) :
  bU h0 w0 Fz0 n (σ.setB d none) a w φ Fz (fun x=>if x=0 then φ d::mv Fp (2 * d+2) 0 else mv Fp (2 * d+2) x):=by
 obtain ⟨cur,h1,h2⟩:=h.box d cs hd;obtain ⟨k1,k2,k3⟩:=h.bxb d cs hd;have hlt:φ d < w.heap.size:=(Array.getElem?_eq_some_iff.1 h1).1;have km:∀r,φ d∉mv Fp (2 * d+2) r:=by intro r hr;rcases ti hr with ⟨_,hr|hr⟩|⟨_,hr⟩<;>exact k3 _ hr
 have hmem:∀x b,b∈(if x=0 then φ d::mv Fp (2 * d+2) 0 else mv Fp (2 * d+2) x)→(x=0∧b=φ d)∨b∈mv Fp (2 * d+2) x:=by
  intro x b hb;split at hb
  ·rename_i hx
   subst hx;rcases List.mem_cons.1 hb with hb|hb;·exact .inl ⟨rfl,hb⟩
   ·exact .inr hb
  ·exact .inr hb
 refine ⟨h.bel,h.dfr,h.siz,h.hlt,h.fz0,h.fzl,?_,?_,?_,?_,?_,?_,?_⟩
 ·intro i rv hi
  rw [if_neg ab];unfold mv;rw [if_neg ab,if_neg ab];exact h.slot i rv hi
 ·intro e cs' he
  rw [St.setB_b] at he;split at he;·cases he
  ·rename_i hne
   obtain ⟨cur,h1,h2⟩:=h.box e cs' he;refine ⟨cur,h1,?_⟩;rw [if_neg ab];unfold mv;rw [if_neg ab,if_neg ab];exact h2
 ·intro e cs' he
  rw [St.setB_b] at he;split at he;·cases he
  ·rename_i hne
   obtain ⟨h1,h2,h3⟩:=h.bxb e cs' he;refine ⟨h1,h2,fun r hr=>?_⟩;rcases hmem _ _ hr with ⟨_,hr⟩|hr;·exact hne (h.inj e d cs' cs he hd hr)
   ·rcases ti hr with ⟨_,hr|hr⟩|⟨_,hr⟩<;>exact h3 _ hr
 ·intro e e' cs1 cs2 h1 h2
  rw [St.setB_b] at h1 h2;split at h1;·cases h1
  ·split at h2
   ·cases h2
   ·exact h.inj e e' cs1 cs2 h1 h2
 ·intro x y hxy b hb hb'
  rcases hmem _ _ hb with ⟨e1,hb⟩|hb<;>rcases hmem _ _ hb' with ⟨e2,hb'⟩|hb';·omega
  ·subst hb;exact km _ hb'
  ·subst hb';exact km _ hb
  ·exact acd ab h.dis x y hxy b hb hb'
 ·intro x
  have hnd:=ace (r:=2 * d+2) ab h.dis h.nod;split;·exact List.nodup_cons.2 ⟨km 0,hnd 0⟩
  ·exact hnd x
 ·intro x b hb
  rcases hmem _ _ hb with ⟨_,rfl⟩|hb;·exact ⟨k1,hlt⟩
  ·rcases ti hb with ⟨_,hr|hr⟩|⟨_,hr⟩<;>exact h.low _ _ hr
def bU.pushB(h:bU h0 w0 Fz0 n σ a w φ Fz Fp){g:Nat}{cs:List PV}{cur:Array Value}(hd:σ.b d=none)
  (hg:w.heap[g]?=some (.cells cur t (0,0))) (ho:aN cs Fz w cur.toList F) (hf:∀o,¬Fz g o) (hX:∀b,b∈F++g::X→b∈Fp 0) (hn:(F++g::X).Nodup)
  (hm:φ d=g∨∀i rv,σ.s i=some rv→rv.men d=false) :
  bU h0 w0 Fz0 n (σ.setB d (some (t,cs))) a w (fun x=>if x=d then g else φ x) Fz (eQ Fp (2 * d+2) F X):=by
 have hg0:g∈Fp 0:=hX g aL;have hn':(F++X).Nodup:=by rw [dD] at hn ⊢;exact ⟨hn.1,(List.nodup_cons.1 hn.2.1).2,fun u hu v hv=>hn.2.2 u hu v (by simp [hv])⟩
 have hX':∀b,b∈F++X→b∈Fp 0:=fun b hb=>hX b (by rcases List.mem_append.1 hb with hb|hb<;>simp [hb])
 have hgn:∀r,g∉eQ Fp (2 * d+2) F X r:=by
  intro r hr;rw [dD] at hn;rcases uD hr with ⟨_,hr⟩|⟨_,_,hr⟩|⟨_,e2,hr⟩;·exact hn.2.2 g hr g aL rfl
  ·exact (List.nodup_cons.1 hn.2.1).1 hr
  ·exact h.dis 0 r ab g hg0 hr
 refine ⟨h.bel,h.dfr,h.siz,h.hlt,h.fz0,h.fzl,?_,?_,?_,?_,Qs ab hX' hn' h.dis,Qt hn' h.nod,?_⟩
 ·intro i rv hi
  have hi':σ.s i=some rv:=hi;unfold eQ;rw [if_neg ab,if_neg ab];refine rv.mono (h.slot i rv hi') (jt.refl _ _) (mG.refl _ _ _) fun e he=>?_;by_cases hed:e=d
  ·subst hed
   rw [if_pos rfl];rcases hm with hm|hm;·exact hm.symm
   ·rw [hm i rv hi'] at he;cases he
  ·rw [if_neg hed]
 ·intro e cs' he
  rw [St.setB_b] at he;split at he
  ·rename_i hed
   subst hed;injection he with he;subst he;rw [if_pos rfl];unfold eQ;rw [if_pos rfl];exact ⟨cur,hg,ho⟩
  ·rename_i hed
   rw [if_neg hed];unfold eQ;rw [if_neg ab,if_neg ab];exact h.box e cs' he
 ·intro e cs' he
  rw [St.setB_b] at he;split at he
  ·rename_i hed
   subst hed;rw [if_pos rfl];exact ⟨(h.low 0 g hg0).1,hf,hgn⟩
  ·rename_i hed
   rw [if_neg hed];obtain ⟨h1,h2,h3⟩:=h.bxb e cs' he;refine ⟨h1,h2,fun r hr=>?_⟩;rcases uD hr with ⟨_,hr⟩|⟨_,_,hr⟩|⟨_,_,hr⟩;·exact h3 0 (hX' _ wP)
   ·exact h3 0 (hX' _ wP)
   ·exact h3 _ hr
 ·intro e e' cs1 cs2 h1 h2 hee
  rw [St.setB_b] at h1 h2;by_cases he:e=d<;>by_cases he':e'=d;·omega
  ·rw [if_pos he,if_neg he'] at hee
   rw [if_neg he'] at h2;exact absurd (hee▸hg0) ((h.bxb e' cs2 h2).2.2 0)
  ·rw [if_neg he,if_pos he'] at hee
   rw [if_neg he] at h1;exact absurd (hee▸hg0) ((h.bxb e cs1 h1).2.2 0)
  ·rw [if_neg he,if_neg he'] at hee
   rw [if_neg he] at h1;rw [if_neg he'] at h2;exact h.inj e e' cs1 cs2 h1 h2 hee
 ·intro r b hb
  rcases uD hb with ⟨_,hr⟩|⟨_,_,hr⟩|⟨_,_,hr⟩;·exact h.low 0 b (hX' _ wP)
  ·exact h.low 0 b (hX' _ wP)
  ·exact h.low _ b hr
def bU.less{τ:St}(h:bU h0 w0 Fz0 n σ a w φ Fz Fp)(hs:∀i rv,τ.s i=some rv→σ.s i=some rv)(hb:∀d cs,τ.b d=some cs→σ.b d=some cs):bU h0 w0 Fz0 n τ a w φ Fz Fp:=
 { h with
  slot:=fun i rv hi=>h.slot i rv (hs i rv hi)
  box:=fun d cs hd=>h.box d cs (hb d cs hd)
  bxb:=fun d cs hd=>h.bxb d cs (hb d cs hd)
  inj:=fun d d' cs cs' h1 h2=>h.inj d d' cs cs' (hb d cs h1) (hb d' cs' h2) }
def bB.less{τ:St}(h:bB h0 w0 Fz0 n σ a w)(hs:∀i rv,τ.s i=some rv→σ.s i=some rv)(hb:∀d cs,τ.b d=some cs→σ.b d=some cs):bB h0 w0 Fz0 n τ a w:=by obtain ⟨φ,Fz,Fp,h⟩:=h;exact ⟨φ,Fz,Fp,h.less hs hb⟩
def bB.drew(h:bB h0 w0 Fz0 n σ a w):bB h0 w0 Fz0 n σ a { w with drawn:=w.drawn+1 }:=by obtain ⟨φ,Fz,Fp,h⟩:=h;exact ⟨φ,Fz,_,h.world (w':={ w with drawn:=w.drawn+1 }) rfl rfl rfl (Nat.le_refl _) (fun b _ _=>⟨rfl,fun _ h=>h⟩) (fun _ _ h=>⟨h,rfl⟩) h.fzl (X:=Fp 0) (fun b hb=>.inl hb) (h.nod 0)⟩
end
end
section
structure aM where
 rs:List (Nat×RV)
 rb:List (Nat×(Nat×List PV))
 ws:List (Nat×Option RV)
 wb:List (Nat×Option (Nat×List PV))
 al:Option Nat
section
variable{β γ:Type}
def bK:List (Nat×β)→(Nat→β)→Nat→β
 | [],f=>f
 | (k,v)::l,f=>bK l (fun y=>bif Nat.beq y k then v else f y)
def bh:List (Nat×β)→(Nat→Option β)→Prop
 | [],_=>True
 | (k,v)::l,f=>f k=some v∧bh l f
def dM(l:List (Nat×β))(x:Nat):Bool:=l.any fun p=>Nat.beq p.1 x
def ju(l:List (Nat×β))(m:List (Nat×γ)):Bool:=l.any fun p=>dM m p.1
def Eb(p:Nat×β)(l:List (Nat×β))(x:Nat):dM (p::l) x=(Nat.beq p.1 x||dM l x):=rfl
def uE:∀{l:List (Nat×β)} {f:Nat→β} {x:Nat},dM l x=false→bK l f x=f x
 | [],_,_,_=>rfl
 | (k,v)::l,f,x,h=>by rw [Eb,Bool.or_eq_false_iff,beq_eq,decide_eq_false_iff_not] at h;have e:=uE (l:=l) (f:=fun y=>bif Nat.beq y k then v else f y) h.2;rw [bK,e];simp only [beq_eq];rw [decide_eq_false (fun e=>h.1 e.symm)];rfl
def Ec:∀{l:List (Nat×β)} {f g:Nat→β} {x:Nat},(dM l x=true∨f x=g x)→bK l f x=bK l g x
 | [],f,g,x,h=>by
  rcases h with h|h;·cases h
  ·exact h
 | (k,v)::l,f,g,x,h=>by
  rw [bK,bK];apply Ec;by_cases hp:x=k;·right;simp [hp]
  ·rcases h with h|h
   ·rw [Eb,beq_eq,decide_eq_false (fun e=>hp e.symm),Bool.false_or] at h
    exact .inl h
   ·right;simp only [beq_eq,decide_eq_false hp];exact h
def bh.mem:∀{l:List (Nat×β)} {f:Nat→Option β},bh l f→∀p,p∈l→f p.1=some p.2
 | [],_,_,p,hp=>by simp at hp
 | (k,v)::l,f,h,p,hp=>by
  rcases List.mem_cons.1 hp with rfl|hp;·exact h.1
  ·exact bh.mem h.2 p hp
def bh.of_mem:∀{l:List (Nat×β)} {f:Nat→Option β},(∀p,p∈l→f p.1=some p.2)→bh l f
 | [],_,_=>True.intro
 | (k,v)::l,f,h=>⟨h (k,v) aL,bh.of_mem fun p hp=>h p DZ⟩
def Qu{l:List (Nat×β)}{p:Nat×β}(h:p∈l):dM l p.1=true:=by unfold dM;rw [List.any_eq_true];exact ⟨p,h,aL⟩
def Jq{l:List (Nat×β)}{m:List (Nat×γ)}(h:ju l m=false)(x:Nat)(h1:dM l x=true):dM m x=false:=by unfold ju at h;unfold dM at h1;rw [List.any_eq_true] at h1;obtain ⟨p,hp,hx⟩:=h1;rw [beq_eq,decide_eq_true_iff] at hx;subst hx;rw [List.any_eq_false] at h;simpa using h p hp
def lk:List (Nat×β)→Nat→Option β
 | [],_=>none
 | (k,v)::l,x=>bif Nat.beq x k then some v else lk l x
def lV:∀{l:List (Nat×β)} {x:Nat} {v:β},lk l x=some v→(x,v)∈l
 | [],_,_,h=>by cases h
 | (k,u)::l,x,v,h=>by
  rw [lk,beq_eq] at h;by_cases hx:x=k
  ·rw [decide_eq_true hx] at h
   simp only [cond_true,Option.some.injEq] at h;subst hx;subst h;simp
  ·rw [decide_eq_false hx] at h
   exact List.mem_cons_of_mem _ (lV h)
end
def St.of(l:List (Nat×RV))(b:List (Nat×(Nat×List PV))):St:=⟨lk l,lk b⟩
def St.app(σ:St)(L:aM):St:=⟨bK L.ws σ.s,bK L.wb σ.b⟩
def dv(d:Nat)(σ:St):Prop:=∀i rv,σ.s i=some rv→rv.men d=false
def dv.of_{l:List (Nat×RV)}{b:List (Nat×(Nat×List PV))}(h:(l.all fun p=>!p.2.men d)=true):dv d (St.of l b):=fun i rv hi=>by have:=List.all_eq_true.1 h _ (lV hi);simpa using this
def dv.app{σ:St}{L:aM}(h:dv d σ)(hL:(L.ws.all fun p=>match p.2 with|none=>true|some rv=>!rv.men d)=true):dv d (σ.app L):=by
 intro i rv hi
 have key:∀(l:List (Nat×Option RV)) (f:Nat→Option RV),(∀i rv,f i=some rv→rv.men d=false)→(l.all fun p=>match p.2 with|none=>true|some rv=>!rv.men d)=true →
   ∀i rv,bK l f i=some rv→rv.men d=false:=by
  intro l;induction l with
  | nil=>intro f hf _ i rv hi;exact hf i rv hi
  | cons p l ih=>
   intro f hf hl i rv hi;rw [List.all_cons,aR] at hl;refine ih _ ?_ hl.2 i rv hi;intro j rv' hj;rw [beq_eq] at hj;by_cases hjp:j=p.1
   ·rw [decide_eq_true hjp] at hj
    simp only [cond_true] at hj;have:=hl.1;rw [hj] at this;simpa using this
   ·rw [decide_eq_false hjp] at hj
    exact hf j rv' hj
 exact key _ _ h hL i rv hi
def db(P:Program)(n:Nat)(ops:Array Oper)(o:Oper)(L:aM):Prop:=
 ∀{h0:Nat→Prop} {w0:World} {Fz0:aC} {σ:St} {a:Act} {w:World} {K:Act→World→Prop} {Q:Exit→Act→World→Prop},bB h0 w0 Fz0 n σ a w→bh L.rs σ.s→bh L.rb σ.b →
  (∀d,L.al=some d→dv d σ)→(∀a' w',bB h0 w0 Fz0 n (σ.app L) a' w'→K a' w')→if Region.wanted o (yielded ops a.tmps)=true then o.wp P a w K Q else K (a.put o.dst undef) w
def Qv(d:Nat)(ws:List (Nat×Option RV)):Bool:=ws.all fun p=>match p.2 with|none=>true|some rv=>!rv.men d
def je(x y:aM):Bool:=match y.al with|none=>true|some d=>Qv d x.ws
def jI(x y:aM):Bool:=
 !ju x.ws y.rs&&!ju y.ws x.rs&&!ju x.ws y.ws&&(!ju x.wb y.rb&&!ju y.wb x.rb&&!ju x.wb y.wb)&&je y x
def Jr(m:Nat)(L:aM):List (Nat×aM)→Nat→Bool
 | [],_=>true
 | p::l,j=>(je p.2 L&&(m.testBit j||jI p.2 L))&&Jr m L l (j+1)
def eW:List Edge→List (Nat×aM)→Nat
 | [],_=>0
 | e::l,acc=>bif Region.binds .any e then (eW l acc ||| 2 ^ e.on) ||| ((acc[e.on]?).map (·.1)).getD 0 else eW l acc
def Ed(l:List Edge)(n:Nat):Bool:=l.all fun e=>!Region.binds .any e||Nat.blt e.on n
def tj(m:Nat)(o:Oper)(L:aM)(acc:List (Nat×aM)):Bool:=Ed o.after.toList acc.length&&(Nat.beq m (eW o.after.toList acc)&&Jr m L acc 0)
def bR(P:Program)(n:Nat)(ops:Array Oper)(Q:St→Prop):List Oper→St→Prop
 | [],σ=>Q σ
 | o::l,σ=>∃L:aM,db P n ops o L∧bh L.rs σ.s∧bh L.rb σ.b∧(∀d,L.al=some d→dv d σ)∧bR P n ops Q l (σ.app L)
def cj(P:Program)(n:Nat)(ops:Array Oper)(σ0:St)(C:Nat→aM→Prop)(Q:St→Prop):List Oper→List (Nat×aM)→St→Prop
 | [],_,σ=>Q σ
 | o::l,acc,σ=>∃(m:Nat) (L:aM),db P n ops o L∧bh L.rs σ.s∧bh L.rb σ.b∧(∀d,L.al=some d→dv d σ0)∧tj m o L acc=true∧C acc.length L∧cj P n ops σ0 C Q l (acc++[(m,L)]) (σ.app L)
section
variable{P:Program}{n:Nat}{ops:Array Oper}{h0:Nat→Prop}{w0:World}{Fz0:aC}
def auI{QS:St→Prop}(hQ:∀σ a w,QS σ→bB h0 w0 Fz0 n σ a w→Q .normal a w):∀(l:List Oper) (σ:St) (a:Act) (w:World),
  bR P n ops QS l σ→bB h0 w0 Fz0 n σ a w→wpList P ops Q l a w:=by
 intro l;induction l with
 | nil=>intro σ a w h hc;exact hQ σ a w h hc
 | cons o l ih=>
  intro σ a w h hc;obtain ⟨L,hL,h1,h2,h3,h5⟩:=h;have k:=hL (K:=wpList P ops Q l) (Q:=Q) hc h1 h2 h3 (fun a' w' hc'=>ih _ a' w' h5 hc');unfold wpList;split;·rename_i hw;rw [if_pos hw] at k;exact .inl k
  ·rename_i hw;rw [if_neg hw] at k;exact k
section
variable{β:Type}
def lw(pr:aM→List (Nat×β))(S:Nat→Bool):List (Nat×aM)→Nat→(Nat→β)→Nat→β
 | [],_,f=>f
 | p::A,i,f=>lw pr S A (i+1) (bif S i then bK (pr p.2) f else f)
def Js(pr:aM→List (Nat×β)){S':Nat→Bool}{x:Nat}:∀(A:List (Nat×aM)) (k:Nat) (f g:Nat→β),
  (∀i p,A[i]?=some p→dM (pr p.2) x=true→S (k+i)=S' (k+i))→f x=g x→lw pr S A k f x=lw pr S' A k g x:=by
 intro A;induction A with
 | nil=>intro k f g _ h;exact h
 | cons p A ih=>
  intro k f g h hf;rw [lw,lw];refine ih (k+1) _ _ (fun i q hq hx=>by have:=h (i+1) q rc hx;rw [show k+1+i=k+(i+1) by omega];exact this) ?_;by_cases hx:dM (pr p.2) x=true
  ·have:=h 0 p rfl hx
   rw [Nat.add_zero] at this;rw [←this];cases S k;·exact hf
   ·exact Ec (.inl hx)
  ·have hx':dM (pr p.2) x=false:=by simpa using hx
   have e1:∀(b:Bool) (f:Nat→β),(bif b then bK (pr p.2) f else f) x=f x:=by
    intro b f;cases b;·rfl
    ·exact uE hx'
   rw [e1,e1];exact hf
def auJ(pr:aM→List (Nat×β)){x:Nat}:∀(A:List (Nat×aM)) (k i:Nat) (p:Nat×aM) (f g:Nat→β),A[i]?=some p→S (k+i)=true→dM (pr p.2) x=true →
  (∀j q,i < j→A[j]?=some q→dM (pr q.2) x=true→S (k+j)=false)→lw pr S A k f x=bK (pr p.2) g x:=by
 intro A;induction A with
 | nil=>intro k i p f g hi;simp at hi
 | cons q A ih=>
  intro k i p f g hi hS hx hl;rw [lw];cases i with
  | zero=>
   simp only [List.getElem?_cons_zero,Option.some.injEq] at hi;subst hi;rw [Nat.add_zero] at hS;rw [hS];have:lw pr S A (k+1) (bK (pr q.2) f) x=lw pr (fun _=>false) A (k+1) (bK (pr q.2) f) x:=by refine Js pr A _ _ _ (fun j r hr hxr=>?_) rfl;have:=hl (j+1) r ab Jd hxr;rw [show k+1+j=k+(j+1) by omega];exact this
   rw [show (bif true then bK (pr q.2) f else f)=bK (pr q.2) f from rfl,this];have e:∀(A:List (Nat×aM)) (k:Nat) (h:Nat→β),lw pr (fun _=>false) A k h x=h x:=by
    intro A;induction A with
    | nil=>intro k h;rfl
    | cons r A ih=>intro k h;rw [lw];exact ih _ _
   rw [e];exact Ec (.inl hx)
  | succ i=>
   refine ih (k+1) i p _ g yT (by rw [show k+1+i=k+(i+1) by omega];exact hS) hx fun j r hj hr hxr=>?_;have:=hl (j+1) r ab Jd hxr;rw [show k+1+j=k+(j+1) by omega];exact this
def Jt(pr:aM→List (Nat×β))(S:Nat→Bool)(p:Nat×aM):∀(A:List (Nat×aM)) (k:Nat) (f:Nat→β),lw pr S (A++[p]) k f=(bif S (k+A.length) then bK (pr p.2) (lw pr S A k f) else lw pr S A k f):=by
 intro A;induction A with
 | nil=>intro k f;rfl
 | cons q A ih=>
  intro k f;rw [List.cons_append,lw,ih,lw,List.length_cons,show k+1+A.length=k+(A.length+1) by omega]
end
def fT(A:List (Nat×aM))(S:Nat→Bool)(σ:St):St:=⟨lw aM.ws S A 0 σ.s,lw aM.wb S A 0 σ.b⟩
structure Be(P:Program)(n:Nat)(ops:Array Oper)(σ0:St)(ex:Nat→Bool)(A:List (Nat×aM))(i:Nat)(o:Oper)(p:Nat×aM):Prop where
 loc:ex i=true→db P n ops o p.2
 rs:ex i=true→bh p.2.rs (fT A (fun j=>Nat.blt j i) σ0).s
 rb:ex i=true→bh p.2.rb (fT A (fun j=>Nat.blt j i) σ0).b
 fr:ex i=true→∀d,p.2.al=some d→dv d σ0
 mask:p.1=eW o.after.toList (A.take i)
 edges:Ed o.after.toList i=true
 ch:∀j q,j < i→A[j]?=some q→je q.2 p.2=true∧(p.1.testBit j=true∨jI q.2 p.2=true)
def auK(m:Nat)(L:aM):∀(A:List (Nat×aM)) (k:Nat),Jr m L A k=true→∀j q,A[j]?=some q→je q.2 L=true∧(m.testBit (k+j)=true∨jI q.2 L=true):=by
 intro A;induction A with
 | nil=>intro k _ j q hq;simp at hq
 | cons p A ih=>
  intro k h j q hq;rw [Jr,aR,aR,Bool.or_eq_true] at h;cases j with
  | zero=>simp at hq;subst hq;exact h.1
  | succ j=>
   have:=ih (k+1) h.2 j q rc;rw [show k+1+j=k+(j+1) by omega] at this;exact this
def blt_eq{x y:Nat}:Nat.blt x y=decide (x < y):=by rw [Bool.eq_iff_iff,decide_eq_true_iff];simp [Nat.blt_eq]
def Qw(A:List (Nat×aM))(p:Nat×aM)(σ:St)(hi:i≤A.length):fT (A++[p]) (fun j=>Nat.blt j i) σ=fT A (fun j=>Nat.blt j i) σ:=by
 have e:Nat.blt (0+A.length) i=false:=by rw [blt_eq,decide_eq_false];omega
 unfold fT;rw [Jt,Jt,e];rfl
def auL(A:List (Nat×aM))(p:Nat×aM)(σ:St):fT (A++[p]) (fun _=>true) σ=(fT A (fun _=>true) σ).app p.2:=by unfold fT St.app;rw [Jt,Jt];rfl
def acf(A:List (Nat×aM))(σ:St)(h:∀i,i < A.length→S i=true):fT A S σ=fT A (fun _=>true) σ:=by
 have e:∀{β:Type} (pr:aM→List (Nat×β)) (f:Nat→β),lw pr S A 0 f=lw pr (fun _=>true) A 0 f:=by intro β pr f;funext x;refine Js pr A 0 f f (fun i p hi _=>?_) rfl;rw [Nat.zero_add];exact h i (List.getElem?_eq_some_iff.1 hi).1
 unfold fT;rw [e,e]
def Qx{σ0:St}{ex:Nat→Bool}{C:Nat→aM→Prop}{QS:St→Prop}:∀(l:List Oper) (rest:List Oper) (pre:List Oper) (acc:List (Nat×aM)) (σ:St),ops.toList=pre++(l++rest)→acc.length=pre.length→σ=fT acc (fun _=>true) σ0 →
  (∀i o p,ops[i]?=some o→acc[i]?=some p→Be P n ops σ0 ex acc i o p)→cj P n ops σ0 C QS l acc σ →
  ∃A:List (Nat×aM),A.length+rest.length=ops.size∧A.take acc.length=acc∧QS (fT A (fun _=>true) σ0)∧(∀(i:Nat) (p:Nat×aM),acc.length≤i→A[i]?=some p→C i p.2)∧∀i o p,ops[i]?=some o→A[i]?=some p→Be P n ops σ0 ex A i o p:=by
 intro l;induction l with
 | nil=>
  intro rest pre acc σ ho hl hσ hg h;refine ⟨acc,?_,bF,hσ▸h,fun i p hi hp=>by have:=(List.getElem?_eq_some_iff.1 hp).1;omega,hg⟩;have:=congrArg List.length ho;simp at this;omega
 | cons o l ih=>
  intro rest pre acc σ ho hl hσ hg h;obtain ⟨m,L,hL,h1,h2,h3,h4,hC,h5⟩:=h
  suffices hs:_ by
   obtain ⟨A,hA1,hA2,hA3,hA4,hA5⟩:=ih rest (pre++[o]) _ _ (by rw [ho];simp) (by simp [hl]) (by rw [auL,hσ]) hs h5;refine ⟨A,hA1,?_,hA3,fun i p hi hp=>?_,hA5⟩
   rotate_left
   ·rcases Nat.lt_or_ge acc.length i with h|h
    ·exact hA4 i p jq hp
    ·have hie:i=acc.length:=by omega
     subst hie;have e5:(A.take (acc++[(m,L)]).length)[acc.length]?=some (m,L):=by rw [hA2];simp
     rw [List.getElem?_take_of_lt aL,hp] at e5;injection e5 with e5;rw [e5];exact hC
   have e3:=congrArg (List.take acc.length) hA2;rw [List.take_take,List.take_left] at e3;have e4:min acc.length (acc++[(m,L)]).length=acc.length:=aL;rw [e4] at e3;exact e3
  intro i o' p hi hp;have hi':i≤acc.length:=by have:=(List.getElem?_eq_some_iff.1 hp).1;simp at this;omega
  by_cases he:i=acc.length
  ·subst he
   rw [List.getElem?_append_right (Nat.le_refl _),Nat.sub_self] at hp;simp at hp;subst hp;have ho':o'=o:=by have:ops.toList[acc.length]?=some o':=yT;rw [ho,hl,List.getElem?_append_right (Nat.le_refl _),Nat.sub_self] at this;simpa using this.symm
   subst ho';have h4':=h4;unfold tj at h4';rw [aR,aR,Nat.beq_eq] at h4';obtain ⟨k1,k2,k3⟩:=h4';have hst:fT (acc++[(m,L)]) (fun j=>Nat.blt j acc.length) σ0=σ:=by rw [Qw _ _ _ (Nat.le_refl _),hσ];refine acf acc σ0 (S:=fun j=>Nat.blt j acc.length) fun i hi=>?_;rw [blt_eq,decide_eq_true hi]
   refine ⟨fun _=>hL,fun _=>by rw [hst];exact h1,fun _=>by rw [hst];exact h2,fun _=>h3,by rw [List.take_left];exact k2,k1,fun j q hj hq=>?_⟩;rw [List.getElem?_append_left hj] at hq;have:=auK _ _ _ 0 k3 j q hq;rw [Nat.zero_add] at this;exact this
  ·have hlt:i < acc.length:=by omega
   rw [List.getElem?_append_left hlt] at hp;have g:=hg i o' p hi hp;refine ⟨g.loc,fun hlo=>by rw [Qw _ _ _ hi'];exact g.rs hlo,fun hlo=>by rw [Qw _ _ _ hi'];exact g.rb hlo,g.fr,by rw [List.take_append_of_le_length hi'];exact g.mask,g.edges,fun j q hj hq=>?_⟩;rw [List.getElem?_append_left ab] at hq;exact g.ch j q hj hq
def auM(A:List (Nat×aM))(j:Nat):∀(l:List Edge),(eW l A).testBit j=true→∃e,e∈l∧Region.binds .any e=true∧(e.on=j∨∃q,A[e.on]?=some q∧q.1.testBit j=true):=by
 intro l;induction l with
 | nil=>intro h;simp [eW] at h
 | cons e l ih=>
  intro h;rw [eW] at h;cases hb:Region.binds .any e
  ·rw [hb] at h
   obtain ⟨e',h1,h2⟩:=ih h;exact ⟨e',by simp [h1],h2⟩
  ·rw [hb,cond_true,Nat.testBit_or,Nat.testBit_or,Bool.or_eq_true,Bool.or_eq_true,Nat.testBit_two_pow] at h
   rcases h with (h|h)|h
   ·obtain ⟨e',h1,h2⟩:=ih h
    exact ⟨e',by simp [h1],h2⟩
   ·exact ⟨e,aL,hb,.inl qn⟩
   ·cases hq:A[e.on]? with
    | none=>rw [hq] at h;simp at h
    | some q=>rw [hq] at h;exact ⟨e,aL,hb,.inr ⟨q,hq,qn⟩⟩
section
variable{σ0:St}{ex:Nat→Bool}{A:List (Nat×aM)}(hA:A.length≤ops.size)(hG:∀i o p,ops[i]?=some o→A[i]?=some p→Be P n ops σ0 ex A i o p)
include hA hG
def Ee(hS:∀i o,ops[i]?=some o→S i=true→∀e,e∈o.after.toList→Region.binds .any e=true→S e.on=true) :
  ∀(i:Nat) (o:Oper) (p:Nat×aM),ops[i]?=some o→A[i]?=some p→(∀e,e∈o.after.toList→Region.binds .any e=true→S e.on=true)→∀j,p.1.testBit j=true→S j=true:=by
 intro i;induction i using Nat.strongRecOn with
 | _ i ih=>
  intro o p ho hp he j hj;have g:=hG i o p ho hp;rw [g.mask] at hj;obtain ⟨e,h1,h2,h3⟩:=auM _ _ _ hj;have hon:e.on < i:=by have:=List.all_eq_true.1 g.edges e h1;rw [h2,Bool.not_true,Bool.false_or,blt_eq,decide_eq_true_iff] at this;exact this
  rcases h3 with h3|⟨q,hq,hqj⟩;·rw [←h3];exact he e h1 h2
  ·rw [List.getElem?_take_of_lt hon] at hq
   have hoe:e.on < ops.size:=Nat.lt_of_lt_of_le (List.getElem?_eq_some_iff.1 hq).1 hA;exact ih e.on hon ops[e.on] q (Array.getElem?_eq_getElem hoe) hq (hS e.on _ (Array.getElem?_eq_getElem hoe) (he e h1 h2)) j hqj
def acg(pr:aM→List (Nat×Option β))(rd:aM→List (Nat×β)){p:Nat×aM}(ho:ops[i]?=some o)(hp:A[i]?=some p)
  (hS:∀i o,ops[i]?=some o→S i=true→∀e,e∈o.after.toList→Region.binds .any e=true→S e.on=true) (hi:S i=false) (he:∀e,e∈o.after.toList→Region.binds .any e=true→S e.on=true)
  (hap:∀x y:aM,jI x y=true→ju (pr x) (rd y)=false∧ju (pr y) (rd x)=false) (f:Nat→Option β) (h:bh (rd p.2) (lw pr (fun j=>Nat.blt j i) A 0 f)):bh (rd p.2) (lw pr S A 0 f):=by
 have hi':i < A.length:=(List.getElem?_eq_some_iff.1 hp).1;refine bh.of_mem fun q hq=>?_;rw [←h.mem q hq];refine Js pr A 0 f f (fun j r hr hx=>?_) rfl;rw [Nat.zero_add];show S j=Nat.blt j i;rw [blt_eq];have hj:j < A.length:=(List.getElem?_eq_some_iff.1 hr).1;have hoj:=Array.getElem?_eq_getElem (show j < ops.size by omega);have hin:=Qu hq;by_cases hji:j < i
 ·rw [decide_eq_true hji]
  rcases ((hG i o p ho hp).ch j r hji hr).2 with hm|hm;·exact Ee hA hG hS i o p ho hp he j hm
  ·have:=Jq (hap _ _ hm).1 q.1 hx
   rw [hin] at this;cases this
 ·rw [decide_eq_false hji]
  by_cases hje:j=i;·rw [hje];exact hi
  ·have hij:i < j:=by omega
   cases hSj:S j;·rfl
   ·rcases ((hG j _ r hoj hr).ch i p hij hp).2 with hm|hm
    ·have:=Ee hA hG hS j _ r hoj hr (hS j _ hoj hSj) i hm
     rw [hi] at this;cases this
    ·have:=Jq (hap _ _ hm).2 q.1 hx
     rw [hin] at this;cases this
def ach(pr:aM→List (Nat×Option β)){p:Nat×aM}(_ho:ops[i]?=some o)(hp:A[i]?=some p)
  (hS:∀i o,ops[i]?=some o→S i=true→∀e,e∈o.after.toList→Region.binds .any e=true→S e.on=true) (hi:S i=false)
  (hap:∀x y:aM,jI x y=true→ju (pr x) (pr y)=false) (f:Nat→Option β):bK (pr p.2) (lw pr S A 0 f)=lw pr (fun j=>bif Nat.beq j i then true else S j) A 0 f:=by
 funext x;have hi':i < A.length:=(List.getElem?_eq_some_iff.1 hp).1;by_cases hx:dM (pr p.2) x=true
 ·refine (auJ pr A 0 i p f _ hp aL hx fun j q hij hq hxq=>?_).symm
  have hj:j < A.length:=(List.getElem?_eq_some_iff.1 hq).1;have hoj:=Array.getElem?_eq_getElem (show j < ops.size by omega);rw [Nat.zero_add];simp only [beq_eq];rw [decide_eq_false ab,cond_false];cases hSj:S j;·rfl
  ·rcases ((hG j _ q hoj hq).ch i p hij hp).2 with hm|hm
   ·have:=Ee hA hG hS j _ q hoj hq (hS j _ hoj hSj) i hm
    rw [hi] at this;cases this
   ·have:=Jq (hap _ _ hm) x hx
    rw [hxq] at this;cases this
 ·rw [uE Bb]
  refine Js pr A 0 f f (fun j q hq hxq=>?_) rfl;rw [Nat.zero_add];simp only [beq_eq];by_cases hji:j=i
  ·subst hji
   rw [hp] at hq;injection hq with hq;subst hq;exact absurd hxq hx
  ·rw [decide_eq_false hji,cond_false]
def auN{p:Nat×aM}(ho:ops[i]?=some o)(hp:A[i]?=some p)
  (hS:∀i o,ops[i]?=some o→S i=true→∀e,e∈o.after.toList→Region.binds .any e=true→S e.on=true) (hi:S i=false) (hlo:ex i=true) {d:Nat} (hd:p.2.al=some d):dv d (fT A S σ0):=by
 have key:∀(B:List (Nat×aM)) (k:Nat) (f:Nat→Option RV),(∀i rv,f i=some rv→rv.men d=false)→(∀j q,B[j]?=some q→S (k+j)=true→Qv d q.2.ws=true)→∀i rv,lw aM.ws S B k f i=some rv→rv.men d=false:=by
  intro B;induction B with
  | nil=>intro k f hf _ i rv hi;exact hf i rv hi
  | cons q B ih=>
   intro k f hf hB i rv hi;refine ih (k+1) _ ?_ (fun j r hr hs=>hB (j+1) r Jd abu) i rv hi;cases hs:S k;·exact hf
   ·exact dv.app (σ:=⟨f,fun _=>none⟩) (L:=q.2) hf (hB 0 q rfl (by rw [Nat.add_zero];exact hs))
 refine key A 0 σ0.s ((hG i o p ho hp).fr hlo d hd) fun j q hq hs=>?_;rw [Nat.zero_add] at hs;have hj:j < A.length:=(List.getElem?_eq_some_iff.1 hq).1;have hi':i < A.length:=(List.getElem?_eq_some_iff.1 hp).1;have hoj:=Array.getElem?_eq_getElem (show j < ops.size by omega);have hne:j≠i:=fun e=>by rw [e,hi] at hs;cases hs
 have hf:je q.2 p.2=true:=by
  by_cases hji:j < i;·exact ((hG i o p ho hp).ch j q hji hq).1
  ·rcases ((hG j _ q hoj hq).ch i p ab hp).2 with hm|hm
   ·have:=Ee hA hG hS j _ q hoj hq (hS j _ hoj hs) i hm
    rw [hi] at this;cases this
   ·unfold jI at hm
    simp only [aR] at hm;exact hm.2
 unfold je at hf;rw [hd] at hf;exact hf
end
def auO(x y:aM)(h:jI x y=true):ju x.ws y.rs=false∧ju y.ws x.rs=false:=by unfold jI at h;simp only [aR,Bool.not_eq_true'] at h;exact ⟨h.1.1.1.1,h.1.1.1.2⟩
def auP(x y:aM)(h:jI x y=true):ju x.wb y.rb=false∧ju y.wb x.rb=false:=by unfold jI at h;simp only [aR,Bool.not_eq_true'] at h;exact ⟨h.1.2.1.1,h.1.2.1.2⟩
def auQ(x y:aM)(h:jI x y=true):ju x.ws y.ws=false:=by unfold jI at h;simp only [aR,Bool.not_eq_true'] at h;exact h.1.1.2
def auR(x y:aM)(h:jI x y=true):ju x.wb y.wb=false:=by unfold jI at h;simp only [aR,Bool.not_eq_true'] at h;exact h.1.2.2
def Qy{σ0:St}{ex:Nat→Bool}{ini:Nat→Bool}{A:List (Nat×aM)}(hA:A.length=ops.size)(hG:∀i o p,ops[i]?=some o→A[i]?=some p→Be P n ops σ0 ex A i o p)
  (hpick:∀(fuel:Nat) (listed:Array Bool) (a:Act) (w:World),listed.size=ops.size→(List.range ops.size).countP (fun i=>!listed.getD i false)≤fuel+1→(∀i,ex i=false→listed.getD i false=ini i) →
   (∀i o,ops[i]?=some o→listed.getD i false=true→∀e,e∈o.after.toList→Region.binds .any e=true→listed.getD e.on false=true)→bB h0 w0 Fz0 n (fT A (fun i=>listed.getD i false) σ0) a w →
   ∀i,i < ops.size→listed.getD i false=false→ex i=false→(∀o,ops[i]?=some o→∀e,e∈o.after.toList→Region.binds .any e=true→listed.getD e.on false=true)→wpOp P ops Q i (wpAny P .any ops Q fuel (listed.setIfInBounds i true)) a w)
  (hend:∀(listed:Array Bool) (a:Act) (w:World),(∀i,i < ops.size→listed.getD i false=true)→(∀i,ex i=false→listed.getD i false=ini i)→bB h0 w0 Fz0 n (fT A (fun _=>true) σ0) a w→Q .normal a w):∀(fuel:Nat) (listed:Array Bool) (a:Act) (w:World),listed.size=ops.size →
  (List.range ops.size).countP (fun i=>!listed.getD i false)≤fuel →
  (∀i o,ops[i]?=some o→listed.getD i false=true→∀e,e∈o.after.toList→Region.binds .any e=true→listed.getD e.on false=true) →
  (∀i,ex i=false→listed.getD i false=ini i) →
  bB h0 w0 Fz0 n (fT A (fun i=>listed.getD i false) σ0) a w→wpAny P .any ops Q fuel listed a w:=by
 have hready:∀(listed:Array Bool),listed.size=ops.size→Region.ready .any ops listed=[]→∀i,i < ops.size→listed.getD i false=true:=by
  intro listed hsz hr i;induction i using Nat.strongRecOn with
  | _ i ih=>
   intro hi;cases hl:listed.getD i false
   ·exfalso
    have:i∈Region.ready .any ops listed:=by
     unfold Region.ready;rw [List.mem_filter];refine ⟨List.mem_range.2 hi,?_⟩;have hlt:listed.getD i true=false:=by rw [Array.getD_eq_getD_getElem?] at hl ⊢;rw [Array.getElem?_eq_getElem ab] at hl ⊢;exact hl
     rw [hlt,Array.getElem?_eq_getElem hi];simp only [Bool.not_false,Bool.true_and,Option.map_some,Option.getD_some];rw [Array.all_eq_true_iff_forall_mem];intro e he;cases hb:Region.binds .any e;·rfl
     ·have g:=hG i _ _ (Array.getElem?_eq_getElem hi) (List.getElem?_eq_getElem ab)
      have:=List.all_eq_true.1 g.edges e (Array.mem_toList_iff.2 he);rw [hb,Bool.not_true,Bool.false_or,blt_eq,decide_eq_true_iff] at this;rw [ih e.on this ab];rfl
    rw [hr] at this;simp at this
   ·rfl
 have hfin:∀(listed:Array Bool) (a:Act) (w:World),listed.size=ops.size→Region.ready .any ops listed=[]→(∀i,ex i=false→listed.getD i false=ini i)→bB h0 w0 Fz0 n (fT A (fun i=>listed.getD i false) σ0) a w→Q .normal a w:=by intro listed a w hsz hr hini hc;refine hend listed a w (hready listed hsz hr) hini ?_;rw [←acf A (S:=fun i=>listed.getD i false) σ0 fun i hi=>hready listed hsz hr i ab];exact hc
 intro fuel;induction fuel with
 | zero=>
  intro listed a w hsz hcnt hcl hini hc;have hr:Region.ready .any ops listed=[]:=by
   unfold Region.ready;rw [List.filter_eq_nil_iff];intro i hi;have h0:=List.countP_eq_zero.1 (Nat.le_zero.1 hcnt) i hi;have hlt:=List.mem_range.1 hi;have:listed.getD i true=true:=by rw [Array.getD_eq_getD_getElem?] at h0 ⊢;rw [Array.getElem?_eq_getElem ab] at h0 ⊢;simpa using h0
   rw [this];simp
  exact ⟨hr,hfin listed a w hsz hr hini hc⟩
 | succ fuel ih=>
  intro listed a w hsz hcnt hcl hini hc;refine ⟨fun hr=>hfin listed a w hsz hr hini hc,fun i hi=>?_⟩;unfold Region.ready at hi;rw [List.mem_filter,List.mem_range,aR] at hi;obtain ⟨hlt,hnl,hed⟩:=hi;have ho:=Array.getElem?_eq_getElem hlt;have hli:listed.getD i false=false:=by rw [Array.getD_eq_getD_getElem?] at hnl ⊢;rw [Array.getElem?_eq_getElem ab] at hnl ⊢;simpa using hnl
  have he:∀e,e∈ops[i].after.toList→Region.binds .any e=true→listed.getD e.on false=true:=by intro e he hb;rw [ho] at hed;simp only [Option.map_some,Option.getD_some] at hed;rw [Array.all_eq_true_iff_forall_mem] at hed;have:=hed e (Array.mem_toList_iff.1 he);rw [hb,Bool.not_true,Bool.false_or] at this;exact this
  cases hex:ex i
  ·exact hpick fuel listed a w hsz hcnt hini hcl hc i hlt hli hex fun o ho'=>by rw [ho] at ho';injection ho' with ho';subst ho';exact he
  have hi':i < A.length:=ab;have hp:=List.getElem?_eq_getElem hi';have g:=hG i _ _ ho hp;have hset:∀j,(listed.setIfInBounds i true).getD j false=(bif Nat.beq j i then true else listed.getD j false):=by
   intro j;rw [beq_eq];by_cases hj:j=i
   ·subst hj
    rw [decide_eq_true rfl,cond_true,Array.getD_eq_getD_getElem?,Array.getElem?_setIfInBounds_self];rw [if_pos ab];rfl
   ·rw [decide_eq_false hj,cond_false,Array.getD_eq_getD_getElem?,Array.getD_eq_getD_getElem?,Array.getElem?_setIfInBounds_ne ab]
  have hst:(fT A (fun i=>listed.getD i false) σ0).app A[i].2=fT A (fun j=>(listed.setIfInBounds i true).getD j false) σ0:=by unfold St.app fT;have e1:=ach (Nat.le_of_eq hA) hG aM.ws (S:=fun i=>listed.getD i false) ho hp hcl hli auQ σ0.s;have e2:=ach (Nat.le_of_eq hA) hG aM.wb (S:=fun i=>listed.getD i false) ho hp hcl hli auR σ0.b;simp only [hset];rw [←e1,←e2]
  unfold wpOp;rw [ho]
  have k:=g.loc hex (K:=wpAny P .any ops Q fuel (listed.setIfInBounds i true)) (Q:=Q) hc
   (acg (Nat.le_of_eq hA) hG aM.ws aM.rs (S:=fun i=>listed.getD i false) ho hp hcl hli he auO σ0.s (g.rs hex))
   (acg (Nat.le_of_eq hA) hG aM.wb aM.rb (S:=fun i=>listed.getD i false) ho hp hcl hli he auP σ0.b (g.rb hex))
   (fun d hd=>auN (Nat.le_of_eq hA) hG (S:=fun i=>listed.getD i false) ho hp hcl hli hex hd)
   (fun a' w' hc'=>by
    rw [hst] at hc';refine ih _ a' w' (by simpa using hsz) ?_ ?_ ?_ hc'
    ·have hc1:(List.range ops.size).countP (fun j=>!(listed.setIfInBounds i true).getD j false)+1≤(List.range ops.size).countP (fun j=>!listed.getD j false):=by
      have key:∀(l:List Nat),l.Nodup→i∈l→l.countP (fun j=>!(listed.setIfInBounds i true).getD j false)+1≤l.countP (fun j=>!listed.getD j false):=by
       have mono:∀(l:List Nat),l.countP (fun j=>!(listed.setIfInBounds i true).getD j false)≤l.countP (fun j=>!listed.getD j false):=by
        intro l;refine List.countP_mono_left fun j _ hj=>?_;rw [hset,beq_eq] at hj;by_cases hji:j=i;·rw [decide_eq_true hji] at hj;simp at hj
        ·rw [decide_eq_false hji] at hj;exact hj
       intro l;induction l with
       | nil=>intro _ h;simp at h
       | cons x l ihl=>
        intro hnd hm;rw [List.countP_cons,List.countP_cons];rcases List.mem_cons.1 hm with rfl|hm
        ·have:=mono l
         rw [hset i,beq_eq,decide_eq_true rfl,hli];exact Nat.add_le_add_right this 1
        ·have:=ihl (List.nodup_cons.1 hnd).2 hm
         have hxi:x≠i:=fun e=>(List.nodup_cons.1 hnd).1 (e▸hm);rw [hset x,beq_eq,decide_eq_false hxi,cond_false];omega
      exact key _ List.nodup_range (List.mem_range.2 hlt)
     omega
    ·intro j o hj hs e he' hb
     rw [hset] at hs ⊢;rw [beq_eq] at hs ⊢;by_cases hji:j=i
     ·subst hji
      rw [ho] at hj;injection hj with hj;subst hj;rw [he e he' hb];simp
     ·rw [decide_eq_false hji,cond_false] at hs
      rw [hcl j o hj hs e he' hb];simp
    ·intro j hj
     rw [hset,beq_eq,decide_eq_false (by intro e;rw [e,hex] at hj;cases hj),cond_false];exact hini j hj)
  show if _ then _ else _
  by_cases hw:Region.wanted ops[i] (yielded ops a.tmps)=true;·rw [if_pos hw] at k ⊢;exact .inl k
  ·rw [if_neg hw] at k ⊢;exact k
def auS{id:Nat}{σ:St}{QS:St→Prop}{a:Act}(hc:bB h0 w0 Fz0 n σ a w)
  (hr:bR P n ops QS ops.toList σ) (hQ:∀τ a w,QS τ→bB h0 w0 Fz0 n τ a w→Q .normal a w):(Code.region id ops false).wp P Q a w:=wp_region_list (auI hQ _ σ a w hr hc)
def auT{id:Nat}{σ:St}{QS:St→Prop}{a:Act}(hm:P.follows .mixedOrders=true)(hc:bB h0 w0 Fz0 n σ a w)
  (hr:cj P n ops σ (fun _ _=>True) QS ops.toList [] σ) (hQ:∀τ a w,QS τ→bB h0 w0 Fz0 n τ a w→Q .normal a w):(Code.region id ops true).wp P Q a w:=by
 obtain ⟨A,hA,_,hqs,_,hG⟩:=Qx (P:=P) (n:=n) (ex:=fun _=>true) ops.toList [] [] [] σ aL rfl rfl (fun i o p _ hp=>by simp at hp) hr;have hA:A.length=ops.size:=by simpa using hA
 refine wp_region_any hm (Qy (ini:=fun _=>false) hA hG (fun fuel listed a w _ _ _ _ _ i _ _ hex _=>by cases hex) (fun listed a w _ _ hc'=>hQ _ a w hqs hc') ops.size _ a _ aL ?_ ?_ (fun i hi=>by cases hi) ?_);·exact Nat.le_trans List.countP_le_length aL
 ·intro i o _ hs
  rw [Array.getD_eq_getD_getElem?,Array.getElem?_replicate] at hs;split at hs<;>simp at hs
 ·have e:fT A (fun i=>(Array.replicate ops.size false).getD i false) σ=σ:=by
   have e:∀{β:Type} (pr:aM→List (Nat×β)) (f:Nat→β),lw pr (fun i=>(Array.replicate ops.size false).getD i false) A 0 f=f:=by
    intro β pr f;have:(fun i=>(Array.replicate ops.size false).getD i false)=fun _=>false:=by funext i;rw [Array.getD_eq_getD_getElem?,Array.getElem?_replicate];split<;>rfl
    rw [this];have e:∀(A:List (Nat×aM)) (k:Nat) (h:Nat→β),lw pr (fun _=>false) A k h=h:=by
     intro A;induction A with
     | nil=>intro k h;rfl
     | cons r A ih=>intro k h;rw [lw];exact ih _ _
    exact e A 0 f
   unfold fT;rw [e,e]
  rw [e];exact hc.drew
end
end
section
abbrev RV.sc(v:Value):RV:=RV.sv false [PV.val v]
abbrev vI(n:Int):Value:=.int .i64 n
abbrev RV.int(n:Int):RV:=RV.sc (.int .i64 n)
abbrev RV.bool(b:Bool):RV:=RV.sc (.bool b)
abbrev RV.slc(o:Fl)(es:List (List PV)):RV:=RV.sv false [PV.sl o es]
section
variable{P:Program}{n:Nat}{ops:Array Oper}{h0:Nat→Prop}{w0:World}{Fz0:aC}
def bY.sc{x:Value}{Fz:aC}(h:bY false [PV.val x] Fz w v F):v=x∧F=[]:=by
 obtain ⟨h1,v',vs',F1,F2,h2,rfl,⟨⟨rfl,h3⟩,rfl⟩,h4,rfl⟩:=h;subst h4;refine ⟨?_,rfl⟩;cases v<;>first
  | (simp [th] at h1;done)
  | (simp [Value.cells] at h2;exact h2)
def bY.atom{p:PV}{Fz:aC}(h:bY false [p] Fz w v F):p.own Fz w v F:=by
 obtain ⟨h1,v',vs',F1,F2,h2,rfl,h3,h4,rfl⟩:=h;subst h4;have e:v.cells.toList=[v]:=by cases v<;>first|(simp [th] at h1;done)|rfl
 rw [e] at h2;injection h2 with h2 _;subst h2;rw [fS];exact h3
def aci(h:v.oneCell'=true):v.cells.toList=[v]∧th v=false:=by cases v<;>first|(simp [Value.oneCell'] at h;done)|exact ⟨rfl,rfl⟩
def bY.of_atom{p:PV}{Fz:aC}(h:p.own Fz w v F):bY false [p] Fz w v F:=by obtain ⟨e1,e2⟩:=aci (p.one (p.toRel h));exact ⟨e2,by rw [e1];exact ⟨v,[],F,[],rfl,aL,h,rfl,rfl⟩⟩
def bY.of_sc{x:Value}{Fz:aC}(h:x.oneCell'=true):bY false [PV.val x] Fz w x []:=bY.of_atom ⟨⟨rfl,h⟩,rfl⟩
def bl(x:Operand)(r:RV):List (Nat×RV):=match x with | .tmp t=>[(t,r)]|_=>[]
def bG(x:Operand)(r:RV):Prop:=match x with
 | .tmp _=>True
 | .const v=>∀(φ:Nat→Nat) (Fz:aC) (w:World),r.holds φ Fz w v []
 | .func f=>∀(φ:Nat→Nat) (Fz:aC) (w:World),r.holds φ Fz w (.func (.func f) #[] #[]) []
 | _=>False
def bh.left{l m:List (Nat×β)}{f:Nat→Option β}(h:bh (l++m) f):bh l f:=bh.of_mem fun p hp=>h.mem p DZ
def bh.right{l m:List (Nat×β)}{f:Nat→Option β}(h:bh (l++m) f):bh m f:=bh.of_mem fun p hp=>h.mem p DZ
variable{σ:St}{a:Act}{w:World}{φ:Nat→Nat}{Fz:aC}{Fp:Nat→List Nat}
def bU.op(h:bU h0 w0 Fz0 n σ a w φ Fz Fp){r:RV}(hr:bh (bl x r) σ.s)(hk:bG x r):∃F,r.holds φ Fz w (a.eval x) F:=by
 cases x with
 | tmp t=>exact ⟨_,h.slot t r hr.1⟩
 | const v=>exact ⟨[],hk _ _ _⟩
 | global g=>exact hk.elim
 | func f=>exact ⟨[],hk _ _ _⟩
def bU.sc(h:bU h0 w0 Fz0 n σ a w φ Fz Fp)(hr:bh (bl x (RV.sc v)) σ.s)(hk:bG x (RV.sc v)):a.eval x=v:=by obtain ⟨F,hF⟩:=h.op hr hk;exact (bY.sc hF).1
def bU.one_(h:bU h0 w0 Fz0 n σ a w φ Fz Fp)(hr:σ.s t=some (RV.sc v)):a.tmps.getD t undef=v∧v.oneCell'=true:=by
 have k:=h.slot t _ hr;obtain ⟨e,_⟩:=bY.sc k;exact ⟨e,by
  have:=k.2.one v;obtain ⟨h1,v',vs',F1,F2,h2,_,⟨⟨rfl,h3⟩,_⟩,_⟩:=k;exact h3⟩
def bU.put0(h:bU h0 w0 Fz0 n σ a w φ Fz Fp){r:RV}(hd:d < n)(hv:r.holds φ Fz w v []):bB h0 w0 Fz0 n (σ.set d (some r)) (a.put (some d) v) w:=
 ⟨φ,Fz,_,h.push hd hv (F:=[]) (X:=Fp 0) aL (by simpa using h.nod 0)⟩
def eH{K:Act→World→Prop}(h:(execOp a.eval o).run P w = .ok (.value v) w')(hk:K (a.put o.dst v) w'):o.wp P a w K Q:=by unfold Oper.wp;rw [h];exact hk
def auU{K:Act→World→Prop}(h:(execOp a.eval o).run P w = .ok .skip w')(hk:K (a.put o.dst undef) w'):o.wp P a w K Q:=by unfold Oper.wp;rw [h];exact hk
def RV.und:RV where
 holds _ _ _ v F:=v=undef∧F=[]
 men _:=false
 mono h _ _ _:=h
 lt h:=qk
def bU.putU(h:bU h0 w0 Fz0 n σ a w φ Fz Fp)(d:Nat):bB h0 w0 Fz0 n (σ.set d (some RV.und)) (a.put (some d) undef) w:=by
 have c:=h.wipe d undef;refine ⟨φ,Fz,mv Fp (2 * d+1),{ c with slot:=fun i rv hi=>?_,box:=fun e bx he=>c.box e bx he,bxb:=fun e bx he=>c.bxb e bx he,inj:=fun e e' c1 c2 h1 h2=>c.inj e e' c1 c2 h1 h2 }⟩;rw [St.set_s] at hi;split at hi
 ·rename_i e
  subst e;injection hi with hi;subst hi;refine ⟨?_,hI⟩;show (a.tmps.setIfInBounds i undef).getD i undef=undef;rw [Array.getD_eq_getD_getElem?];by_cases hlt:i < a.tmps.size;·rw [Array.getElem?_setIfInBounds_self_of_lt hlt];rfl
  ·rw [Array.getElem?_eq_none jq];rfl
 ·rename_i hne
  exact c.slot i rv (by rw [St.set_s,if_neg hne];exact hi)
def Loc(P:Program)(n:Nat)(o:Oper)(L:aM):Prop:=
 ∀{h0:Nat→Prop} {w0:World} {Fz0:aC} {σ:St} {a:Act} {w:World} {K:Act→World→Prop} {Q:Exit→Act→World→Prop},bB h0 w0 Fz0 n σ a w→bh L.rs σ.s→bh L.rb σ.b →
  (∀d,L.al=some d→dv d σ)→(∀a' w',bB h0 w0 Fz0 n (σ.app L) a' w'→K a' w')→o.wp P a w K Q
def db.of{L:aM}(hg:o.guard=none)(h:Loc P n o L):db P n ops o L:=by intro h0 w0 Fz0 σ a w K Q h1 h2 h3 h4 h5;rw [if_pos (by simp [Region.wanted,hg])];exact h h1 h2 h3 h4 h5
def acj{g:Nat}(hs:(ops[g]?).bind (·.dst)=some s)(hn:a.tmps.size=n)(hlt:s < n)(h:a.tmps.getD s undef = .bool b):yielded ops a.tmps g=some b:=by unfold yielded;rw [hs];rw [Array.getD_eq_getD_getElem?,Array.getElem?_eq_getElem ab] at h;simp only [Option.getD_some] at h;simp [Array.getElem?_eq_getElem (show s < a.tmps.size by omega),h]
def db.yes{L:aM}{g:Nat}{c:Bool}(hg:o.guard=some (g,b))(hs:(ops[g]?).bind (·.dst)=some s)(hlt:s < n)(hb:c=b)(h:Loc P n o L) :
  db P n ops o ⟨(s,RV.bool c)::L.rs,L.rb,L.ws,L.wb,L.al⟩:=by
 intro h0 w0 Fz0 σ a w K Q h1 h2 h3 h4 h5;obtain ⟨φ,Fz,Fp,hc⟩:=h1;have hy:=acj (ops:=ops) hs hc.siz hlt (hc.one_ h2.1).1;rw [if_pos (by simp [Region.wanted,hg,hy,hb])];exact h ⟨φ,Fz,Fp,hc⟩ h2.2 h3 h4 h5
def db.no{g:Nat}{c:Bool}(hg:o.guard=some (g,b))(hs:(ops[g]?).bind (·.dst)=some s)(hlt:s < n)(hb:c = !b)(hd:o.dst=some d) :
  db P n ops o ⟨[(s,RV.bool c)],[],[(d,some RV.und)],[],none⟩:=by
 intro h0 w0 Fz0 σ a w K Q h1 h2 h3 h4 h5;obtain ⟨φ,Fz,Fp,hc⟩:=h1;have hy:=acj (ops:=ops) hs hc.siz hlt (hc.one_ h2.1).1;rw [if_neg (by simp [Region.wanted,hg,hy,hb]),hd];exact h5 _ _ (hc.putU d)
def auV{g:Nat}(hs:(ops[g]?).bind (·.dst)=some s)(h:a.tmps.getD s undef=undef):yielded ops a.tmps g=none:=by
 have h':a.tmps[s]?.getD undef=undef:=qn;unfold yielded;rw [hs];cases hv:a.tmps[s]? with
 | none=>simp [hv]
 | some v=>
  rw [hv] at h';simp only [Option.getD_some] at h';subst h';simp [hv,undef]
def db.noU{g:Nat}(hg:o.guard=some (g,b))(hs:(ops[g]?).bind (·.dst)=some s)(hd:o.dst=some d) :
  db P n ops o ⟨[(s,RV.und)],[],[(d,some RV.und)],[],none⟩:=by
 intro h0 w0 Fz0 σ a w K Q h1 h2 h3 h4 h5;obtain ⟨φ,Fz,Fp,hc⟩:=h1;have hy:=auV (ops:=ops) (a:=a) hs (hc.slot s _ h2.1).1;rw [if_neg (by simp [Region.wanted,hg,hy]),hd];exact h5 _ _ (hc.putU d)
def bR.step{QS:St→Prop}{L:aM}(h1:bh L.rs σ.s)(h2:bh L.rb σ.b)(hl:db P n ops o L)
  (h3:∀d,L.al=some d→dv d σ) (h5:bR P n ops QS l (σ.app L)):bR P n ops QS (o::l) σ:=
 ⟨L,hl,h1,h2,h3,h5⟩
def bR.cases{QS:St→Prop}{l:List Oper}{s:Nat}{b:Bool}(_hs:σ.s s=some (RV.bool b))(ht:b=true→bR P n ops QS l σ)(hf:b=false→bR P n ops QS l σ):bR P n ops QS l σ:=by
 cases hb:b;·exact hf hb
 ·exact ht hb
def cj.step{σ0:St}{QS:St→Prop}{acc:List (Nat×aM)}{L:aM}(m:Nat)(h1:bh L.rs σ.s)(h2:bh L.rb σ.b)(hl:db P n ops o L)
  (h3:∀d,L.al=some d→dv d σ0) (h4:tj m o L acc=true) (h5:cj P n ops σ0 (fun _ _=>True) QS l (acc++[(m,L)]) (σ.app L)):cj P n ops σ0 (fun _ _=>True) QS (o::l) acc σ:=
 ⟨m,L,hl,h1,h2,h3,h4,True.intro,h5⟩
def cj.stepC{σ0:St}{C:Nat→aM→Prop}{QS:St→Prop}{acc:List (Nat×aM)}{L:aM}(m:Nat)(h1:bh L.rs σ.s)(h2:bh L.rb σ.b)(hl:db P n ops o L)
  (h3:∀d,L.al=some d→dv d σ0) (h4:tj m o L acc=true) (hC:C acc.length L) (h5:cj P n ops σ0 C QS l (acc++[(m,L)]) (σ.app L)):cj P n ops σ0 C QS (o::l) acc σ:=
 ⟨m,L,hl,h1,h2,h3,h4,hC,h5⟩
def cj.cases{σ0:St}{C:Nat→aM→Prop}{QS:St→Prop}{l:List Oper}{acc:List (Nat×aM)}{s:Nat}{b:Bool}(_hs:σ.s s=some (RV.bool b))(ht:b=true→cj P n ops σ0 C QS l acc σ)(hf:b=false→cj P n ops σ0 C QS l acc σ) :
  cj P n ops σ0 C QS l acc σ:=by
 cases hb:b;·exact hf hb
 ·exact ht hb
def az.nil:az [] []:=True.intro
def az.cons{p q:PV}{ps qs:List PV}(h:p.To q)(k:az ps qs):az (p::ps) (q::qs):=⟨h,k⟩
def aA{p:PV}{ps qs:List PV}(k:az ps qs):az (p::ps) (p::qs):=az.cons (PV.To.refl _) k
def Cp(r r':RV):Prop:=∀{φ:Nat→Nat} {Fz:aC} {w:World} {v:Value} {F:List Nat},r.holds φ Fz w v F→r'.holds φ Fz w v []
def Cp.sc:Cp (RV.sc v) (RV.sc v):=fun h=>by obtain ⟨rfl,rfl⟩:=bY.sc h;exact h
def Cp.sv{cs qs:List PV}(h:az cs qs)(hb:aS qs):Cp (RV.sv ag cs) (RV.sv ag qs):=fun hh=>⟨hh.1,hb.own (h.rel hh.2.rel)⟩
def Cp.ptr:Cp (RV.ptr d off) (RV.ptr d off):=fun h=>⟨h.1,rfl⟩
def Qz(hop:o.op = .move x∨o.op = .assign x):(execOp a.eval o).run P w = .ok (.value (a.eval x)) w:=by unfold execOp;rcases hop with h|h<;>rw [h]<;>rfl
def lW{op:Op}{x:Nat}{r r':RV}(hop:op = .move (.tmp x)∨op = .assign (.tmp x))(hd:d < n)(hc:Cp r r') :
  Loc P n ⟨some d,op,ty,pos,af,g⟩ ⟨[(x,r)],[],[(d,some r')],[],none⟩:=by
 intro h0 w0 Fz0 σ a w K Q h1 h2 _ _ h5;obtain ⟨φ,Fz,Fp,h⟩:=h1;exact eH (Qz hop) (h5 _ _ (h.put0 hd (hc (h.slot x r h2.1))))
def Ef{op:Op}{x:Nat}{r:RV}(hop:op = .move (.tmp x)∨op = .assign (.tmp x))(hd:d < n) :
  Loc P n ⟨some d,op,ty,pos,af,g⟩ ⟨[(x,r)],[],[(x,none),(d,some r)],[],none⟩:=by
 intro h0 w0 Fz0 σ a w K Q h1 h2 _ _ h5;obtain ⟨φ,Fz,Fp,h⟩:=h1;have hx:=h.slot x r h2.1;have k:=h.pull x;have hX:∀b,b∈Fp (2 * x+1)++Fp 0→b∈mv Fp (2 * x+1) 0:=fun b hb=>by unfold mv;rw [if_pos rfl];exact hb
 have hn:(Fp (2 * x+1)++Fp 0).Nodup:=by have:=k.nod 0;unfold mv at this;rw [if_pos rfl] at this;exact this
 exact eH (Qz hop) (h5 _ _ ⟨φ,Fz,_,k.push hd hx hX hn⟩)
def rg{op:Op}{r:RV}(hop:op = .move (.const v)∨op = .assign (.const v))(hd:d < n)(hc:bG (.const v) r) :
  Loc P n ⟨some d,op,ty,pos,af,g⟩ ⟨[],[],[(d,some r)],[],none⟩:=by
 intro h0 w0 Fz0 σ a w K Q h1 _ _ _ h5;obtain ⟨φ,Fz,Fp,h⟩:=h1;exact eH (Qz hop) (h5 _ _ (h.put0 hd (hc _ _ _)))
def aY(h:v.oneCell'=true):bG (.const v) (RV.sc v):=fun _ _ _=>bY.of_sc h
def uF:bG (.const (.slice none 0 0)) (RV.slc (.own t e) []):=fun _ _ w=>
 bY.of_atom (p:=PV.sl (.own t e) []) ⟨[],[],World.ownsRow_nil w 0 t e,⟨rfl,rfl⟩,fun g hg=>by simp [Value.ownBlock] at hg,AY,fun g hg=>by simp [Value.ownBlock] at hg⟩
def ack:bG (.const (.slice none 0 0)) (RV.slc .v []):=fun _ _ _=>
 bY.of_atom (p:=PV.sl .v []) ⟨⟨none,0,0,fun _ _=>undef,rfl,Nat.le_refl _,Nat.zero_le _,aL,.inl rfl,aL⟩,rfl⟩
def ir{op:BinOp}{T T2:TypeId}{y:Operand}{vx vy:Value}(hd:d < n)(hx:bG x (RV.sc vx))(hy:bG y (RV.sc vy))(hv:v.oneCell'=true)
  (h:∀w:World,Sem.run P (do eqGuard op T x y vx vy;binOp op T vx vy:Sem Value) w = .ok v w) :
  Loc P n ⟨some d,.binOp op T x y T2,ty,pos,af,g⟩ ⟨bl x (RV.sc vx)++bl y (RV.sc vy),[],[(d,some (RV.sc v))],[],none⟩:=by
 intro h0 w0 Fz0 σ a w K Q h1 h2 _ _ h5;obtain ⟨φ,Fz,Fp,hc⟩:=h1;have ex:=hc.sc h2.left hx;have ey:=hc.sc h2.right hy;refine eH (v:=v) (w':=w) ?_ (h5 _ _ (hc.put0 hd (bY.of_sc hv)));unfold execOp;simp only [ex,ey,Sem.run_bind,h,Result.andThen_ok,Sem.run_pure]
section
variable{T:TypeId}{x y:Operand}{i j:Int}{w:World}
def auW:Sem.run P (do eqGuard .lss T x y (vI i) (vI j);binOp .lss T (vI i) (vI j):Sem Value) w = .ok (.bool (decide (i < j))) w:=tc
def auX:Sem.run P (do eqGuard .leq T x y (vI i) (vI j);binOp .leq T (vI i) (vI j):Sem Value) w = .ok (.bool (decide (i≤j))) w:=tc
def auY:Sem.run P (do eqGuard .gtr T x y (vI i) (vI j);binOp .gtr T (vI i) (vI j):Sem Value) w = .ok (.bool (decide (i > j))) w:=tc
def auZ:Sem.run P (do eqGuard .geq T x y (vI i) (vI j);binOp .geq T (vI i) (vI j):Sem Value) w = .ok (.bool (decide (i≥j))) w:=tc
def au0:Sem.run P (do eqGuard .eql T x y (vI i) (vI j);binOp .eql T (vI i) (vI j):Sem Value) w = .ok (.bool (i==j)) w:=tc
def au1:Sem.run P (do eqGuard .neq T x y (vI i) (vI j);binOp .neq T (vI i) (vI j):Sem Value) w = .ok (.bool (i != j)) w:=tc
def au2:Sem.run P (do eqGuard .add T x y (vI i) (vI j);binOp .add T (vI i) (vI j):Sem Value) w = .ok (vI (IntKind.i64.wrap (i+j))) w:=Qd
def au3:Sem.run P (do eqGuard .sub T x y (vI i) (vI j);binOp .sub T (vI i) (vI j):Sem Value) w = .ok (vI (IntKind.i64.wrap (i - j))) w:=Qd
def au4:Sem.run P (do eqGuard .mul T x y (vI i) (vI j);binOp .mul T (vI i) (vI j):Sem Value) w = .ok (vI (IntKind.i64.wrap (i * j))) w:=Qd
end
def dN(n:Int):Prop := -9223372036854775808≤n∧n≤9223372036854775807
section
variable{T T2:TypeId}{x y:Operand}{d:Nat}{ty:TypeId}{pos:String}{af:Array Edge}{g:Option (Nat×Bool)}{i j:Int}(hd:d < n)(hx:bG x (RV.int i))(hy:bG y (RV.int j))
include hd hx hy
def au5:Loc P n ⟨some d,.binOp .lss T x y T2,ty,pos,af,g⟩ ⟨bl x (RV.int i)++bl y (RV.int j),[],[(d,some (RV.bool (decide (i < j))))],[],none⟩:=ir hd hx hy rfl fun _=>auW
def au6:Loc P n ⟨some d,.binOp .leq T x y T2,ty,pos,af,g⟩ ⟨bl x (RV.int i)++bl y (RV.int j),[],[(d,some (RV.bool (decide (i≤j))))],[],none⟩:=ir hd hx hy rfl fun _=>auX
def au7:Loc P n ⟨some d,.binOp .gtr T x y T2,ty,pos,af,g⟩ ⟨bl x (RV.int i)++bl y (RV.int j),[],[(d,some (RV.bool (decide (i > j))))],[],none⟩:=ir hd hx hy rfl fun _=>auY
def au8:Loc P n ⟨some d,.binOp .geq T x y T2,ty,pos,af,g⟩ ⟨bl x (RV.int i)++bl y (RV.int j),[],[(d,some (RV.bool (decide (i≥j))))],[],none⟩:=ir hd hx hy rfl fun _=>auZ
def au9:Loc P n ⟨some d,.binOp .eql T x y T2,ty,pos,af,g⟩ ⟨bl x (RV.int i)++bl y (RV.int j),[],[(d,some (RV.bool (i==j)))],[],none⟩:=ir hd hx hy rfl fun _=>au0
def ava:Loc P n ⟨some d,.binOp .neq T x y T2,ty,pos,af,g⟩ ⟨bl x (RV.int i)++bl y (RV.int j),[],[(d,some (RV.bool (i != j)))],[],none⟩:=ir hd hx hy rfl fun _=>au1
def QA(h:dN (i+j)):Loc P n ⟨some d,.binOp .add T x y T2,ty,pos,af,g⟩ ⟨bl x (RV.int i)++bl y (RV.int j),[],[(d,some (RV.int (i+j)))],[],none⟩:=
 ir hd hx hy rfl fun _=>by rw [au2,IntWalk.i64_in _ h]
def avb(h:dN (i - j)):Loc P n ⟨some d,.binOp .sub T x y T2,ty,pos,af,g⟩ ⟨bl x (RV.int i)++bl y (RV.int j),[],[(d,some (RV.int (i - j)))],[],none⟩:=
 ir hd hx hy rfl fun _=>by rw [au3,IntWalk.i64_in _ h]
def Ju(h:dN (i * j)):Loc P n ⟨some d,.binOp .mul T x y T2,ty,pos,af,g⟩ ⟨bl x (RV.int i)++bl y (RV.int j),[],[(d,some (RV.int (i * j)))],[],none⟩:=
 ir hd hx hy rfl fun _=>by rw [au4,IntWalk.i64_in _ h]
end
def avc{T:TypeId}{x:Nat}(hd:d < n) :
  Loc P n ⟨some d,.unOp .not T (.tmp x),ty,pos,af,g⟩ ⟨[(x,RV.bool b)],[],[(d,some (RV.bool !b))],[],none⟩:=by
 intro h0 w0 Fz0 σ a w K Q h1 h2 _ _ h5;obtain ⟨φ,Fz,Fp,hc⟩:=h1;have ex:=(hc.one_ h2.1).1;refine eH (v:=.bool !b) (w':=w) ?_ (h5 _ _ (hc.put0 hd (bY.of_sc rfl)));unfold execOp;simp [Act.eval,Op.unary,-Array.getD_eq_getD_getElem?,ex]
def acl{c y z:Operand}{r:RV}(hd:d < n)(hb:(bif b then x else y)=z)(hc:bG c (RV.bool b))(hz:bG z r)(hcp:Cp r r) :
  Loc P n ⟨some d,.pick c x y,ty,pos,af,g⟩ ⟨bl c (RV.bool b)++bl z r,[],[(d,some r)],[],none⟩:=by
 intro h0 w0 Fz0 σ a w K Q h1 h2 _ _ h5;obtain ⟨φ,Fz,Fp,h⟩:=h1;have ec:=h.sc h2.left hc;obtain ⟨F,hF⟩:=h.op h2.right hz;refine eH (v:=a.eval z) (w':=w) ?_ (h5 _ _ (h.put0 hd (hcp hF)));unfold execOp;subst hb;cases b<;>simp [ec,asBool]
end
end
section
def dr(P:Program)(T:TypeId):Option (Bool×Nat):=match P.underlying T,P.info? T with
 | some d,some i=>some (match d with | .struct _=>true | .array _ _=>true|_=>false,i.size)
 | _,_=>none
def fU(P:Program)(T:TypeId):Option Value:=(P.info? T).bind (·.zero)
def gu(P:Program)(T:TypeId):Option (Nat×Nat×Nat):=match P.underlying T with
 | some (.slice E)=>(P.info? E).map fun i=>(E,i.size,i.bytes)
 | _=>none
def co(P:Program)(T:TypeId)(f:Nat):Option Nat:=match P.underlying T with
 | some (.struct fs)=>match fs[f]? with
  | some fd=>match P.info? fd.type with
   | some i=>if i.size=0 then none else some fd.offset
   | none=>none
  | none=>none
 | _=>none
section
variable{P:Program}
def QB{T:TypeId}(h:dr P T=some (ag,k))(w:World):(isAgg T).run P w = .ok ag w∧(sizeOf T).run P w = .ok k w:=by
 unfold dr at h;cases hu:P.underlying T with
 | none=>rw [hu] at h;cases h
 | some d=>
  cases hi:P.info? T with
  | none=>rw [hu,hi] at h;cases h
  | some i=>
   rw [hu,hi] at h;simp only [Option.some.injEq,Prod.mk.injEq] at h;obtain ⟨h1,h2⟩:=h;refine ⟨?_,by simp [sizeOf,typeInfo,hi,h2]⟩;unfold isAgg;simp only [Sem.run_bind,run_underlying hu,Result.andThen_ok];rw [←h1];cases d<;>rfl
def tk(h:gu P T=some (E,k,bs)):P.underlying T=some (.slice E)∧∃i,P.info? E=some i∧i.size=k∧i.bytes=bs:=by
 unfold gu at h;split at h
 ·rename_i E' hu
  cases hi:P.info? E' with
  | none=>rw [hi] at h;cases h
  | some i=>
   rw [hi] at h;simp only [Option.map_some,Option.some.injEq,Prod.mk.injEq] at h;obtain ⟨rfl,h1,h2⟩:=h;exact ⟨hu,i,hi,h1,h2⟩
 ·cases h
def QC{T:TypeId}(h:fU P T=some z)(w:World):(zeroValue T).run P w = .ok z w:=by
 unfold fU at h;cases hi:P.info? T with
 | none=>rw [hi] at h;cases h
 | some i=>
  rw [hi,Option.bind_some] at h;simp [zeroValue,typeInfo,hi,h]
def acm{T:TypeId}(h:co P T f=some fo)(w:World)(a:Addr):(Instr.fieldAt T (.pointer (some a)) f).run P w = .ok (.pointer (some (a.add fo))) w:=by
 unfold co at h;split at h
 ·rename_i fs hu
  split at h
  ·rename_i fd hf
   split at h
   ·rename_i i hi
    split at h;·cases h
    ·rename_i hs
     injection h with h;subst h;simp [Instr.fieldAt,run_underlying hu,hf,Instr.sureAddr,fieldPlace,sizeOf,typeInfo,hi,hs]
   ·cases h
  ·cases h
 ·cases h
def qo(b o k:Nat):(⟨b,o,none⟩:Addr).add k=⟨b,o+k,none⟩:=by unfold Addr.add;by_cases h:k=0<;>simp [h]
def Jv{T:TypeId}(h:dr P T=some (ag,k))(w:World)(b off:Nat)(vs:List Value)(hl:vs.length=k)(h1:ag=false→k=1)
  (hc:∀(j:Nat) u,vs[j]?=some u→w.cell? ⟨b,off+j,none⟩=some u) (hone:∀v,v∈vs→v.oneCell'=true):∃v,(loadVar T ⟨b,off,none⟩).run P w = .ok v w∧th v=ag∧v.cells.toList=vs:=by
 obtain ⟨e1,e2⟩:=QB h w;cases ag with
 | true=>
  refine ⟨.agg vs.toArray,?_,rfl,rfl⟩;have e3:=run_loadCells_list (P:=P) w ⟨b,off,none⟩ vs (fun j v hv=>by rw [qo];exact hc j v hv);subst hl;simp [loadVar,e1,e2,e3]
 | false=>
  have hk:=h1 rfl;subst hk;obtain ⟨v,rfl⟩:=List.length_eq_one_iff.1 hl;obtain ⟨c1,c2⟩:=aci (hone v aL);refine ⟨v,?_,c2,c1⟩;have:=hc 0 v rfl;rw [Nat.add_zero] at this;simp [loadVar,e1,this]
end
section
variable{P:Program}{n:Nat}{ops:Array Oper}{h0:Nat→Prop}{w0:World}{Fz0:aC}{σ τ:St}{a:Act}{w:World}{φ:Nat→Nat}{Fz:aC}{Fp:Nat→List Nat}
def bB.eqv(h:bB h0 w0 Fz0 n σ a w)(hs:∀i,τ.s i=σ.s i)(hb:∀d,τ.b d=σ.b d):bB h0 w0 Fz0 n τ a w:=
 h.less (fun i rv hi=>by rw [←hs];exact hi) (fun d cs hd=>by rw [←hb];exact hd)
def bU.new(h:bU h0 w0 Fz0 n σ a w φ Fz Fp)(bX:Array Value)(T:TypeId)(k:Nat) :
  bU h0 w0 Fz0 n σ a (w.alloc (.cells bX T)) φ (fun b o=>Fz b o∨(b=w.heap.size∧o < k)) (fun x=>if x=0 then w.heap.size::Fp 0 else Fp x):=by
 have hs:(w.alloc (.cells bX T)).heap.size=w.heap.size+1:=aL;refine h.world (w':=w.alloc (.cells bX T)) (Fz':=fun b o=>Fz b o∨(b=w.heap.size∧o < k)) rfl rfl rfl ab (fun b hb _=>⟨Below.heap_alloc w _ b hb,fun o ho=>?_⟩) (fun b o hbo=>⟨Or.inl hbo,?_⟩) (fun b o hbo=>?_) (fun b hb=>?_) ?_
 ·rcases ho with ho|⟨ho,_⟩
  ·exact ho
  ·omega
 ·exact World.cell?_of_block (Below.heap_alloc w _ b (h.fzl b o hbo))
 ·rcases hbo with hbo|⟨rfl,_⟩
  ·have:=h.fzl b o hbo;omega
  ·omega
 ·rcases List.mem_cons.1 hb with rfl|hb
  ·exact .inr ⟨Nat.le_refl _,ab⟩
  ·exact .inl hb
 ·exact List.nodup_cons.2 ⟨fun hm=>by have:=(h.low 0 _ hm).2;omega,h.nod 0⟩
def acn(w:World)(Fz:aC)(bX:Array Value)(T:TypeId)(k:Nat)(hl:∀b o,Fz b o→b < w.heap.size):jt Fz w (fun b o=>Fz b o∨(b=w.heap.size∧o < k)) (w.alloc (.cells bX T)):=
 fun b o hbo=>⟨.inl hbo,World.cell?_of_block (Below.heap_alloc w _ b (hl b o hbo))⟩
def aco(w:World)(Fz:aC)(bX:Array Value)(T:TypeId)(k:Nat)(hF:∀b,b∈F→b < w.heap.size):mG F Fz w (fun b o=>Fz b o∨(b=w.heap.size∧o < k)) (w.alloc (.cells bX T)):=
 fun b hb=>⟨Below.heap_alloc w _ b (hF b hb),fun o ho=>by
  rcases ho with ho|⟨ho,_⟩;·exact ho
  ·have:=hF b hb;omega⟩
def bU.drop(h:bU h0 w0 Fz0 n σ a w φ Fz Fp)(d:Nat):bU h0 w0 Fz0 n (σ.setB d none) a w φ Fz Fp:=
 h.less (fun _ _ hi=>hi) (fun e cs he=>by
  rw [St.setB_b] at he;split at he;·cases he
  ·exact he)
def wS(x:Operand):List (Nat×Option RV):=match x with | .tmp t=>[(t,none)]|_=>[]
def St.kill(σ:St)(x:Operand):St:=⟨bK (wS x) σ.s,σ.b⟩
def bU.pullO(h:bU h0 w0 Fz0 n σ a w φ Fz Fp){r:RV}(hr:bh (bl x r) σ.s)(hk:bG x r) :
  ∃F Fp',r.holds φ Fz w (a.eval x) F∧bU h0 w0 Fz0 n (σ.kill x) a w φ Fz Fp'∧Fp' 0=F++Fp 0:=by
 cases x with
 | tmp t=>exact ⟨_,_,h.slot t r hr.1,h.pull t,by unfold mv;rw [if_pos rfl]⟩
 | const v=>exact ⟨[],Fp,hk _ _ _,h,rfl⟩
 | global g=>exact hk.elim
 | func f=>exact ⟨[],Fp,hk _ _ _,h,rfl⟩
def gQ{zs:List PV}(hd:d < n)(hz:fU P T=some z)(hzs:∀{Fz:aC} {w:World},aN zs Fz w z.cells.toList []) :
  Loc P n ⟨some d,.alloc T,ty,pos,af,g⟩ ⟨[],[],[(d,some (RV.ptr d 0))],[(d,some (T,zs))],some d⟩:=by
 intro h0 w0 Fz0 σ a w K Q h1 _ _ h4 h5;obtain ⟨φ,Fz,Fp,hc⟩:=h1;have k:=(hc.drop d).new z.cells T 0;have hF0:(fun x=>if x=0 then w.heap.size::Fp 0 else Fp x) 0=w.heap.size::Fp 0:=rfl
 have k2:=k.pushB (d:=d) (g:=w.heap.size) (cs:=zs) (F:=[]) (X:=Fp 0) mF (heap_alloc_new w _) hzs
  (fun o ho=>by
   rcases ho with ho|⟨_,ho⟩;·have:=hc.fzl _ _ ho;omega
   ·omega)
  (fun b hb=>hb) (by simpa using k.nod 0) (.inr (h4 d rfl))
 have k3:=k2.push (i:=d) (rv:=RV.ptr d 0) (v:=.pointer (some ⟨w.heap.size,0,none⟩)) (F:=[]) (X:=Fp 0) hd ⟨aL,rfl⟩
  abI (by simpa using hc.nod 0)
 refine eH (v:=.pointer (some ⟨w.heap.size,0,none⟩)) (w':=w.alloc (.cells z.cells T)) ?_ (h5 _ _ (bB.eqv ⟨_,_,_,k3⟩ (fun i=>rfl) (fun e=>?_)))
 ·unfold execOp
  simp [Instr.alloc,QC hz,newVar,newRow]
 ·show bK [(d,some (T,zs))] σ.b e=_
  rw [St.set_b,St.setB_b,St.setB_b];simp only [bK,beq_eq];by_cases he:e=d<;>simp [he]
def lm{cs:List PV}(hd:d < n)(hx:bG x (RV.sv ag cs)) :
  Loc P n ⟨some d,.box T x,ty,pos,af,g⟩ ⟨bl x (RV.sv ag cs),[],wS x++[(d,some (RV.ptr d 0))],[(d,some (T,cs))],some d⟩:=by
 intro h0 w0 Fz0 σ a w K Q h1 h2 _ h4 h5;obtain ⟨φ,Fz,Fp,hc⟩:=h1;obtain ⟨F,Fp',hv,hc',hF⟩:=hc.pullO h2 hx;have hlt:=hv.2.lt;have hfree:dv d (σ.kill x):=by
  cases x with
  | tmp t=>exact dv.app (L:=⟨[],[],[(t,none)],[],none⟩) (h4 d rfl) rfl
  | _=>exact h4 d rfl
 have k:=(hc'.drop d).new (a.eval x).cells T 0;have hnd:=k.nod 0;simp only [if_true,hF] at hnd;have hnd':(F++w.heap.size::Fp 0).Nodup:=by
  rw [kg,dD,fm] at hnd;rw [dD,kg];refine ⟨hnd.2.1,⟨fun hm=>hnd.1 (.inr hm),hnd.2.2.1⟩,fun u hu v hv e=>?_⟩;rcases List.mem_cons.1 hv with rfl|hv;·exact hnd.1 (.inl (e▸hu))
  ·exact hnd.2.2.2 u hu v hv e
 have k2:=k.pushB (d:=d) (g:=w.heap.size) (cs:=cs) (F:=F) (X:=Fp 0) mF (heap_alloc_new w _)
  (hv.2.mono (acn w Fz _ T 0 hc.fzl) (aco w Fz _ T 0 hlt))
  (fun o ho=>by
   rcases ho with ho|⟨_,ho⟩;·have:=hc.fzl _ _ ho;omega
   ·omega)
  (fun b hb=>by
   simp only [if_true,hF];rcases List.mem_append.1 hb with hb|hb;·simp [hb]
   ·rcases List.mem_cons.1 hb with hb|hb<;>simp [hb]) hnd' (.inr hfree)
 have k3:=k2.push (i:=d) (rv:=RV.ptr d 0) (v:=.pointer (some ⟨w.heap.size,0,none⟩)) (F:=[]) (X:=Fp 0) hd ⟨aL,rfl⟩
  abI (by simpa using hc.nod 0)
 refine eH (v:=.pointer (some ⟨w.heap.size,0,none⟩)) (w':=w.alloc (.cells (a.eval x).cells T)) ?_ (h5 _ _ (bB.eqv ⟨_,_,_,k3⟩ (fun i=>?_) (fun e=>?_)))
 ·unfold execOp
  simp [Instr.box,newVar,newRow]
 ·cases x<;>rfl
 ·show bK [(d,some (T,cs))] σ.b e=_
  rw [St.set_b,St.setB_b,St.setB_b];simp only [bK,beq_eq];by_cases he:e=d;·simp [he]
  ·simp [he];cases x<;>rfl
def aN.seg{Fz:aC}{w:World}{cs:List PV}(h:aN cs Fz w vs F)(off k:Nat)(hk:off+k≤cs.length) :
  ∃F1 F2 F3,F=F1++(F2++F3)∧aN (cs.take off) Fz w (vs.take off) F1∧aN ((cs.drop off).take k) Fz w ((vs.drop off).take k) F2∧aN (cs.drop (off+k)) Fz w (vs.drop (off+k)) F3:=by
 have hl:=h.len;have e1:cs=cs.take off++((cs.drop off).take k++cs.drop (off+k)):=by rw [←List.drop_drop,iq,iq]
 rw [e1] at h;obtain ⟨v1,v2,F1,G,rfl,rfl,h1,h2⟩:=h.split;obtain ⟨v3,v4,F2,F3,rfl,rfl,h3,h4⟩:=h2.split;have l1:=h1.len;have l3:=h3.len;rw [cc] at l1;rw [cc,ll] at l3;have m1:v1.length=off:=ab;have m3:v3.length=k:=ab;have x1:(v1++(v3++v4)).take off=v1:=by rw [←m1,List.take_left]
 have x2:((v1++(v3++v4)).drop off).take k=v3:=by rw [←m1,List.drop_left,←m3,List.take_left]
 have x3:(v1++(v3++v4)).drop (off+k)=v4:=by rw [←List.drop_drop,←m1,List.drop_left,←m3,List.drop_left]
 rw [x1,x2,x3];exact ⟨F1,F2,F3,rfl,h1,h3,h4⟩
def mH{b:Nat}{cs qs:List PV}(hd:d < n)(hT:dr P T=some (ag,k))(h1:ag=false→k=1)(hk:off+k≤cs.length)
  (ht:az ((cs.drop off).take k) qs) (hb:aS qs) :
  Loc P n ⟨some d,.load T (.tmp p),ty,pos,af,g⟩ ⟨[(p,RV.ptr b off)],[(b,(t,cs))],[(d,some (RV.sv ag qs))],[],none⟩:=by
 intro h0 w0 Fz0 σ a w K Q hc hr hrb _ h5;obtain ⟨φ,Fz,Fp,hc⟩:=hc;obtain ⟨ep,_⟩:=hc.slot p _ hr.1;obtain ⟨cur,hg,ho⟩:=hc.box b _ hrb.1;obtain ⟨F1,F2,F3,_,_,h2,_⟩:=ho.seg off k hk;have hl:cur.toList.length=cs.length:=ho.len;have hll:((cur.toList.drop off).take k).length=k:=abE;obtain ⟨v,e1,e2,e3⟩:=Jv hT w (φ b) off ((cur.toList.drop off).take k) hll h1 (fun j u hu=>by
  rw [cell_of_row w (φ b) _ cur t (0,0) hg];have hj:j < k:=by rw [←hll];exact (List.getElem?_eq_some_iff.1 hu).1
  rw [List.getElem?_take_of_lt hj,List.getElem?_drop] at hu;simpa using hu) h2.one
 refine eH (v:=v) (w':=w) ?_ (h5 _ _ (hc.put0 hd (r:=RV.sv ag qs) ⟨e2,by rw [e3];exact hb.own (ht.rel h2.rel)⟩));unfold execOp;simp only [Act.eval,ep,Instr.loadAt,Instr.sureAddr,Sem.run_bind,Sem.run_pure,Result.andThen_ok,e1]
def fp{b:Nat}{cs ms qs:List PV}(hd:d < n)(hT:dr P T=some (ag,k))(h1:ag=false→k=1)(hk:off+k≤cs.length)
  (hm:(cs.drop off).take k=ms) (ht:az ms qs) (hb:aS qs) :
  Loc P n ⟨some d,.load T (.tmp p),ty,pos,af,g⟩ ⟨[(p,RV.ptr b off)],[(b,(t,cs))],[(d,some (RV.sv ag ms))],[(b,some (t,cs.take off++(qs++cs.drop (off+k))))],none⟩:=by
 intro h0 w0 Fz0 σ a w K Q hc hr hrb _ h5;obtain ⟨φ,Fz,Fp,hc⟩:=hc;subst hm;obtain ⟨ep,_⟩:=hc.slot p _ hr.1;obtain ⟨cur,hg,ho⟩:=hc.box b _ hrb.1;obtain ⟨F1,F2,F3,eF,o1,o2,o3⟩:=ho.seg off k hk;have hl:cur.toList.length=cs.length:=ho.len;have hll:((cur.toList.drop off).take k).length=k:=abE;obtain ⟨v,e1,e2,e3⟩:=Jv hT w (φ b) off ((cur.toList.drop off).take k) hll h1 (fun j u hu=>by
  rw [cell_of_row w (φ b) _ cur t (0,0) hg];have hj:j < k:=by rw [←hll];exact (List.getElem?_eq_some_iff.1 hu).1
  rw [List.getElem?_take_of_lt hj,List.getElem?_drop] at hu;simpa using hu) o2.one
 obtain ⟨k1,k2,k3⟩:=hc.bxb b _ hrb.1;have c1:=hc.pullB hrb.1;have hX0:(fun x=>if x=0 then φ b::mv Fp (2 * b+2) 0 else mv Fp (2 * b+2) x) 0=φ b::(Fp (2 * b+2)++Fp 0):=hI;have hn0:(φ b::(Fp (2 * b+2)++Fp 0)).Nodup:=PG;rw [eF] at hn0 hX0;simp only [kg,dD,fm,not_or] at hn0;obtain ⟨⟨⟨g1,g2,g3⟩,g4⟩,⟨n1,⟨n2,n3,n23⟩,n123⟩,n4,nx⟩:=hn0;have hX:∀x,x∈φ b::(F1++(F2++F3)++Fp 0)→x∈(fun x=>if x=0 then φ b::mv Fp (2 * b+2) 0 else mv Fp (2 * b+2) x) 0:=fun x hx=>by rw [hX0];exact hx
 have c2:=c1.pushB (d:=b) (g:=φ b) (cs:=cs.take off++(qs++cs.drop (off+k))) (F:=F1++([]++F3)) (X:=F2) mF hg
  (by have:=o1.append ((hb.own (ht.rel o2.rel)).append o3);rwa [show cur.toList.take off++((cur.toList.drop off).take k++cur.toList.drop (off+k))=cur.toList by rw [←List.drop_drop,iq,iq]] at this) k2
  (by intro x hx;refine hX x ?_;simp only [fm,ip,List.nil_append] at hx ⊢;rcases hx with (hx|hx)|hx|hx<;>simp [hx])
  (by
   simp only [List.nil_append,dD,kg,fm,ip];refine ⟨⟨n1,n3,fun u hu v hv=>n123 u hu v (.inr hv)⟩,⟨g2,n2⟩,fun u hu v hv e=>?_⟩;subst e;rcases hu with hu|hu<;>rcases hv with hv|hv;·subst hv;exact g1 hu
   ·exact n123 u hu u (.inl hv) rfl
   ·subst hv;exact g3 hu
   ·exact n23 u hv u hu rfl) (.inl rfl)
 have hφ:(fun x=>if x=b then φ b else φ x)=φ:=by funext x;by_cases hx:x=b<;>simp [hx]
 rw [hφ] at c2
 have c3:=c2.push (i:=d) (rv:=RV.sv ag ((cs.drop off).take k)) (v:=v) (F:=F2) (X:=[]) hd ⟨e2,by rw [e3];exact o2⟩
  (by intro x hx;simp [eQ] at hx ⊢;exact hx) (by simpa using n2)
 refine eH (v:=v) (w':=w) ?_ (h5 _ _ (bB.eqv ⟨_,_,_,c3⟩ (fun i=>rfl) (fun e=>?_)))
 ·unfold execOp
  simp only [Act.eval,ep,Instr.loadAt,Instr.sureAddr,Sem.run_bind,Sem.run_pure,Result.andThen_ok,e1]
 ·show bK [(b,some _)] σ.b e=_
  rw [St.set_b,St.setB_b,St.setB_b];simp only [bK,beq_eq];by_cases he:e=b<;>simp [he]
def tl{cs qs:List PV}(hd:d < n)(hT:dr P T=some (ag,k))(h1:ag=false→k=1)(hk:k≤cs.length)
  (ht:az (cs.take k) qs) (hb:aS qs) :
  Loc P n ⟨some d,.load T (.tmp p),ty,pos,af,g⟩ ⟨[(p,RV.eptr cs)],[],[(d,some (RV.sv ag qs))],[],none⟩:=by
 intro h0 w0 Fz0 σ a w K Q hc hr hrb _ h5;obtain ⟨φ,Fz,Fp,hc⟩:=hc;obtain ⟨⟨b,off,vs,ep,hrel,hcell⟩,_⟩:=hc.slot p _ hr.1;have hl:=hrel.len;have hrel':cC (cs.take k) Fz w (vs.take k):=by have e:cs=cs.take k++cs.drop k:=(iq _ _).symm;rw [e] at hrel;obtain ⟨v1,v2,rfl,r1,_⟩:=hrel.split;have:=r1.len;rw [cc] at this;rw [show v1=(v1++v2).take k by rw [show k=v1.length by omega,List.take_left]] at r1;exact r1
 obtain ⟨v,e1,e2,e3⟩:=Jv hT w b off (vs.take k) dm h1 (fun j u hu=>by
  have hj:j < k:=by have:=(List.getElem?_eq_some_iff.1 hu).1;rw [cc] at this;omega
  rw [List.getElem?_take_of_lt hj] at hu;exact (hcell j u hu).2) hrel'.one
 refine eH (v:=v) (w':=w) ?_ (h5 _ _ (hc.put0 hd (r:=RV.sv ag qs) ⟨e2,by rw [e3];exact hb.own (ht.rel hrel')⟩));unfold execOp;simp only [Act.eval,ep,Instr.loadAt,Instr.sureAddr,Sem.run_bind,Sem.run_pure,Result.andThen_ok,e1]
def acp{b:Nat}(hd:d < n)(hT:co P T f=some fo) :
  Loc P n ⟨some d,.fieldAddr T (.tmp p) f,ty,pos,af,g⟩ ⟨[(p,RV.ptr b off)],[],[(d,some (RV.ptr b (off+fo)))],[],none⟩:=by
 intro h0 w0 Fz0 σ a w K Q hc hr hrb _ h5;obtain ⟨φ,Fz,Fp,hc⟩:=hc;obtain ⟨ep,_⟩:=hc.slot p _ hr.1;refine eH (v:=.pointer (some ⟨φ b,off+fo,none⟩)) (w':=w) ?_ (h5 _ _ (hc.put0 hd ⟨rfl,rfl⟩));unfold execOp;simp only [Act.eval,ep,Sem.run_bind,acm hT,Result.andThen_ok,Sem.run_pure,qo]
def cF{cs:List PV}(hd:d < n)(hT:co P T f=some fo)(hf:fo≤cs.length) :
  Loc P n ⟨some d,.fieldAddr T (.tmp p) f,ty,pos,af,g⟩ ⟨[(p,RV.eptr cs)],[],[(d,some (RV.eptr (cs.drop fo)))],[],none⟩:=by
 intro h0 w0 Fz0 σ a w K Q hc hr hrb _ h5;obtain ⟨φ,Fz,Fp,hc⟩:=hc;obtain ⟨⟨b,off,vs,ep,hrel,hcell⟩,_⟩:=hc.slot p _ hr.1;have hl:=hrel.len;refine eH (v:=.pointer (some ⟨b,off+fo,none⟩)) (w':=w) ?_ (h5 _ _ (hc.put0 hd ⟨⟨b,off+fo,vs.drop fo,rfl,?_,fun j u hu=>?_⟩,rfl⟩))
 ·unfold execOp
  simp only [Act.eval,ep,Sem.run_bind,acm hT,Result.andThen_ok,Sem.run_pure,qo]
 ·have e:cs=cs.take fo++cs.drop fo:=(iq _ _).symm
  rw [e] at hrel;obtain ⟨v1,v2,rfl,r1,r2⟩:=hrel.split;have:=r1.len;rw [cc] at this;rw [show fo=v1.length by omega,List.drop_left];rw [show v1.length=fo by omega];exact r2
 ·rw [List.getElem?_drop] at hu
  rw [show off+fo+j=off+(fo+j) by omega];exact hcell _ u hu
def bO{b:Nat}{cs vs:List PV}(hT:dr P T=some (ag,k))(hx:bG x (RV.sv ag vs))(hv:vs.length=k)(hk:off+k≤cs.length) :
  Loc P n ⟨none,.store T (.tmp p) x,ty,pos,af,g⟩ ⟨(p,RV.ptr b off)::bl x (RV.sv ag vs),[(b,(t,cs))],wS x,[(b,some (t,cs.take off++(vs++cs.drop (off+k))))],none⟩:=by
 intro h0 w0 Fz0 σ a w K Q hc hr hrb _ h5;obtain ⟨φ,Fz,Fp,hc⟩:=hc;obtain ⟨ep,_⟩:=hc.slot p _ hr.1;obtain ⟨Fx,Fp',hxv,hc',hF⟩:=hc.pullO hr.2 hx;have hbs:(σ.kill x).b b=some (t,cs):=hrb.1;obtain ⟨cur,hg,ho⟩:=hc'.box b _ hbs;obtain ⟨k1,k2,k3⟩:=hc'.bxb b _ hbs;obtain ⟨F1,F2,F3,eF,o1,o2,o3⟩:=ho.seg off k hk;have hl:cur.toList.length=cs.length:=ho.len;have hxl:=hxv.2.len;have c1:=hc'.pullB hbs;have hX0:(fun x=>if x=0 then φ b::mv Fp' (2 * b+2) 0 else mv Fp' (2 * b+2) x) 0=φ b::(Fp' (2 * b+2)++(Fx++Fp 0)):=by simp [mv,hF]
 have hn0:(φ b::(Fp' (2 * b+2)++(Fx++Fp 0))).Nodup:=PG;rw [eF] at hn0 hX0;simp only [kg,dD,fm,not_or] at hn0;obtain ⟨⟨⟨g1,g2,g3⟩,g4,g5⟩,⟨n1,⟨n2,n3,n23⟩,n123⟩,⟨n4,n5,n45⟩,nx⟩:=hn0;have hX:∀i,i∈φ b::(F1++(F2++F3)++(Fx++Fp 0))→i∈(fun x=>if x=0 then φ b::mv Fp' (2 * b+2) 0 else mv Fp' (2 * b+2) x) 0:=fun x hx=>by rw [hX0];exact hx
 generalize hcur:(cur.toList.take off++(a.eval x).cells.toList++cur.toList.drop (off+k)).toArray=cur';have hw:(w.setRow (φ b) cur').heap.size=w.heap.size:=size_setRow _ _ _;have hset:(w.setRow (φ b) cur').heap[φ b]?=some (.cells cur' t (0,0)):=setRow_heap w (φ b) cur _ t _ hg;have hoth:∀i,i≠φ b→(w.setRow (φ b) cur').heap[i]?=w.heap[i]?:=fun i hi=>setRow_other w (φ b) i _ hi;have hkeep:jt Fz w Fz (w.setRow (φ b) cur'):=fun i o hio=>⟨hio,World.cell?_of_block (hoth i fun e=>k2 o (e▸hio))⟩
 have c2:=c1.world (w':=w.setRow (φ b) cur') (Fz':=Fz) (X:=φ b::(F1++(F2++F3)++(Fx++Fp 0))) rfl rfl rfl ab
  (fun i hi hi0=>⟨hoth i fun e=>hi0 (hX i Bc),fun o ho=>ho⟩) hkeep (fun i o hio=>by rw [hw];exact hc'.fzl i o hio)
  (fun i hi=>.inl (hX i hi)) PG
 have hm:∀(G:List Nat),(∀i,i∈G→i≠φ b)→mG G Fz w Fz (w.setRow (φ b) cur'):=fun G hG i hi=>⟨hoth i (hG i hi),fun _ h=>h⟩
 have c3:=c2.pushB (d:=b) (g:=φ b) (cs:=cs.take off++(vs++cs.drop (off+k))) (F:=F1++(Fx++F3)) (X:=[]) mF hset
  (by
   have e9:cur'.toList=cur.toList.take off++((a.eval x).cells.toList++cur.toList.drop (off+k)):=by rw [←hcur,bn]
   rw [e9];exact (o1.mono hkeep (hm _ fun i hi e=>g1 (e▸hi))).append ((hxv.2.mono hkeep (hm _ fun i hi e=>g4 (e▸hi))).append (o3.mono hkeep (hm _ fun i hi e=>g3 (e▸hi))))) k2
  (by
   intro i hi;simp only [if_true];simp only [fm,ip] at hi ⊢;rcases hi with (hi|hi|hi)|hi|hi;·exact .inr (.inl (.inl hi))
   ·exact .inr (.inr (.inl hi))
   ·exact .inr (.inl (.inr (.inr hi)))
   ·exact .inl hi
   ·cases hi)
  (by
   simp only [dD,kg,fm,ip];refine ⟨⟨n1,⟨n4,n3,fun u hu v hv e=>nx v (.inr (.inr hv)) u (.inl hu) e.symm⟩,fun u hu v hv e=>?_⟩,⟨aL,List.nodup_nil⟩,fun u hu v hv e=>?_⟩
   ·rcases hv with hv|hv
    ·exact nx u (.inl hu) v (.inl hv) e
    ·exact n123 u hu v (.inr hv) e
   ·rcases hv with hv|hv
    ·subst e;subst hv
     rcases hu with hu|hu|hu;·exact g1 hu
     ·exact g4 hu
     ·exact g3 hu
    ·cases hv) (.inl rfl)
 refine auU (w':=w.setRow (φ b) cur') ?_ (h5 _ _ (bB.eqv ⟨_,_,_,c3⟩ (fun i=>rfl) (fun e=>?_)))
 ·unfold execOp
  have e2:=(QB hT w).2;have e3:=run_storeCells_at P (φ b) off t (a.eval x).cells.toList 0 cur w hg (by rw [hxl,hv];have:cur.toList.length=cur.size:=aL;omega) (fun v hv=>hxv.2.one v hv);have e4:(a.eval x).cells.size=k:=by rw [←Array.length_toList,hxl,hv]
  have e5:(a.eval x).cells.toList.length=k:=by rw [hxl,hv]
  rw [Nat.add_zero,e5,hcur] at e3;have ep':a.eval (.tmp p) = .pointer (some ⟨φ b,off,none⟩):=ep;simp only [ep',Instr.storeAt,Instr.sureAddr,storeVar,Sem.run_bind,Sem.run_pure,Result.andThen_ok,e2,e4,ne_eq,not_true_eq_false,if_false,e3]
 ·show bK [(b,some _)] σ.b e=_
  rw [St.setB_b,St.setB_b];simp only [bK,beq_eq];by_cases he:e=b<;>simp [he];cases x<;>rfl
end
end
section
section
variable{P:Program}{n:Nat}{ops:Array Oper}{h0:Nat→Prop}{w0:World}{Fz0:aC}{σ τ:St}{a:Act}{w:World}{φ:Nat→Nat}{Fz:aC}{Fp:Nat→List Nat}
def bU.slrel(h:bU h0 w0 Fz0 n σ a w φ Fz Fp){o:Fl}{es:List (List PV)}(hs:σ.s s=some (RV.slc o es)):tg es Fz w (a.tmps.getD s undef):=
 ((PV.sl o es).toRel (bY.atom (h.slot s _ hs))).1
def aP{i:Operand}{o:Fl}{es:List (List PV)}{cs:List PV}{q:Int}(hd:d < n)(hT:gu P T=some (E,e,bs))
  (hi:bG i (RV.int q)) (hq:q=(k:Int)) (hk:es[k]?=some cs) (he:cs.length=e) :
  Loc P n ⟨some d,.indexAddr T (.tmp s) i,ty,pos,af,g⟩ ⟨(s,RV.slc o es)::bl i (RV.int q),[],[(d,some (RV.eptr cs))],[],none⟩:=by
 intro h0 w0 Fz0 σ a w K Q hc hr _ _ h5;obtain ⟨φ,Fz,Fp,hc⟩:=hc;subst hq;have ei:=hc.sc hr.2 hi;obtain ⟨ad,c,e',u,ev,h1,h2,h3,h4,h6⟩:=hc.slrel hr.1;have hlt:k < es.length:=(List.getElem?_eq_some_iff.1 hk).1;have hee:e'=e:=by rw [←he];exact (h3 cs (List.mem_of_getElem? hk)).symm
 subst hee;rcases h4 with h4|⟨b,off,rfl,h4⟩;·rw [h4] at hlt;simp at hlt
 obtain ⟨hu,inf,hinf,hsz,_⟩:=tk hT;refine eH (v:=.pointer (some ⟨b,off+k * e',none⟩)) (w':=w) ?_ (h5 _ _ (hc.put0 hd ⟨⟨b,off+k * e',(List.range e').map (u k),rfl,?_,fun j x hx=>?_⟩,rfl⟩))
 ·unfold execOp
  have es':a.eval (.tmp s) = .slice (some ⟨b,off,none⟩) es.length c:=ev;have hlt':(0:Int)≤(k:Int)∧(k:Int) < (es.length:Int):=ab;simp only [es',ei,Instr.indexAt,asIntOf,Sem.run_bind,Sem.run_pure,Result.andThen_ok,run_underlying hu];simp [hlt',sizeOf,typeInfo,hinf,hsz,qo]
 ·refine cC.of_at (by simp [he]) fun j p v hp hv=>?_
  have hj:j < e':=by rw [←he];exact (List.getElem?_eq_some_iff.1 hp).1
  simp [hj] at hv;subst hv;exact h6 k cs j p hk hp
 ·have hj:j < e':=by have:=(List.getElem?_eq_some_iff.1 hx).1;simpa using this
  simp [hj] at hx;subst hx;rw [Nat.add_assoc];exact h4 k j hlt hj
def avd{o:Fl}{es:List (List PV)}(hd:d < n)(hT:gu P T=some (E,e,bs))(hm:es.length=m) :
  Loc P n ⟨some d,.call { callee:=.builtin .len,args := #[.tmp s],argTypes := #[T] },ty,pos,af,g⟩ ⟨[(s,RV.slc o es)],[],[(d,some (RV.int (m:Int)))],[],none⟩:=by
 intro h0 w0 Fz0 σ a w K Q hc hr _ _ h5;obtain ⟨φ,Fz,Fp,hc⟩:=hc;obtain ⟨ad,c,e',u,ev,_⟩:=hc.slrel hr.1;obtain ⟨hu,_⟩:=tk hT;subst hm;refine eH (v:=.int .i64 (es.length:Int)) (w':=w) ?_ (h5 _ _ (hc.put0 hd (bY.of_sc rfl)));have es':a.eval (.tmp s) = .slice ad es.length c:=ev;unfold execOp;simp [resolve,invoke,builtin,es',Builtin.len_,run_underlying hu,goInt]
def ave{b:ByteArray}(hd:d < n)(hT:P.underlying T=some .string) :
  Loc P n ⟨some d,.call { callee:=.builtin .len,args := #[.tmp s],argTypes := #[T] },ty,pos,af,g⟩ ⟨[(s,RV.sc (.string b))],[],[(d,some (RV.int (b.size:Int)))],[],none⟩:=by
 intro h0 w0 Fz0 σ a w K Q hc hr _ _ h5;obtain ⟨φ,Fz,Fp,hc⟩:=hc;have es':a.eval (.tmp s) = .string b:=(hc.one_ hr.1).1;refine eH (v:=.int .i64 (b.size:Int)) (w':=w) ?_ (h5 _ _ (hc.put0 hd (bY.of_sc rfl)));unfold execOp;simp [resolve,invoke,builtin,es',Builtin.len_,run_underlying hT,goInt]
def bB.lenle{o:Fl}{es:List (List PV)}(h:bB h0 w0 Fz0 n σ a w)(hs:σ.s s=some (RV.slc o es)):es.length≤9223372036854775807:=by obtain ⟨φ,Fz,Fp,h⟩:=h;obtain ⟨ad,c,e',u,ev,h1,h2,_⟩:=h.slrel hs;unfold maxLen at h2;omega
def kL:List Operand→List (Bool×List PV)→List (Nat×RV)
 | x::xs,q::qs=>bl x (RV.sv q.1 q.2)++kL xs qs
 | _,_=>[]
def mI:List Operand→List (Bool×List PV)→Prop
 | [],[]=>True
 | x::xs,q::qs=>bG x (RV.sv q.1 q.2)∧mI xs qs
 | _,_=>False
def po:List Operand→List (Nat×Option RV)
 | []=>[]
 | x::xs=>wS x++po xs
def nz:List Operand→List Nat
 | []=>[]
 | .tmp t::xs=>t::nz xs
 | _::xs=>nz xs
def Jw(xs:List Operand):Bool:=decide ((nz xs).Nodup)
def Eg{β:Type}:∀(l m:List (Nat×β)) (f:Nat→β),bK (l++m) f=bK m (bK l f)
 | [],_,_=>rfl
 | (k,v)::l,m,f=>by rw [List.cons_append,bK,bK,Eg]
def acq{x:Operand}:∀{xs:List Operand} {qs:List (Bool×List PV)},(∀t,x = .tmp t→t∉nz xs)→bh (kL xs qs) σ.s→bh (kL xs qs) (σ.kill x).s
 | [],[],_,_=>True.intro
 | [],_::_,_,_=>True.intro
 | _::_,[],_,_=>True.intro
 | y::xs,q::qs,hx,h=>by
  have ih:=acq (x:=x) (xs:=xs) (qs:=qs) (fun t ht hm=>hx t ht (by cases y<;>simp [nz,hm])) h.right;refine bh.of_mem fun p hp=>?_;rcases List.mem_append.1 hp with hp|hp
  ·have h1:=h.left.mem p hp
   cases y with
   | tmp u=>
    simp [bl] at hp;subst hp;cases x with
    | tmp t=>
     have hne:u≠t:=fun e=>hx t rfl (by simp [nz,e]);show (bif Nat.beq u t then none else σ.s u)=_;rw [beq_eq,decide_eq_false hne];exact h1
    | _=>exact h1
   | _=>simp [bl] at hp
  ·exact ih.mem p hp
def bU.pulls:∀(xs:List Operand) (qs:List (Bool×List PV)) {σ:St} {Fp:Nat→List Nat},bU h0 w0 Fz0 n σ a w φ Fz Fp→bh (kL xs qs) σ.s→mI xs qs→(nz xs).Nodup →
  ∃F Fp',fz qs Fz w (xs.map a.eval) F∧bU h0 w0 Fz0 n ⟨bK (po xs) σ.s,σ.b⟩ a w φ Fz Fp'∧(∀b,b∈Fp' 0↔b∈F++Fp 0)∧(F++Fp 0).Nodup
 | [],[],σ,Fp,h,_,_,_=>⟨[],Fp,⟨rfl,rfl⟩,h,aL,by simpa using h.nod 0⟩
 | [],_::_,_,_,_,_,hk,_=>hk.elim
 | _::_,[],_,_,_,_,hk,_=>hk.elim
 | x::xs,q::qs,σ,Fp,h,hr,hk,hn=>by
  obtain ⟨Fx,Fp1,hv,h1,e1⟩:=h.pullO hr.left hk.1;have hn':(nz xs).Nodup∧∀t,x = .tmp t→t∉nz xs:=by
   cases x with
   | tmp t=>exact ⟨(List.nodup_cons.1 hn).2,fun u hu=>by injection hu with hu;rw [←hu];exact (List.nodup_cons.1 hn).1⟩
   | _=>exact ⟨hn,fun u hu=>by cases hu⟩
  obtain ⟨F,Fp',hT,h2,hm,hnd⟩:=bU.pulls xs qs h1 (acq hn'.2 hr.right) hk.2 hn'.1;refine ⟨Fx++F,Fp',⟨_,_,Fx,F,rfl,rfl,hv,hT⟩,?_,fun b=>?_,?_⟩
  ·have:bK (po (x::xs)) σ.s=bK (po xs) (σ.kill x).s:=Eg _ _ _
   rw [this];exact h2
  ·rw [hm,e1]
   simp only [fm];constructor;·rintro (h|h|h)<;>simp [h]
   ·rintro ((h|h)|h)<;>simp [h]
  ·rw [e1] at hnd
   have hp:(Fx++F++Fp 0).Perm (F++(Fx++Fp 0)):=by rw [←bn];exact (ny).append_right _
   exact hp.nodup_iff.2 hnd
def wT(place:Nat→Option (Nat×Nat)):List PV→List (Nat×List PV)→Option (List PV)
 | cs,[]=>some cs
 | cs,(i,q)::rest=>match place i with
  | none=>none
  | some (off,size)=>if q.length≠size∨off+q.length > cs.length then none else wT place (cs.take off++(q++cs.drop (off+q.length))) rest
def avf(off:Nat):∀(vs:List Value) (k:Nat) (cells:Array Value),off+k+vs.length≤cells.size →
  ((vs.zipIdx k).foldl (fun cs p=>cs.setIfInBounds (off+p.2) p.1) cells).toList=cells.toList.take (off+k)++(vs++cells.toList.drop (off+k+vs.length)):=by
 intro vs;induction vs with
 | nil=>intro k cells _;simp
 | cons v vs ih=>
  intro k cells h;simp only [List.length_cons] at h;rw [List.zipIdx_cons,List.foldl_cons,ih _ _ jq];simp only [Array.toList_setIfInBounds,List.length_cons];rw [show off+(k+1)=off+k+1 by omega,List.take_set,cI jq,List.drop_set_of_lt ab,List.set_append_right _ _ jq];have:off+k - (List.take (off+k) cells.toList).length=0:=jq;rw [this];simp only [List.set_cons_zero,bn,List.cons_append,List.nil_append];rw [show off+k+1+vs.length=off+k+(vs.length+1) by omega]
def QD(place:Nat→Option (Nat×Nat)):∀(is:List Nat) (qs:List (Bool×List PV)) (vs:List Value) (cs cs':List PV) (cells:Array Value) (F G:List Nat),is.length=qs.length →
  aN cs Fz w cells.toList F→fz qs Fz w vs G→(F++G).Nodup→wT place cs (is.zip (qs.map (·.2)))=some cs' →
  ∃cells' F',Instr.fill place cells (is.zip vs)=some cells'∧aN cs' Fz w cells'.toList F'∧F'.Nodup∧∀b,b∈F'→b∈F++G
 | [],[],vs,cs,cs',cells,F,G,_,ho,_,hn,hf=>by
  injection hf with hf;subst hf;exact ⟨cells,F,by simp [Instr.fill],ho,(List.nodup_append.1 hn).1,fun b hb=>by simp [hb]⟩
 | [],_::_,_,_,_,_,_,_,hl,_,_,_,_=>by simp at hl
 | _::_,[],_,_,_,_,_,_,hl,_,_,_,_=>by simp at hl
 | i::is,q::qs,vs,cs,cs',cells,F,G,hl,ho,hT,hn,hf=>by
  obtain ⟨v,vs',G1,G2,rfl,rfl,hv,hT'⟩:=hT;have hvl:=hv.2.len;have hol:=ho.len;simp only [List.map_cons,List.zip_cons_cons,wT] at hf;cases hp:place i with
  | none=>rw [hp] at hf;cases hf
  | some os=>
   obtain ⟨off,size⟩:=os;rw [hp] at hf;simp only at hf;split at hf;·cases hf
   ·rename_i hc
    have hc1:q.2.length=size:=ab;have hc2:off+q.2.length≤cs.length:=ab;obtain ⟨F1,F2,F3,rfl,o1,o2,o3⟩:=ho.seg off q.2.length hc2;have hvs:v.cells.size=q.2.length:=by rw [←hvl];simp
    have hcl:cells.size=cs.length:=by rw [←hol];simp
    have e:=avf off v.cells.toList 0 cells (by rw [hvl,hcl];omega);rw [Nat.add_zero,hvl] at e;simp only [dD,fm] at hn;obtain ⟨⟨n1,⟨n2,n3,n23⟩,n123⟩,⟨m1,m2,m12⟩,nm⟩:=hn
    obtain ⟨cells',F',k1,k2,k3,k4⟩:=QD place is qs vs' _ cs' (v.cells.zipIdx.foldl (fun cs p=>cs.setIfInBounds (off+p.2) p.1) cells) (F1++(G1++F3)) G2 AZ
     (by
      have e':(v.cells.zipIdx.foldl (fun cs p=>cs.setIfInBounds (off+p.2) p.1) cells).toList=cells.toList.take off++(v.cells.toList++cells.toList.drop (off+q.2.length)):=by rw [←e,←Array.foldl_toList];congr 2;simp
      rw [e'];exact o1.append (hv.2.append o3)) hT'
     (by
      simp only [dD,fm];refine ⟨⟨n1,⟨m1,n3,fun u hu x hx e=>nm x (.inr (.inr hx)) u (.inl hu) e.symm⟩,fun u hu x hx e=>?_⟩,m2,fun u hu x hx e=>?_⟩
      ·rcases hx with hx|hx
       ·exact nm u (.inl hu) x (.inl hx) e
       ·exact n123 u hu x (.inr hx) e
      ·rcases hu with hu|hu|hu
       ·exact nm u (.inl hu) x (.inr hx) e
       ·exact m12 u hu x hx e
       ·exact nm u (.inr (.inr hu)) x (.inr hx) e) hf
    refine ⟨cells',F',?_,k2,k3,fun b hb=>?_⟩
    ·rw [List.zip_cons_cons,Instr.fill,hp]
     simp only;rw [if_neg (by rw [hvs,hcl];simp;omega)];exact k1
    ·have:=k4 b hb
     simp only [fm] at this ⊢;rcases this with (h|h|h)|h<;>simp [h]
def dw(P:Program)(T:TypeId):Option (List (Nat×Nat)):=match P.underlying T with
 | some (.struct fs)=>fs.toList.mapM fun f=>(P.info? f.type).map fun i=>(f.offset,i.size)
 | _=>none
def acr{β γ:Type}(f:β→Sem γ)(g:β→Option γ)(hfg:∀x y,g x=some y→∀w,(f x).run P w = .ok y w):∀(l:List β) (ys:List γ),l.mapM g=some ys→∀w,(l.mapM f).run P w = .ok ys w
 | [],ys,h,w=>by simp at h;subst h;simp
 | x::l,ys,h,w=>by
  rw [List.mapM_cons] at h;cases hx:g x with
  | none=>rw [hx] at h;simp at h
  | some y=>
   rw [hx] at h;cases hl:l.mapM g with
   | none=>rw [hl] at h;simp at h
   | some zs=>
    rw [hl] at h;simp at h;subst h;rw [List.mapM_cons];simp [hfg x y hx,acr f g hfg l zs hl]
def avg{T:TypeId}{pl:List (Nat×Nat)}(h:dw P T=some pl)(w:World):∃fs:Array Field,P.underlying T=some (.struct fs) ∧
  Sem.run P (fs.mapM fun f=>do pure (f.offset,←sizeOf f.type):Sem (Array (Nat×Nat))) w = .ok pl.toArray w:=by
 unfold dw at h;split at h
 ·rename_i fs hu
  refine ⟨fs,hu,?_⟩;have:=acr (P:=P) (fun f:Field=>(do pure (f.offset,←sizeOf f.type):Sem (Nat×Nat))) (fun f=>(P.info? f.type).map fun i=>(f.offset,i.size)) (fun x y hxy w=>by
   cases hi:P.info? x.type with
   | none=>rw [hi] at hxy;cases hxy
   | some i=>
    rw [hi] at hxy;simp at hxy;subst hxy;simp [sizeOf,typeInfo,hi]) fs.toList pl h w
  rw [Array.mapM_eq_mapM_toList];simp only [map_eq_pure_bind,Sem.run_bind,this,Result.andThen_ok,Sem.run_pure]
 ·cases h
def bZ{parts:Array (Nat×Operand)}{qs:List (Bool×List PV)}{zs cs:List PV}{pl:List (Nat×Nat)}(hd:d < n)(hz:fU P T=some z)
  (hzs:∀{Fz:aC} {w:World},aN zs Fz w z.cells.toList []) (hpl:dw P T=some pl) (hl:(parts.toList.map (·.1)).length=qs.length) (hok:mI (parts.toList.map (·.2)) qs) (hap:Jw (parts.toList.map (·.2))=true)
  (hf:wT (fun i:Nat=>pl[i]?) zs ((parts.toList.map (·.1)).zip (qs.map (·.2)))=some cs) :
  Loc P n ⟨some d,.build T parts,ty,pos,af,g⟩ ⟨kL (parts.toList.map (·.2)) qs,[],po (parts.toList.map (·.2))++[(d,some (RV.sv true cs))],[],none⟩:=by
 intro h0 w0 Fz0 σ a w K Q hc hr _ _ h5;obtain ⟨φ,Fz,Fp,hc⟩:=hc;obtain ⟨F,Fp',hT,hc',hm,hnd⟩:=hc.pulls _ _ hr hok (of_decide_eq_true hap);obtain ⟨fs,hu,hpr⟩:=avg hpl w;obtain ⟨cells,F',e1,e2,e3,e4⟩:=QD (fun i:Nat=>pl[i]?) _ qs _ zs cs z.cells [] F hl hzs hT aaH hf;have k:=hc'.push (i:=d) (rv:=RV.sv true cs) (v:=.agg cells) (F:=F') (X:=[]) hd ⟨rfl,e2⟩ (fun b hb=>by rw [hm];have:=e4 b (by simpa using hb);simp at this ⊢;exact .inl this) (by simpa using e3)
 refine eH (v:=.agg cells) (w':=w) ?_ (h5 _ _ (bB.eqv ⟨_,_,_,k⟩ (fun i=>?_) (fun e=>rfl)))
 ·unfold execOp
  have ep:(parts.map fun p=>(p.1,a.eval p.2)).toList=(parts.toList.map (·.1)).zip ((parts.toList.map (·.2)).map a.eval):=by
   rw [Array.toList_map];induction parts.toList with
   | nil=>rfl
   | cons p l ih=>simp [ih]
  simp only [Instr.build,Sem.run_bind,QC hz,Result.andThen_ok,Sem.run_pure,run_underlying hu,hpr];rw [ep];have ef:(fun i:Nat=>pl.toArray[i]?)=fun i:Nat=>pl[i]?:=by funext i;simp
  rw [ef,e1];rfl
 ·show bK (po _++[(d,some (RV.sv true cs))]) σ.s i=_
  rw [Eg];rfl
end
end
section
section
variable{P:Program}{n:Nat}{ops:Array Oper}{h0:Nat→Prop}{w0:World}{Fz0:aC}{σ τ:St}{a:Act}{w:World}{φ:Nat→Nat}{Fz:aC}{Fp:Nat→List Nat}
def acs(e:Nat):∀(qs:List (List PV)) (k:Nat) (pre post:List PV),pre.length=k * e→post.length=qs.length * e→(∀q,q∈qs→q.length=e) →
  wT (fun i=>some (i * e,e)) (pre++post) ((List.range' k qs.length).zip qs)=some (pre++qs.flatten)
 | [],k,pre,post,_,h2,_=>by have:post=[]:=jd (by simpa using h2);subst this;simp [wT]
 | q::qs,k,pre,post,h1,h2,h3=>by have hq:=h3 q aL;rw [List.length_cons,Nat.succ_mul] at h2;rw [List.length_cons,List.range'_succ,List.zip_cons_cons,wT];simp only;rw [if_neg (by rw [bv];omega),←h1,List.take_left,←List.drop_drop,List.drop_left,←bn];rw [acs e qs (k+1) (pre++q) (post.drop q.length) (by rw [bv,Nat.succ_mul];omega) uB fun x hx=>h3 x ib];simp
def aN.chunk:∀{qs:List (List PV)} {vs:List Value} {F:List Nat},(∀q,q∈qs→q.length=e)→aN qs.flatten Fz w vs F→cX e qs Fz w vs F
 | [],_,_,_,h=>h
 | q::qs,vs,F,hq,h=>by rw [List.flatten_cons] at h;obtain ⟨v1,v2,F1,F2,rfl,rfl,h1,h2⟩:=h.split;exact ⟨v1,v2,F1,F2,rfl,rfl,by rw [h1.len];exact hq q aL,h1,aN.chunk (fun x hx=>hq x ib) h2⟩
def Eh:∀{vs:List Value},(∀v,v∈vs→v.oneCell'=true)→aN (vs.map PV.val) Fz w vs []
 | [],_=>⟨rfl,rfl⟩
 | v::vs,h=>⟨v,vs,[],[],rfl,rfl,⟨⟨rfl,h v aL⟩,rfl⟩,Eh fun u hu=>h u (by simp [hu])⟩
def cl{parts:Array (Nat×Operand)}{qs:List (Bool×List PV)}(hd:d < n)(hT:gu P T=some (E,e,bs))(hz:fU P E=some z)
  (he0:0 < e) (hz1:z.cells.size=e) (hz2:(z.cells.toList.all (·.oneCell'))=true) (hm:m=qs.length) (hi:parts.toList.map (·.1)=List.range' 0 qs.length) (hq:(qs.all fun q=>Nat.beq q.2.length e)=true) (hb:m * e≤16777216)
  (hok:mI (parts.toList.map (·.2)) qs) (hap:Jw (parts.toList.map (·.2))=true) :
  Loc P n ⟨some d,.buildSlice T m parts,ty,pos,af,g⟩ ⟨kL (parts.toList.map (·.2)) qs,[],po (parts.toList.map (·.2))++[(d,some (RV.slc (.own E e) (qs.map (·.2))))],[],none⟩:=by
 intro h0 w0 Fz0 σ a w K Q hc hr _ _ h5;obtain ⟨φ,Fz,Fp,hc⟩:=hc;obtain ⟨F,Fp',hT',hc',hmem,hnd⟩:=hc.pulls _ _ hr hok (of_decide_eq_true hap);obtain ⟨hu,inf,hinf,hsz,_⟩:=tk hT;have hq':∀q,q∈qs.map (·.2)→q.length=e:=by intro q hq0;obtain ⟨x,hx,rfl⟩:=List.mem_map.1 hq0;have:=List.all_eq_true.1 hq x hx;simpa [Nat.beq_eq] using this
 generalize hcells:((Array.range (m * e)).map fun i=>z.cells[i%z.cells.size]!)=cells0;have hcs:cells0.size=m * e:=by rw [←hcells];simp
 have hone:∀v,v∈cells0.toList→v.oneCell'=true:=by
  intro v hv;rw [←hcells] at hv;simp only [Array.toList_map,Jo] at hv;obtain ⟨i,hi',rfl⟩:=hv;have hi2:i < m * e:=by simpa using hi'
  have he:0 < e:=by
   rcases Nat.eq_zero_or_pos e with h|h;·subst h;simp at hi2
   ·exact h
  have hlt:i%z.cells.size < z.cells.size:=Nat.mod_lt _ ab;rw [getElem!_pos z.cells _ hlt];have:=List.all_eq_true.1 hz2 (z.cells[i%z.cells.size]) aL;exact this
 have hfp:wT (fun i=>some (i * e,e)) (cells0.toList.map PV.val) ((parts.toList.map (·.1)).zip (qs.map (·.2)))=some (qs.map (·.2)).flatten:=by have:=acs e (qs.map (·.2)) 0 [] (cells0.toList.map PV.val) aL (by simp [hcs,hm]) hq';rw [hi];simpa using this
 obtain ⟨cells,F',e1,e2,e3,e4⟩:=QD (fun i=>some (i * e,e)) _ qs _ (cells0.toList.map PV.val) _ cells0 [] F (by rw [hi];simp) (Eh hone) hT' aaH hfp;have hlen:cells.size=m * e:=by
  have:=e2.len;have hfl:(qs.map (·.2)).flatten.length=(qs.map (·.2)).length * e:=by
   have key:∀(l:List (List PV)),(∀q,q∈l→q.length=e)→l.flatten.length=l.length * e:=by
    intro l;induction l with
    | nil=>intro _;simp
    | cons q l ih=>intro h;rw [List.flatten_cons,bv,ih fun x hx=>h x ib,h q aL,List.length_cons,Nat.succ_mul];omega
   exact key _ hq'
  rw [hfl,aU,←hm] at this;simpa using this
 have hlt:=e2.lt;have k:=hc'.new cells E (m * e);have hFl:∀b,b∈F'→b < w.heap.size:=hlt;have hnew:w.heap.size∉F':=fun hh=>by have:=hlt _ hh;omega
 have hsl:eG E e (qs.map (·.2)) (fun b o=>Fz b o∨(b=w.heap.size∧o < m * e)) (w.alloc (.cells cells E)) (.slice (some ⟨w.heap.size,0,none⟩) m m) (w.heap.size::F'):=by
  have hmm:m≤maxLen:=by have h1:m * 1≤m * e:=Nat.mul_le_mul_left _ ab;show m≤9223372036854775807;omega
  refine ⟨cells.toList,F',?_,(e2.chunk hq').mono (acn w Fz cells E _ hc.fzl) (aco w Fz cells E _ hFl),?_,AY,?_⟩
  ·have:=World.ownsRow_lit (e:=E) (size:=e) w cells m (Nat.zero_le _) hmm hlen
   rw [show (qs.map (·.2)).length=m by rw [aU,hm]];exact this
  ·intro g hg o
   simp [Value.ownBlock] at hg;subst hg;rw [aU,←hm];constructor
   ·rintro (h|⟨_,h⟩)
    ·have:=hc.fzl _ _ h;omega
    ·exact h
   ·intro h;exact .inr ⟨rfl,h⟩
  ·intro g hg cur t' o hc x hx
   simp [Value.ownBlock] at hg;subst hg;rw [heap_alloc_new] at hc;simp only [Option.some.injEq,Obj.cells.injEq] at hc;rw [←hc.1] at hx;exact e2.one x hx
 have k2:=k.push (i:=d) (rv:=RV.slc (.own E e) (qs.map fun q:Bool×List PV=>q.2)) (v:=.slice (some ⟨w.heap.size,0,none⟩) m m) (F:=w.heap.size::F') (X:=[]) hd (bY.of_atom (p:=PV.sl (.own E e) (qs.map fun q:Bool×List PV=>q.2)) hsl)
  (fun b hb=>by
   simp only [if_true];rw [fS] at hb;rcases List.mem_cons.1 hb with rfl|hb;·simp
   ·refine List.mem_cons_of_mem _ ?_
    rw [hmem];have:=e4 b hb;simp at this ⊢;exact .inl this) (by rw [fS];exact List.nodup_cons.2 ⟨hnew,e3⟩)
 refine eH (v:=.slice (some ⟨w.heap.size,0,none⟩) m m) (w':=w.alloc (.cells cells E)) ?_ (h5 _ _ (bB.eqv ⟨_,_,_,k2⟩ (fun i=>?_) (fun e=>rfl)))
 ·unfold execOp
  have ep:(parts.map fun p=>(p.1,a.eval p.2)).toList=(parts.toList.map (·.1)).zip ((parts.toList.map (·.2)).map a.eval):=by
   rw [Array.toList_map];induction parts.toList with
   | nil=>rfl
   | cons p l ih=>simp [ih]
  have hng:¬(m * e > 2 ^ 24):=ab;simp only [Instr.buildSlice,Sem.run_bind,run_underlying hu,Result.andThen_ok,sizeOf,typeInfo,run_program,hinf,hsz,Sem.run_pure,if_neg hng];by_cases h0:m * e=0
  ·have hc0:cells0 = #[]:=by apply Array.eq_empty_of_size_eq_zero;omega
   rw [if_pos h0];rw [Sem.run_bind,Sem.run_pure,Result.andThen_ok,ep,h0];rw [hc0] at e1;rw [show ((Array.range 0).map fun x=>(#[]:Array Value)[x%(#[]:Array Value).size]!) = #[] by simp,e1];simp [newRow]
  ·rw [if_neg h0]
   simp only [Sem.run_bind,QC hz,Result.andThen_ok,Sem.run_pure];rw [ep,hcells,e1];simp [newRow]
 ·show bK (po _++[(d,some _)]) σ.s i=_
  rw [Eg];rfl
def Jx(e:Nat)(ys:List (List PV))(Fz:aC)(w:World)(v:Value)(news:List Value)(F:List Nat):Prop:=
 ∃xa c,v = .slice xa ys.length c∧cX e ys Fz w news F∧(∀ad,xa=some ad→∀j u,news[j]?=some u→w.cell? (ad.add j)=some u)∧(xa=none→ys=[])
def avh{ys:List (List PV)}(h:eG t e ys Fz w v F):∃news F',Jx e ys Fz w v news F'∧(∀b,b∈F'→b∈F)∧(F.Nodup→F'.Nodup):=by
 obtain ⟨css,F',ho,hl,hf,rfl,_⟩:=h;refine ⟨css,F',?_,fun b hb=>by simp [hb],fun hn=>(List.nodup_append.1 hn).2.1⟩;rcases ho.2 with ⟨rfl,hn⟩|⟨g,cap,cur,rfl,_⟩
 ·have he:ys=[]:=jd hn
  subst he;exact ⟨none,0,rfl,hl,fun ad h=>by simp at h,fun _=>rfl⟩
 ·exact ⟨some ⟨g,0,none⟩,cap,rfl,hl,fun ad had j u hu=>by injection had with had;subst had;exact ho.cells (g:=g) rfl j u hu,fun h=>by simp at h⟩
def avi{ys:List (List PV)}(he:0 < e)(h:tg ys Fz w v)(hlen:∀cs,cs∈ys→cs.length=e)(hb:∀cs,cs∈ys→aS cs):∃news,Jx e ys Fz w v news []:=by
 obtain ⟨xa,c,e',u,rfl,h1,h2,h3,h4,h5⟩:=h;refine ⟨(List.range (ys.length * e)).map fun q=>u (q / e) (q%e),xa,c,rfl,cX.of_bor aL hlen ?_,?_,?_⟩
 ·intro i cs j p v hi hj hv
  have hi':i < ys.length:=(List.getElem?_eq_some_iff.1 hi).1;have hcs:=hlen cs (List.mem_of_getElem? hi);have hj':j < e:=by rw [←hcs];exact (List.getElem?_eq_some_iff.1 hj).1
  have hlt:i * e+j < ys.length * e:=by have:(i+1) * e≤ys.length * e:=Nat.mul_le_mul_right _ hi';rw [Nat.succ_mul] at this;omega
  simp [hlt] at hv;rw [show (i * e+j) / e=i by rw [Nat.mul_comm,Nat.mul_add_div he,Nat.div_eq_of_lt hj',Nat.add_zero],Nat.mod_eq_of_lt hj'] at hv;subst hv;exact (hb cs (List.mem_of_getElem? hi)) p (List.mem_of_getElem? hj) (h5 i cs j p hi hj)
 ·intro ad had q x hx
  have hq:q < ys.length * e:=by have:=(List.getElem?_eq_some_iff.1 hx).1;simpa using this
  simp [hq] at hx;subst hx;have hdiv:q / e < ys.length:=(Nat.div_lt_iff_lt_mul he).2 hq;rcases h4 with h4|⟨b,off,rfl,h4⟩;·rw [h4] at hq;simp at hq
  ·injection had with had
   subst had;have hee:e'=e:=by have h0:ys[q / e]?=some ys[q / e]:=List.getElem?_eq_getElem hdiv;rw [←h3 _ (List.mem_of_getElem? h0)];exact hlen _ (List.mem_of_getElem? h0)
   subst hee;have:=(h4 (q / e') (q%e') hdiv (Nat.mod_lt _ he)).2;rw [qo];rw [Nat.mul_comm,Nat.div_add_mod] at this;exact this
 ·intro hx
  rcases h4 with h4|⟨b,off,h4,_⟩;·exact h4
  ·rw [hx] at h4;cases h4
def act{w:World}{bX:Array Value}{c:Nat}(h:∀x,x∈bX.toList→x.oneCell'=true):Jp (w.alloc (.cells bX E)) (.slice (some ⟨w.heap.size,0,none⟩) m c):=by intro g hg cur t' o hc x hx;simp [Value.ownBlock] at hg;subst hg;rw [heap_alloc_new] at hc;simp only [Option.some.injEq,Obj.cells.injEq] at hc;rw [←hc.1] at hx;exact h x hx
def acu{z:Array Value}(h:(z.toList.all (·.oneCell'))=true):∀x,x∈(Builtin.zeroCells z m).toList→x.oneCell'=true:=by
 intro x hx;unfold Builtin.zeroCells at hx;rw [nw] at h;simp only [Array.toList_map,Array.toList_range,Jo,List.mem_range] at hx;obtain ⟨i,hi,rfl⟩:=hx;have hz:0 < z.size:=by
  rcases Nat.eq_zero_or_pos z.size with h0|h0;·rw [h0] at hi;simp at hi
  ·exact h0
 have hlt:i%z.size < z.size:=Nat.mod_lt _ hz;rw [getElem!_pos z (i%z.size) hlt];exact h _ aL
def avj{ty:Nat}{x:Value}{xs news:List Value}{ys:List (List PV)}(hT:gu P t=some (E,e,bs))(hz:fU P E=some z)(hzs:z.cells.size=e)(he:0 < e)
  (hown:w.ownsRow 0 E e v k xs) (hob:Jp w v) (hoz:(z.cells.toList.all (·.oneCell'))=true) (hs:Jx e ys Fz w x news F) (h63:k+ys.length≤9223372036854775807) (hbytes:(k+ys.length) * bs≤140737488355328) :
  ∃v' w',(Builtin.append_ #[t,t] ty #[v,x]).run P w = .ok v' w'∧w'.ownsRow 0 E e v' (k+ys.length) (xs++news)∧w'.os=w.os∧w'.tape=w.tape∧w'.output=w.output∧w.heap.size≤w'.heap.size ∧
   ((v'.ownBlock=v.ownBlock∧∀b,b < w.heap.size→some b≠v.ownBlock→w'.heap[b]?=w.heap[b]?)∨(v'.ownBlock=some w.heap.size∧∀b,b < w.heap.size→w'.heap[b]?=w.heap[b]?))∧Jp w' v':=by
 obtain ⟨hu,i,hi,hsize,hby⟩:=tk hT;obtain ⟨xa,c,rfl,hl,hcell,hnone⟩:=hs;have hz':i.zero=some z:=by unfold fU at hz;rw [hi,Option.bind_some] at hz;exact hz
 have hnl:=hl.len;have h1:=hl.one;cases xa with
 | none=>
  have hy:=hnone rfl;subst hy;have hn0:news=[]:=jd (by simpa using hnl);subst hn0;refine ⟨v,w,?_,by simpa using hown,rfl,rfl,rfl,Nat.le_refl _,⟨.inl ⟨rfl,fun _ _ _=>rfl⟩,hob⟩⟩;rcases hown.2 with ⟨rfl,rfl⟩|⟨g,cap,cur,rfl,_,_,hnc,_⟩;·simp [Builtin.append_,run_underlying hu,sizeOf,typeInfo,hi,Builtin.lenOf,Builtin.firstCells]
  ·simp [Builtin.append_,run_underlying hu,sizeOf,typeInfo,hi,Builtin.lenOf,Builtin.firstCells,hnc,storeCells]
 | some ad=>
  have hc:=hcell ad rfl;subst hsize;subst hby;rcases hown.2 with ⟨rfl,rfl⟩|⟨g,cap,cur,rfl,hbg,hg,hnc,hcm,hcs,htake⟩
  ·have hx:xs=[]:=jd (by simpa using hown.1)
   subst hx;by_cases hm:ys.length=0
   ·have hn0:news=[]:=jd (by rw [hnl,hm];simp)
    subst hn0;refine ⟨.slice none 0 0,w,?_,?_,rfl,rfl,rfl,Nat.le_refl _,⟨.inl ⟨rfl,fun _ _ _=>rfl⟩,hob⟩⟩
    ·rw [hm]
     simp [Builtin.append_,run_underlying hu,sizeOf,typeInfo,hi,Builtin.lenOf,Builtin.firstCells,loadCells,loadCellsFrom]
    ·rw [hm];exact World.ownsRow_nil w 0 E i.size
   ·have hr:=run_append_nil (P:=P) w t ty E i z hu hi hz' ad ys.length c news hnl hc ab ab (by rw [Nat.zero_add] at hbytes;omega)
    have hge:=grownCap_ge w ys.length 0 E;refine ⟨_,_,hr,⟨by rw [List.nil_append,Nat.zero_add];exact hnl,.inr ⟨w.heap.size,_,_,by rw [Nat.zero_add],Nat.zero_le _,heap_alloc_new w.drew _,by rw [Nat.zero_add];exact hge,grownCap_le_maxLen w ys.length 0 E (by show _≤9223372036854775807;omega),?_,?_⟩⟩,rfl,rfl,rfl,aL,⟨.inr ⟨rfl,fun b hb=>Below.heap_alloc w.drew _ b hb⟩,act (w:=w.drew) fun x hx=>by
     rw [Array.toList_append,fm] at hx;rcases hx with hx|hx;·exact h1 x hx
     ·exact acu hoz x hx⟩⟩
    ·rw [Array.size_append,size_zeroCells,hzs]
     simp only [List.size_toArray,hnl];rw [←Nat.add_mul];congr 1;omega
    ·rw [Nat.zero_add,List.nil_append,Array.toList_append,←hnl]
     simp
  ·by_cases hroom:k+ys.length≤cap
   ·have hfit:k * i.size+news.length≤cur.size:=by rw [hnl,hcs,←Nat.add_mul];exact Nat.mul_le_mul_right _ hroom
    have hr:=run_append_room (P:=P) w t ty E i hu hi g k cap cur hg ad ys.length c news hnl hc h1 hroom hfit;have hlen:(xs++news).length=(k+ys.length) * i.size:=aaO;refine ⟨_,_,hr,⟨hlen,.inr ⟨g,cap,_,rfl,hbg,setRow_heap w g cur _ E _ hg,hroom,hcm,?_,?_⟩⟩,rfl,rfl,rfl,aL,⟨.inl ⟨rfl,fun b _ hne=>setRow_other w g b _ fun e=>hne (by simp [Value.ownBlock,e])⟩,fun g' hg' cur' t' o' hc' x hx=>by
     simp [Value.ownBlock] at hg';subst hg';rw [setRow_heap w g cur _ E _ hg] at hc';simp only [Option.some.injEq,Obj.cells.injEq] at hc';rw [←hc'.1] at hx;simp only [fm] at hx;have hold:=hob g rfl cur E (0,0) hg;rcases hx with (hx|hx)|hx;·exact hold x (List.mem_of_mem_take hx)
     ·exact h1 x hx
     ·exact hold x (List.mem_of_mem_drop hx)⟩⟩
    ·simp only [List.size_toArray,bv,cc,ll,Array.length_toList];omega
    ·rw [htake,←hlen];exact List.take_left
   ·have holds:∀j u,xs[j]?=some u→w.cell? ((⟨g,0,none⟩:Addr).add j)=some u:=hown.cells (g:=g) rfl
    have hr:=run_append_grow (P:=P) w t ty E i z hu hi hz' ⟨g,0,none⟩ k cap xs hown.1 holds ad ys.length c news hnl hc ab ab (growslice_fits ab hbytes);have hge:=grownCap_ge w (k+ys.length) cap E;have hlen:(xs++news).length=(k+ys.length) * i.size:=aaO;refine ⟨_,_,hr,⟨hlen,.inr ⟨w.heap.size,_,_,rfl,Nat.zero_le _,heap_alloc_new w.drew _,hge,grownCap_le_maxLen w (k+ys.length) cap E h63,?_,?_⟩⟩,rfl,rfl,rfl,aL,⟨.inr ⟨rfl,fun b hb=>Below.heap_alloc w.drew _ b hb⟩,act (w:=w.drew) fun x hx=>by
     simp only [Array.toList_append,fm] at hx;rcases hx with (hx|hx)|hx
     ·rw [←htake] at hx
      exact hob g rfl cur E (0,0) hg x (List.mem_of_mem_take hx)
     ·exact h1 x hx
     ·exact acu hoz x hx⟩⟩
    ·simp only [Array.size_append,List.size_toArray,size_zeroCells,hzs,hown.1,hnl,←Nat.add_mul];congr 1;omega
    ·simp only [Array.toList_append,bn]
     rw [←bn,←hlen];exact List.take_left
def acv{ty:Nat}{x:Value}{es ys:List (List PV)}{news:List Value}{Fs Fx:List Nat}(hd:d < n)(hT:gu P t=some (E,e,bs))(hz:fU P E=some z)(hoz:(z.cells.toList.all (·.oneCell'))=true)(hzs:z.cells.size=e)(he:0 < e)
  (hc:bU h0 w0 Fz0 n σ a w φ Fz Fp) (hv:eG E e es Fz w v Fs) (hx:Jx e ys Fz w x news Fx) (hsub:∀b,b∈Fs++Fx→b∈Fp 0) (hnd:(Fs++Fx).Nodup)
  (h63:es.length+ys.length≤9223372036854775807) (hbytes:(es.length+ys.length) * bs≤140737488355328) :
  ∃v' w',(Builtin.append_ #[t,t] ty #[v,x]).run P w = .ok v' w'∧bB h0 w0 Fz0 n (σ.set d (some (RV.slc (.own E e) (es++ys)))) (a.put (some d) v') w':=by
 obtain ⟨css,F',ho,hl,hf,rfl,hob⟩:=hv;obtain ⟨v',w',hr,ho',k1,k2,k3,k4,k5,k6⟩:=avj (ty:=ty) hT hz hzs he ho hob hoz hx h63 hbytes;obtain ⟨xa,c,rfl,hly,_,_⟩:=hx;refine ⟨v',w',hr,?_⟩;have hcl:=hl.len;have hyl:=hly.len;have hlt':∀g,v'.ownBlock=some g→g < w'.heap.size:=fun g hg=>(ho'.lt g hg).2;have hlow:∀b,b∈v.ownBlock.toList++F'++Fx→b < w.heap.size:=fun b hb=>(hc.low 0 b (hsub b hb)).2;simp only [dD,fm] at hnd;obtain ⟨⟨m1,m2,m12⟩,m3,m13⟩:=hnd;generalize hFz':(fun (b o:Nat)=>Fz b o∨(v'.ownBlock=some b∧o < (es.length+ys.length) * e))=Fz';have hFin:∀b o,Fz' b o↔(Fz b o∨(v'.ownBlock=some b∧o < (es.length+ys.length) * e)):=fun b o=>by rw [←hFz']
 have hcellk:∀g,v'.ownBlock=some g→∀o,o < (es.length+ys.length) * e→w'.cell? ⟨g,o,none⟩=(css++news)[o]?:=by
  intro g hg o hog;rcases ho'.2 with ⟨rfl,_⟩|⟨g',cap,cur,rfl,_,hgg,_,_,_,htk⟩;·simp [Value.ownBlock] at hg
  ·simp [Value.ownBlock] at hg
   subst hg;rw [cell_of_row w' g' o cur E (0,0) hgg,←htk,List.getElem?_take_of_lt hog];simp
 have hcello:∀g,v.ownBlock=some g→∀o,o < es.length * e→w.cell? ⟨g,o,none⟩=css[o]?:=by
  intro g hg o hog;rcases ho.2 with ⟨rfl,_⟩|⟨g',cap,cur,rfl,_,hgg,_,_,_,htk⟩;·simp [Value.ownBlock] at hg
  ·simp [Value.ownBlock] at hg
   subst hg;rw [cell_of_row w g' o cur E (0,0) hgg,←htk,List.getElem?_take_of_lt hog];simp
 have hsame:∀b,b < w.heap.size→v.ownBlock≠some b→w'.heap[b]?=w.heap[b]?∧v'.ownBlock≠some b:=by
  intro b hb hne;rcases k5 with ⟨k5,k6⟩|⟨k5,k6⟩;·exact ⟨k6 b hb (fun e=>hne e.symm),by rw [k5];exact hne⟩
  ·exact ⟨k6 b hb,by rw [k5];intro e;injection e with e;omega⟩
 have hkeep:jt Fz w Fz' w':=by
  intro b o hbo;refine ⟨(hFin b o).2 (.inl hbo),?_⟩;have hb:=hc.fzl b o hbo;by_cases hvb:v.ownBlock=some b
  ·rcases k5 with ⟨k5,_⟩|⟨_,k6⟩
   ·have ho1:=(hf b hvb o).1 hbo
    have hle:es.length * e≤(es.length+ys.length) * e:=Nat.mul_le_mul_right _ ab;rw [hcellk b (by rw [k5];exact hvb) o ab,hcello b hvb o ho1,List.getElem?_append_left ab]
   ·exact World.cell?_of_block (k6 b hb)
  ·exact World.cell?_of_block (hsame b hb hvb).1
 have hholds:∀G:List Nat,(∀b,b∈G→b < w.heap.size∧v.ownBlock≠some b)→mG G Fz w Fz' w':=by
  intro G hG b hb;obtain ⟨g1,g2⟩:=hG b hb;obtain ⟨g3,g4⟩:=hsame b g1 g2;refine ⟨g3,fun o ho=>?_⟩;rcases (hFin b o).1 ho with ho|⟨ho,_⟩;·exact ho
  ·exact absurd ho g4
 have hnewm:∀g,v'.ownBlock=some g→v.ownBlock=some g∨g=w.heap.size:=by
  intro g hg;rcases k5 with ⟨k5,_⟩|⟨k5,_⟩;·exact .inl (by rw [←k5];exact hg)
  ·exact .inr (by rw [k5] at hg;injection hg with hg;exact hg.symm)
 have hnot:∀b,b∈F'++Fx→v'.ownBlock≠some b:=by
  intro b hb hg;rcases hnewm b hg with h|h
  ·rcases List.mem_append.1 hb with hb|hb
   ·exact m12 b ql b hb rfl
   ·exact m13 b (.inl ql) b hb rfl
  ·have:=hlow b (by rcases List.mem_append.1 hb with hb|hb<;>simp [hb]);omega
 have hndX:(v'.ownBlock.toList++(F'++Fx)).Nodup:=by rw [dD,dD];refine ⟨by cases v'.ownBlock<;>simp,⟨m2,m3,fun u hu y hy=>m13 u (.inr hu) y hy⟩,fun u hu y hy e=>?_⟩;subst e;exact hnot u hy (by cases hvb:v'.ownBlock with|none=>rw [hvb] at hu;simp at hu|some g=>rw [hvb] at hu;simp at hu;rw [hu])
 have c2:=hc.world (w':=w') (Fz':=Fz') (X:=v'.ownBlock.toList++(F'++Fx)) k1 k2 k3 k4
  (fun b hb hb0=>by
   have hne:v.ownBlock≠some b:=fun h=>hb0 (hsub b ql);obtain ⟨g3,g4⟩:=hsame b hb hne;refine ⟨g3,fun o ho=>?_⟩;rcases (hFin b o).1 ho with ho|⟨ho,_⟩;·exact ho
   ·exact absurd ho g4) hkeep
  (fun b o ho=>by
   rcases (hFin b o).1 ho with ho|⟨ho,_⟩;·have:=hc.fzl b o ho;omega
   ·exact hlt' b ho)
  (fun b hb=>by
   rcases List.mem_append.1 hb with hb|hb
   ·cases hvb:v'.ownBlock with
    | none=>rw [hvb] at hb;simp at hb
    | some g=>
     rw [hvb] at hb;simp at hb;subst hb;rcases hnewm b hvb with h|h;·exact .inl (hsub b ql)
     ·exact .inr ⟨ab,hlt' b hvb⟩
   ·refine .inl (hsub b ?_)
    rcases List.mem_append.1 hb with hb|hb<;>simp [hb]) hndX
 have hsl:eG E e (es++ys) Fz' w' v' (v'.ownBlock.toList++(F'++Fx)):=by
  refine ⟨css++news,F'++Fx,by rw [bv];exact ho',?_,?_,rfl,k6⟩
  ·refine (hl.mono hkeep (hholds F' fun b hb=>⟨hlow b yV,fun h=>m12 b ql b hb rfl⟩)).append
    (hly.mono hkeep (hholds Fx fun b hb=>⟨hlow b yV,fun h=>m13 b (.inl ql) b hb rfl⟩))
  ·intro g hg o
   rw [hFin,bv];constructor
   ·rintro (h|⟨_,h⟩)
    ·rcases hnewm g hg with hv|hv
     ·have:=(hf g hv o).1 h
      have hle:es.length * e≤(es.length+ys.length) * e:=Nat.mul_le_mul_right _ ab;omega
     ·have:=hc.fzl g o h;omega
    ·exact h
   ·intro h;exact .inr ⟨hg,h⟩
 exact ⟨φ,Fz',_,c2.push (i:=d) (rv:=RV.slc (.own E e) (es++ys)) (F:=v'.ownBlock.toList++(F'++Fx)) (X:=[]) hd (bY.of_atom (p:=PV.sl (.own E e) (es++ys)) hsl) (fun b hb=>by simpa using hb) (by simpa using hndX)⟩
section
variable{t d s x E e bs:Nat}{ty:TypeId}{pos:String}{af:Array Edge}{g:Option (Nat×Bool)}{z:Value}{es ys:List (List PV)}
def fe{t2:Nat}(hd:d < n)(hT:gu P t=some (E,e,bs))(hz:fU P E=some z)(hoz:(z.cells.toList.all (·.oneCell'))=true)(hzs:z.cells.size=e)(he:0 < e)(hsx:Nat.beq s x=false)(h63:es.length+ys.length≤9223372036854775807)(hbytes:(es.length+ys.length) * bs≤140737488355328) :
  Loc P n ⟨some d,.call { callee:=.builtin .append,args := #[.tmp s,.tmp x],argTypes := #[t,t] },ty,pos,af,g⟩ ⟨[(s,RV.slc (.own E e) es),(x,RV.slc (.own t2 e) ys)],[],[(s,none),(x,none),(d,some (RV.slc (.own E e) (es++ys)))],[],none⟩:=by
 intro h0 w0 Fz0 σ a w K Q hc hr _ _ h5;obtain ⟨φ,Fz,Fp,hc⟩:=hc;rw [beq_eq,decide_eq_false_iff_not] at hsx;have hv:=bY.atom (hc.slot s _ hr.1);have hx:=bY.atom (hc.slot x _ hr.2.1);have c1:=hc.pull s;have c2:=c1.pull x;obtain ⟨news,F',h1,h2,h3⟩:=avh hx;have e0:mv (mv Fp (2 * s+1)) (2 * x+1) 0=Fp (2 * x+1)++(Fp (2 * s+1)++Fp 0):=by simp only [mv,if_true];rw [if_neg ab,if_neg ab]
 have hnd:=c2.nod 0;rw [e0] at hnd;simp only [dD,fm] at hnd;obtain ⟨v',w',hr',k⟩:=acv (ty:=ty) (d:=d) hd hT hz hoz hzs he c2 hv h1 (fun b hb=>by
   rw [e0];rcases List.mem_append.1 hb with hb|hb;·simp [hb]
   ·simp [h2 b hb]) (by
   rw [dD];exact ⟨hnd.2.1.1,h3 hnd.1,fun u hu y hy e=>hnd.2.2 y (h2 y hy) u (.inl hu) e.symm⟩) h63 hbytes
 refine eH (v:=v') (w':=w') ?_ (h5 _ _ (bB.eqv k (fun i=>rfl) (fun e=>rfl)));have es':a.eval (.tmp s)=a.tmps.getD s undef:=rfl;have ex':a.eval (.tmp x)=a.tmps.getD x undef:=rfl;unfold execOp;simp only [resolve,invoke,builtin,Sem.run_bind,Sem.run_pure,Result.andThen_ok,List.map_toArray,List.map_cons,List.map_nil,es',ex',hr']
def nA{o:Fl}(hd:d < n)(hT:gu P t=some (E,e,bs))(hz:fU P E=some z)(hoz:(z.cells.toList.all (·.oneCell'))=true)(hzs:z.cells.size=e)(he:0 < e)(hlen:∀cs,cs∈ys→cs.length=e)(hb:∀cs,cs∈ys→aS cs)
  (h63:es.length+ys.length≤9223372036854775807) (hbytes:(es.length+ys.length) * bs≤140737488355328) :
  Loc P n ⟨some d,.call { callee:=.builtin .append,args := #[.tmp s,.tmp x],argTypes := #[t,t] },ty,pos,af,g⟩ ⟨[(s,RV.slc (.own E e) es),(x,RV.slc o ys)],[],[(s,none),(d,some (RV.slc (.own E e) (es++ys)))],[],none⟩:=by
 intro h0 w0 Fz0 σ a w K Q hc hr _ _ h5;obtain ⟨φ,Fz,Fp,hc⟩:=hc;have hv:=bY.atom (hc.slot s _ hr.1);have hx:=hc.slrel hr.2.1;have c1:=hc.pull s;obtain ⟨news,h1⟩:=avi he hx hlen hb;have e0:mv Fp (2 * s+1) 0=Fp (2 * s+1)++Fp 0:=hI;have hnd:=c1.nod 0;rw [e0] at hnd;obtain ⟨v',w',hr',k⟩:=acv (ty:=ty) (d:=d) hd hT hz hoz hzs he c1 hv h1 (fun b hb=>by rw [e0];rw [fS] at hb;simp [hb]) (by rw [fS];exact (List.nodup_append.1 hnd).1) h63 hbytes
 refine eH (v:=v') (w':=w') ?_ (h5 _ _ (bB.eqv k (fun i=>rfl) (fun e=>rfl)));have es':a.eval (.tmp s)=a.tmps.getD s undef:=rfl;have ex':a.eval (.tmp x)=a.tmps.getD x undef:=rfl;unfold execOp;simp only [resolve,invoke,builtin,Sem.run_bind,Sem.run_pure,Result.andThen_ok,List.map_toArray,List.map_cons,List.map_nil,es',ex',hr']
end
end
end
def wU:=@PV.To.refl
def aJi:=@PV.bor_val
def aJj:=@St.setB_b
abbrev oo:Fl:=.own 25 4
abbrev aG:Fl:=.own 65 3
abbrev aj:Fl:=.own 3 1
abbrev yW:Fl:=.own 298 1
abbrev rh:Fl:=.own 307 3
abbrev ba:Fl:=.own 116 4
abbrev bI:Fl:=.own 114 1
abbrev cG:Fl:=.own 102 10
abbrev cw:Fl:=.own 56 7
abbrev aK:Fl:=.own 27 2
abbrev cD:Fl:=.own 149 5
abbrev kN:Fl:=.own 9 1
end Go.Proofs.YtmekkgdboplbjaaGreatDoor.M
