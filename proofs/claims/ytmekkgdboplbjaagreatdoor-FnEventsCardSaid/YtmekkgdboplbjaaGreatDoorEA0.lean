/- The logic. No condition. -/
import Derived.WalkKit
import Derived.Laws.OwnMore
import Derived.Deep.OwnRows
import Derived.Laws.MakeOwn
import Derived.Orders
import Derived.IntWalk
set_option linter.all false
namespace Go.Proofs.YtmekkgdboplbjaaGreatDoor.M
open Go Go.RowKit
section
variable{G:Prop}
def ak(h:G:=by exact rfl):G:=h
def ab(h:G:=by omega):G:=h
def aj(h:G:=by decide):G:=h
def an(h:G:=by exact tI):G:=h
def ao(h:G:=by kernel_rfl):G:=h
def az(h:G:=by exact nl rfl):G:=h
def iC(h:G:=by exact (aF.cons (hbo _) (aF.cons (bor_val _) (aF.cons (bor_val _) aF.nil)))):G:=h
def iD(h:G:=by intro L' h;exact nomatch (show (none:Option aN)=some L' from h)):G:=h
def lh(h:G:=by exact (aF.cons (bor_sl _) (aF.cons (bor_val _) (aF.cons (bor_val _) aF.nil)))):G:=h
def bg(h:G:=by exact lq):G:=h
def jZ(h:G:=by exact (jn (aF.cons (bor_val _) aF.nil) jm)):G:=h
def sk(h:G:=by first|(intro cs hcs;obtain ⟨x,_,rfl⟩:=List.mem_map.1 hcs;exact (aF.cons (bor_val _) aF.nil))|simp):G:=h
def ib(h:G:=by exact (aF.cons (bor_sl _) aF.nil)):G:=h
def vO(h:G:=by first|(simp;done)|(simp [hre];done)|(simp [hru,Dq];done)|(simp [Dq];done)|(simp_all;done)):G:=h
def kb(h:G:=by exact (aI (aI rfl (aD aJ.nil)) tI)):G:=h
def gI(h:G:=by exact ⟨rfl,⟨⟩⟩):G:=h
def qz(h:G:=by rw [bf,List.length_set,bf]):G:=h
def sq(h:G:=by exact (jn (aF.cons (bor_sl _) aF.nil) jm)):G:=h
def iE(h:G:=by exact (aV aJ.nil)):G:=h
def yi(h:G:=by exact (jn (aF.cons (bor_sl _) (aF.cons (bor_val _) aF.nil)) jm)):G:=h
def gn(h:G:=by simpa using hba):G:=h
def qA(h:G:=by exact (aI (aI rfl (aV aJ.nil)) tI)):G:=h
def vP(h:G:=by first|(rw [bf];exact hil)|exact hil):G:=h
def nr(h:G:=by rw [St.setB_b,if_pos rfl]):G:=h
def oi(h:G:=by exact ⟨rfl,rfl,⟨⟩⟩):G:=h
def nt(h:G:=by exact (aI (bi rfl) tI)):G:=h
def Ew(h:G:=by first|(simp_all;done)|(cases h1_:bn e<;>cases h2_:(eI e.Store u).2<;>simp_all)):G:=h
def iF(h:G:=by rw [h];simp):G:=h
def qB(h:G:=by simp [eqGuard,binOp,Op.intCmp]):G:=h
def gC(h:G:=by simp [hx]):G:=h
def KD(h:G:=by exact (aJ.cons PV.to_any (aD (aD (aJ.cons PV.to_any (aJ.cons PV.to_any (aJ.cons PV.to_any (aJ.cons PV.to_any (aD aJ.nil))))))))):G:=h
def jA(h:G:=by simpa using hbb):G:=h
def ue(h:G:=by first|exact hbd|simpa using hbd):G:=h
def go(h:G:=by simp [mv]):G:=h
def yj(h:G:=by exact (aI (aI rfl (aV (aD aJ.nil))) tI)):G:=h
def vQ(h:G:=by rw [bf];exact hjk900):G:=h
def KE(h:G:=by exact (aD (aD (aD (aV (aV (aD (aD (aD (aD (aV (aD (aD (aD aJ.nil)))))))))))))):G:=h
def lO(h:G:=by exact arh):G:=h
def Ex(h:G:=by rw [bf,bf,←e1,bf]):G:=h
def Uf(h:G:=by exact (aI (aI rfl (aV (aD (aD (aV (aV (aV (aV (aD aJ.nil))))))))) (aI (aI rfl (aD (aD (aD (aV (aV (aD (aD (aD (aD (aV (aD (aD (aD aJ.nil)))))))))))))) tI))):G:=h
def Ey(h:G:=by exact (aF.cons (bor_sl _) (aF.cons (bor_val _) aF.nil))):G:=h
def Ez(h:G:=by first|(simp_all [kX];done)|(unfold kX;simp_all)):G:=h
def EA(h:G:=by rw [←bf (f:=Prod.fst),hza,vz]):G:=h
def KF(h:G:=by exact (aF.cons (bor_lo _ _) (aF.cons (bor_val _) (aF.cons (bor_val _) aF.nil)))):G:=h
def KG(h:G:=by exact Cp.sv (aJ.cons (PV.nv_to ut) aJ.nil) (aF.cons (bor_sl _) aF.nil)):G:=h
def uf(h:G:=by rw [cJ]):G:=h
def KH(h:G:=by exact (aD (aD (aD (aD (aD (aD (aD (aD (aD (aD aJ.nil))))))))))):G:=h
def Ug(h:G:=by exact (aI (aI rfl (aV (aD (aD (aV (aV (aV (aV (aD aJ.nil))))))))) (aI (aI rfl (aD (aD (aV (aV aJ.nil))))) (aI (aI rfl (aD aJ.nil)) tI)))):G:=h
def Uh(h:G:=by first|(intro cs hcs;obtain ⟨x,_,rfl⟩:=List.mem_map.1 hcs;exact (aF.cons (bor_val _) (aF.cons (bor_val _) (aF.cons (bor_val _) aF.nil))))|simp):G:=h
def EB(h:G:=by exact (aJ.cons (PV.nv_to (sB _)) aJ.nil)):G:=h
def ph(h:G:=by simpa using hq):G:=h
def ky(h:G:=by exact lc):G:=h
def EC(h:G:=by first|(simp_all [gR];done)|simpa [gR] using hbb):G:=h
def KI(h:G:=by exact (aI (bi rfl) (aI (bi rfl) (aI (bi rfl) (aI (bi rfl) tI))))):G:=h
def AY(h:G:=by exact fX h0w (by rw [←AW h0w])):G:=h
def AZ(h:G:=by rw [hgk];first|assumption|simp_all):G:=h
def ug(h:G:=by exact (aD aJ.nil)):G:=h
def oj(h:G:=by rw [h.2];simp):G:=h
def Ba(h:G:=by rcases hb with hb|hb<;>simp [hb]):G:=h
def qC(h:G:=by exact arf):G:=h
def sr(h:G:=by simpa using hbc):G:=h
def Ui(h:G:=by exact (aI (aI rfl (aV (aD (aD (aV (aV (aV (aV (aD aJ.nil))))))))) (aI (aI rfl (aD (aD (aV (aD (aD aJ.nil)))))) tI))):G:=h
def KJ(h:G:=by exact (aV (aD (aD (aV (aV (aV (aV (aD aJ.nil))))))))):G:=h
def ED(h:G:=by rw [hend,cJ] at ha;exact ha):G:=h
def EE(h:G:=by exact (aD (aD (aD (aD aJ.nil))))):G:=h
def KK(h:G:=by repeat (first|exact pv.nil|apply pv.val|apply pv.sl)):G:=h
def KL(h:G:=by exact (aF.cons (bor_val _) (aF.cons (bor_sl _) aF.nil))):G:=h
def vR(h:G:=by rw [hlen];exact hrow):G:=h
def om(h:G:=by simp [hr]):G:=h
def Uj(h:G:=by first|exact cz (by rw [aoV hlt hc,bK];rfl)|exact cz (by rw [aoW hlt hc])):G:=h
def EF(h:G:=by exact fX h2w (by rw [←AW h2w])):G:=h
def Uk(h:G:=by exact (aI (aI rfl (aV (aD (aD (aV (aV (aV (aV (aD aJ.nil))))))))) (aI (aI rfl (aD aJ.nil)) tI))):G:=h
def EG(h:G:=by intro e_;subst e_;simp_all [Dq]):G:=h
def yk(h:G:=by cases x;cases y;simp):G:=h
def yl(h:G:=by simp [Value.ownBlock]):G:=h
def EH(h:G:=by first|exact hbe|simpa using hbe):G:=h
def vS(h:G:=by exact ax.nil):G:=h
def KM(h:G:=by exact (aF.cons (bor_nv (bor_sl _)) aF.nil)):G:=h
def Ul(h:G:=by intro hc_;rcases hc_ with hc_|hc_<;>first|exact hk00 hc_|exact hbc hc_|(simp_all;done)):G:=h
def Um(h:G:=by exact (Nm.nv (Nm.nv (Nm.nv (Nm.nv (Nm.nv (Nm.nv (Nm.nv (Nm.nv (Nm.nv (Nm.nv Nm.nil))))))))))):G:=h
def EI(h:G:=by rw [hga];simpa [fD] using hbd):G:=h
def vT(h:G:=by simpa using hi):G:=h
def pi(h:G:=by simp [h]):G:=h
def Un(h:G:=by exact (aD (aD (aJ.cons PV.to_any (aJ.cons PV.to_any (aJ.cons PV.to_any aJ.nil)))))):G:=h
def KN(h:G:=by rw [←bf (f:=Prod.fst),hza]):G:=h
def Uo(h:G:=by first|(simp_all;done)|(cases h1_:bn e<;>cases h2_:dE x<;>simp_all)):G:=h
def EJ(h:G:=by exact (aV (aD aJ.nil))):G:=h
def Up(h:G:=by exact (Nm.val (Nm.val (Nm.val (Nm.val (Nm.val (Nm.val (Nm.val (Nm.val Nm.nil))))))))):G:=h
def KO(h:G:=by exact (aD (aD (aV (aV aJ.nil))))):G:=h
def Uq(h:G:=by exact (aD (aD (aV (aV (aD (aV (aD (aD (aD (aV aJ.nil))))))))))):G:=h
def EK(h:G:=by rw [←hz3];simpa using hbd):G:=h
def EL(h:G:=by rw [vz];exact hltm):G:=h
def Ur(h:G:=by exact (aF.cons (bor_nv (bor_sl _)) (aF.cons (bor_nv (bor_val _)) aF.nil))):G:=h
def ym(h:G:=by simpa using hl):G:=h
def sw(h:G:=by cases hd):G:=h
def yn(h:G:=by exact jm):G:=h
def KP(h:G:=by exact fX h3w (by rw [←AW h3w])):G:=h
def KQ(h:G:=by exact fX h1w (by rw [←AW h1w])):G:=h
def EM(h:G:=by rw [Sl];exact hltm):G:=h
def Us(h:G:=by rw [←hFp1];simp only [if_true];congr 1;simp only [mv,if_true];rw [e2]):G:=h
def KR(h:G:=by exact (TY (x:=fG s))):G:=h
def uh(h:G:=by simp [k]):G:=h
def KS(h:G:=by exact ⟨rfl,rfl,rfl,⟨⟩⟩):G:=h
def Ut(h:G:=by exact Cp.sv (aD aJ.nil) (aF.cons (bor_nv (bor_sl _)) aF.nil)):G:=h
def yo(h:G:=by rw [e];simp):G:=h
def EN(h:G:=by simpa [me] using hbb):G:=h
def KT(h:G:=by simp [eqGuard,binOp,Op.intArith]):G:=h
def Uu(h:G:=by intro L' h;exact Option.some.inj (show some _=some L' from h)):G:=h
def Bb(h:G:=by exact arB):G:=h
def Bc(h:G:=by simpa using hu):G:=h
def EO(h:G:=by apply Array.ext';simp):G:=h
def Bd(h:G:=by rw [hok];simp):G:=h
def EP(h:G:=by exact alz):G:=h
def Uv(h:G:=by rw [hz3];exact hnd):G:=h
def Be(h:G:=by simpa using hx):G:=h
def Uw(h:G:=by exact (aF.cons (bor_sl _) (aF.cons (bor_sl _) aF.nil))):G:=h
def Ux(h:G:=by exact Cp.sv (aD aJ.nil) (aF.cons (bor_err _) aF.nil)):G:=h
def Uy(h:G:=by rw [←List.drop_eq_getElem_cons hk,ic]):G:=h
def KU(h:G:=by exact (aD (aV aJ.nil))):G:=h
def KV(h:G:=by exact (aD (aD aJ.nil))):G:=h
def EQ(h:G:=by exact ari):G:=h
def Uz(h:G:=by rw [List.nil_append];exact (List.nodup_append.1 hnd).1):G:=h
def UA(h:G:=by first|(rw [bf];exact hum)|exact hum):G:=h
def UB(h:G:=by first|(rw [bf];exact hru)|exact hru):G:=h
def KW(h:G:=by rw [←hX0];exact c1.nod 0):G:=h
def ER(h:G:=by simp [St.setB_b]):G:=h
def Bf(h:G:=by simp [←hza]):G:=h
def UC(h:G:=by rw [bf,←hz900,bf]):G:=h
def ES(h:G:=by simpa [] using hbb):G:=h
def UD(h:G:=by rw [←hz3,←ao5,←hme];simpa using hbe):G:=h
def ET(h:G:=by exact aks):G:=h
def EU(h:G:=by exact auH):G:=h
def UE(h:G:=by rw [←List.flatten_append,ic]):G:=h
def UF(h:G:=by exact (aD (aD (aV (aD (aD aJ.nil)))))):G:=h
def UG(h:G:=by rw [bJ,hown.1,hnl,Nat.add_mul]):G:=h
def UH(h:G:=by rw [JL hm1 hm2,←hz3];exact ajG hbc):G:=h
def UI(h:G:=by rw [←hz900,bf] at hi;exact hi):G:=h
def EV(h:G:=by simpa using hr):G:=h
def EW(h:G:=by simpa using hn):G:=h
def EX(h:G:=by simpa using hs):G:=h
def UJ(h:G:=by exact (alv (q:=mC (aq 32 s)))):G:=h
def UK(h:G:=by rw [JL hm1 hm2,←hz3];exact ajH hbc):G:=h
def EY(h:G:=by simp_all [tK]):G:=h
def EZ(h:G:=by simp_all [kV]):G:=h
def KX(h:G:=by rw [alh];simp_all):G:=h
def KY(h:G:=by exact (Nm.val Nm.nil)):G:=h
def UL(h:G:=by intro b hb;simp [dz] at hb ⊢;exact hb):G:=h
def UM(h:G:=by rw [hoff,lp hf (Nat.le_of_lt hk)];rfl):G:=h
def Bg(h:G:=by simp [hp]):G:=h
def Fc(h:G:=by simpa using e2):G:=h
def UN(h:G:=by exact (RX (x:=mC (aq 32 s)))):G:=h
def KZ(h:G:=by unfold dy;rw [hu]):G:=h
def Fe(h:G:=by simp_all [mg]):G:=h
def Ff(h:G:=by simpa using h1):G:=h
def La(h:G:=by rw [List.map_cons,e1]):G:=h
def Lb(h:G:=by rw [List.drop_zero]):G:=h
def Lc(h:G:=by unfold qh;rw [ha]):G:=h
def Ld(h:G:=by rw [←eu];exact ev):G:=h
def Le(h:G:=by exact arG):G:=h
def Lf(h:G:=by unfold kw;rw [ha]):G:=h
def Lg(h:G:=by exact akr):G:=h
def Fg(h:G:=by exact Cp.sc):G:=h
def UO(h:G:=by rw [bf];exact hjk930):G:=h
def Lh(h:G:=by rw [h2];exact h1):G:=h
def Fh(h:G:=by simp at hb):G:=h
def Li(h:G:=by exact art):G:=h
def UP(h:G:=by rw [bf];exact hhi):G:=h
def UQ(h:G:=by unfold iS;rw [Dt hlt]):G:=h
def UR(h:G:=by unfold iS;rw [bf]):G:=h
def US(h:G:=by rw [←hph,←hz4];simpa using ga):G:=h
def UT(h:G:=by have:=gb;simp at this;simp [this]):G:=h
def bq(h:G:=by simp only [bf,bJ,List.length_cons,List.length_nil];omega):G:=h
def gD(h:G:=by first|(simp_all;done)|(constructor<;>first|omega|(simp_all;done))|(rintro ⟨a_,b_⟩;first|omega|(simp_all;done)|(simp_all;omega))):G:=h
def bE(h:G:=by exact fX ab rfl):G:=h
def gE(h:G:=by first|assumption|omega|(simp_all;done)|(simp_all;omega)):G:=h
def bp(h:G:=by exact aI ak tI):G:=h
def bS(h:G:=by exact (aI an tI)):G:=h
def et(h:G:=by unfold ee;omega):G:=h
def fb(h:G:=by rw [cI];omega):G:=h
def oo(h:G:=by first|(intro cs hcs;obtain ⟨x,_,rfl⟩:=List.mem_map.1 hcs;exact rfl)|simp):G:=h
def gp(h:G:=by exact aI ak (aI ak tI)):G:=h
def oq(h:G:=by intro c hc;obtain ⟨y,_,rfl⟩:=List.mem_map.1 hc;exact rfl):G:=h
def ip(h:G:=by exact (aI an (aI an tI))):G:=h
def gF(h:G:=by exact ⟨ab,rfl⟩):G:=h
def jj(h:G:=by exact cX ab):G:=h
def iG(h:G:=by exact ⟨ab,by simp⟩):G:=h
def kc(h:G:=by first|omega|(simp_all;omega)):G:=h
def lP(h:G:=by exact (aF.cons (bor_val _) aF.nil)):G:=h
def Bh(h:G:=by simp only [bJ,cI,lj,TR,List.length_cons,List.length_nil];omega):G:=h
def UU(h:G:=by exact aI (by show _=some (46,[sl bH (e.Store.ax2.map (aO bc ai)),val (vI e.Store.Now),val (vI e.ax7),sl ai (e.Order.map ar),sl .v (za.map gS),sl cf ((e.Done++jy e (parts e).length 0).map (bw aH ai aL ai)),sl ck ((jz e (parts e).length).map (bz ai ai ai)),val (vI e.Steps)]);rw [show jy e (parts e).length 0=[] from rfl,fV];exact rfl) tI):G:=h
def Fj(h:G:=by simp only [bf,bJ,List.length_cons,List.length_nil,lj,cI];omega):G:=h
def qD(h:G:=by exact (aI an (aI an (aI an tI)))):G:=h
def vU(h:G:=by exact (aI an (aI an (aI an (aI an tI))))):G:=h
def vV(h:G:=by exact aI (by first|exact rfl|simp) (aI ak tI)):G:=h
def ui(h:G:=by exact aI ak (aI ak (aI ak tI))):G:=h
def iV(h:G:=by simp;omega):G:=h
def yp(h:G:=by simp only [dV,gj,bo];omega):G:=h
def vW(h:G:=by exact (aI (bi rfl) (aI an tI))):G:=h
def Lj(h:G:=by first|exact (congrArg (IntKind.wrap .u8) WX).trans (IntWalk.u8_in _ ab)|exact IntWalk.u8_in _ ab):G:=h
def vX(h:G:=by rw [lj];omega):G:=h
def ot(h:G:=by dsimp only;omega):G:=h
def Fk(h:G:=by first|(simp_all [kU];done)|(simp_all [kU];omega)):G:=h
def uj(h:G:=by exact arj ab):G:=h
def UV(h:G:=by exact (auy (e:=(co (cq c most) k).e) (q:=(xZ (co (cq c most) k).c).1) (l:=(AM (co (cq c most) k).c).1) ab (by unfold xZ;omega))):G:=h
def ou(h:G:=by simpa using h):G:=h
def UW(h:G:=by exact (auK (e:=(co (cq c most) k).e) (u:=(fE (de (co (cq c most) k).c).2 (co (cq c most) k).e.Store).1) ab ab)):G:=h
def Lk(h:G:=by first|(simp_all [eW,jL];done)|(simp_all [eW,jL];omega)):G:=h
def Ll(h:G:=by intro cs hcs;obtain ⟨x,_,rfl⟩:=List.mem_map.1 hcs;exact bg):G:=h
def UX(h:G:=by rw [←Bool.not_eq_true];intro hc_;obtain ⟨h1_,h2_,h3_,h4_,h5_⟩:=xL hc_;first|omega|(simp_all;done)|(simp_all;omega)):G:=h
def UY(h:G:=by exact (akt (e:=(dM (bR (aS code hb)).1 (fx (aS code hb)) k).1) (x:=(fx (aS code hb))[k]) ab ab)):G:=h
def Fm(h:G:=by simp only [eC,gj,bo];omega):G:=h
def yq(h:G:=by first|exact hf2|omega):G:=h
def UZ(h:G:=by first|exact cz (by rw [apa hlj Uv,bK];exact rfl)|exact cz (by rw [apb hlj Uv])):G:=h
def Fo(h:G:=by rw [show x.length=k by omega];exact ha):G:=h
def vY(h:G:=by rw [hr];exact rfl):G:=h
def Bi(h:G:=by exact (RQ hbo ab)):G:=h
def Va(h:G:=by simp only [bf,bJ,List.length_cons,List.length_nil,lj];omega):G:=h
def Vb(h:G:=by first|exact (congrArg (IntKind.wrap .i64) WX).trans (IntWalk.i64_in _ ab)|exact IntWalk.i64_in _ ab):G:=h
def Lm(h:G:=by exact ⟨ab,fun h=>absurd h (Nat.lt_irrefl 0)⟩):G:=h
def Vc(h:G:=by exact (auA (e:=(co (cq c most) k).e) (id:=(pb (co (cq c most) k).c).1) ab)):G:=h
def Fq(h:G:=by have:=gb;(try simp at this);omega):G:=h
def Vd(h:G:=by first|exact TI h0|(rw [Er h0];have:=hb_;(try simp at this);show ¬s[0].toNat=45;omega)):G:=h
def Ln(h:G:=by rw [hoff];simp only [bJ];omega):G:=h
def Lo(h:G:=by rw [←List.drop_eq_getElem_cons hltz];exact rfl):G:=h
def Lp(h:G:=by exact fX ab (by rw [kl (d:=0) ab])):G:=h
def Ve(h:G:=by exact aI (by rw [show j=zss[i].length by omega,cJ,ao6 hlz];exact rfl) tI):G:=h
def Fr(h:G:=by rw [bf];omega):G:=h
def Vf(h:G:=by unfold jO;rw [show j=s.ax2[i].length by omega,cJ] at hc;exact hc):G:=h
def Lq(h:G:=by first|(simp_all;done)|(simp_all;omega)):G:=h
def Vg(h:G:=by exact (TW (by simp only [cI,lj];omega))):G:=h
def Vh(h:G:=by exact aI ak (aI (by simp only [kR,bK];exact rfl) tI)):G:=h
def Lr(h:G:=by have:=ga;(try simp at this);omega):G:=h
def Vi(h:G:=by unfold nk;rw [show min (fx (aS code hb)).length 60=k by omega]):G:=h
def Ls(h:G:=by have:=gc;(try simp at this);omega):G:=h
def Ft(h:G:=by exact (TW ab)):G:=h
def vZ(h:G:=by simp [hb]):G:=h
def Lt(h:G:=by show (0:Int)≤100000;decide):G:=h
def Vj(h:G:=by unfold iS;rw [bf,cI];omega):G:=h
def Vk(h:G:=by exact (aI an (aI an (aI an (aI (bi rfl) tI))))):G:=h
def Vl(h:G:=by exact (aI (bi rfl) (aI an (aI an (aI an tI))))):G:=h
def Vm(h:G:=by exact aI (by rw [hend0,cJ];exact rfl) tI):G:=h
def Vn(h:G:=by exact aI (by rw [hend1,cJ];exact rfl) tI):G:=h
def Vo(h:G:=by exact (xU (l:=[0,0,1,2]) hbo aj aj)):G:=h
def Vp(h:G:=by exact (akn hbo (by first|assumption|omega))):G:=h
def Lu(h:G:=by unfold bn;rw [h];simp):G:=h
def Vq(h:G:=by exact cX (by rw [hsn];try dsimp only;try omega)):G:=h
def Vr(h:G:=by rw [show k+(j+1)=k+1+j by omega];exact hs):G:=h
def Vs(h:G:=by rw [show k+(i+1)=k+1+i by omega];exact hs):G:=h
def Vt(h:G:=by rw [show i+(j+1)=i+1+j by omega];exact hs):G:=h
def Vu(h:G:=by simp only [aO,bK];exact rfl):G:=h
def Vv(h:G:=by first|assumption|exact .inr hbc|exact .inr sr):G:=h
def Lv(h:G:=by exact (asg ab)):G:=h
def Vw(h:G:=by rw [qu aj,ua (jW aj)]):G:=h
def Vx(h:G:=by rw [show x.Values.length=k by omega];exact ha):G:=h
def Vy(h:G:=by rw [show e.ayf.length=k by omega];exact ha):G:=h
def Vz(h:G:=by exact (aI (bi rfl) (aI an (aI an tI)))):G:=h
def VA(h:G:=by rw [show q.ax5.length=k by omega];exact ha):G:=h
def VB(h:G:=by rw [cI,lj];omega):G:=h
def Lx(h:G:=by exact (asq ab)):G:=h
def VC(h:G:=by rw [show e.Done.length=k by omega];exact ha):G:=h
def VD(h:G:=by unfold nj;rw [hoe,decide_eq_true hge];rfl):G:=h
def VE(h:G:=by exact (RQ (fun es=>bor_sl es) ab)):G:=h
def VF(h:G:=by rw [←asB hoe hlt hi hid];exact rfl):G:=h
def VG(h:G:=by simp only [mv];rw [if_neg ab,if_neg ab]):G:=h
def VH(h:G:=by have h_:=hpr;simp [ru,aK] at h_;omega):G:=h
def VI(h:G:=by first|exact hbb|(simp_all;done)|omega):G:=h
def VJ(h:G:=by exact ⟨ab,Ae ha hlt hno1⟩):G:=h
def VK(h:G:=by exact (aI an (aI (bi rfl) tI))):G:=h
def VL(h:G:=by have:=hba;(try simp at this);omega):G:=h
def aM(h:G:=by simp):G:=h
def qE(h:G:=by exact (ar8 et)):G:=h
def qF(h:G:=by exact (ar9 et)):G:=h
def nu(h:G:=by exact aI jj tI):G:=h
def Ly(h:G:=by intro cs hcs;obtain ⟨x,_,rfl⟩:=List.mem_map.1 hcs;exact rfl):G:=h
def Lz(h:G:=by first|assumption|omega):G:=h
def uk(h:G:=by first|omega|(simp_all;done)|(simp_all;omega)):G:=h
def fU(h:G:=by rfl):G:=h
def Fu(h:G:=by rw [huk];first|exact hbb|simpa using hbb):G:=h
def Fv(h:G:=by first|exact hbc|simpa using hbc):G:=h
def LA(h:G:=by rw [Wt,cI];simp;omega):G:=h
def VM(h:G:=by simp only [aK,aX,decide_eq_true_eq] at *;unfold ee;omega):G:=h
def VN(h:G:=by unfold lB;rw [hp1];first|(simp_all;done)|(simp_all;omega)):G:=h
def VO(h:G:=by rw [VT];exact ⟨j,fb,aM⟩):G:=h
def VP(h:G:=by first|(simpa using hba)|(simp_all;done)):G:=h
def VQ(h:G:=by rw [huk];first|exact hba|simpa using hba):G:=h
def VR(h:G:=by rw [←hp];congr 1;simp;omega):G:=h
def dO(h:G:=by simp_all):G:=h
def VS(h:G:=by rw [huk];first|exact hbc|simpa using hbc):G:=h
def Fw(h:G:=by first|omega|(simp_all;done)):G:=h
end
def bf:=@List.length_map
def bJ:=@List.length_append
def bB:=@List.append_assoc
def cI:=@List.length_take
def eS:=@List.mem_append
def df:=@List.nodup_append
def Fy:=@List.mem_map
def bK:=@List.map_append
def cU:=@List.take_succ_eq_append_getElem
def cJ:=@List.take_length
def lQ:=@List.all_eq_true
def kz:=@List.mem_cons
def jl:=@List.nodup_cons
def ic:=@List.take_append_drop
def aX:=@Bool.and_eq_true
def bh:=@Exists.intro
def kC:=@List.eq_nil_of_length_eq_zero
def iH:=@List.Perm.append_left
def kD:=@List.Perm.append_right
def lj:=@List.length_drop
def VT:=@List.mem_iff_getElem
def qG:=@List.take_of_length_le
def kE:=@List.length_filter_le
def lR:=@List.perm_append_comm
def gW:=@List.filter_append
def fV:=@List.append_nil
section
abbrev aA:=Nat→Nat→Prop
def gX(Fz:aA)(w:World)(Fz':aA)(w':World):Prop:=∀b o,Fz b o→Fz' b o∧w'.cell? ⟨b,o,none⟩=w.cell? ⟨b,o,none⟩
def gX.refl(Fz:aA)(w:World):gX Fz w Fz w:=fun _ _ h=>⟨h,rfl⟩
def gX.trans{F1 F2 F3:aA}{w1 w2 w3:World}(h:gX F1 w1 F2 w2)(k:gX F2 w2 F3 w3):gX F1 w1 F3 w3:=
 fun b o hb=>⟨(k b o (h b o hb).1).1,(k b o (h b o hb).1).2.trans (h b o hb).2⟩
def ll(F:List Nat)(Fz:aA)(w:World)(Fz':aA)(w':World):Prop:=∀b,b∈F→w'.heap[b]?=w.heap[b]?∧∀o,Fz' b o→Fz b o
def ll.refl(F:List Nat)(Fz:aA)(w:World):ll F Fz w Fz w:=fun _ _=>⟨rfl,fun _ h=>h⟩
def ll.sub{F G:List Nat}{Fz Fz':aA}{w w':World}(h:ll F Fz w Fz' w')(hs:∀b,b∈G→b∈F):ll G Fz w Fz' w':=fun b hb=>h b (hs b hb)
structure PV where
 rel:aA→World→Value→Prop
 own:aA→World→Value→List Nat→Prop
 one:∀{Fz:aA} {w:World} {v:Value},rel Fz w v→v.oneCell'=true
 toRel:∀{Fz:aA} {w:World} {v:Value} {F:List Nat},own Fz w v F→rel Fz w v
 relMono:∀{Fz Fz':aA} {w w':World} {v:Value},rel Fz w v→gX Fz w Fz' w'→rel Fz' w' v
 ownMono:∀{Fz Fz':aA} {w w':World} {v:Value} {F:List Nat},own Fz w v F→gX Fz w Fz' w'→ll F Fz w Fz' w'→own Fz' w' v F
 lt:∀{Fz:aA} {w:World} {v:Value} {F:List Nat},own Fz w v F→∀b,b∈F→b < w.heap.size
def PV.val(x:Value):PV where
 rel _ _ v:=v=x∧x.oneCell'=true
 own _ _ v F:=(v=x∧x.oneCell'=true)∧F=[]
 one h:=by rw [h.1];exact h.2
 toRel h:=h.1
 relMono h _:=h
 ownMono h _ _:=h
 lt h:=oj
def ci:List PV→aA→World→List Value→Prop
 | [],_,_,vs=>vs=[]
 | p::ps,Fz,w,vs=>∃v vs',vs=v::vs'∧p.rel Fz w v∧ci ps Fz w vs'
def aP:List PV→aA→World→List Value→List Nat→Prop
 | [],_,_,vs,F=>vs=[]∧F=[]
 | p::ps,Fz,w,vs,F=>∃v vs' F1 F2,vs=v::vs'∧F=F1++F2∧p.own Fz w v F1∧aP ps Fz w vs' F2
def cG(e:Nat):List (List PV)→aA→World→List Value→List Nat→Prop
 | [],_,_,vs,F=>vs=[]∧F=[]
 | cs::es,Fz,w,vs,F=>∃c d F1 F2,vs=c++d∧F=F1++F2∧c.length=e∧aP cs Fz w c F1∧cG e es Fz w d F2
section
variable{Fz Fz':aA}{w w':World}
def ci.len:∀{ps:List PV} {vs:List Value},ci ps Fz w vs→vs.length=ps.length
 | [],vs,h=>by rw [show vs=[] from h];rfl
 | p::ps,vs,h=>by obtain ⟨v,vs',rfl,_,h2⟩:=h;simp [ci.len h2]
def ci.one:∀{ps:List PV} {vs:List Value},ci ps Fz w vs→∀v,v∈vs→v.oneCell'=true
 | [],vs,h=>by rw [show vs=[] from h];simp
 | p::ps,vs,h=>by
  obtain ⟨v,vs',rfl,h1,h2⟩:=h
  intro u hu
  rcases List.mem_cons.1 hu with rfl|hu
  ·exact p.one h1
  ·exact ci.one h2 u hu
def ci.mono:∀{ps:List PV} {vs:List Value},ci ps Fz w vs→gX Fz w Fz' w'→ci ps Fz' w' vs
 | [],_,h,_=>h
 | p::ps,vs,h,k=>by obtain ⟨v,vs',rfl,h1,h2⟩:=h;exact ⟨v,vs',rfl,p.relMono h1 k,ci.mono h2 k⟩
def ci.at_:∀{ps:List PV} {vs:List Value},ci ps Fz w vs→∀{j:Nat} {p:PV},ps[j]?=some p→∃v,vs[j]?=some v∧p.rel Fz w v
 | [],vs,_,j,p,hp=>by simp at hp
 | q::ps,vs,h,0,p,hp=>by
  obtain ⟨v,vs',rfl,h1,_⟩:=h
  simp at hp;subst hp
  exact ⟨v,rfl,h1⟩
 | q::ps,vs,h,j+1,p,hp=>by
  obtain ⟨v,vs',rfl,_,h2⟩:=h
  simp at hp
  simpa using ci.at_ h2 hp
def ci.of_at:∀{ps:List PV} {vs:List Value},vs.length=ps.length→(∀(j:Nat) (p:PV) (v:Value),ps[j]?=some p→vs[j]?=some v→p.rel Fz w v)→ci ps Fz w vs
 | [],[],_,_=>rfl
 | p::ps,v::vs,hl,h=>⟨v,vs,rfl,h 0 p v rfl rfl,ci.of_at ym fun j q u hq hu=>h (j+1) q u ph Bc⟩
def ci.append:∀{ps qs:List PV} {vs us:List Value},ci ps Fz w vs→ci qs Fz w us→ci (ps++qs) Fz w (vs++us)
 | [],_,vs,_,h,k=>by rw [show vs=[] from h];exact k
 | p::ps,_,vs,_,h,k=>by obtain ⟨v,vs',rfl,h1,h2⟩:=h;exact ⟨v,_,rfl,h1,ci.append h2 k⟩
def ci.split:∀{ps qs:List PV} {vs:List Value},ci (ps++qs) Fz w vs→∃v1 v2,vs=v1++v2∧ci ps Fz w v1∧ci qs Fz w v2
 | [],_,vs,h=>⟨[],vs,rfl,rfl,h⟩
 | p::ps,_,vs,h=>by
  obtain ⟨v,vs',rfl,h1,h2⟩:=h
  obtain ⟨v1,v2,rfl,k1,k2⟩:=ci.split h2
  exact ⟨v::v1,v2,rfl,⟨v,v1,rfl,h1,k1⟩,k2⟩
def aP.rel:∀{ps:List PV} {vs:List Value} {F:List Nat},aP ps Fz w vs F→ci ps Fz w vs
 | [],_,_,h=>h.1
 | p::ps,vs,_,h=>by obtain ⟨v,vs',F1,F2,rfl,_,h1,h2⟩:=h;exact ⟨v,vs',rfl,p.toRel h1,aP.rel h2⟩
def aP.len{ps:List PV}{vs:List Value}{F:List Nat}(h:aP ps Fz w vs F):vs.length=ps.length:=h.rel.len
def aP.one{ps:List PV}{vs:List Value}{F:List Nat}(h:aP ps Fz w vs F):∀v,v∈vs→v.oneCell'=true:=h.rel.one
def aP.mono:∀{ps:List PV} {vs:List Value} {F:List Nat},aP ps Fz w vs F→gX Fz w Fz' w'→ll F Fz w Fz' w'→aP ps Fz' w' vs F
 | [],_,_,h,_,_=>h
 | p::ps,vs,_,h,k,hh=>by
  obtain ⟨v,vs',F1,F2,rfl,rfl,h1,h2⟩:=h
  exact ⟨v,vs',F1,F2,rfl,rfl,p.ownMono h1 k (hh.sub fun b hb=>by simp [hb]),aP.mono h2 k (hh.sub fun b hb=>by simp [hb])⟩
def aP.lt:∀{ps:List PV} {vs:List Value} {F:List Nat},aP ps Fz w vs F→∀b,b∈F→b < w.heap.size
 | [],_,_,h=>by rw [h.2];simp
 | p::ps,vs,_,h=>by
  obtain ⟨v,vs',F1,F2,rfl,rfl,h1,h2⟩:=h
  intro b hb
  rcases List.mem_append.1 hb with hb|hb
  ·exact p.lt h1 b hb
  ·exact aP.lt h2 b hb
def aP.append:∀{ps qs:List PV} {vs us:List Value} {F G:List Nat},aP ps Fz w vs F→aP qs Fz w us G→aP (ps++qs) Fz w (vs++us) (F++G)
 | [],_,vs,_,F,_,h,k=>by rw [show vs=[] from h.1,show F=[] from h.2];exact k
 | p::ps,_,vs,us,_,G,h,k=>by
  obtain ⟨v,vs',F1,F2,rfl,rfl,h1,h2⟩:=h
  exact ⟨v,vs'++us,F1,F2++G,rfl,aM,h1,aP.append h2 k⟩
def aP.split:∀{ps qs:List PV} {vs:List Value} {F:List Nat},aP (ps++qs) Fz w vs F→∃v1 v2 F1 F2,vs=v1++v2∧F=F1++F2∧aP ps Fz w v1 F1∧aP qs Fz w v2 F2
 | [],_,vs,F,h=>⟨[],vs,[],F,rfl,rfl,⟨rfl,rfl⟩,h⟩
 | p::ps,_,vs,_,h=>by
  obtain ⟨v,vs',G1,G2,rfl,rfl,h1,h2⟩:=h
  obtain ⟨v1,v2,F1,F2,rfl,rfl,k1,k2⟩:=aP.split h2
  exact ⟨v::v1,v2,G1++F1,F2,rfl,aM,⟨v,v1,G1,F1,rfl,rfl,h1,k1⟩,k2⟩
def cG.len{e:Nat}:∀{es:List (List PV)} {vs:List Value} {F:List Nat},cG e es Fz w vs F→vs.length=es.length * e
 | [],vs,_,h=>by rw [show vs=[] from h.1];simp
 | cs::es,vs,_,h=>by
  obtain ⟨c,d,F1,F2,rfl,_,hl,_,h2⟩:=h
  rw [bJ,hl,cG.len h2,List.length_cons,Nat.succ_mul];omega
def cG.one{e:Nat}:∀{es:List (List PV)} {vs:List Value} {F:List Nat},cG e es Fz w vs F→∀v,v∈vs→v.oneCell'=true
 | [],vs,_,h=>by rw [show vs=[] from h.1];simp
 | cs::es,vs,_,h=>by
  obtain ⟨c,d,F1,F2,rfl,_,_,h1,h2⟩:=h
  intro v hv
  rcases List.mem_append.1 hv with hv|hv
  ·exact h1.one v hv
  ·exact cG.one h2 v hv
def cG.mono{e:Nat}:∀{es:List (List PV)} {vs:List Value} {F:List Nat},cG e es Fz w vs F→gX Fz w Fz' w'→ll F Fz w Fz' w'→cG e es Fz' w' vs F
 | [],_,_,h,_,_=>h
 | cs::es,vs,_,h,k,hh=>by
  obtain ⟨c,d,F1,F2,rfl,rfl,hl,h1,h2⟩:=h
  exact ⟨c,d,F1,F2,rfl,rfl,hl,h1.mono k (hh.sub fun b hb=>by simp [hb]),cG.mono h2 k (hh.sub fun b hb=>by simp [hb])⟩
def cG.lt{e:Nat}:∀{es:List (List PV)} {vs:List Value} {F:List Nat},cG e es Fz w vs F→∀b,b∈F→b < w.heap.size
 | [],_,_,h=>by rw [h.2];simp
 | cs::es,vs,_,h=>by
  obtain ⟨c,d,F1,F2,rfl,rfl,_,h1,h2⟩:=h
  intro b hb
  rcases List.mem_append.1 hb with hb|hb
  ·exact h1.lt b hb
  ·exact cG.lt h2 b hb
def cG.append{e:Nat}:∀{es ds:List (List PV)} {vs us:List Value} {F G:List Nat},cG e es Fz w vs F→cG e ds Fz w us G→cG e (es++ds) Fz w (vs++us) (F++G)
 | [],_,vs,_,F,_,h,k=>by rw [show vs=[] from h.1,show F=[] from h.2];exact k
 | cs::es,_,vs,us,_,G,h,k=>by
  obtain ⟨c,d,F1,F2,rfl,rfl,hl,h1,h2⟩:=h
  exact ⟨c,d++us,F1,F2++G,aM,aM,hl,h1,cG.append h2 k⟩
def cG.lens{e:Nat}:∀{es:List (List PV)} {vs:List Value} {F:List Nat},cG e es Fz w vs F→∀cs,cs∈es→cs.length=e
 | [],_,_,_=>by simp
 | cs::es,vs,_,h=>by
  obtain ⟨c,d,F1,F2,rfl,_,hl,h1,h2⟩:=h
  intro x hx
  rcases List.mem_cons.1 hx with rfl|hx
  ·rw [←h1.len];exact hl
  ·exact cG.lens h2 x hx
def cG.at_{e:Nat}:∀{es:List (List PV)} {vs:List Value} {F:List Nat},cG e es Fz w vs F→∀{i:Nat} {cs:List PV},es[i]?=some cs →
  ∀(j:Nat) (p:PV),cs[j]?=some p→∃v,vs[i * e+j]?=some v∧p.rel Fz w v
 | [],_,_,_,i,cs,hi=>by simp at hi
 | ds::es,vs,_,h,0,cs,hi=>by
  obtain ⟨c,d,F1,F2,rfl,_,hl,h1,h2⟩:=h
  simp at hi;subst hi
  intro j p hp
  obtain ⟨v,hv,hr⟩:=h1.rel.at_ hp
  refine ⟨v,?_,hr⟩
  rw [Nat.zero_mul,Nat.zero_add,List.getElem?_append_left (List.getElem?_eq_some_iff.1 hv).1];exact hv
 | ds::es,vs,_,h,i+1,cs,hi=>by
  obtain ⟨c,d,F1,F2,rfl,_,hl,h1,h2⟩:=h
  intro j p hp
  obtain ⟨v,hv,hr⟩:=cG.at_ h2 vT j p hp
  refine ⟨v,?_,hr⟩
  rw [Nat.succ_mul,List.getElem?_append_right ab,hl]
  rw [←hv];congr 1;omega
def cG.of_bor{e:Nat}:∀{es:List (List PV)} {vs:List Value},vs.length=es.length * e→(∀cs,cs∈es→cs.length=e) →
  (∀i cs j p v,es[i]?=some cs→cs[j]?=some p→vs[i * e+j]?=some v→p.own Fz w v [])→cG e es Fz w vs []
 | [],vs,hl,_,_=>⟨kC ym,rfl⟩
 | cs::es,vs,hl,hc,h=>by
  have h0:=hc cs aM
  rw [List.length_cons,Nat.succ_mul] at hl
  have key:∀(ps:List PV) (us:List Value),us.length=ps.length→(∀(j:Nat) (p:PV) (v:Value),ps[j]?=some p→us[j]?=some v→p.own Fz w v [])→aP ps Fz w us []:=by
   intro ps
   induction ps with
   | nil=>intro us hu _;exact ⟨kC Bc,rfl⟩
   | cons p ps ih=>
    intro us hu hh
    cases us with
    | nil=>simp at hu
    | cons u us=>exact ⟨u,us,[],[],rfl,rfl,hh 0 p u rfl rfl,ih us Bc fun j q v hq hv=>hh (j+1) q v ph (by simpa using hv)⟩
  refine ⟨vs.take e,vs.drop e,[],[],(ic _ _).symm,rfl,fb,key cs _ fb ?_,cG.of_bor vX (fun c hc'=>hc c (by simp [hc'])) ?_⟩
  ·intro j p v hp hv
   have hj:j < e:=by rw [←h0];exact (List.getElem?_eq_some_iff.1 hp).1
   refine h 0 cs j p v rfl hp ?_
   rw [List.getElem?_take_of_lt hj] at hv
   simpa using hv
  ·intro i ds j p v hi hp hv
   refine h (i+1) ds j p v vT hp ?_
   rw [List.getElem?_drop] at hv
   rw [←hv];congr 1;rw [Nat.succ_mul];omega
end
def qH(es:List (List PV))(Fz:aA)(w:World)(v:Value):Prop:=
 ∃(a:Option Addr) (c e:Nat) (u:Nat→Nat→Value),v = .slice a es.length c∧es.length≤c∧c≤maxLen∧(∀cs,cs∈es→cs.length=e) ∧
  (es=[]∨∃b off,a=some ⟨b,off,none⟩∧∀i j,i < es.length→j < e→Fz b (off+(i * e+j))∧w.cell? ⟨b,off+(i * e+j),none⟩=some (u i j)) ∧
  ∀i cs j (p:PV),es[i]?=some cs→cs[j]?=some p→p.rel Fz w (u i j)
def FC(w:World)(v:Value):Prop:=∀g,v.ownBlock=some g→∀cur t o,w.heap[g]?=some (.cells cur t o)→∀x,x∈cur.toList→x.oneCell'=true
def dR(t e:Nat)(es:List (List PV))(Fz:aA)(w:World)(v:Value)(F:List Nat):Prop:=
 ∃css F',w.ownsRow 0 t e v es.length css∧cG e es Fz w css F'∧(∀g,v.ownBlock=some g→∀o,Fz g o↔o < es.length * e)∧F=v.ownBlock.toList++F'∧FC w v
def qH.mono{es:List (List PV)}{Fz Fz':aA}{w w':World}{v:Value}(h:qH es Fz w v)(k:gX Fz w Fz' w'):qH es Fz' w' v:=by
 obtain ⟨a,c,e,u,rfl,h1,h2,h3,h4,h5⟩:=h
 refine ⟨a,c,e,u,rfl,h1,h2,h3,?_,fun i cs j p hi hj=>p.relMono (h5 i cs j p hi hj) k⟩
 rcases h4 with h4|⟨b,off,ha,h4⟩
 ·exact .inl h4
 ·exact .inr ⟨b,off,ha,fun i j hi hj=>⟨(k _ _ (h4 i j hi hj).1).1,(k _ _ (h4 i j hi hj).1).2.trans (h4 i j hi hj).2⟩⟩
def dR.rel{t e:Nat}{es:List (List PV)}{Fz:aA}{w:World}{v:Value}{F:List Nat}(h:dR t e es Fz w v F):qH es Fz w v:=by
 obtain ⟨css,F',ho,hl,hf,_,_⟩:=h
 have hlen:=hl.len
 have hu:∀i cs j (p:PV),es[i]?=some cs→cs[j]?=some p→p.rel Fz w (css.getD (i * e+j) undef):=by
  intro i cs j p hi hj
  obtain ⟨x,hx,hr⟩:=hl.at_ hi j p hj
  rw [List.getD_eq_getElem?_getD,hx];exact hr
 rcases ho.2 with ⟨rfl,hn⟩|⟨g,cap,cur,rfl,_,hg,hnc,hcm,hcs,htake⟩
 ·have he:es=[]:=kC hn
  subst he
  exact ⟨none,0,e,fun i j=>css.getD (i * e+j) undef,rfl,Nat.le_refl _,Nat.zero_le _,aM,.inl rfl,hu⟩
 ·refine ⟨_,cap,e,fun i j=>css.getD (i * e+j) undef,rfl,hnc,hcm,hl.lens,?_,hu⟩
  by_cases he:es=[]
  ·exact .inl he
  ·refine .inr ⟨g,0,rfl,fun i j hi hj=>?_⟩
   have hlt:i * e+j < es.length * e:=by
    have:(i+1) * e≤es.length * e:=Nat.mul_le_mul_right _ hi
    rw [Nat.succ_mul] at this;omega
   rw [Nat.zero_add]
   refine ⟨(hf g rfl _).2 hlt,?_⟩
   show w.cell? ⟨g,i * e+j,none⟩=some (css.getD (i * e+j) undef)
   rw [cell_of_row w g _ cur t (0,0) hg,List.getD_eq_getElem?_getD,←htake,List.getElem?_take_of_lt hlt]
   have hsz:i * e+j < cur.size:=by rw [hcs];exact Nat.lt_of_lt_of_le hlt (Nat.mul_le_mul_right _ hnc)
   simp [hsz]
def dR.mono{t e:Nat}{es:List (List PV)}{Fz Fz':aA}{w w':World}{v:Value}{F:List Nat}(h:dR t e es Fz w v F)(k:gX Fz w Fz' w')(hh:ll F Fz w Fz' w'):dR t e es Fz' w' v F:=by
 obtain ⟨css,F',ho,hl,hf,rfl,h1⟩:=h
 refine ⟨css,F',⟨ho.1,?_⟩,hl.mono k (hh.sub fun b hb=>by simp [hb]),?_,rfl,?_⟩
 ·rcases ho.2 with hn|⟨g,cap,cur,rfl,hb,hg,rest⟩
  ·exact .inl hn
  ·exact .inr ⟨g,cap,cur,rfl,hb,(hh g yl).1.trans hg,rest⟩
 ·intro g hg o
  refine ⟨fun h=>(hf g hg o).1 ((hh g (by simp [hg])).2 o h),fun h=>(k g o ((hf g hg o).2 h)).1⟩
 ·intro g hg cur t' o hc
  rw [(hh g (by simp [hg])).1] at hc
  exact h1 g hg cur t' o hc
def dR.lt{t e:Nat}{es:List (List PV)}{Fz:aA}{w:World}{v:Value}{F:List Nat}(h:dR t e es Fz w v F):∀b,b∈F→b < w.heap.size:=by
 obtain ⟨css,F',ho,hl,hf,rfl,_⟩:=h
 intro b hb
 rcases List.mem_append.1 hb with hb|hb
 ·cases hv:v.ownBlock with
  | none=>rw [hv] at hb;simp at hb
  | some g=>rw [hv] at hb;simp at hb;subst hb;exact (ho.lt _ hv).2
 ·exact hl.lt b hb
def Lw(n:Nat):Nat→Prop:=fun x=>x < n
def LB:Nat→Prop:=fun _=>False
inductive Fl where
 | v
 | lo (L:Nat→Prop)
 | own (t e:Nat)
def VU:Fl→Nat→Value→Prop
 | .lo L,m,v=>m=0∨∀g,v.ownBlock=some g→L g
 | _,_,_=>True
def PV.sl(o:Fl)(es:List (List PV)):PV where
 rel Fz w v:=qH es Fz w v∧VU o es.length v
 own Fz w v F:=match o with
  | .v=>qH es Fz w v∧F=[]
  | .lo L=>(qH es Fz w v∧VU (.lo L) es.length v)∧F=[]
  | .own t e=>dR t e es Fz w v F
 one h:=by obtain ⟨⟨a,c,e,u,rfl,_⟩,_⟩:=h;rfl
 toRel h:=by
  cases o with
  | v=>exact ⟨h.1,True.intro⟩
  | lo L=>exact h.1
  | own t e=>exact ⟨dR.rel h,True.intro⟩
 relMono h k:=⟨h.1.mono k,h.2⟩
 ownMono h k hh:=by
  cases o with
  | v=>exact ⟨h.1.mono k,h.2⟩
  | lo L=>exact ⟨⟨h.1.1.mono k,h.1.2⟩,h.2⟩
  | own t e=>exact dR.mono h k hh
 lt h:=by
  cases o with
  | v=>rw [h.2];simp
  | lo L=>rw [h.2];simp
  | own t e=>exact dR.lt h
def PV.Bor(p:PV):Prop:=∀{Fz:aA} {w:World} {v:Value},p.rel Fz w v→p.own Fz w v []
def PV.bor_val(x:Value):(PV.val x).Bor:=fun h=>⟨h,rfl⟩
def PV.bor_sl(es:List (List PV)):(PV.sl .v es).Bor:=fun h=>⟨h.1,rfl⟩
def PV.bor_lo(L:Nat→Prop)(es:List (List PV)):(PV.sl (.lo L) es).Bor:=fun h=>⟨h,rfl⟩
def PV.To(p q:PV):Prop:=∀{Fz:aA} {w:World} {v:Value},p.rel Fz w v→q.rel Fz w v
def aJ:List PV→List PV→Prop
 | [],[]=>True
 | p::ps,q::qs=>p.To q∧aJ ps qs
 | _,_=>False
def aF(ps:List PV):Prop:=∀p,p∈ps→p.Bor
def PV.To.refl(p:PV):p.To p:=fun h=>h
def aJ.refl:∀ps:List PV,aJ ps ps
 | []=>True.intro
 | _::ps=>⟨fun h=>h,aJ.refl ps⟩
def aJ.len:∀{ps qs:List PV},aJ ps qs→ps.length=qs.length
 | [],[],_=>rfl
 | _::_,_::_,h=>by simp [aJ.len h.2]
def aJ.rel{Fz:aA}{w:World}:∀{ps qs:List PV} {vs:List Value},aJ ps qs→ci ps Fz w vs→ci qs Fz w vs
 | [],[],_,_,h=>h
 | p::ps,q::qs,_,k,h=>by obtain ⟨v,vs',rfl,h1,h2⟩:=h;exact ⟨v,vs',rfl,k.1 h1,aJ.rel k.2 h2⟩
def aF.own{Fz:aA}{w:World}:∀{ps:List PV} {vs:List Value},aF ps→ci ps Fz w vs→aP ps Fz w vs []
 | [],_,_,h=>⟨h,rfl⟩
 | p::ps,_,k,h=>by
  obtain ⟨v,vs',rfl,h1,h2⟩:=h
  exact ⟨v,vs',[],[],rfl,rfl,k p aM h1,aF.own (fun q hq=>k q (by simp [hq])) h2⟩
def aF.nil:aF []:=fun p hp=>by simp at hp
def aF.cons{p:PV}{ps:List PV}(h:p.Bor)(k:aF ps):aF (p::ps):=fun q hq=>by
 rcases List.mem_cons.1 hq with rfl|hq
 ·exact h
 ·exact k q hq
def PV.to_sl{o:Fl}{es ds:List (List PV)}(hl:es.length=ds.length)(h:∀(i:Nat) (cs cs':List PV),es[i]?=some cs→ds[i]?=some cs'→aJ cs cs'):(PV.sl o es).To (PV.sl .v ds):=by
 intro Fz w v hr
 obtain ⟨⟨a,c,e,u,rfl,h1,h2,h3,h4,h5⟩,_⟩:=hr
 refine ⟨⟨a,c,e,u,by rw [hl],ab,h2,?_,?_,?_⟩,True.intro⟩
 ·intro cs hcs
  obtain ⟨i,hi,rfl⟩:=List.mem_iff_getElem.1 hcs
  have hi':i < es.length:=ab
  have:=h i es[i] ds[i] (List.getElem?_eq_getElem hi') (List.getElem?_eq_getElem hi)
  rw [←this.len];exact h3 _ (List.getElem_mem hi')
 ·rcases h4 with rfl|⟨b,off,ha,h4⟩
  ·exact .inl (kC (by simpa using hl.symm))
  ·exact .inr ⟨b,off,ha,fun i j hi hj=>h4 i j ab hj⟩
 ·intro i cs' j q hi hj
  have hi':i < es.length:=by rw [hl];exact (List.getElem?_eq_some_iff.1 hi).1
  have ht:=h i es[i] cs' (List.getElem?_eq_getElem hi') hi
  have key:∀(ps qs:List PV) (j:Nat),aJ ps qs→qs[j]?=some q→∃p,ps[j]?=some p∧p.To q:=by
   intro ps
   induction ps with
   | nil=>intro qs j ht hq;cases qs<;>simp_all [aJ]
   | cons p ps ih=>
    intro qs j ht hq
    cases qs with
    | nil=>simp at hq
    | cons q' qs=>
     cases j with
     | zero=>simp at hq;subst hq;exact ⟨p,rfl,ht.1⟩
     | succ j=>simp at hq;simpa using ih qs j ht.2 hq
  obtain ⟨p,hp,hto⟩:=key _ _ j ht hj
  exact hto (h5 i es[i] j p (List.getElem?_eq_getElem hi') hp)
def PV.to_map{α:Type}{o:Fl}{xs:List α}{f g:α→List PV}(h:∀x,aJ (f x) (g x)):(PV.sl o (xs.map f)).To (PV.sl .v (xs.map g)):=
 PV.to_sl aM fun i cs cs' hi hi'=>by
  rw [List.getElem?_map] at hi hi'
  cases hx:xs[i]? with
  | none=>rw [hx] at hi;simp at hi
  | some x=>rw [hx] at hi hi';simp at hi hi';subst hi;subst hi';exact h x
end
section
structure RV where
 holds:(Nat→Nat)→aA→World→Value→List Nat→Prop
 men:Nat→Bool
 mono:∀{φ φ':Nat→Nat} {Fz Fz':aA} {w w':World} {v:Value} {F:List Nat},holds φ Fz w v F→gX Fz w Fz' w'→ll F Fz w Fz' w' →
  (∀d,men d=true→φ' d=φ d)→holds φ' Fz' w' v F
 lt:∀{φ:Nat→Nat} {Fz:aA} {w:World} {v:Value} {F:List Nat},holds φ Fz w v F→∀b,b∈F→b < w.heap.size
def qI:Value→Bool
 | .agg _=>true
 | _=>false
def ce(ag:Bool)(cs:List PV)(Fz:aA)(w:World)(v:Value)(F:List Nat):Prop:=qI v=ag∧aP cs Fz w v.cells.toList F
def lm(ag:Bool)(cs:List PV)(Fz:aA)(w:World)(v:Value):Prop:=qI v=ag∧ci cs Fz w v.cells.toList
def RV.sv(ag:Bool)(cs:List PV):RV where
 holds _ Fz w v F:=ce ag cs Fz w v F
 men _:=false
 mono h k hh _:=⟨h.1,h.2.mono k hh⟩
 lt h:=h.2.lt
def eT:List (Bool×List PV)→aA→World→List Value→List Nat→Prop
 | [],_,_,vs,F=>vs=[]∧F=[]
 | p::ps,Fz,w,vs,F=>∃v vs' F1 F2,vs=v::vs'∧F=F1++F2∧ce p.1 p.2 Fz w v F1∧eT ps Fz w vs' F2
def eT.mono{Fz Fz':aA}{w w':World}:∀{l:List (Bool×List PV)} {vs:List Value} {F:List Nat},eT l Fz w vs F→gX Fz w Fz' w'→ll F Fz w Fz' w'→eT l Fz' w' vs F
 | [],_,_,h,_,_=>h
 | p::ps,vs,_,h,k,hh=>by
  obtain ⟨v,vs',F1,F2,rfl,rfl,h1,h2⟩:=h
  exact ⟨v,vs',F1,F2,rfl,rfl,⟨h1.1,h1.2.mono k (hh.sub fun b hb=>by simp [hb])⟩,eT.mono h2 k (hh.sub fun b hb=>by simp [hb])⟩
def eT.lt{Fz:aA}{w:World}:∀{l:List (Bool×List PV)} {vs:List Value} {F:List Nat},eT l Fz w vs F→∀b,b∈F→b < w.heap.size
 | [],_,_,h=>by rw [h.2];simp
 | p::ps,vs,_,h=>by
  obtain ⟨v,vs',F1,F2,rfl,rfl,h1,h2⟩:=h
  intro b hb
  rcases List.mem_append.1 hb with hb|hb
  ·exact h1.2.lt b hb
  ·exact eT.lt h2 b hb
def eT.len{Fz:aA}{w:World}:∀{l:List (Bool×List PV)} {vs:List Value} {F:List Nat},eT l Fz w vs F→vs.length=l.length
 | [],_,_,h=>by rw [h.1];rfl
 | p::ps,vs,_,h=>by obtain ⟨v,vs',F1,F2,rfl,_,_,h2⟩:=h;simp [eT.len h2]
def RV.tup(l:List (Bool×List PV)):RV where
 holds _ Fz w v F:=∃vs,v = .tuple vs∧eT l Fz w vs.toList F
 men _:=false
 mono h k hh _:=by obtain ⟨vs,rfl,h⟩:=h;exact ⟨vs,rfl,h.mono k hh⟩
 lt h:=by obtain ⟨vs,rfl,h⟩:=h;exact h.lt
def RV.ptr(d off:Nat):RV where
 holds φ _ _ v F:=v = .pointer (some ⟨φ d,off,none⟩)∧F=[]
 men x:=Nat.beq x d
 mono h _ _ hφ:=⟨by rw [hφ d aM];exact h.1,h.2⟩
 lt h:=oj
def RV.eptr(cs:List PV):RV where
 holds _ Fz w v F:=(∃b off vs,v = .pointer (some ⟨b,off,none⟩)∧ci cs Fz w vs∧∀(j:Nat) u,vs[j]?=some u→Fz b (off+j)∧w.cell? ⟨b,off+j,none⟩=some u)∧F=[]
 men _:=false
 mono h k _ _:=by
  obtain ⟨⟨b,off,vs,hv,hr,hc⟩,hF⟩:=h
  exact ⟨⟨b,off,vs,hv,hr.mono k,fun j u hu=>⟨(k _ _ (hc j u hu).1).1,(k _ _ (hc j u hu).1).2.trans (hc j u hu).2⟩⟩,hF⟩
 lt h:=oj
structure St where
 s:Nat→Option RV
 b:Nat→Option (Nat×List PV)
def St.set(σ:St)(i:Nat)(r:Option RV):St:=⟨fun x=>bif Nat.beq x i then r else σ.s x,σ.b⟩
def St.setB(σ:St)(d:Nat)(cs:Option (Nat×List PV)):St:=⟨σ.s,fun x=>bif Nat.beq x d then cs else σ.b x⟩
def beq_eq{x y:Nat}:Nat.beq x y=decide (x=y):=by
 rw [Bool.eq_iff_iff];simp [Nat.beq_eq]
def St.set_s(σ:St)(i:Nat)(r:Option RV)(x:Nat):(σ.set i r).s x=if x=i then r else σ.s x:=by
 simp only [St.set,beq_eq]
 by_cases h:x=i<;>simp [h]
def St.setB_b(σ:St)(i:Nat)(r:Option (Nat×List PV))(x:Nat):(σ.setB i r).b x=if x=i then r else σ.b x:=by
 simp only [St.setB,beq_eq]
 by_cases h:x=i<;>simp [h]
def St.set_b(σ:St)(i:Nat)(r:Option RV):(σ.set i r).b=σ.b:=rfl
def St.setB_s(σ:St)(i:Nat)(r:Option (Nat×List PV)):(σ.setB i r).s=σ.s:=rfl
structure ov(h0:Nat→Prop)(w w':World):Prop where
 os:w'.os=w.os
 tape:w'.tape=w.tape
 output:w'.output=w.output
 size:w.heap.size≤w'.heap.size
 block:∀k,h0 k→w'.heap[k]?=w.heap[k]?
def ov.refl(h0:Nat→Prop)(w:World):ov h0 w w:=⟨rfl,rfl,rfl,Nat.le_refl _,fun _ _=>rfl⟩
def ov.trans{h0:Nat→Prop}{a b c:World}(h:ov h0 a b)(k:ov h0 b c):ov h0 a c:=
 ⟨k.os.trans h.os,k.tape.trans h.tape,k.output.trans h.output,Nat.le_trans h.size k.size,fun i hi=>(k.block i hi).trans (h.block i hi)⟩
structure bP(h0:Nat→Prop)(w0:World)(Fz0:aA)(n:Nat)(σ:St)(a:Act)(w:World)(φ:Nat→Nat)(Fz:aA)(Fp:Nat→List Nat):Prop where
 bel:ov h0 w0 w
 dfr:a.defers=[]
 siz:a.tmps.size=n
 hlt:∀b,h0 b→b < w.heap.size
 fz0:∀b o,h0 b→(Fz b o↔Fz0 b o)
 fzl:∀b o,Fz b o→b < w.heap.size
 slot:∀i rv,σ.s i=some rv→rv.holds φ Fz w (a.tmps.getD i undef) (Fp (2 * i+1))
 box:∀d bx,σ.b d=some bx→∃cur,w.heap[φ d]?=some (.cells cur bx.1 (0,0))∧aP bx.2 Fz w cur.toList (Fp (2 * d+2))
 bxb:∀d cs,σ.b d=some cs→¬h0 (φ d)∧(∀o,¬Fz (φ d) o)∧∀r,φ d∉Fp r
 inj:∀d d' cs cs',σ.b d=some cs→σ.b d'=some cs'→φ d=φ d'→d=d'
 dis:∀r r',r≠r'→∀b,b∈Fp r→b∉Fp r'
 nod:∀r,(Fp r).Nodup
 low:∀r b,b∈Fp r→¬h0 b∧b < w.heap.size
def bC(h0:Nat→Prop)(w0:World)(Fz0:aA)(n:Nat)(σ:St)(a:Act)(w:World):Prop:=∃φ Fz Fp,bP h0 w0 Fz0 n σ a w φ Fz Fp
section
variable{h0:Nat→Prop}{n:Nat}{w0 w w':World}{Fz0 Fz Fz':aA}{σ:St}{a:Act}{φ:Nat→Nat}{Fp:Nat→List Nat}
def mv(Fp:Nat→List Nat)(r:Nat):Nat→List Nat:=fun x=>if x=0 then Fp r++Fp 0 else if x=r then [] else Fp x
def qJ{r x b:Nat}(h:b∈mv Fp r x):(x=0∧(b∈Fp r∨b∈Fp 0))∨(x≠r∧b∈Fp x):=by
 unfold mv at h
 split at h
 ·rename_i hx;exact .inl ⟨hx,List.mem_append.1 h⟩
 ·split at h
  ·simp at h
  ·rename_i hx;exact .inr ⟨hx,h⟩
def VV{r:Nat}(hr:r≠0)(dis:∀r r',r≠r'→∀b,b∈Fp r→b∉Fp r'):∀x y,x≠y→∀b,b∈mv Fp r x→b∉mv Fp r y:=by
 intro x y hxy b hb hb'
 rcases qJ hb with ⟨hx,k⟩|⟨hx,k⟩<;>rcases qJ hb' with ⟨hy,k'⟩|⟨hy,k'⟩
 ·omega
 ·subst hx
  rcases k with k|k
  ·exact dis _ _ (fun e=>hy e.symm) b k k'
  ·exact dis _ _ hxy b k k'
 ·subst hy
  rcases k' with k'|k'
  ·exact dis _ _ hx b k k'
  ·exact dis _ _ hxy b k k'
 ·exact dis _ _ hxy b k k'
def VW{r:Nat}(hr:r≠0)(dis:∀r r',r≠r'→∀b,b∈Fp r→b∉Fp r')(nod:∀r,(Fp r).Nodup):∀x,(mv Fp r x).Nodup:=by
 intro x
 unfold mv
 split
 ·rw [df]
  exact ⟨nod _,nod _,fun u hu v hv e=>dis _ _ hr u hu (e▸hv)⟩
 ·split
  ·exact List.nodup_nil
  ·exact nod x
def bP.pull(h:bP h0 w0 Fz0 n σ a w φ Fz Fp)(i:Nat):bP h0 w0 Fz0 n (σ.set i none) a w φ Fz (mv Fp (2 * i+1)) where
 bel:=h.bel
 dfr:=h.dfr
 siz:=h.siz
 hlt:=h.hlt
 fz0:=h.fz0
 fzl:=h.fzl
 slot j rv hj:=by
  rw [St.set_s] at hj
  split at hj
  ·cases hj
  ·rename_i hne
   have:=h.slot j rv hj
   unfold mv
   rw [if_neg ab,if_neg ab];exact this
 box d cs hd:=by
  obtain ⟨cur,h1,h2⟩:=h.box d cs hd
  refine ⟨cur,h1,?_⟩
  unfold mv
  rw [if_neg ab,if_neg ab];exact h2
 bxb d cs hd:=by
  obtain ⟨h1,h2,h3⟩:=h.bxb d cs hd
  refine ⟨h1,h2,fun r hr=>?_⟩
  rcases qJ hr with ⟨_,hr|hr⟩|⟨_,hr⟩<;>exact h3 _ hr
 inj d d' cs cs':=h.inj d d' cs cs'
 dis:=VV ab h.dis
 nod:=VW ab h.dis h.nod
 low r b hb:=by rcases qJ hb with ⟨_,hr|hr⟩|⟨_,hr⟩<;>exact h.low _ _ hr
def dz(Fp:Nat→List Nat)(r:Nat)(F X:List Nat):Nat→List Nat:=fun x=>if x=r then F else if x=0 then X else Fp x
def pj{r x b:Nat}{F X:List Nat}(h:b∈dz Fp r F X x):(x=r∧b∈F)∨(x≠r∧x=0∧b∈X)∨(x≠r∧x≠0∧b∈Fp x):=by
 unfold dz at h
 split at h
 ·rename_i hx;exact .inl ⟨hx,h⟩
 ·split at h
  ·rename_i h1 h2;exact .inr (.inl ⟨h1,h2,h⟩)
  ·rename_i h1 h2;exact .inr (.inr ⟨h1,h2,h⟩)
def FD{r:Nat}(hr:r≠0){F X:List Nat}(hX:∀b,b∈F++X→b∈Fp 0)(hn:(F++X).Nodup)(dis:∀r r',r≠r'→∀b,b∈Fp r→b∉Fp r') :
  ∀x y,x≠y→∀b,b∈dz Fp r F X x→b∉dz Fp r F X y:=by
 intro x y hxy b hb hb'
 rw [df] at hn
 rcases pj hb with ⟨e1,hb⟩|⟨e1,e2,hb⟩|⟨e1,e2,hb⟩<;>rcases pj hb' with ⟨f1,hb'⟩|⟨f1,f2,hb'⟩|⟨f1,f2,hb'⟩
 ·omega
 ·exact hn.2.2 b hb b hb' rfl
 ·exact dis 0 y ab b (hX b vZ) hb'
 ·exact hn.2.2 b hb' b hb rfl
 ·omega
 ·exact dis 0 y ab b (hX b vZ) hb'
 ·exact dis x 0 ab b hb (hX b (by simp [hb']))
 ·exact dis x 0 ab b hb (hX b (by simp [hb']))
 ·exact dis x y hxy b hb hb'
def FE{r:Nat}{F X:List Nat}(hn:(F++X).Nodup)(nod:∀r,(Fp r).Nodup):∀x,(dz Fp r F X x).Nodup:=by
 intro x
 rw [df] at hn
 unfold dz
 split
 ·exact hn.1
 ·split
  ·exact hn.2.1
  ·exact nod x
def alH(t:Array Value)(i j:Nat)(v:Value)(hi:i < t.size):(t.setIfInBounds i v).getD j undef=if j=i then v else t.getD j undef:=by
 by_cases h:j=i
 ·subst h;simp [hi]
 ·rw [if_neg h]
  rw [Array.getD_eq_getD_getElem?,Array.getD_eq_getD_getElem?,Array.getElem?_setIfInBounds_ne ab]
def bP.push(h:bP h0 w0 Fz0 n σ a w φ Fz Fp){i:Nat}{rv:RV}{v:Value}{F X:List Nat}(hi:i < n)(hv:rv.holds φ Fz w v F)(hX:∀b,b∈F++X→b∈Fp 0)(hn:(F++X).Nodup) :
  bP h0 w0 Fz0 n (σ.set i (some rv)) (a.put (some i) v) w φ Fz (dz Fp (2 * i+1) F X) where
 bel:=h.bel
 dfr:=h.dfr
 siz:=by simp [Act.put,h.siz]
 hlt:=h.hlt
 fz0:=h.fz0
 fzl:=h.fzl
 slot j rv' hj:=by
  rw [St.set_s] at hj
  show rv'.holds φ Fz w ((a.tmps.setIfInBounds i v).getD j undef) _
  rw [alH _ _ _ _ (by rw [h.siz];exact hi)]
  split at hj
  ·rename_i hji
   subst hji
   injection hj with hj
   subst hj
   rw [if_pos rfl]
   unfold dz
   rw [if_pos rfl];exact hv
  ·rename_i hne
   rw [if_neg hne]
   unfold dz
   rw [if_neg ab,if_neg ab]
   exact h.slot j rv' hj
 box d cs hd:=by
  obtain ⟨cur,h1,h2⟩:=h.box d cs hd
  refine ⟨cur,h1,?_⟩
  unfold dz
  rw [if_neg ab,if_neg ab];exact h2
 bxb d cs hd:=by
  obtain ⟨h1,h2,h3⟩:=h.bxb d cs hd
  refine ⟨h1,h2,fun r hr=>?_⟩
  rcases pj hr with ⟨_,hr⟩|⟨_,_,hr⟩|⟨_,_,hr⟩
  ·exact h3 0 (hX _ om)
  ·exact h3 0 (hX _ om)
  ·exact h3 _ hr
 inj d d' cs cs':=h.inj d d' cs cs'
 dis:=FD ab hX hn h.dis
 nod:=FE hn h.nod
 low r b hb:=by
  rcases pj hb with ⟨_,hr⟩|⟨_,_,hr⟩|⟨_,_,hr⟩
  ·exact h.low 0 b (hX _ om)
  ·exact h.low 0 b (hX _ om)
  ·exact h.low _ b hr
def bP.wipe(h:bP h0 w0 Fz0 n σ a w φ Fz Fp)(i:Nat)(v:Value):bP h0 w0 Fz0 n (σ.set i none) (a.put (some i) v) w φ Fz (mv Fp (2 * i+1)):=
 let k:=h.pull i
 { k with
  siz:=by simp [Act.put,h.siz]
  slot:=fun j rv hj=>by
   have hj':=hj
   rw [St.set_s] at hj
   split at hj
   ·cases hj
   ·rename_i hne
    have:=k.slot j rv hj'
    show rv.holds φ Fz w ((a.tmps.setIfInBounds i v).getD j undef) _
    have e:(a.tmps.setIfInBounds i v).getD j undef=a.tmps.getD j undef:=by
     rw [Array.getD_eq_getD_getElem?,Array.getD_eq_getD_getElem?,Array.getElem?_setIfInBounds_ne ab]
    rw [e];exact this }
def bP.world(h:bP h0 w0 Fz0 n σ a w φ Fz Fp)(hos:w'.os=w.os)(htape:w'.tape=w.tape)(hout:w'.output=w.output)(hsz:w.heap.size≤w'.heap.size)
  (hb:∀b,b < w.heap.size→b∉Fp 0→w'.heap[b]?=w.heap[b]?∧∀o,Fz' b o→Fz b o) (hk:gX Fz w Fz' w') (hl:∀b o,Fz' b o→b < w'.heap.size)
  {X:List Nat} (hX:∀b,b∈X→b∈Fp 0∨(w.heap.size≤b∧b < w'.heap.size)) (hn:X.Nodup) :
  bP h0 w0 Fz0 n σ a w' φ Fz' (fun x=>if x=0 then X else Fp x):=by
 have key:∀r,r≠0→ll (Fp r) Fz w Fz' w':=fun r hr b hbr=>hb b (h.low r b hbr).2 (h.dis r 0 hr b hbr)
 have hmem:∀x b,b∈(if x=0 then X else Fp x)→(x=0∧b∈X)∨(x≠0∧b∈Fp x):=by
  intro x b hb
  split at hb
  ·rename_i hx;exact .inl ⟨hx,hb⟩
  ·rename_i hx;exact .inr ⟨hx,hb⟩
 refine ⟨h.bel.trans ⟨hos,htape,hout,hsz,fun k hk'=>(hb k (h.hlt k hk') fun hm=>(h.low 0 k hm).1 hk').1⟩,h.dfr,h.siz,fun b hb'=>Nat.lt_of_lt_of_le (h.hlt b hb') hsz,?_,hl,?_,?_,?_,h.inj,?_,?_,?_⟩
 ·intro b o hbl
  rw [←h.fz0 b o hbl]
  exact ⟨fun hh=>(hb b (h.hlt b hbl) fun hm=>(h.low 0 b hm).1 hbl).2 o hh,fun hh=>(hk b o hh).1⟩
 ·intro i rv hi
  rw [if_neg ab]
  exact rv.mono (h.slot i rv hi) hk (key _ ab) fun _ _=>rfl
 ·intro d cs hd
  obtain ⟨cur,h1,h2⟩:=h.box d cs hd
  obtain ⟨k1,k2,k3⟩:=h.bxb d cs hd
  have hlt:φ d < w.heap.size:=(Array.getElem?_eq_some_iff.1 h1).1
  rw [if_neg ab]
  exact ⟨cur,(hb _ hlt (k3 0)).1.trans h1,h2.mono hk (key _ ab)⟩
 ·intro d cs hd
  obtain ⟨cur,h1,h2⟩:=h.box d cs hd
  obtain ⟨k1,k2,k3⟩:=h.bxb d cs hd
  have hlt:φ d < w.heap.size:=(Array.getElem?_eq_some_iff.1 h1).1
  refine ⟨k1,fun o ho=>k2 o ((hb _ hlt (k3 0)).2 o ho),fun r hr=>?_⟩
  rcases hmem _ _ hr with ⟨rfl,hr⟩|⟨_,hr⟩
  ·rcases hX _ hr with hr|hr
   ·exact k3 0 hr
   ·omega
  ·exact k3 r hr
 ·intro r r' hne b hr hr'
  rcases hmem _ _ hr with ⟨rfl,hr⟩|⟨e1,hr⟩<;>rcases hmem _ _ hr' with ⟨rfl,hr'⟩|⟨e2,hr'⟩
  ·exact hne rfl
  ·rcases hX _ hr with hr|hr
   ·exact h.dis 0 r' hne b hr hr'
   ·have:=(h.low r' b hr').2;omega
  ·rcases hX _ hr' with hr'|hr'
   ·exact h.dis r 0 hne b hr hr'
   ·have:=(h.low r b hr).2;omega
  ·exact h.dis r r' hne b hr hr'
 ·intro r
  split
  ·exact hn
  ·exact h.nod r
 ·intro r b hr
  rcases hmem _ _ hr with ⟨rfl,hr⟩|⟨e1,hr⟩
  ·rcases hX _ hr with hr|hr
   ·exact ⟨(h.low 0 b hr).1,by have:=(h.low 0 b hr).2;omega⟩
   ·exact ⟨fun hh=>by have:=h.hlt b hh;omega,hr.2⟩
  ·exact ⟨(h.low r b hr).1,by have:=(h.low r b hr).2;omega⟩
def bP.pullB(h:bP h0 w0 Fz0 n σ a w φ Fz Fp){d:Nat}{cs:Nat×List PV}(hd:σ.b d=some cs) :
  bP h0 w0 Fz0 n (σ.setB d none) a w φ Fz (fun x=>if x=0 then φ d::mv Fp (2 * d+2) 0 else mv Fp (2 * d+2) x):=by
 obtain ⟨cur,h1,h2⟩:=h.box d cs hd
 obtain ⟨k1,k2,k3⟩:=h.bxb d cs hd
 have hlt:φ d < w.heap.size:=(Array.getElem?_eq_some_iff.1 h1).1
 have km:∀r,φ d∉mv Fp (2 * d+2) r:=by
  intro r hr
  rcases qJ hr with ⟨_,hr|hr⟩|⟨_,hr⟩<;>exact k3 _ hr
 have hmem:∀x b,b∈(if x=0 then φ d::mv Fp (2 * d+2) 0 else mv Fp (2 * d+2) x)→(x=0∧b=φ d)∨b∈mv Fp (2 * d+2) x:=by
  intro x b hb
  split at hb
  ·rename_i hx
   subst hx
   rcases List.mem_cons.1 hb with hb|hb
   ·exact .inl ⟨rfl,hb⟩
   ·exact .inr hb
  ·exact .inr hb
 refine ⟨h.bel,h.dfr,h.siz,h.hlt,h.fz0,h.fzl,?_,?_,?_,?_,?_,?_,?_⟩
 ·intro i rv hi
  rw [if_neg ab]
  unfold mv
  rw [if_neg ab,if_neg ab]
  exact h.slot i rv hi
 ·intro e cs' he
  rw [St.setB_b] at he
  split at he
  ·cases he
  ·rename_i hne
   obtain ⟨cur,h1,h2⟩:=h.box e cs' he
   refine ⟨cur,h1,?_⟩
   rw [if_neg ab]
   unfold mv
   rw [if_neg ab,if_neg ab];exact h2
 ·intro e cs' he
  rw [St.setB_b] at he
  split at he
  ·cases he
  ·rename_i hne
   obtain ⟨h1,h2,h3⟩:=h.bxb e cs' he
   refine ⟨h1,h2,fun r hr=>?_⟩
   rcases hmem _ _ hr with ⟨_,hr⟩|hr
   ·exact hne (h.inj e d cs' cs he hd hr)
   ·rcases qJ hr with ⟨_,hr|hr⟩|⟨_,hr⟩<;>exact h3 _ hr
 ·intro e e' cs1 cs2 h1 h2
  rw [St.setB_b] at h1 h2
  split at h1
  ·cases h1
  ·split at h2
   ·cases h2
   ·exact h.inj e e' cs1 cs2 h1 h2
 ·intro x y hxy b hb hb'
  rcases hmem _ _ hb with ⟨e1,hb⟩|hb<;>rcases hmem _ _ hb' with ⟨e2,hb'⟩|hb'
  ·omega
  ·subst hb;exact km _ hb'
  ·subst hb';exact km _ hb
  ·exact VV ab h.dis x y hxy b hb hb'
 ·intro x
  have hnd:=VW (r:=2 * d+2) ab h.dis h.nod
  split
  ·exact List.nodup_cons.2 ⟨km 0,hnd 0⟩
  ·exact hnd x
 ·intro x b hb
  rcases hmem _ _ hb with ⟨_,rfl⟩|hb
  ·exact ⟨k1,hlt⟩
  ·rcases qJ hb with ⟨_,hr|hr⟩|⟨_,hr⟩<;>exact h.low _ _ hr
def bP.pushB(h:bP h0 w0 Fz0 n σ a w φ Fz Fp){d g t:Nat}{cs:List PV}{cur:Array Value}{F X:List Nat}(hd:σ.b d=none)
  (hg:w.heap[g]?=some (.cells cur t (0,0))) (ho:aP cs Fz w cur.toList F) (hf:∀o,¬Fz g o) (hX:∀b,b∈F++g::X→b∈Fp 0) (hn:(F++g::X).Nodup)
  (hm:φ d=g∨∀i rv,σ.s i=some rv→rv.men d=false) :
  bP h0 w0 Fz0 n (σ.setB d (some (t,cs))) a w (fun x=>if x=d then g else φ x) Fz (dz Fp (2 * d+2) F X):=by
 have hg0:g∈Fp 0:=hX g aM
 have hn':(F++X).Nodup:=by
  rw [df] at hn ⊢
  exact ⟨hn.1,(List.nodup_cons.1 hn.2.1).2,fun u hu v hv=>hn.2.2 u hu v (by simp [hv])⟩
 have hX':∀b,b∈F++X→b∈Fp 0:=fun b hb=>hX b (by
  rcases List.mem_append.1 hb with hb|hb<;>simp [hb])
 have hgn:∀r,g∉dz Fp (2 * d+2) F X r:=by
  intro r hr
  rw [df] at hn
  rcases pj hr with ⟨_,hr⟩|⟨_,_,hr⟩|⟨_,e2,hr⟩
  ·exact hn.2.2 g hr g aM rfl
  ·exact (List.nodup_cons.1 hn.2.1).1 hr
  ·exact h.dis 0 r ab g hg0 hr
 refine ⟨h.bel,h.dfr,h.siz,h.hlt,h.fz0,h.fzl,?_,?_,?_,?_,FD ab hX' hn' h.dis,FE hn' h.nod,?_⟩
 ·intro i rv hi
  have hi':σ.s i=some rv:=hi
  unfold dz
  rw [if_neg ab,if_neg ab]
  refine rv.mono (h.slot i rv hi') (gX.refl _ _) (ll.refl _ _ _) fun e he=>?_
  by_cases hed:e=d
  ·subst hed
   rw [if_pos rfl]
   rcases hm with hm|hm
   ·exact hm.symm
   ·rw [hm i rv hi'] at he;cases he
  ·rw [if_neg hed]
 ·intro e cs' he
  rw [St.setB_b] at he
  split at he
  ·rename_i hed
   subst hed
   injection he with he;subst he
   rw [if_pos rfl]
   unfold dz
   rw [if_pos rfl]
   exact ⟨cur,hg,ho⟩
  ·rename_i hed
   rw [if_neg hed]
   unfold dz
   rw [if_neg ab,if_neg ab]
   exact h.box e cs' he
 ·intro e cs' he
  rw [St.setB_b] at he
  split at he
  ·rename_i hed
   subst hed
   rw [if_pos rfl]
   exact ⟨(h.low 0 g hg0).1,hf,hgn⟩
  ·rename_i hed
   rw [if_neg hed]
   obtain ⟨h1,h2,h3⟩:=h.bxb e cs' he
   refine ⟨h1,h2,fun r hr=>?_⟩
   rcases pj hr with ⟨_,hr⟩|⟨_,_,hr⟩|⟨_,_,hr⟩
   ·exact h3 0 (hX' _ om)
   ·exact h3 0 (hX' _ om)
   ·exact h3 _ hr
 ·intro e e' cs1 cs2 h1 h2 hee
  rw [St.setB_b] at h1 h2
  by_cases he:e=d<;>by_cases he':e'=d
  ·omega
  ·rw [if_pos he,if_neg he'] at hee
   rw [if_neg he'] at h2
   exact absurd (hee▸hg0) ((h.bxb e' cs2 h2).2.2 0)
  ·rw [if_neg he,if_pos he'] at hee
   rw [if_neg he] at h1
   exact absurd (hee▸hg0) ((h.bxb e cs1 h1).2.2 0)
  ·rw [if_neg he,if_neg he'] at hee
   rw [if_neg he] at h1
   rw [if_neg he'] at h2
   exact h.inj e e' cs1 cs2 h1 h2 hee
 ·intro r b hb
  rcases pj hb with ⟨_,hr⟩|⟨_,_,hr⟩|⟨_,_,hr⟩
  ·exact h.low 0 b (hX' _ om)
  ·exact h.low 0 b (hX' _ om)
  ·exact h.low _ b hr
def bP.less{τ:St}(h:bP h0 w0 Fz0 n σ a w φ Fz Fp)(hs:∀i rv,τ.s i=some rv→σ.s i=some rv)(hb:∀d cs,τ.b d=some cs→σ.b d=some cs):bP h0 w0 Fz0 n τ a w φ Fz Fp:=
 { h with
  slot:=fun i rv hi=>h.slot i rv (hs i rv hi)
  box:=fun d cs hd=>h.box d cs (hb d cs hd)
  bxb:=fun d cs hd=>h.bxb d cs (hb d cs hd)
  inj:=fun d d' cs cs' h1 h2=>h.inj d d' cs cs' (hb d cs h1) (hb d' cs' h2) }
def bC.less{τ:St}(h:bC h0 w0 Fz0 n σ a w)(hs:∀i rv,τ.s i=some rv→σ.s i=some rv)(hb:∀d cs,τ.b d=some cs→σ.b d=some cs):bC h0 w0 Fz0 n τ a w:=by
 obtain ⟨φ,Fz,Fp,h⟩:=h
 exact ⟨φ,Fz,Fp,h.less hs hb⟩
def bC.drew(h:bC h0 w0 Fz0 n σ a w):bC h0 w0 Fz0 n σ a { w with drawn:=w.drawn+1 }:=by
 obtain ⟨φ,Fz,Fp,h⟩:=h
 exact ⟨φ,Fz,_,h.world (w':={ w with drawn:=w.drawn+1 }) rfl rfl rfl (Nat.le_refl _) (fun b _ _=>⟨rfl,fun _ h=>h⟩) (fun _ _ h=>⟨h,rfl⟩) h.fzl (X:=Fp 0) (fun b hb=>.inl hb) (h.nod 0)⟩
end
end
section
structure aN where
 rs:List (Nat×RV)
 rb:List (Nat×(Nat×List PV))
 ws:List (Nat×Option RV)
 wb:List (Nat×Option (Nat×List PV))
 al:Option Nat
section
variable{β γ:Type}
def bZ:List (Nat×β)→(Nat→β)→Nat→β
 | [],f=>f
 | (k,v)::l,f=>bZ l (fun y=>bif Nat.beq y k then v else f y)
def bl:List (Nat×β)→(Nat→Option β)→Prop
 | [],_=>True
 | (k,v)::l,f=>f k=some v∧bl l f
def dm(l:List (Nat×β))(x:Nat):Bool:=l.any fun p=>Nat.beq p.1 x
def iI(l:List (Nat×β))(m:List (Nat×γ)):Bool:=l.any fun p=>dm m p.1
def Bj(p:Nat×β)(l:List (Nat×β))(x:Nat):dm (p::l) x=(Nat.beq p.1 x||dm l x):=rfl
def sx:∀{l:List (Nat×β)} {f:Nat→β} {x:Nat},dm l x=false→bZ l f x=f x
 | [],_,_,_=>rfl
 | (k,v)::l,f,x,h=>by
  rw [Bj,Bool.or_eq_false_iff,beq_eq,decide_eq_false_iff_not] at h
  have e:=sx (l:=l) (f:=fun y=>bif Nat.beq y k then v else f y) h.2
  rw [bZ,e]
  simp only [beq_eq]
  rw [decide_eq_false (fun e=>h.1 e.symm)];rfl
def Bk:∀{l:List (Nat×β)} {f g:Nat→β} {x:Nat},(dm l x=true∨f x=g x)→bZ l f x=bZ l g x
 | [],f,g,x,h=>by
  rcases h with h|h
  ·cases h
  ·exact h
 | (k,v)::l,f,g,x,h=>by
  rw [bZ,bZ]
  apply Bk
  by_cases hp:x=k
  ·right;simp [hp]
  ·rcases h with h|h
   ·rw [Bj,beq_eq,decide_eq_false (fun e=>hp e.symm),Bool.false_or] at h
    exact .inl h
   ·right;simp only [beq_eq,decide_eq_false hp];exact h
def bl.mem:∀{l:List (Nat×β)} {f:Nat→Option β},bl l f→∀p,p∈l→f p.1=some p.2
 | [],_,_,p,hp=>by simp at hp
 | (k,v)::l,f,h,p,hp=>by
  rcases List.mem_cons.1 hp with rfl|hp
  ·exact h.1
  ·exact bl.mem h.2 p hp
def bl.of_mem:∀{l:List (Nat×β)} {f:Nat→Option β},(∀p,p∈l→f p.1=some p.2)→bl l f
 | [],_,_=>True.intro
 | (k,v)::l,f,h=>⟨h (k,v) aM,bl.of_mem fun p hp=>h p Bg⟩
def LC{l:List (Nat×β)}{p:Nat×β}(h:p∈l):dm l p.1=true:=by
 unfold dm;rw [List.any_eq_true];exact ⟨p,h,aM⟩
def FF{l:List (Nat×β)}{m:List (Nat×γ)}(h:iI l m=false)(x:Nat)(h1:dm l x=true):dm m x=false:=by
 unfold iI at h
 unfold dm at h1
 rw [List.any_eq_true] at h1
 obtain ⟨p,hp,hx⟩:=h1
 rw [beq_eq,decide_eq_true_iff] at hx
 subst hx
 rw [List.any_eq_false] at h
 simpa using h p hp
def lk:List (Nat×β)→Nat→Option β
 | [],_=>none
 | (k,v)::l,x=>bif Nat.beq x k then some v else lk l x
def kF:∀{l:List (Nat×β)} {x:Nat} {v:β},lk l x=some v→(x,v)∈l
 | [],_,_,h=>by cases h
 | (k,u)::l,x,v,h=>by
  rw [lk,beq_eq] at h
  by_cases hx:x=k
  ·rw [decide_eq_true hx] at h
   simp only [cond_true,Option.some.injEq] at h
   subst hx;subst h;simp
  ·rw [decide_eq_false hx] at h
   exact List.mem_cons_of_mem _ (kF h)
end
def St.of(l:List (Nat×RV))(b:List (Nat×(Nat×List PV))):St:=⟨lk l,lk b⟩
def St.app(σ:St)(L:aN):St:=⟨bZ L.ws σ.s,bZ L.wb σ.b⟩
def cV(d:Nat)(σ:St):Prop:=∀i rv,σ.s i=some rv→rv.men d=false
def cV.of_{d:Nat}{l:List (Nat×RV)}{b:List (Nat×(Nat×List PV))}(h:(l.all fun p=>!p.2.men d)=true):cV d (St.of l b):=fun i rv hi=>by
 have:=List.all_eq_true.1 h _ (kF hi)
 simpa using this
def cV.app{d:Nat}{σ:St}{L:aN}(h:cV d σ)(hL:(L.ws.all fun p=>match p.2 with|none=>true|some rv=>!rv.men d)=true):cV d (σ.app L):=by
 intro i rv hi
 have key:∀(l:List (Nat×Option RV)) (f:Nat→Option RV),(∀i rv,f i=some rv→rv.men d=false)→(l.all fun p=>match p.2 with|none=>true|some rv=>!rv.men d)=true →
   ∀i rv,bZ l f i=some rv→rv.men d=false:=by
  intro l
  induction l with
  | nil=>intro f hf _ i rv hi;exact hf i rv hi
  | cons p l ih=>
   intro f hf hl i rv hi
   rw [List.all_cons,aX] at hl
   refine ih _ ?_ hl.2 i rv hi
   intro j rv' hj
   rw [beq_eq] at hj
   by_cases hjp:j=p.1
   ·rw [decide_eq_true hjp] at hj
    simp only [cond_true] at hj
    have:=hl.1
    rw [hj] at this
    simpa using this
   ·rw [decide_eq_false hjp] at hj
    exact hf j rv' hj
 exact key _ _ h hL i rv hi
def cc(P:Program)(n:Nat)(ops:Array Oper)(o:Oper)(L:aN):Prop:=
 ∀{h0:Nat→Prop} {w0:World} {Fz0:aA} {σ:St} {a:Act} {w:World} {K:Act→World→Prop} {Q:Exit→Act→World→Prop},bC h0 w0 Fz0 n σ a w→bl L.rs σ.s→bl L.rb σ.b →
  (∀d,L.al=some d→cV d σ)→(∀a' w',bC h0 w0 Fz0 n (σ.app L) a' w'→K a' w')→if Region.wanted o (yielded ops a.tmps)=true then o.wp P a w K Q else K (a.put o.dst undef) w
def LD(d:Nat)(ws:List (Nat×Option RV)):Bool:=ws.all fun p=>match p.2 with|none=>true|some rv=>!rv.men d
def iq(x y:aN):Bool:=match y.al with|none=>true|some d=>LD d x.ws
def iW(x y:aN):Bool:=
 !iI x.ws y.rs&&!iI y.ws x.rs&&!iI x.ws y.ws&&(!iI x.wb y.rb&&!iI y.wb x.rb&&!iI x.wb y.wb)&&iq y x
def FG(m:Nat)(L:aN):List (Nat×aN)→Nat→Bool
 | [],_=>true
 | p::l,j=>(iq p.2 L&&(m.testBit j||iW p.2 L))&&FG m L l (j+1)
def ew:List Edge→List (Nat×aN)→Nat
 | [],_=>0
 | e::l,acc=>bif Region.binds .any e then (ew l acc ||| 2 ^ e.on) ||| ((acc[e.on]?).map (·.1)).getD 0 else ew l acc
def Bm(l:List Edge)(n:Nat):Bool:=l.all fun e=>!Region.binds .any e||Nat.blt e.on n
def qK(m:Nat)(o:Oper)(L:aN)(acc:List (Nat×aN)):Bool:=Bm o.after.toList acc.length&&(Nat.beq m (ew o.after.toList acc)&&FG m L acc 0)
def au(P:Program)(n:Nat)(ops:Array Oper)(Q:St→Prop):List Oper→St→Prop
 | [],σ=>Q σ
 | o::l,σ=>∃L:aN,cc P n ops o L∧bl L.rs σ.s∧bl L.rb σ.b∧(∀d,L.al=some d→cV d σ)∧au P n ops Q l (σ.app L)
def bO(P:Program)(n:Nat)(ops:Array Oper)(σ0:St)(C:Nat→aN→Prop)(Q:St→Prop):List Oper→List (Nat×aN)→St→Prop
 | [],_,σ=>Q σ
 | o::l,acc,σ=>∃(m:Nat) (L:aN),cc P n ops o L∧bl L.rs σ.s∧bl L.rb σ.b∧(∀d,L.al=some d→cV d σ0)∧qK m o L acc=true∧C acc.length L∧bO P n ops σ0 C Q l (acc++[(m,L)]) (σ.app L)
section
variable{P:Program}{n:Nat}{ops:Array Oper}{h0:Nat→Prop}{w0:World}{Fz0:aA}
def alI{QS:St→Prop}{Q:Exit→Act→World→Prop}(hQ:∀σ a w,QS σ→bC h0 w0 Fz0 n σ a w→Q .normal a w):∀(l:List Oper) (σ:St) (a:Act) (w:World),
  au P n ops QS l σ→bC h0 w0 Fz0 n σ a w→wpList P ops Q l a w:=by
 intro l
 induction l with
 | nil=>intro σ a w h hc;exact hQ σ a w h hc
 | cons o l ih=>
  intro σ a w h hc
  obtain ⟨L,hL,h1,h2,h3,h5⟩:=h
  have k:=hL (K:=wpList P ops Q l) (Q:=Q) hc h1 h2 h3 (fun a' w' hc'=>ih _ a' w' h5 hc')
  unfold wpList
  split
  ·rename_i hw;rw [if_pos hw] at k;exact .inl k
  ·rename_i hw;rw [if_neg hw] at k;exact k
section
variable{β:Type}
def lw(pr:aN→List (Nat×β))(S:Nat→Bool):List (Nat×aN)→Nat→(Nat→β)→Nat→β
 | [],_,f=>f
 | p::A,i,f=>lw pr S A (i+1) (bif S i then bZ (pr p.2) f else f)
def FH(pr:aN→List (Nat×β)){S S':Nat→Bool}{x:Nat}:∀(A:List (Nat×aN)) (k:Nat) (f g:Nat→β),
  (∀i p,A[i]?=some p→dm (pr p.2) x=true→S (k+i)=S' (k+i))→f x=g x→lw pr S A k f x=lw pr S' A k g x:=by
 intro A
 induction A with
 | nil=>intro k f g _ h;exact h
 | cons p A ih=>
  intro k f g h hf
  rw [lw,lw]
  refine ih (k+1) _ _ (fun i q hq hx=>by have:=h (i+1) q ph hx;rw [show k+1+i=k+(i+1) by omega];exact this) ?_
  by_cases hx:dm (pr p.2) x=true
  ·have:=h 0 p rfl hx
   rw [Nat.add_zero] at this
   rw [←this]
   cases S k
   ·exact hf
   ·exact Bk (.inl hx)
  ·have hx':dm (pr p.2) x=false:=by simpa using hx
   have e1:∀(b:Bool) (f:Nat→β),(bif b then bZ (pr p.2) f else f) x=f x:=by
    intro b f
    cases b
    ·rfl
    ·exact sx hx'
   rw [e1,e1];exact hf
def alJ(pr:aN→List (Nat×β)){S:Nat→Bool}{x:Nat}:∀(A:List (Nat×aN)) (k i:Nat) (p:Nat×aN) (f g:Nat→β),A[i]?=some p→S (k+i)=true→dm (pr p.2) x=true →
  (∀j q,i < j→A[j]?=some q→dm (pr q.2) x=true→S (k+j)=false)→lw pr S A k f x=bZ (pr p.2) g x:=by
 intro A
 induction A with
 | nil=>intro k i p f g hi;simp at hi
 | cons q A ih=>
  intro k i p f g hi hS hx hl
  rw [lw]
  cases i with
  | zero=>
   simp only [List.getElem?_cons_zero,Option.some.injEq] at hi
   subst hi
   rw [Nat.add_zero] at hS
   rw [hS]
   have:lw pr S A (k+1) (bZ (pr q.2) f) x=lw pr (fun _=>false) A (k+1) (bZ (pr q.2) f) x:=by
    refine FH pr A _ _ _ (fun j r hr hxr=>?_) rfl
    have:=hl (j+1) r ab EV hxr
    rw [show k+1+j=k+(j+1) by omega];exact this
   rw [show (bif true then bZ (pr q.2) f else f)=bZ (pr q.2) f from rfl,this]
   have e:∀(A:List (Nat×aN)) (k:Nat) (h:Nat→β),lw pr (fun _=>false) A k h x=h x:=by
    intro A
    induction A with
    | nil=>intro k h;rfl
    | cons r A ih=>intro k h;rw [lw];exact ih _ _
   rw [e]
   exact Bk (.inl hx)
  | succ i=>
   refine ih (k+1) i p _ g vT (by rw [show k+1+i=k+(i+1) by omega];exact hS) hx fun j r hj hr hxr=>?_
   have:=hl (j+1) r ab EV hxr
   rw [show k+1+j=k+(j+1) by omega];exact this
def FI(pr:aN→List (Nat×β))(S:Nat→Bool)(p:Nat×aN):∀(A:List (Nat×aN)) (k:Nat) (f:Nat→β),lw pr S (A++[p]) k f=(bif S (k+A.length) then bZ (pr p.2) (lw pr S A k f) else lw pr S A k f):=by
 intro A
 induction A with
 | nil=>intro k f;rfl
 | cons q A ih=>
  intro k f
  rw [List.cons_append,lw,ih,lw,List.length_cons,show k+1+A.length=k+(A.length+1) by omega]
end
def fj(A:List (Nat×aN))(S:Nat→Bool)(σ:St):St:=⟨lw aN.ws S A 0 σ.s,lw aN.wb S A 0 σ.b⟩
structure yr(P:Program)(n:Nat)(ops:Array Oper)(σ0:St)(ex:Nat→Bool)(A:List (Nat×aN))(i:Nat)(o:Oper)(p:Nat×aN):Prop where
 loc:ex i=true→cc P n ops o p.2
 rs:ex i=true→bl p.2.rs (fj A (fun j=>Nat.blt j i) σ0).s
 rb:ex i=true→bl p.2.rb (fj A (fun j=>Nat.blt j i) σ0).b
 fr:ex i=true→∀d,p.2.al=some d→cV d σ0
 mask:p.1=ew o.after.toList (A.take i)
 edges:Bm o.after.toList i=true
 ch:∀j q,j < i→A[j]?=some q→iq q.2 p.2=true∧(p.1.testBit j=true∨iW q.2 p.2=true)
def alK(m:Nat)(L:aN):∀(A:List (Nat×aN)) (k:Nat),FG m L A k=true→∀j q,A[j]?=some q→iq q.2 L=true∧(m.testBit (k+j)=true∨iW q.2 L=true):=by
 intro A
 induction A with
 | nil=>intro k _ j q hq;simp at hq
 | cons p A ih=>
  intro k h j q hq
  rw [FG,aX,aX,Bool.or_eq_true] at h
  cases j with
  | zero=>simp at hq;subst hq;exact h.1
  | succ j=>
   have:=ih (k+1) h.2 j q ph
   rw [show k+1+j=k+(j+1) by omega] at this;exact this
def blt_eq{x y:Nat}:Nat.blt x y=decide (x < y):=by
 rw [Bool.eq_iff_iff,decide_eq_true_iff];simp [Nat.blt_eq]
def LF(A:List (Nat×aN))(p:Nat×aN)(σ:St){i:Nat}(hi:i≤A.length):fj (A++[p]) (fun j=>Nat.blt j i) σ=fj A (fun j=>Nat.blt j i) σ:=by
 have e:Nat.blt (0+A.length) i=false:=by rw [blt_eq,decide_eq_false];omega
 unfold fj
 rw [FI,FI,e];rfl
def alL(A:List (Nat×aN))(p:Nat×aN)(σ:St):fj (A++[p]) (fun _=>true) σ=(fj A (fun _=>true) σ).app p.2:=by
 unfold fj St.app
 rw [FI,FI];rfl
def VX(A:List (Nat×aN)){S:Nat→Bool}(σ:St)(h:∀i,i < A.length→S i=true):fj A S σ=fj A (fun _=>true) σ:=by
 have e:∀{β:Type} (pr:aN→List (Nat×β)) (f:Nat→β),lw pr S A 0 f=lw pr (fun _=>true) A 0 f:=by
  intro β pr f
  funext x
  refine FH pr A 0 f f (fun i p hi _=>?_) rfl
  rw [Nat.zero_add];exact h i (List.getElem?_eq_some_iff.1 hi).1
 unfold fj
 rw [e,e]
def LG{σ0:St}{ex:Nat→Bool}{C:Nat→aN→Prop}{QS:St→Prop}:∀(l:List Oper) (rest:List Oper) (pre:List Oper) (acc:List (Nat×aN)) (σ:St),ops.toList=pre++(l++rest)→acc.length=pre.length→σ=fj acc (fun _=>true) σ0 →
  (∀i o p,ops[i]?=some o→acc[i]?=some p→yr P n ops σ0 ex acc i o p)→bO P n ops σ0 C QS l acc σ →
  ∃A:List (Nat×aN),A.length+rest.length=ops.size∧A.take acc.length=acc∧QS (fj A (fun _=>true) σ0)∧(∀(i:Nat) (p:Nat×aN),acc.length≤i→A[i]?=some p→C i p.2)∧∀i o p,ops[i]?=some o→A[i]?=some p→yr P n ops σ0 ex A i o p:=by
 intro l
 induction l with
 | nil=>
  intro rest pre acc σ ho hl hσ hg h
  refine ⟨acc,?_,cJ,hσ▸h,fun i p hi hp=>by have:=(List.getElem?_eq_some_iff.1 hp).1;omega,hg⟩
  have:=congrArg List.length ho
  simp at this;omega
 | cons o l ih=>
  intro rest pre acc σ ho hl hσ hg h
  obtain ⟨m,L,hL,h1,h2,h3,h4,hC,h5⟩:=h
  suffices hs:_ by
   obtain ⟨A,hA1,hA2,hA3,hA4,hA5⟩:=ih rest (pre++[o]) _ _ (by rw [ho];simp) (by simp [hl]) (by rw [alL,hσ]) hs h5
   refine ⟨A,hA1,?_,hA3,fun i p hi hp=>?_,hA5⟩
   rotate_left
   ·rcases Nat.lt_or_ge acc.length i with h|h
    ·exact hA4 i p iV hp
    ·have hie:i=acc.length:=by omega
     subst hie
     have e5:(A.take (acc++[(m,L)]).length)[acc.length]?=some (m,L):=by rw [hA2];simp
     rw [List.getElem?_take_of_lt aM,hp] at e5
     injection e5 with e5
     rw [e5];exact hC
   have e3:=congrArg (List.take acc.length) hA2
   rw [List.take_take,List.take_left] at e3
   have e4:min acc.length (acc++[(m,L)]).length=acc.length:=aM
   rw [e4] at e3
   exact e3
  intro i o' p hi hp
  have hi':i≤acc.length:=by
   have:=(List.getElem?_eq_some_iff.1 hp).1
   simp at this;omega
  by_cases he:i=acc.length
  ·subst he
   rw [List.getElem?_append_right (Nat.le_refl _),Nat.sub_self] at hp
   simp at hp;subst hp
   have ho':o'=o:=by
    have:ops.toList[acc.length]?=some o':=vT
    rw [ho,hl,List.getElem?_append_right (Nat.le_refl _),Nat.sub_self] at this
    simpa using this.symm
   subst ho'
   have h4':=h4
   unfold qK at h4'
   rw [aX,aX,Nat.beq_eq] at h4'
   obtain ⟨k1,k2,k3⟩:=h4'
   have hst:fj (acc++[(m,L)]) (fun j=>Nat.blt j acc.length) σ0=σ:=by
    rw [LF _ _ _ (Nat.le_refl _),hσ]
    refine VX acc σ0 (S:=fun j=>Nat.blt j acc.length) fun i hi=>?_
    rw [blt_eq,decide_eq_true hi]
   refine ⟨fun _=>hL,fun _=>by rw [hst];exact h1,fun _=>by rw [hst];exact h2,fun _=>h3,by rw [List.take_left];exact k2,k1,fun j q hj hq=>?_⟩
   rw [List.getElem?_append_left hj] at hq
   have:=alK _ _ _ 0 k3 j q hq
   rw [Nat.zero_add] at this;exact this
  ·have hlt:i < acc.length:=by omega
   rw [List.getElem?_append_left hlt] at hp
   have g:=hg i o' p hi hp
   refine ⟨g.loc,fun hlo=>by rw [LF _ _ _ hi'];exact g.rs hlo,fun hlo=>by rw [LF _ _ _ hi'];exact g.rb hlo,g.fr,by rw [List.take_append_of_le_length hi'];exact g.mask,g.edges,fun j q hj hq=>?_⟩
   rw [List.getElem?_append_left ab] at hq
   exact g.ch j q hj hq
def alM(A:List (Nat×aN))(j:Nat):∀(l:List Edge),(ew l A).testBit j=true→∃e,e∈l∧Region.binds .any e=true∧(e.on=j∨∃q,A[e.on]?=some q∧q.1.testBit j=true):=by
 intro l
 induction l with
 | nil=>intro h;simp [ew] at h
 | cons e l ih=>
  intro h
  rw [ew] at h
  cases hb:Region.binds .any e
  ·rw [hb] at h
   obtain ⟨e',h1,h2⟩:=ih h
   exact ⟨e',by simp [h1],h2⟩
  ·rw [hb,cond_true,Nat.testBit_or,Nat.testBit_or,Bool.or_eq_true,Bool.or_eq_true,Nat.testBit_two_pow] at h
   rcases h with (h|h)|h
   ·obtain ⟨e',h1,h2⟩:=ih h
    exact ⟨e',by simp [h1],h2⟩
   ·exact ⟨e,aM,hb,.inl ou⟩
   ·cases hq:A[e.on]? with
    | none=>rw [hq] at h;simp at h
    | some q=>rw [hq] at h;exact ⟨e,aM,hb,.inr ⟨q,hq,ou⟩⟩
section
variable{σ0:St}{ex:Nat→Bool}{A:List (Nat×aN)}(hA:A.length≤ops.size)(hG:∀i o p,ops[i]?=some o→A[i]?=some p→yr P n ops σ0 ex A i o p)
include hA hG
def Bn{S:Nat→Bool}(hS:∀i o,ops[i]?=some o→S i=true→∀e,e∈o.after.toList→Region.binds .any e=true→S e.on=true) :
  ∀(i:Nat) (o:Oper) (p:Nat×aN),ops[i]?=some o→A[i]?=some p→(∀e,e∈o.after.toList→Region.binds .any e=true→S e.on=true)→∀j,p.1.testBit j=true→S j=true:=by
 intro i
 induction i using Nat.strongRecOn with
 | _ i ih=>
  intro o p ho hp he j hj
  have g:=hG i o p ho hp
  rw [g.mask] at hj
  obtain ⟨e,h1,h2,h3⟩:=alM _ _ _ hj
  have hon:e.on < i:=by
   have:=List.all_eq_true.1 g.edges e h1
   rw [h2,Bool.not_true,Bool.false_or,blt_eq,decide_eq_true_iff] at this
   exact this
  rcases h3 with h3|⟨q,hq,hqj⟩
  ·rw [←h3];exact he e h1 h2
  ·rw [List.getElem?_take_of_lt hon] at hq
   have hoe:e.on < ops.size:=Nat.lt_of_lt_of_le (List.getElem?_eq_some_iff.1 hq).1 hA
   exact ih e.on hon ops[e.on] q (Array.getElem?_eq_getElem hoe) hq (hS e.on _ (Array.getElem?_eq_getElem hoe) (he e h1 h2)) j hqj
def VY{β:Type}(pr:aN→List (Nat×Option β))(rd:aN→List (Nat×β)){S:Nat→Bool}{i:Nat}{o:Oper}{p:Nat×aN}(ho:ops[i]?=some o)(hp:A[i]?=some p)
  (hS:∀i o,ops[i]?=some o→S i=true→∀e,e∈o.after.toList→Region.binds .any e=true→S e.on=true) (hi:S i=false) (he:∀e,e∈o.after.toList→Region.binds .any e=true→S e.on=true)
  (hap:∀x y:aN,iW x y=true→iI (pr x) (rd y)=false∧iI (pr y) (rd x)=false) (f:Nat→Option β) (h:bl (rd p.2) (lw pr (fun j=>Nat.blt j i) A 0 f)):bl (rd p.2) (lw pr S A 0 f):=by
 have hi':i < A.length:=(List.getElem?_eq_some_iff.1 hp).1
 refine bl.of_mem fun q hq=>?_
 rw [←h.mem q hq]
 refine FH pr A 0 f f (fun j r hr hx=>?_) rfl
 rw [Nat.zero_add]
 show S j=Nat.blt j i
 rw [blt_eq]
 have hj:j < A.length:=(List.getElem?_eq_some_iff.1 hr).1
 have hoj:=Array.getElem?_eq_getElem (show j < ops.size by omega)
 have hin:=LC hq
 by_cases hji:j < i
 ·rw [decide_eq_true hji]
  rcases ((hG i o p ho hp).ch j r hji hr).2 with hm|hm
  ·exact Bn hA hG hS i o p ho hp he j hm
  ·have:=FF (hap _ _ hm).1 q.1 hx
   rw [hin] at this;cases this
 ·rw [decide_eq_false hji]
  by_cases hje:j=i
  ·rw [hje];exact hi
  ·have hij:i < j:=by omega
   cases hSj:S j
   ·rfl
   ·rcases ((hG j _ r hoj hr).ch i p hij hp).2 with hm|hm
    ·have:=Bn hA hG hS j _ r hoj hr (hS j _ hoj hSj) i hm
     rw [hi] at this;cases this
    ·have:=FF (hap _ _ hm).2 q.1 hx
     rw [hin] at this;cases this
def VZ{β:Type}(pr:aN→List (Nat×Option β)){S:Nat→Bool}{i:Nat}{o:Oper}{p:Nat×aN}(_ho:ops[i]?=some o)(hp:A[i]?=some p)
  (hS:∀i o,ops[i]?=some o→S i=true→∀e,e∈o.after.toList→Region.binds .any e=true→S e.on=true) (hi:S i=false)
  (hap:∀x y:aN,iW x y=true→iI (pr x) (pr y)=false) (f:Nat→Option β):bZ (pr p.2) (lw pr S A 0 f)=lw pr (fun j=>bif Nat.beq j i then true else S j) A 0 f:=by
 funext x
 have hi':i < A.length:=(List.getElem?_eq_some_iff.1 hp).1
 by_cases hx:dm (pr p.2) x=true
 ·refine (alJ pr A 0 i p f _ hp aM hx fun j q hij hq hxq=>?_).symm
  have hj:j < A.length:=(List.getElem?_eq_some_iff.1 hq).1
  have hoj:=Array.getElem?_eq_getElem (show j < ops.size by omega)
  rw [Nat.zero_add]
  simp only [beq_eq]
  rw [decide_eq_false ab,cond_false]
  cases hSj:S j
  ·rfl
  ·rcases ((hG j _ q hoj hq).ch i p hij hp).2 with hm|hm
   ·have:=Bn hA hG hS j _ q hoj hq (hS j _ hoj hSj) i hm
    rw [hi] at this;cases this
   ·have:=FF (hap _ _ hm) x hx
    rw [hxq] at this;cases this
 ·rw [sx Be]
  refine FH pr A 0 f f (fun j q hq hxq=>?_) rfl
  rw [Nat.zero_add]
  simp only [beq_eq]
  by_cases hji:j=i
  ·subst hji
   rw [hp] at hq
   injection hq with hq
   subst hq
   exact absurd hxq hx
  ·rw [decide_eq_false hji,cond_false]
def alN{S:Nat→Bool}{i:Nat}{o:Oper}{p:Nat×aN}(ho:ops[i]?=some o)(hp:A[i]?=some p)
  (hS:∀i o,ops[i]?=some o→S i=true→∀e,e∈o.after.toList→Region.binds .any e=true→S e.on=true) (hi:S i=false) (hlo:ex i=true) {d:Nat} (hd:p.2.al=some d):cV d (fj A S σ0):=by
 have key:∀(B:List (Nat×aN)) (k:Nat) (f:Nat→Option RV),(∀i rv,f i=some rv→rv.men d=false)→(∀j q,B[j]?=some q→S (k+j)=true→LD d q.2.ws=true)→∀i rv,lw aN.ws S B k f i=some rv→rv.men d=false:=by
  intro B
  induction B with
  | nil=>intro k f hf _ i rv hi;exact hf i rv hi
  | cons q B ih=>
   intro k f hf hB i rv hi
   refine ih (k+1) _ ?_ (fun j r hr hs=>hB (j+1) r EV Vr) i rv hi
   cases hs:S k
   ·exact hf
   ·exact cV.app (σ:=⟨f,fun _=>none⟩) (L:=q.2) hf (hB 0 q rfl (by rw [Nat.add_zero];exact hs))
 refine key A 0 σ0.s ((hG i o p ho hp).fr hlo d hd) fun j q hq hs=>?_
 rw [Nat.zero_add] at hs
 have hj:j < A.length:=(List.getElem?_eq_some_iff.1 hq).1
 have hi':i < A.length:=(List.getElem?_eq_some_iff.1 hp).1
 have hoj:=Array.getElem?_eq_getElem (show j < ops.size by omega)
 have hne:j≠i:=fun e=>by rw [e,hi] at hs;cases hs
 have hf:iq q.2 p.2=true:=by
  by_cases hji:j < i
  ·exact ((hG i o p ho hp).ch j q hji hq).1
  ·rcases ((hG j _ q hoj hq).ch i p ab hp).2 with hm|hm
   ·have:=Bn hA hG hS j _ q hoj hq (hS j _ hoj hs) i hm
    rw [hi] at this;cases this
   ·unfold iW at hm
    simp only [aX] at hm
    exact hm.2
 unfold iq at hf
 rw [hd] at hf
 exact hf
end
def alO(x y:aN)(h:iW x y=true):iI x.ws y.rs=false∧iI y.ws x.rs=false:=by
 unfold iW at h;simp only [aX,Bool.not_eq_true'] at h;exact ⟨h.1.1.1.1,h.1.1.1.2⟩
def alP(x y:aN)(h:iW x y=true):iI x.wb y.rb=false∧iI y.wb x.rb=false:=by
 unfold iW at h;simp only [aX,Bool.not_eq_true'] at h;exact ⟨h.1.2.1.1,h.1.2.1.2⟩
def alQ(x y:aN)(h:iW x y=true):iI x.ws y.ws=false:=by
 unfold iW at h;simp only [aX,Bool.not_eq_true'] at h;exact h.1.1.2
def alR(x y:aN)(h:iW x y=true):iI x.wb y.wb=false:=by
 unfold iW at h;simp only [aX,Bool.not_eq_true'] at h;exact h.1.2.2
def LH{σ0:St}{ex:Nat→Bool}{ini:Nat→Bool}{A:List (Nat×aN)}{Q:Exit→Act→World→Prop}(hA:A.length=ops.size)(hG:∀i o p,ops[i]?=some o→A[i]?=some p→yr P n ops σ0 ex A i o p)
  (hpick:∀(fuel:Nat) (listed:Array Bool) (a:Act) (w:World),listed.size=ops.size→(List.range ops.size).countP (fun i=>!listed.getD i false)≤fuel+1→(∀i,ex i=false→listed.getD i false=ini i) →
   (∀i o,ops[i]?=some o→listed.getD i false=true→∀e,e∈o.after.toList→Region.binds .any e=true→listed.getD e.on false=true)→bC h0 w0 Fz0 n (fj A (fun i=>listed.getD i false) σ0) a w →
   ∀i,i < ops.size→listed.getD i false=false→ex i=false→(∀o,ops[i]?=some o→∀e,e∈o.after.toList→Region.binds .any e=true→listed.getD e.on false=true)→wpOp P ops Q i (wpAny P .any ops Q fuel (listed.setIfInBounds i true)) a w)
  (hend:∀(listed:Array Bool) (a:Act) (w:World),(∀i,i < ops.size→listed.getD i false=true)→(∀i,ex i=false→listed.getD i false=ini i)→bC h0 w0 Fz0 n (fj A (fun _=>true) σ0) a w→Q .normal a w):∀(fuel:Nat) (listed:Array Bool) (a:Act) (w:World),listed.size=ops.size →
  (List.range ops.size).countP (fun i=>!listed.getD i false)≤fuel →
  (∀i o,ops[i]?=some o→listed.getD i false=true→∀e,e∈o.after.toList→Region.binds .any e=true→listed.getD e.on false=true) →
  (∀i,ex i=false→listed.getD i false=ini i) →
  bC h0 w0 Fz0 n (fj A (fun i=>listed.getD i false) σ0) a w→wpAny P .any ops Q fuel listed a w:=by
 have hready:∀(listed:Array Bool),listed.size=ops.size→Region.ready .any ops listed=[]→∀i,i < ops.size→listed.getD i false=true:=by
  intro listed hsz hr i
  induction i using Nat.strongRecOn with
  | _ i ih=>
   intro hi
   cases hl:listed.getD i false
   ·exfalso
    have:i∈Region.ready .any ops listed:=by
     unfold Region.ready
     rw [List.mem_filter]
     refine ⟨List.mem_range.2 hi,?_⟩
     have hlt:listed.getD i true=false:=by
      rw [Array.getD_eq_getD_getElem?] at hl ⊢
      rw [Array.getElem?_eq_getElem ab] at hl ⊢
      exact hl
     rw [hlt,Array.getElem?_eq_getElem hi]
     simp only [Bool.not_false,Bool.true_and,Option.map_some,Option.getD_some]
     rw [Array.all_eq_true_iff_forall_mem]
     intro e he
     cases hb:Region.binds .any e
     ·rfl
     ·have g:=hG i _ _ (Array.getElem?_eq_getElem hi) (List.getElem?_eq_getElem ab)
      have:=List.all_eq_true.1 g.edges e (Array.mem_toList_iff.2 he)
      rw [hb,Bool.not_true,Bool.false_or,blt_eq,decide_eq_true_iff] at this
      rw [ih e.on this ab];rfl
    rw [hr] at this;simp at this
   ·rfl
 have hfin:∀(listed:Array Bool) (a:Act) (w:World),listed.size=ops.size→Region.ready .any ops listed=[]→(∀i,ex i=false→listed.getD i false=ini i)→bC h0 w0 Fz0 n (fj A (fun i=>listed.getD i false) σ0) a w→Q .normal a w:=by
  intro listed a w hsz hr hini hc
  refine hend listed a w (hready listed hsz hr) hini ?_
  rw [←VX A (S:=fun i=>listed.getD i false) σ0 fun i hi=>hready listed hsz hr i ab]
  exact hc
 intro fuel
 induction fuel with
 | zero=>
  intro listed a w hsz hcnt hcl hini hc
  have hr:Region.ready .any ops listed=[]:=by
   unfold Region.ready
   rw [List.filter_eq_nil_iff]
   intro i hi
   have h0:=List.countP_eq_zero.1 (Nat.le_zero.1 hcnt) i hi
   have hlt:=List.mem_range.1 hi
   have:listed.getD i true=true:=by
    rw [Array.getD_eq_getD_getElem?] at h0 ⊢
    rw [Array.getElem?_eq_getElem ab] at h0 ⊢
    simpa using h0
   rw [this];simp
  exact ⟨hr,hfin listed a w hsz hr hini hc⟩
 | succ fuel ih=>
  intro listed a w hsz hcnt hcl hini hc
  refine ⟨fun hr=>hfin listed a w hsz hr hini hc,fun i hi=>?_⟩
  unfold Region.ready at hi
  rw [List.mem_filter,List.mem_range,aX] at hi
  obtain ⟨hlt,hnl,hed⟩:=hi
  have ho:=Array.getElem?_eq_getElem hlt
  have hli:listed.getD i false=false:=by
   rw [Array.getD_eq_getD_getElem?] at hnl ⊢
   rw [Array.getElem?_eq_getElem ab] at hnl ⊢
   simpa using hnl
  have he:∀e,e∈ops[i].after.toList→Region.binds .any e=true→listed.getD e.on false=true:=by
   intro e he hb
   rw [ho] at hed
   simp only [Option.map_some,Option.getD_some] at hed
   rw [Array.all_eq_true_iff_forall_mem] at hed
   have:=hed e (Array.mem_toList_iff.1 he)
   rw [hb,Bool.not_true,Bool.false_or] at this
   exact this
  cases hex:ex i
  ·exact hpick fuel listed a w hsz hcnt hini hcl hc i hlt hli hex fun o ho'=>by
    rw [ho] at ho'
    injection ho' with ho'
    subst ho'
    exact he
  have hi':i < A.length:=ab
  have hp:=List.getElem?_eq_getElem hi'
  have g:=hG i _ _ ho hp
  have hset:∀j,(listed.setIfInBounds i true).getD j false=(bif Nat.beq j i then true else listed.getD j false):=by
   intro j
   rw [beq_eq]
   by_cases hj:j=i
   ·subst hj
    rw [decide_eq_true rfl,cond_true,Array.getD_eq_getD_getElem?,Array.getElem?_setIfInBounds_self]
    rw [if_pos ab];rfl
   ·rw [decide_eq_false hj,cond_false,Array.getD_eq_getD_getElem?,Array.getD_eq_getD_getElem?,Array.getElem?_setIfInBounds_ne ab]
  have hst:(fj A (fun i=>listed.getD i false) σ0).app A[i].2=fj A (fun j=>(listed.setIfInBounds i true).getD j false) σ0:=by
   unfold St.app fj
   have e1:=VZ (Nat.le_of_eq hA) hG aN.ws (S:=fun i=>listed.getD i false) ho hp hcl hli alQ σ0.s
   have e2:=VZ (Nat.le_of_eq hA) hG aN.wb (S:=fun i=>listed.getD i false) ho hp hcl hli alR σ0.b
   simp only [hset]
   rw [←e1,←e2]
  unfold wpOp
  rw [ho]
  have k:=g.loc hex (K:=wpAny P .any ops Q fuel (listed.setIfInBounds i true)) (Q:=Q) hc
   (VY (Nat.le_of_eq hA) hG aN.ws aN.rs (S:=fun i=>listed.getD i false) ho hp hcl hli he alO σ0.s (g.rs hex))
   (VY (Nat.le_of_eq hA) hG aN.wb aN.rb (S:=fun i=>listed.getD i false) ho hp hcl hli he alP σ0.b (g.rb hex))
   (fun d hd=>alN (Nat.le_of_eq hA) hG (S:=fun i=>listed.getD i false) ho hp hcl hli hex hd)
   (fun a' w' hc'=>by
    rw [hst] at hc'
    refine ih _ a' w' (by simpa using hsz) ?_ ?_ ?_ hc'
    ·have hc1:(List.range ops.size).countP (fun j=>!(listed.setIfInBounds i true).getD j false)+1≤(List.range ops.size).countP (fun j=>!listed.getD j false):=by
      have key:∀(l:List Nat),l.Nodup→i∈l→l.countP (fun j=>!(listed.setIfInBounds i true).getD j false)+1≤l.countP (fun j=>!listed.getD j false):=by
       have mono:∀(l:List Nat),l.countP (fun j=>!(listed.setIfInBounds i true).getD j false)≤l.countP (fun j=>!listed.getD j false):=by
        intro l
        refine List.countP_mono_left fun j _ hj=>?_
        rw [hset,beq_eq] at hj
        by_cases hji:j=i
        ·rw [decide_eq_true hji] at hj;simp at hj
        ·rw [decide_eq_false hji] at hj;exact hj
       intro l
       induction l with
       | nil=>intro _ h;simp at h
       | cons x l ihl=>
        intro hnd hm
        rw [List.countP_cons,List.countP_cons]
        rcases List.mem_cons.1 hm with rfl|hm
        ·have:=mono l
         rw [hset i,beq_eq,decide_eq_true rfl,hli]
         exact Nat.add_le_add_right this 1
        ·have:=ihl (List.nodup_cons.1 hnd).2 hm
         have hxi:x≠i:=fun e=>(List.nodup_cons.1 hnd).1 (e▸hm)
         rw [hset x,beq_eq,decide_eq_false hxi,cond_false]
         omega
      exact key _ List.nodup_range (List.mem_range.2 hlt)
     omega
    ·intro j o hj hs e he' hb
     rw [hset] at hs ⊢
     rw [beq_eq] at hs ⊢
     by_cases hji:j=i
     ·subst hji
      rw [ho] at hj
      injection hj with hj
      subst hj
      rw [he e he' hb];simp
     ·rw [decide_eq_false hji,cond_false] at hs
      rw [hcl j o hj hs e he' hb];simp
    ·intro j hj
     rw [hset,beq_eq,decide_eq_false (by intro e;rw [e,hex] at hj;cases hj),cond_false];exact hini j hj)
  show if _ then _ else _
  by_cases hw:Region.wanted ops[i] (yielded ops a.tmps)=true
  ·rw [if_pos hw] at k ⊢;exact .inl k
  ·rw [if_neg hw] at k ⊢;exact k
def alS{id:Nat}{σ:St}{QS:St→Prop}{Q:Exit→Act→World→Prop}{a:Act}{w:World}(hc:bC h0 w0 Fz0 n σ a w)
  (hr:au P n ops QS ops.toList σ) (hQ:∀τ a w,QS τ→bC h0 w0 Fz0 n τ a w→Q .normal a w):(Code.region id ops false).wp P Q a w:=wp_region_list (alI hQ _ σ a w hr hc)
def alT{id:Nat}{σ:St}{QS:St→Prop}{Q:Exit→Act→World→Prop}{a:Act}{w:World}(hm:P.follows .mixedOrders=true)(hc:bC h0 w0 Fz0 n σ a w)
  (hr:bO P n ops σ (fun _ _=>True) QS ops.toList [] σ) (hQ:∀τ a w,QS τ→bC h0 w0 Fz0 n τ a w→Q .normal a w):(Code.region id ops true).wp P Q a w:=by
 obtain ⟨A,hA,_,hqs,_,hG⟩:=LG (P:=P) (n:=n) (ex:=fun _=>true) ops.toList [] [] [] σ aM rfl rfl (fun i o p _ hp=>by simp at hp) hr
 have hA:A.length=ops.size:=by simpa using hA
 refine wp_region_any hm (LH (ini:=fun _=>false) hA hG (fun fuel listed a w _ _ _ _ _ i _ _ hex _=>by cases hex) (fun listed a w _ _ hc'=>hQ _ a w hqs hc') ops.size _ a _ aM ?_ ?_ (fun i hi=>by cases hi) ?_)
 ·exact Nat.le_trans List.countP_le_length aM
 ·intro i o _ hs
  rw [Array.getD_eq_getD_getElem?,Array.getElem?_replicate] at hs
  split at hs<;>simp at hs
 ·have e:fj A (fun i=>(Array.replicate ops.size false).getD i false) σ=σ:=by
   have e:∀{β:Type} (pr:aN→List (Nat×β)) (f:Nat→β),lw pr (fun i=>(Array.replicate ops.size false).getD i false) A 0 f=f:=by
    intro β pr f
    have:(fun i=>(Array.replicate ops.size false).getD i false)=fun _=>false:=by
     funext i
     rw [Array.getD_eq_getD_getElem?,Array.getElem?_replicate]
     split<;>rfl
    rw [this]
    have e:∀(A:List (Nat×aN)) (k:Nat) (h:Nat→β),lw pr (fun _=>false) A k h=h:=by
     intro A
     induction A with
     | nil=>intro k h;rfl
     | cons r A ih=>intro k h;rw [lw];exact ih _ _
    exact e A 0 f
   unfold fj
   rw [e,e]
  rw [e];exact hc.drew
end
end
section
abbrev RV.sc(v:Value):RV:=RV.sv false [PV.val v]
abbrev vI(n:Int):Value:=.int .i64 n
abbrev RV.int(n:Int):RV:=RV.sc (.int .i64 n)
abbrev RV.bool(b:Bool):RV:=RV.sc (.bool b)
abbrev RV.slc(o:Fl)(es:List (List PV)):RV:=RV.sv false [PV.sl o es]
section
variable{P:Program}{n:Nat}{ops:Array Oper}{h0:Nat→Prop}{w0:World}{Fz0:aA}
def ce.sc{v x:Value}{Fz:aA}{w:World}{F:List Nat}(h:ce false [PV.val x] Fz w v F):v=x∧F=[]:=by
 obtain ⟨h1,v',vs',F1,F2,h2,rfl,⟨⟨rfl,h3⟩,rfl⟩,h4,rfl⟩:=h
 subst h4
 refine ⟨?_,rfl⟩
 cases v<;>first
  | (simp [qI] at h1;done)
  | (simp [Value.cells] at h2;exact h2)
def ce.atom{v:Value}{p:PV}{Fz:aA}{w:World}{F:List Nat}(h:ce false [p] Fz w v F):p.own Fz w v F:=by
 obtain ⟨h1,v',vs',F1,F2,h2,rfl,h3,h4,rfl⟩:=h
 subst h4
 have e:v.cells.toList=[v]:=by cases v<;>first|(simp [qI] at h1;done)|rfl
 rw [e] at h2
 injection h2 with h2 _
 subst h2
 rw [fV];exact h3
def Wa{v:Value}(h:v.oneCell'=true):v.cells.toList=[v]∧qI v=false:=by
 cases v<;>first|(simp [Value.oneCell'] at h;done)|exact ⟨rfl,rfl⟩
def ce.of_atom{v:Value}{p:PV}{Fz:aA}{w:World}{F:List Nat}(h:p.own Fz w v F):ce false [p] Fz w v F:=by
 obtain ⟨e1,e2⟩:=Wa (p.one (p.toRel h))
 exact ⟨e2,by rw [e1];exact ⟨v,[],F,[],rfl,aM,h,rfl,rfl⟩⟩
def ce.of_sc{x:Value}{Fz:aA}{w:World}(h:x.oneCell'=true):ce false [PV.val x] Fz w x []:=ce.of_atom ⟨⟨rfl,h⟩,rfl⟩
def bm(x:Operand)(r:RV):List (Nat×RV):=match x with | .tmp t=>[(t,r)]|_=>[]
def bG(x:Operand)(r:RV):Prop:=match x with
 | .tmp _=>True
 | .const v=>∀(φ:Nat→Nat) (Fz:aA) (w:World),r.holds φ Fz w v []
 | .func f=>∀(φ:Nat→Nat) (Fz:aA) (w:World),r.holds φ Fz w (.func (.func f) #[] #[]) []
 | _=>False
def bl.left{β:Type}{l m:List (Nat×β)}{f:Nat→Option β}(h:bl (l++m) f):bl l f:=bl.of_mem fun p hp=>h.mem p Bg
def bl.right{β:Type}{l m:List (Nat×β)}{f:Nat→Option β}(h:bl (l++m) f):bl m f:=bl.of_mem fun p hp=>h.mem p Bg
variable{σ:St}{a:Act}{w:World}{φ:Nat→Nat}{Fz:aA}{Fp:Nat→List Nat}
def bP.op(h:bP h0 w0 Fz0 n σ a w φ Fz Fp){x:Operand}{r:RV}(hr:bl (bm x r) σ.s)(hk:bG x r):∃F,r.holds φ Fz w (a.eval x) F:=by
 cases x with
 | tmp t=>exact ⟨_,h.slot t r hr.1⟩
 | const v=>exact ⟨[],hk _ _ _⟩
 | global g=>exact hk.elim
 | func f=>exact ⟨[],hk _ _ _⟩
def bP.sc(h:bP h0 w0 Fz0 n σ a w φ Fz Fp){x:Operand}{v:Value}(hr:bl (bm x (RV.sc v)) σ.s)(hk:bG x (RV.sc v)):a.eval x=v:=by
 obtain ⟨F,hF⟩:=h.op hr hk
 exact (ce.sc hF).1
def bP.one_(h:bP h0 w0 Fz0 n σ a w φ Fz Fp){t:Nat}{v:Value}(hr:σ.s t=some (RV.sc v)):a.tmps.getD t undef=v∧v.oneCell'=true:=by
 have k:=h.slot t _ hr
 obtain ⟨e,_⟩:=ce.sc k
 exact ⟨e,by
  have:=k.2.one v
  obtain ⟨h1,v',vs',F1,F2,h2,_,⟨⟨rfl,h3⟩,_⟩,_⟩:=k
  exact h3⟩
def bP.put0(h:bP h0 w0 Fz0 n σ a w φ Fz Fp){d:Nat}{r:RV}{v:Value}(hd:d < n)(hv:r.holds φ Fz w v []):bC h0 w0 Fz0 n (σ.set d (some r)) (a.put (some d) v) w:=
 ⟨φ,Fz,_,h.push hd hv (F:=[]) (X:=Fp 0) aM (by simpa using h.nod 0)⟩
def ez{o:Oper}{K:Act→World→Prop}{Q:Exit→Act→World→Prop}{v:Value}{w':World}(h:(execOp a.eval o).run P w = .ok (.value v) w')(hk:K (a.put o.dst v) w'):o.wp P a w K Q:=by
 unfold Oper.wp;rw [h];exact hk
def alU{o:Oper}{K:Act→World→Prop}{Q:Exit→Act→World→Prop}{w':World}(h:(execOp a.eval o).run P w = .ok .skip w')(hk:K (a.put o.dst undef) w'):o.wp P a w K Q:=by
 unfold Oper.wp;rw [h];exact hk
def RV.und:RV where
 holds _ _ _ v F:=v=undef∧F=[]
 men _:=false
 mono h _ _ _:=h
 lt h:=oj
def bP.putU(h:bP h0 w0 Fz0 n σ a w φ Fz Fp)(d:Nat):bC h0 w0 Fz0 n (σ.set d (some RV.und)) (a.put (some d) undef) w:=by
 have c:=h.wipe d undef
 refine ⟨φ,Fz,mv Fp (2 * d+1),{ c with slot:=fun i rv hi=>?_,box:=fun e bx he=>c.box e bx he,bxb:=fun e bx he=>c.bxb e bx he,inj:=fun e e' c1 c2 h1 h2=>c.inj e e' c1 c2 h1 h2 }⟩
 rw [St.set_s] at hi
 split at hi
 ·rename_i e
  subst e
  injection hi with hi
  subst hi
  refine ⟨?_,go⟩
  show (a.tmps.setIfInBounds i undef).getD i undef=undef
  rw [Array.getD_eq_getD_getElem?]
  by_cases hlt:i < a.tmps.size
  ·rw [Array.getElem?_setIfInBounds_self_of_lt hlt];rfl
  ·rw [Array.getElem?_eq_none iV];rfl
 ·rename_i hne
  exact c.slot i rv (by rw [St.set_s,if_neg hne];exact hi)
def Loc(P:Program)(n:Nat)(o:Oper)(L:aN):Prop:=
 ∀{h0:Nat→Prop} {w0:World} {Fz0:aA} {σ:St} {a:Act} {w:World} {K:Act→World→Prop} {Q:Exit→Act→World→Prop},bC h0 w0 Fz0 n σ a w→bl L.rs σ.s→bl L.rb σ.b →
  (∀d,L.al=some d→cV d σ)→(∀a' w',bC h0 w0 Fz0 n (σ.app L) a' w'→K a' w')→o.wp P a w K Q
def cc.of{o:Oper}{L:aN}(hg:o.guard=none)(h:Loc P n o L):cc P n ops o L:=by
 intro h0 w0 Fz0 σ a w K Q h1 h2 h3 h4 h5
 rw [if_pos (by simp [Region.wanted,hg])]
 exact h h1 h2 h3 h4 h5
def Wb{g s:Nat}{b:Bool}(hs:(ops[g]?).bind (·.dst)=some s)(hn:a.tmps.size=n)(hlt:s < n)(h:a.tmps.getD s undef = .bool b):yielded ops a.tmps g=some b:=by
 unfold yielded
 rw [hs]
 rw [Array.getD_eq_getD_getElem?,Array.getElem?_eq_getElem ab] at h
 simp only [Option.getD_some] at h
 simp [Array.getElem?_eq_getElem (show s < a.tmps.size by omega),h]
def cc.yes{o:Oper}{L:aN}{g s:Nat}{b c:Bool}(hg:o.guard=some (g,b))(hs:(ops[g]?).bind (·.dst)=some s)(hlt:s < n)(hb:c=b)(h:Loc P n o L) :
  cc P n ops o ⟨(s,RV.bool c)::L.rs,L.rb,L.ws,L.wb,L.al⟩:=by
 intro h0 w0 Fz0 σ a w K Q h1 h2 h3 h4 h5
 obtain ⟨φ,Fz,Fp,hc⟩:=h1
 have hy:=Wb (ops:=ops) hs hc.siz hlt (hc.one_ h2.1).1
 rw [if_pos (by simp [Region.wanted,hg,hy,hb])]
 exact h ⟨φ,Fz,Fp,hc⟩ h2.2 h3 h4 h5
def cc.no{o:Oper}{g s d:Nat}{b c:Bool}(hg:o.guard=some (g,b))(hs:(ops[g]?).bind (·.dst)=some s)(hlt:s < n)(hb:c = !b)(hd:o.dst=some d) :
  cc P n ops o ⟨[(s,RV.bool c)],[],[(d,some RV.und)],[],none⟩:=by
 intro h0 w0 Fz0 σ a w K Q h1 h2 h3 h4 h5
 obtain ⟨φ,Fz,Fp,hc⟩:=h1
 have hy:=Wb (ops:=ops) hs hc.siz hlt (hc.one_ h2.1).1
 rw [if_neg (by simp [Region.wanted,hg,hy,hb]),hd]
 exact h5 _ _ (hc.putU d)
def alV{g s:Nat}(hs:(ops[g]?).bind (·.dst)=some s)(h:a.tmps.getD s undef=undef):yielded ops a.tmps g=none:=by
 have h':a.tmps[s]?.getD undef=undef:=ou
 unfold yielded
 rw [hs]
 cases hv:a.tmps[s]? with
 | none=>simp [hv]
 | some v=>
  rw [hv] at h'
  simp only [Option.getD_some] at h'
  subst h'
  simp [hv,undef]
def cc.noU{o:Oper}{g s d:Nat}{b:Bool}(hg:o.guard=some (g,b))(hs:(ops[g]?).bind (·.dst)=some s)(hd:o.dst=some d) :
  cc P n ops o ⟨[(s,RV.und)],[],[(d,some RV.und)],[],none⟩:=by
 intro h0 w0 Fz0 σ a w K Q h1 h2 h3 h4 h5
 obtain ⟨φ,Fz,Fp,hc⟩:=h1
 have hy:=alV (ops:=ops) (a:=a) hs (hc.slot s _ h2.1).1
 rw [if_neg (by simp [Region.wanted,hg,hy]),hd]
 exact h5 _ _ (hc.putU d)
def au.step{QS:St→Prop}{o:Oper}{l:List Oper}{L:aN}(h1:bl L.rs σ.s)(h2:bl L.rb σ.b)(hl:cc P n ops o L)
  (h3:∀d,L.al=some d→cV d σ) (h5:au P n ops QS l (σ.app L)):au P n ops QS (o::l) σ:=
 ⟨L,hl,h1,h2,h3,h5⟩
def au.cases{QS:St→Prop}{l:List Oper}{s:Nat}{b:Bool}(_hs:σ.s s=some (RV.bool b))(ht:b=true→au P n ops QS l σ)(hf:b=false→au P n ops QS l σ):au P n ops QS l σ:=by
 cases hb:b
 ·exact hf hb
 ·exact ht hb
def bO.step{σ0:St}{QS:St→Prop}{o:Oper}{l:List Oper}{acc:List (Nat×aN)}{L:aN}(m:Nat)(h1:bl L.rs σ.s)(h2:bl L.rb σ.b)(hl:cc P n ops o L)
  (h3:∀d,L.al=some d→cV d σ0) (h4:qK m o L acc=true) (h5:bO P n ops σ0 (fun _ _=>True) QS l (acc++[(m,L)]) (σ.app L)):bO P n ops σ0 (fun _ _=>True) QS (o::l) acc σ:=
 ⟨m,L,hl,h1,h2,h3,h4,True.intro,h5⟩
def bO.stepC{σ0:St}{C:Nat→aN→Prop}{QS:St→Prop}{o:Oper}{l:List Oper}{acc:List (Nat×aN)}{L:aN}(m:Nat)(h1:bl L.rs σ.s)(h2:bl L.rb σ.b)(hl:cc P n ops o L)
  (h3:∀d,L.al=some d→cV d σ0) (h4:qK m o L acc=true) (hC:C acc.length L) (h5:bO P n ops σ0 C QS l (acc++[(m,L)]) (σ.app L)):bO P n ops σ0 C QS (o::l) acc σ:=
 ⟨m,L,hl,h1,h2,h3,h4,hC,h5⟩
def bO.cases{σ0:St}{C:Nat→aN→Prop}{QS:St→Prop}{l:List Oper}{acc:List (Nat×aN)}{s:Nat}{b:Bool}(_hs:σ.s s=some (RV.bool b))(ht:b=true→bO P n ops σ0 C QS l acc σ)(hf:b=false→bO P n ops σ0 C QS l acc σ) :
  bO P n ops σ0 C QS l acc σ:=by
 cases hb:b
 ·exact hf hb
 ·exact ht hb
def aJ.nil:aJ [] []:=True.intro
def aJ.cons{p q:PV}{ps qs:List PV}(h:p.To q)(k:aJ ps qs):aJ (p::ps) (q::qs):=⟨h,k⟩
def aD{p:PV}{ps qs:List PV}(k:aJ ps qs):aJ (p::ps) (p::qs):=aJ.cons (PV.To.refl _) k
def Cp(r r':RV):Prop:=∀{φ:Nat→Nat} {Fz:aA} {w:World} {v:Value} {F:List Nat},r.holds φ Fz w v F→r'.holds φ Fz w v []
def Cp.sc{v:Value}:Cp (RV.sc v) (RV.sc v):=fun h=>by
 obtain ⟨rfl,rfl⟩:=ce.sc h
 exact h
def Cp.sv{ag:Bool}{cs qs:List PV}(h:aJ cs qs)(hb:aF qs):Cp (RV.sv ag cs) (RV.sv ag qs):=fun hh=>⟨hh.1,hb.own (h.rel hh.2.rel)⟩
def Cp.bor{ag:Bool}{cs:List PV}(hb:aF cs):Cp (RV.sv ag cs) (RV.sv ag cs):=Cp.sv (aJ.refl cs) hb
def Cp.ptr{d off:Nat}:Cp (RV.ptr d off) (RV.ptr d off):=fun h=>⟨h.1,rfl⟩
def Cp.eptr{cs:List PV}:Cp (RV.eptr cs) (RV.eptr cs):=fun h=>⟨h.1,rfl⟩
def LI{o:Oper}{x:Operand}(hop:o.op = .move x∨o.op = .assign x):(execOp a.eval o).run P w = .ok (.value (a.eval x)) w:=by
 unfold execOp
 rcases hop with h|h<;>rw [h]<;>rfl
def lS{op:Op}{d x:Nat}{ty:TypeId}{pos:String}{af:Array Edge}{g:Option (Nat×Bool)}{r r':RV}(hop:op = .move (.tmp x)∨op = .assign (.tmp x))(hd:d < n)(hc:Cp r r') :
  Loc P n ⟨some d,op,ty,pos,af,g⟩ ⟨[(x,r)],[],[(d,some r')],[],none⟩:=by
 intro h0 w0 Fz0 σ a w K Q h1 h2 _ _ h5
 obtain ⟨φ,Fz,Fp,h⟩:=h1
 exact ez (LI hop) (h5 _ _ (h.put0 hd (hc (h.slot x r h2.1))))
def wa{op:Op}{d x:Nat}{ty:TypeId}{pos:String}{af:Array Edge}{g:Option (Nat×Bool)}{r:RV}(hop:op = .move (.tmp x)∨op = .assign (.tmp x))(hd:d < n) :
  Loc P n ⟨some d,op,ty,pos,af,g⟩ ⟨[(x,r)],[],[(x,none),(d,some r)],[],none⟩:=by
 intro h0 w0 Fz0 σ a w K Q h1 h2 _ _ h5
 obtain ⟨φ,Fz,Fp,h⟩:=h1
 have hx:=h.slot x r h2.1
 have k:=h.pull x
 have hX:∀b,b∈Fp (2 * x+1)++Fp 0→b∈mv Fp (2 * x+1) 0:=fun b hb=>by unfold mv;rw [if_pos rfl];exact hb
 have hn:(Fp (2 * x+1)++Fp 0).Nodup:=by have:=k.nod 0;unfold mv at this;rw [if_pos rfl] at this;exact this
 exact ez (LI hop) (h5 _ _ ⟨φ,Fz,_,k.push hd hx hX hn⟩)
def nw{op:Op}{d:Nat}{v:Value}{ty:TypeId}{pos:String}{af:Array Edge}{g:Option (Nat×Bool)}{r:RV}(hop:op = .move (.const v)∨op = .assign (.const v))(hd:d < n)(hc:bG (.const v) r) :
  Loc P n ⟨some d,op,ty,pos,af,g⟩ ⟨[],[],[(d,some r)],[],none⟩:=by
 intro h0 w0 Fz0 σ a w K Q h1 _ _ _ h5
 obtain ⟨φ,Fz,Fp,h⟩:=h1
 exact ez (LI hop) (h5 _ _ (h.put0 hd (hc _ _ _)))
def bi{v:Value}(h:v.oneCell'=true):bG (.const v) (RV.sc v):=fun _ _ _=>ce.of_sc h
def pk{t e:Nat}:bG (.const (.slice none 0 0)) (RV.slc (.own t e) []):=fun _ _ w=>
 ce.of_atom (p:=PV.sl (.own t e) []) ⟨[],[],World.ownsRow_nil w 0 t e,⟨rfl,rfl⟩,fun g hg=>by simp [Value.ownBlock] at hg,yl,fun g hg=>by simp [Value.ownBlock] at hg⟩
def Wc:bG (.const (.slice none 0 0)) (RV.slc .v []):=fun _ _ _=>
 ce.of_atom (p:=PV.sl .v []) ⟨⟨none,0,0,fun _ _=>undef,rfl,Nat.le_refl _,Nat.zero_le _,aM,.inl rfl,aM⟩,rfl⟩
def gJ{op:BinOp}{T T2:TypeId}{x y:Operand}{d:Nat}{ty:TypeId}{pos:String}{af:Array Edge}{g:Option (Nat×Bool)}{vx vy v:Value}(hd:d < n)(hx:bG x (RV.sc vx))(hy:bG y (RV.sc vy))(hv:v.oneCell'=true)
  (h:∀w:World,Sem.run P (do eqGuard op T x y vx vy;binOp op T vx vy:Sem Value) w = .ok v w) :
  Loc P n ⟨some d,.binOp op T x y T2,ty,pos,af,g⟩ ⟨bm x (RV.sc vx)++bm y (RV.sc vy),[],[(d,some (RV.sc v))],[],none⟩:=by
 intro h0 w0 Fz0 σ a w K Q h1 h2 _ _ h5
 obtain ⟨φ,Fz,Fp,hc⟩:=h1
 have ex:=hc.sc h2.left hx
 have ey:=hc.sc h2.right hy
 refine ez (v:=v) (w':=w) ?_ (h5 _ _ (hc.put0 hd (ce.of_sc hv)))
 unfold execOp
 simp only [ex,ey,Sem.run_bind,h,Result.andThen_ok,Sem.run_pure]
section
variable{T:TypeId}{x y:Operand}{i j:Int}{w:World}
def alW:Sem.run P (do eqGuard .lss T x y (vI i) (vI j);binOp .lss T (vI i) (vI j):Sem Value) w = .ok (.bool (decide (i < j))) w:=qB
def alX:Sem.run P (do eqGuard .leq T x y (vI i) (vI j);binOp .leq T (vI i) (vI j):Sem Value) w = .ok (.bool (decide (i≤j))) w:=qB
def alY:Sem.run P (do eqGuard .gtr T x y (vI i) (vI j);binOp .gtr T (vI i) (vI j):Sem Value) w = .ok (.bool (decide (i > j))) w:=qB
def alZ:Sem.run P (do eqGuard .geq T x y (vI i) (vI j);binOp .geq T (vI i) (vI j):Sem Value) w = .ok (.bool (decide (i≥j))) w:=qB
def al0:Sem.run P (do eqGuard .eql T x y (vI i) (vI j);binOp .eql T (vI i) (vI j):Sem Value) w = .ok (.bool (i==j)) w:=qB
def al1:Sem.run P (do eqGuard .neq T x y (vI i) (vI j);binOp .neq T (vI i) (vI j):Sem Value) w = .ok (.bool (i != j)) w:=qB
def al2:Sem.run P (do eqGuard .add T x y (vI i) (vI j);binOp .add T (vI i) (vI j):Sem Value) w = .ok (vI (IntKind.i64.wrap (i+j))) w:=KT
def al3:Sem.run P (do eqGuard .sub T x y (vI i) (vI j);binOp .sub T (vI i) (vI j):Sem Value) w = .ok (vI (IntKind.i64.wrap (i - j))) w:=KT
def al4:Sem.run P (do eqGuard .mul T x y (vI i) (vI j);binOp .mul T (vI i) (vI j):Sem Value) w = .ok (vI (IntKind.i64.wrap (i * j))) w:=KT
end
def ee(n:Int):Prop := -9223372036854775808≤n∧n≤9223372036854775807
section
variable{T T2:TypeId}{x y:Operand}{d:Nat}{ty:TypeId}{pos:String}{af:Array Edge}{g:Option (Nat×Bool)}{i j:Int}(hd:d < n)(hx:bG x (RV.int i))(hy:bG y (RV.int j))
include hd hx hy
def al5:Loc P n ⟨some d,.binOp .lss T x y T2,ty,pos,af,g⟩ ⟨bm x (RV.int i)++bm y (RV.int j),[],[(d,some (RV.bool (decide (i < j))))],[],none⟩:=gJ hd hx hy rfl fun _=>alW
def al6:Loc P n ⟨some d,.binOp .leq T x y T2,ty,pos,af,g⟩ ⟨bm x (RV.int i)++bm y (RV.int j),[],[(d,some (RV.bool (decide (i≤j))))],[],none⟩:=gJ hd hx hy rfl fun _=>alX
def al7:Loc P n ⟨some d,.binOp .gtr T x y T2,ty,pos,af,g⟩ ⟨bm x (RV.int i)++bm y (RV.int j),[],[(d,some (RV.bool (decide (i > j))))],[],none⟩:=gJ hd hx hy rfl fun _=>alY
def al8:Loc P n ⟨some d,.binOp .geq T x y T2,ty,pos,af,g⟩ ⟨bm x (RV.int i)++bm y (RV.int j),[],[(d,some (RV.bool (decide (i≥j))))],[],none⟩:=gJ hd hx hy rfl fun _=>alZ
def al9:Loc P n ⟨some d,.binOp .eql T x y T2,ty,pos,af,g⟩ ⟨bm x (RV.int i)++bm y (RV.int j),[],[(d,some (RV.bool (i==j)))],[],none⟩:=gJ hd hx hy rfl fun _=>al0
def ama:Loc P n ⟨some d,.binOp .neq T x y T2,ty,pos,af,g⟩ ⟨bm x (RV.int i)++bm y (RV.int j),[],[(d,some (RV.bool (i != j)))],[],none⟩:=gJ hd hx hy rfl fun _=>al1
def LJ(h:ee (i+j)):Loc P n ⟨some d,.binOp .add T x y T2,ty,pos,af,g⟩ ⟨bm x (RV.int i)++bm y (RV.int j),[],[(d,some (RV.int (i+j)))],[],none⟩:=
 gJ hd hx hy rfl fun _=>by rw [al2,IntWalk.i64_in _ h]
def amb(h:ee (i - j)):Loc P n ⟨some d,.binOp .sub T x y T2,ty,pos,af,g⟩ ⟨bm x (RV.int i)++bm y (RV.int j),[],[(d,some (RV.int (i - j)))],[],none⟩:=
 gJ hd hx hy rfl fun _=>by rw [al3,IntWalk.i64_in _ h]
def Wd(h:ee (i * j)):Loc P n ⟨some d,.binOp .mul T x y T2,ty,pos,af,g⟩ ⟨bm x (RV.int i)++bm y (RV.int j),[],[(d,some (RV.int (i * j)))],[],none⟩:=
 gJ hd hx hy rfl fun _=>by rw [al4,IntWalk.i64_in _ h]
end
def amc{T:TypeId}{x d:Nat}{ty:TypeId}{pos:String}{af:Array Edge}{g:Option (Nat×Bool)}{b:Bool}(hd:d < n) :
  Loc P n ⟨some d,.unOp .not T (.tmp x),ty,pos,af,g⟩ ⟨[(x,RV.bool b)],[],[(d,some (RV.bool !b))],[],none⟩:=by
 intro h0 w0 Fz0 σ a w K Q h1 h2 _ _ h5
 obtain ⟨φ,Fz,Fp,hc⟩:=h1
 have ex:=(hc.one_ h2.1).1
 refine ez (v:=.bool !b) (w':=w) ?_ (h5 _ _ (hc.put0 hd (ce.of_sc rfl)))
 unfold execOp
 simp [Act.eval,Op.unary,-Array.getD_eq_getD_getElem?,ex]
def We{c x y z:Operand}{d:Nat}{ty:TypeId}{pos:String}{af:Array Edge}{g:Option (Nat×Bool)}{b:Bool}{r:RV}(hd:d < n)(hb:(bif b then x else y)=z)(hc:bG c (RV.bool b))(hz:bG z r)(hcp:Cp r r) :
  Loc P n ⟨some d,.pick c x y,ty,pos,af,g⟩ ⟨bm c (RV.bool b)++bm z r,[],[(d,some r)],[],none⟩:=by
 intro h0 w0 Fz0 σ a w K Q h1 h2 _ _ h5
 obtain ⟨φ,Fz,Fp,h⟩:=h1
 have ec:=h.sc h2.left hc
 obtain ⟨F,hF⟩:=h.op h2.right hz
 refine ez (v:=a.eval z) (w':=w) ?_ (h5 _ _ (h.put0 hd (hcp hF)))
 unfold execOp
 subst hb
 cases b<;>simp [ec,asBool]
end
end
section
def dg(P:Program)(T:TypeId):Option (Bool×Nat):=match P.underlying T,P.info? T with
 | some d,some i=>some (match d with | .struct _=>true | .array _ _=>true|_=>false,i.size)
 | _,_=>none
def fI(P:Program)(T:TypeId):Option Value:=(P.info? T).bind (·.zero)
def fy(P:Program)(T:TypeId):Option (Nat×Nat×Nat):=match P.underlying T with
 | some (.slice E)=>(P.info? E).map fun i=>(E,i.size,i.bytes)
 | _=>none
def cd(P:Program)(T:TypeId)(f:Nat):Option Nat:=match P.underlying T with
 | some (.struct fs)=>match fs[f]? with
  | some fd=>match P.info? fd.type with
   | some i=>if i.size=0 then none else some fd.offset
   | none=>none
  | none=>none
 | _=>none
section
variable{P:Program}
def LK{T:TypeId}{ag:Bool}{k:Nat}(h:dg P T=some (ag,k))(w:World):(isAgg T).run P w = .ok ag w∧(sizeOf T).run P w = .ok k w:=by
 unfold dg at h
 cases hu:P.underlying T with
 | none=>rw [hu] at h;cases h
 | some d=>
  cases hi:P.info? T with
  | none=>rw [hu,hi] at h;cases h
  | some i=>
   rw [hu,hi] at h
   simp only [Option.some.injEq,Prod.mk.injEq] at h
   obtain ⟨h1,h2⟩:=h
   refine ⟨?_,by simp [sizeOf,typeInfo,hi,h2]⟩
   unfold isAgg
   simp only [Sem.run_bind,run_underlying hu,Result.andThen_ok]
   rw [←h1]
   cases d<;>rfl
def sy{T E k bs:Nat}(h:fy P T=some (E,k,bs)):P.underlying T=some (.slice E)∧∃i,P.info? E=some i∧i.size=k∧i.bytes=bs:=by
 unfold fy at h
 split at h
 ·rename_i E' hu
  cases hi:P.info? E' with
  | none=>rw [hi] at h;cases h
  | some i=>
   rw [hi] at h
   simp only [Option.map_some,Option.some.injEq,Prod.mk.injEq] at h
   obtain ⟨rfl,h1,h2⟩:=h
   exact ⟨hu,i,hi,h1,h2⟩
 ·cases h
def LL{T:TypeId}{z:Value}(h:fI P T=some z)(w:World):(zeroValue T).run P w = .ok z w:=by
 unfold fI at h
 cases hi:P.info? T with
 | none=>rw [hi] at h;cases h
 | some i=>
  rw [hi,Option.bind_some] at h
  simp [zeroValue,typeInfo,hi,h]
def Wf{T:TypeId}{f fo:Nat}(h:cd P T f=some fo)(w:World)(a:Addr):(Instr.fieldAt T (.pointer (some a)) f).run P w = .ok (.pointer (some (a.add fo))) w:=by
 unfold cd at h
 split at h
 ·rename_i fs hu
  split at h
  ·rename_i fd hf
   split at h
   ·rename_i i hi
    split at h
    ·cases h
    ·rename_i hs
     injection h with h
     subst h
     simp [Instr.fieldAt,run_underlying hu,hf,Instr.sureAddr,fieldPlace,sizeOf,typeInfo,hi,hs]
   ·cases h
  ·cases h
 ·cases h
def ow(b o k:Nat):(⟨b,o,none⟩:Addr).add k=⟨b,o+k,none⟩:=by
 unfold Addr.add
 by_cases h:k=0<;>simp [h]
def FJ{T:TypeId}{ag:Bool}{k:Nat}(h:dg P T=some (ag,k))(w:World)(b off:Nat)(vs:List Value)(hl:vs.length=k)(h1:ag=false→k=1)
  (hc:∀(j:Nat) u,vs[j]?=some u→w.cell? ⟨b,off+j,none⟩=some u) (hone:∀v,v∈vs→v.oneCell'=true):∃v,(loadVar T ⟨b,off,none⟩).run P w = .ok v w∧qI v=ag∧v.cells.toList=vs:=by
 obtain ⟨e1,e2⟩:=LK h w
 cases ag with
 | true=>
  refine ⟨.agg vs.toArray,?_,rfl,rfl⟩
  have e3:=run_loadCells_list (P:=P) w ⟨b,off,none⟩ vs (fun j v hv=>by rw [ow];exact hc j v hv)
  subst hl
  simp [loadVar,e1,e2,e3]
 | false=>
  have hk:=h1 rfl
  subst hk
  obtain ⟨v,rfl⟩:=List.length_eq_one_iff.1 hl
  obtain ⟨c1,c2⟩:=Wa (hone v aM)
  refine ⟨v,?_,c2,c1⟩
  have:=hc 0 v rfl
  rw [Nat.add_zero] at this
  simp [loadVar,e1,this]
end
section
variable{P:Program}{n:Nat}{ops:Array Oper}{h0:Nat→Prop}{w0:World}{Fz0:aA}{σ τ:St}{a:Act}{w:World}{φ:Nat→Nat}{Fz:aA}{Fp:Nat→List Nat}
def bC.eqv(h:bC h0 w0 Fz0 n σ a w)(hs:∀i,τ.s i=σ.s i)(hb:∀d,τ.b d=σ.b d):bC h0 w0 Fz0 n τ a w:=
 h.less (fun i rv hi=>by rw [←hs];exact hi) (fun d cs hd=>by rw [←hb];exact hd)
def bP.new(h:bP h0 w0 Fz0 n σ a w φ Fz Fp)(bU:Array Value)(T:TypeId)(k:Nat) :
  bP h0 w0 Fz0 n σ a (w.alloc (.cells bU T)) φ (fun b o=>Fz b o∨(b=w.heap.size∧o < k)) (fun x=>if x=0 then w.heap.size::Fp 0 else Fp x):=by
 have hs:(w.alloc (.cells bU T)).heap.size=w.heap.size+1:=aM
 refine h.world (w':=w.alloc (.cells bU T)) (Fz':=fun b o=>Fz b o∨(b=w.heap.size∧o < k)) rfl rfl rfl ab (fun b hb _=>⟨Below.heap_alloc w _ b hb,fun o ho=>?_⟩) (fun b o hbo=>⟨Or.inl hbo,?_⟩) (fun b o hbo=>?_) (fun b hb=>?_) ?_
 ·rcases ho with ho|⟨ho,_⟩
  ·exact ho
  ·omega
 ·exact World.cell?_of_block (Below.heap_alloc w _ b (h.fzl b o hbo))
 ·rcases hbo with hbo|⟨rfl,_⟩
  ·have:=h.fzl b o hbo;omega
  ·omega
 ·rcases List.mem_cons.1 hb with rfl|hb
  ·exact .inr ⟨Nat.le_refl _,ab⟩
  ·exact .inl hb
 ·exact List.nodup_cons.2 ⟨fun hm=>by have:=(h.low 0 _ hm).2;omega,h.nod 0⟩
def Wg(w:World)(Fz:aA)(bU:Array Value)(T:TypeId)(k:Nat)(hl:∀b o,Fz b o→b < w.heap.size):gX Fz w (fun b o=>Fz b o∨(b=w.heap.size∧o < k)) (w.alloc (.cells bU T)):=
 fun b o hbo=>⟨.inl hbo,World.cell?_of_block (Below.heap_alloc w _ b (hl b o hbo))⟩
def Wh(w:World)(Fz:aA)(bU:Array Value)(T:TypeId)(k:Nat){F:List Nat}(hF:∀b,b∈F→b < w.heap.size):ll F Fz w (fun b o=>Fz b o∨(b=w.heap.size∧o < k)) (w.alloc (.cells bU T)):=
 fun b hb=>⟨Below.heap_alloc w _ b (hF b hb),fun o ho=>by
  rcases ho with ho|⟨ho,_⟩
  ·exact ho
  ·have:=hF b hb;omega⟩
def bP.drop(h:bP h0 w0 Fz0 n σ a w φ Fz Fp)(d:Nat):bP h0 w0 Fz0 n (σ.setB d none) a w φ Fz Fp:=
 h.less (fun _ _ hi=>hi) (fun e cs he=>by
  rw [St.setB_b] at he
  split at he
  ·cases he
  ·exact he)
def ul(x:Operand):List (Nat×Option RV):=match x with | .tmp t=>[(t,none)]|_=>[]
def St.kill(σ:St)(x:Operand):St:=⟨bZ (ul x) σ.s,σ.b⟩
def bP.pullO(h:bP h0 w0 Fz0 n σ a w φ Fz Fp){x:Operand}{r:RV}(hr:bl (bm x r) σ.s)(hk:bG x r) :
  ∃F Fp',r.holds φ Fz w (a.eval x) F∧bP h0 w0 Fz0 n (σ.kill x) a w φ Fz Fp'∧Fp' 0=F++Fp 0:=by
 cases x with
 | tmp t=>exact ⟨_,_,h.slot t r hr.1,h.pull t,by unfold mv;rw [if_pos rfl]⟩
 | const v=>exact ⟨[],Fp,hk _ _ _,h,rfl⟩
 | global g=>exact hk.elim
 | func f=>exact ⟨[],Fp,hk _ _ _,h,rfl⟩
def fW{T d:Nat}{ty:TypeId}{pos:String}{af:Array Edge}{g:Option (Nat×Bool)}{z:Value}{zs:List PV}(hd:d < n)(hz:fI P T=some z)(hzs:∀{Fz:aA} {w:World},aP zs Fz w z.cells.toList []) :
  Loc P n ⟨some d,.alloc T,ty,pos,af,g⟩ ⟨[],[],[(d,some (RV.ptr d 0))],[(d,some (T,zs))],some d⟩:=by
 intro h0 w0 Fz0 σ a w K Q h1 _ _ h4 h5
 obtain ⟨φ,Fz,Fp,hc⟩:=h1
 have k:=(hc.drop d).new z.cells T 0
 have hF0:(fun x=>if x=0 then w.heap.size::Fp 0 else Fp x) 0=w.heap.size::Fp 0:=rfl
 have k2:=k.pushB (d:=d) (g:=w.heap.size) (cs:=zs) (F:=[]) (X:=Fp 0) nr (heap_alloc_new w _) hzs
  (fun o ho=>by
   rcases ho with ho|⟨_,ho⟩
   ·have:=hc.fzl _ _ ho;omega
   ·omega)
  (fun b hb=>hb) (by simpa using k.nod 0) (.inr (h4 d rfl))
 have k3:=k2.push (i:=d) (rv:=RV.ptr d 0) (v:=.pointer (some ⟨w.heap.size,0,none⟩)) (F:=[]) (X:=Fp 0) hd ⟨aM,rfl⟩
  UL (by simpa using hc.nod 0)
 refine ez (v:=.pointer (some ⟨w.heap.size,0,none⟩)) (w':=w.alloc (.cells z.cells T)) ?_ (h5 _ _ (bC.eqv ⟨_,_,_,k3⟩ (fun i=>rfl) (fun e=>?_)))
 ·unfold execOp
  simp [Instr.alloc,LL hz,newVar,newRow]
 ·show bZ [(d,some (T,zs))] σ.b e=_
  rw [St.set_b,St.setB_b,St.setB_b]
  simp only [bZ,beq_eq]
  by_cases he:e=d<;>simp [he]
def kG{T d:Nat}{x:Operand}{ty:TypeId}{pos:String}{af:Array Edge}{g:Option (Nat×Bool)}{ag:Bool}{cs:List PV}(hd:d < n)(hx:bG x (RV.sv ag cs)) :
  Loc P n ⟨some d,.box T x,ty,pos,af,g⟩ ⟨bm x (RV.sv ag cs),[],ul x++[(d,some (RV.ptr d 0))],[(d,some (T,cs))],some d⟩:=by
 intro h0 w0 Fz0 σ a w K Q h1 h2 _ h4 h5
 obtain ⟨φ,Fz,Fp,hc⟩:=h1
 obtain ⟨F,Fp',hv,hc',hF⟩:=hc.pullO h2 hx
 have hlt:=hv.2.lt
 have hfree:cV d (σ.kill x):=by
  cases x with
  | tmp t=>exact cV.app (L:=⟨[],[],[(t,none)],[],none⟩) (h4 d rfl) rfl
  | _=>exact h4 d rfl
 have k:=(hc'.drop d).new (a.eval x).cells T 0
 have hnd:=k.nod 0
 simp only [if_true,hF] at hnd
 have hnd':(F++w.heap.size::Fp 0).Nodup:=by
  rw [jl,df,eS] at hnd
  rw [df,jl]
  refine ⟨hnd.2.1,⟨fun hm=>hnd.1 (.inr hm),hnd.2.2.1⟩,fun u hu v hv e=>?_⟩
  rcases List.mem_cons.1 hv with rfl|hv
  ·exact hnd.1 (.inl (e▸hu))
  ·exact hnd.2.2.2 u hu v hv e
 have k2:=k.pushB (d:=d) (g:=w.heap.size) (cs:=cs) (F:=F) (X:=Fp 0) nr (heap_alloc_new w _)
  (hv.2.mono (Wg w Fz _ T 0 hc.fzl) (Wh w Fz _ T 0 hlt))
  (fun o ho=>by
   rcases ho with ho|⟨_,ho⟩
   ·have:=hc.fzl _ _ ho;omega
   ·omega)
  (fun b hb=>by
   simp only [if_true,hF]
   rcases List.mem_append.1 hb with hb|hb
   ·simp [hb]
   ·rcases List.mem_cons.1 hb with hb|hb<;>simp [hb]) hnd' (.inr hfree)
 have k3:=k2.push (i:=d) (rv:=RV.ptr d 0) (v:=.pointer (some ⟨w.heap.size,0,none⟩)) (F:=[]) (X:=Fp 0) hd ⟨aM,rfl⟩
  UL (by simpa using hc.nod 0)
 refine ez (v:=.pointer (some ⟨w.heap.size,0,none⟩)) (w':=w.alloc (.cells (a.eval x).cells T)) ?_ (h5 _ _ (bC.eqv ⟨_,_,_,k3⟩ (fun i=>?_) (fun e=>?_)))
 ·unfold execOp
  simp [Instr.box,newVar,newRow]
 ·cases x<;>rfl
 ·show bZ [(d,some (T,cs))] σ.b e=_
  rw [St.set_b,St.setB_b,St.setB_b]
  simp only [bZ,beq_eq]
  by_cases he:e=d
  ·simp [he]
  ·simp [he];cases x<;>rfl
def aP.seg{Fz:aA}{w:World}{cs:List PV}{vs:List Value}{F:List Nat}(h:aP cs Fz w vs F)(off k:Nat)(hk:off+k≤cs.length) :
  ∃F1 F2 F3,F=F1++(F2++F3)∧aP (cs.take off) Fz w (vs.take off) F1∧aP ((cs.drop off).take k) Fz w ((vs.drop off).take k) F2∧aP (cs.drop (off+k)) Fz w (vs.drop (off+k)) F3:=by
 have hl:=h.len
 have e1:cs=cs.take off++((cs.drop off).take k++cs.drop (off+k)):=by
  rw [←List.drop_drop,ic,ic]
 rw [e1] at h
 obtain ⟨v1,v2,F1,G,rfl,rfl,h1,h2⟩:=h.split
 obtain ⟨v3,v4,F2,F3,rfl,rfl,h3,h4⟩:=h2.split
 have l1:=h1.len
 have l3:=h3.len
 rw [cI] at l1
 rw [cI,lj] at l3
 have m1:v1.length=off:=ab
 have m3:v3.length=k:=ab
 have x1:(v1++(v3++v4)).take off=v1:=by rw [←m1,List.take_left]
 have x2:((v1++(v3++v4)).drop off).take k=v3:=by rw [←m1,List.drop_left,←m3,List.take_left]
 have x3:(v1++(v3++v4)).drop (off+k)=v4:=by rw [←List.drop_drop,←m1,List.drop_left,←m3,List.drop_left]
 rw [x1,x2,x3]
 exact ⟨F1,F2,F3,rfl,h1,h3,h4⟩
def jB{T d p b off t:Nat}{ty:TypeId}{pos:String}{af:Array Edge}{g:Option (Nat×Bool)}{ag:Bool}{k:Nat}{cs qs:List PV}(hd:d < n)(hT:dg P T=some (ag,k))(h1:ag=false→k=1)(hk:off+k≤cs.length)
  (ht:aJ ((cs.drop off).take k) qs) (hb:aF qs) :
  Loc P n ⟨some d,.load T (.tmp p),ty,pos,af,g⟩ ⟨[(p,RV.ptr b off)],[(b,(t,cs))],[(d,some (RV.sv ag qs))],[],none⟩:=by
 intro h0 w0 Fz0 σ a w K Q hc hr hrb _ h5
 obtain ⟨φ,Fz,Fp,hc⟩:=hc
 obtain ⟨ep,_⟩:=hc.slot p _ hr.1
 obtain ⟨cur,hg,ho⟩:=hc.box b _ hrb.1
 obtain ⟨F1,F2,F3,_,_,h2,_⟩:=ho.seg off k hk
 have hl:cur.toList.length=cs.length:=ho.len
 have hll:((cur.toList.drop off).take k).length=k:=VB
 obtain ⟨v,e1,e2,e3⟩:=FJ hT w (φ b) off ((cur.toList.drop off).take k) hll h1 (fun j u hu=>by
  rw [cell_of_row w (φ b) _ cur t (0,0) hg]
  have hj:j < k:=by rw [←hll];exact (List.getElem?_eq_some_iff.1 hu).1
  rw [List.getElem?_take_of_lt hj,List.getElem?_drop] at hu
  simpa using hu) h2.one
 refine ez (v:=v) (w':=w) ?_ (h5 _ _ (hc.put0 hd (r:=RV.sv ag qs) ⟨e2,by rw [e3];exact hb.own (ht.rel h2.rel)⟩))
 unfold execOp
 simp only [Act.eval,ep,Instr.loadAt,Instr.sureAddr,Sem.run_bind,Sem.run_pure,Result.andThen_ok,e1]
def eN{T d p b off t:Nat}{ty:TypeId}{pos:String}{af:Array Edge}{g:Option (Nat×Bool)}{ag:Bool}{k:Nat}{cs ms qs:List PV}(hd:d < n)(hT:dg P T=some (ag,k))(h1:ag=false→k=1)(hk:off+k≤cs.length)
  (hm:(cs.drop off).take k=ms) (ht:aJ ms qs) (hb:aF qs) :
  Loc P n ⟨some d,.load T (.tmp p),ty,pos,af,g⟩ ⟨[(p,RV.ptr b off)],[(b,(t,cs))],[(d,some (RV.sv ag ms))],[(b,some (t,cs.take off++(qs++cs.drop (off+k))))],none⟩:=by
 intro h0 w0 Fz0 σ a w K Q hc hr hrb _ h5
 obtain ⟨φ,Fz,Fp,hc⟩:=hc
 subst hm
 obtain ⟨ep,_⟩:=hc.slot p _ hr.1
 obtain ⟨cur,hg,ho⟩:=hc.box b _ hrb.1
 obtain ⟨F1,F2,F3,eF,o1,o2,o3⟩:=ho.seg off k hk
 have hl:cur.toList.length=cs.length:=ho.len
 have hll:((cur.toList.drop off).take k).length=k:=VB
 obtain ⟨v,e1,e2,e3⟩:=FJ hT w (φ b) off ((cur.toList.drop off).take k) hll h1 (fun j u hu=>by
  rw [cell_of_row w (φ b) _ cur t (0,0) hg]
  have hj:j < k:=by rw [←hll];exact (List.getElem?_eq_some_iff.1 hu).1
  rw [List.getElem?_take_of_lt hj,List.getElem?_drop] at hu
  simpa using hu) o2.one
 obtain ⟨k1,k2,k3⟩:=hc.bxb b _ hrb.1
 have c1:=hc.pullB hrb.1
 have hX0:(fun x=>if x=0 then φ b::mv Fp (2 * b+2) 0 else mv Fp (2 * b+2) x) 0=φ b::(Fp (2 * b+2)++Fp 0):=go
 have hn0:(φ b::(Fp (2 * b+2)++Fp 0)).Nodup:=KW
 rw [eF] at hn0 hX0
 simp only [jl,df,eS,not_or] at hn0
 obtain ⟨⟨⟨g1,g2,g3⟩,g4⟩,⟨n1,⟨n2,n3,n23⟩,n123⟩,n4,nx⟩:=hn0
 have hX:∀x,x∈φ b::(F1++(F2++F3)++Fp 0)→x∈(fun x=>if x=0 then φ b::mv Fp (2 * b+2) 0 else mv Fp (2 * b+2) x) 0:=fun x hx=>by rw [hX0];exact hx
 have c2:=c1.pushB (d:=b) (g:=φ b) (cs:=cs.take off++(qs++cs.drop (off+k))) (F:=F1++([]++F3)) (X:=F2) nr hg
  (by
   have:=o1.append ((hb.own (ht.rel o2.rel)).append o3)
   rwa [show cur.toList.take off++((cur.toList.drop off).take k++cur.toList.drop (off+k))=cur.toList by rw [←List.drop_drop,ic,ic]] at this) k2
  (by
   intro x hx
   refine hX x ?_
   simp only [eS,kz,List.nil_append] at hx ⊢
   rcases hx with (hx|hx)|hx|hx<;>simp [hx])
  (by
   simp only [List.nil_append,df,jl,eS,kz]
   refine ⟨⟨n1,n3,fun u hu v hv=>n123 u hu v (.inr hv)⟩,⟨g2,n2⟩,fun u hu v hv e=>?_⟩
   subst e
   rcases hu with hu|hu<;>rcases hv with hv|hv
   ·subst hv;exact g1 hu
   ·exact n123 u hu u (.inl hv) rfl
   ·subst hv;exact g3 hu
   ·exact n23 u hv u hu rfl) (.inl rfl)
 have hφ:(fun x=>if x=b then φ b else φ x)=φ:=by
  funext x
  by_cases hx:x=b<;>simp [hx]
 rw [hφ] at c2
 have c3:=c2.push (i:=d) (rv:=RV.sv ag ((cs.drop off).take k)) (v:=v) (F:=F2) (X:=[]) hd ⟨e2,by rw [e3];exact o2⟩
  (by intro x hx;simp [dz] at hx ⊢;exact hx) (by simpa using n2)
 refine ez (v:=v) (w':=w) ?_ (h5 _ _ (bC.eqv ⟨_,_,_,c3⟩ (fun i=>rfl) (fun e=>?_)))
 ·unfold execOp
  simp only [Act.eval,ep,Instr.loadAt,Instr.sureAddr,Sem.run_bind,Sem.run_pure,Result.andThen_ok,e1]
 ·show bZ [(b,some _)] σ.b e=_
  rw [St.set_b,St.setB_b,St.setB_b]
  simp only [bZ,beq_eq]
  by_cases he:e=b<;>simp [he]
def sz{T d p:Nat}{ty:TypeId}{pos:String}{af:Array Edge}{g:Option (Nat×Bool)}{ag:Bool}{k:Nat}{cs qs:List PV}(hd:d < n)(hT:dg P T=some (ag,k))(h1:ag=false→k=1)(hk:k≤cs.length)
  (ht:aJ (cs.take k) qs) (hb:aF qs) :
  Loc P n ⟨some d,.load T (.tmp p),ty,pos,af,g⟩ ⟨[(p,RV.eptr cs)],[],[(d,some (RV.sv ag qs))],[],none⟩:=by
 intro h0 w0 Fz0 σ a w K Q hc hr hrb _ h5
 obtain ⟨φ,Fz,Fp,hc⟩:=hc
 obtain ⟨⟨b,off,vs,ep,hrel,hcell⟩,_⟩:=hc.slot p _ hr.1
 have hl:=hrel.len
 have hrel':ci (cs.take k) Fz w (vs.take k):=by
  have e:cs=cs.take k++cs.drop k:=(ic _ _).symm
  rw [e] at hrel
  obtain ⟨v1,v2,rfl,r1,_⟩:=hrel.split
  have:=r1.len
  rw [cI] at this
  rw [show v1=(v1++v2).take k by rw [show k=v1.length by omega,List.take_left]] at r1
  exact r1
 obtain ⟨v,e1,e2,e3⟩:=FJ hT w b off (vs.take k) fb h1 (fun j u hu=>by
  have hj:j < k:=by have:=(List.getElem?_eq_some_iff.1 hu).1;rw [cI] at this;omega
  rw [List.getElem?_take_of_lt hj] at hu
  exact (hcell j u hu).2) hrel'.one
 refine ez (v:=v) (w':=w) ?_ (h5 _ _ (hc.put0 hd (r:=RV.sv ag qs) ⟨e2,by rw [e3];exact hb.own (ht.rel hrel')⟩))
 unfold execOp
 simp only [Act.eval,ep,Instr.loadAt,Instr.sureAddr,Sem.run_bind,Sem.run_pure,Result.andThen_ok,e1]
def FK{T d p b off f fo:Nat}{ty:TypeId}{pos:String}{af:Array Edge}{g:Option (Nat×Bool)}(hd:d < n)(hT:cd P T f=some fo) :
  Loc P n ⟨some d,.fieldAddr T (.tmp p) f,ty,pos,af,g⟩ ⟨[(p,RV.ptr b off)],[],[(d,some (RV.ptr b (off+fo)))],[],none⟩:=by
 intro h0 w0 Fz0 σ a w K Q hc hr hrb _ h5
 obtain ⟨φ,Fz,Fp,hc⟩:=hc
 obtain ⟨ep,_⟩:=hc.slot p _ hr.1
 refine ez (v:=.pointer (some ⟨φ b,off+fo,none⟩)) (w':=w) ?_ (h5 _ _ (hc.put0 hd ⟨rfl,rfl⟩))
 unfold execOp
 simp only [Act.eval,ep,Sem.run_bind,Wf hT,Result.andThen_ok,Sem.run_pure,ow]
def cR{T d p f fo:Nat}{ty:TypeId}{pos:String}{af:Array Edge}{g:Option (Nat×Bool)}{cs:List PV}(hd:d < n)(hT:cd P T f=some fo)(hf:fo≤cs.length) :
  Loc P n ⟨some d,.fieldAddr T (.tmp p) f,ty,pos,af,g⟩ ⟨[(p,RV.eptr cs)],[],[(d,some (RV.eptr (cs.drop fo)))],[],none⟩:=by
 intro h0 w0 Fz0 σ a w K Q hc hr hrb _ h5
 obtain ⟨φ,Fz,Fp,hc⟩:=hc
 obtain ⟨⟨b,off,vs,ep,hrel,hcell⟩,_⟩:=hc.slot p _ hr.1
 have hl:=hrel.len
 refine ez (v:=.pointer (some ⟨b,off+fo,none⟩)) (w':=w) ?_ (h5 _ _ (hc.put0 hd ⟨⟨b,off+fo,vs.drop fo,rfl,?_,fun j u hu=>?_⟩,rfl⟩))
 ·unfold execOp
  simp only [Act.eval,ep,Sem.run_bind,Wf hT,Result.andThen_ok,Sem.run_pure,ow]
 ·have e:cs=cs.take fo++cs.drop fo:=(ic _ _).symm
  rw [e] at hrel
  obtain ⟨v1,v2,rfl,r1,r2⟩:=hrel.split
  have:=r1.len
  rw [cI] at this
  rw [show fo=v1.length by omega,List.drop_left]
  rw [show v1.length=fo by omega];exact r2
 ·rw [List.getElem?_drop] at hu
  rw [show off+fo+j=off+(fo+j) by omega]
  exact hcell _ u hu
def bV{T p b off t:Nat}{x:Operand}{ty:TypeId}{pos:String}{af:Array Edge}{g:Option (Nat×Bool)}{ag:Bool}{k:Nat}{cs vs:List PV}(hT:dg P T=some (ag,k))(hx:bG x (RV.sv ag vs))(hv:vs.length=k)(hk:off+k≤cs.length) :
  Loc P n ⟨none,.store T (.tmp p) x,ty,pos,af,g⟩ ⟨(p,RV.ptr b off)::bm x (RV.sv ag vs),[(b,(t,cs))],ul x,[(b,some (t,cs.take off++(vs++cs.drop (off+k))))],none⟩:=by
 intro h0 w0 Fz0 σ a w K Q hc hr hrb _ h5
 obtain ⟨φ,Fz,Fp,hc⟩:=hc
 obtain ⟨ep,_⟩:=hc.slot p _ hr.1
 obtain ⟨Fx,Fp',hxv,hc',hF⟩:=hc.pullO hr.2 hx
 have hbs:(σ.kill x).b b=some (t,cs):=hrb.1
 obtain ⟨cur,hg,ho⟩:=hc'.box b _ hbs
 obtain ⟨k1,k2,k3⟩:=hc'.bxb b _ hbs
 obtain ⟨F1,F2,F3,eF,o1,o2,o3⟩:=ho.seg off k hk
 have hl:cur.toList.length=cs.length:=ho.len
 have hxl:=hxv.2.len
 have c1:=hc'.pullB hbs
 have hX0:(fun x=>if x=0 then φ b::mv Fp' (2 * b+2) 0 else mv Fp' (2 * b+2) x) 0=φ b::(Fp' (2 * b+2)++(Fx++Fp 0)):=by simp [mv,hF]
 have hn0:(φ b::(Fp' (2 * b+2)++(Fx++Fp 0))).Nodup:=KW
 rw [eF] at hn0 hX0
 simp only [jl,df,eS,not_or] at hn0
 obtain ⟨⟨⟨g1,g2,g3⟩,g4,g5⟩,⟨n1,⟨n2,n3,n23⟩,n123⟩,⟨n4,n5,n45⟩,nx⟩:=hn0
 have hX:∀i,i∈φ b::(F1++(F2++F3)++(Fx++Fp 0))→i∈(fun x=>if x=0 then φ b::mv Fp' (2 * b+2) 0 else mv Fp' (2 * b+2) x) 0:=fun x hx=>by rw [hX0];exact hx
 generalize hcur:(cur.toList.take off++(a.eval x).cells.toList++cur.toList.drop (off+k)).toArray=cur'
 have hw:(w.setRow (φ b) cur').heap.size=w.heap.size:=size_setRow _ _ _
 have hset:(w.setRow (φ b) cur').heap[φ b]?=some (.cells cur' t (0,0)):=setRow_heap w (φ b) cur _ t _ hg
 have hoth:∀i,i≠φ b→(w.setRow (φ b) cur').heap[i]?=w.heap[i]?:=fun i hi=>setRow_other w (φ b) i _ hi
 have hkeep:gX Fz w Fz (w.setRow (φ b) cur'):=fun i o hio=>⟨hio,World.cell?_of_block (hoth i fun e=>k2 o (e▸hio))⟩
 have c2:=c1.world (w':=w.setRow (φ b) cur') (Fz':=Fz) (X:=φ b::(F1++(F2++F3)++(Fx++Fp 0))) rfl rfl rfl ab
  (fun i hi hi0=>⟨hoth i fun e=>hi0 (hX i yo),fun o ho=>ho⟩) hkeep (fun i o hio=>by rw [hw];exact hc'.fzl i o hio)
  (fun i hi=>.inl (hX i hi)) KW
 have hm:∀(G:List Nat),(∀i,i∈G→i≠φ b)→ll G Fz w Fz (w.setRow (φ b) cur'):=fun G hG i hi=>⟨hoth i (hG i hi),fun _ h=>h⟩
 have c3:=c2.pushB (d:=b) (g:=φ b) (cs:=cs.take off++(vs++cs.drop (off+k))) (F:=F1++(Fx++F3)) (X:=[]) nr hset
  (by
   have e9:cur'.toList=cur.toList.take off++((a.eval x).cells.toList++cur.toList.drop (off+k)):=by rw [←hcur,bB]
   rw [e9]
   exact (o1.mono hkeep (hm _ fun i hi e=>g1 (e▸hi))).append ((hxv.2.mono hkeep (hm _ fun i hi e=>g4 (e▸hi))).append (o3.mono hkeep (hm _ fun i hi e=>g3 (e▸hi))))) k2
  (by
   intro i hi
   simp only [if_true]
   simp only [eS,kz] at hi ⊢
   rcases hi with (hi|hi|hi)|hi|hi
   ·exact .inr (.inl (.inl hi))
   ·exact .inr (.inr (.inl hi))
   ·exact .inr (.inl (.inr (.inr hi)))
   ·exact .inl hi
   ·cases hi)
  (by
   simp only [df,jl,eS,kz]
   refine ⟨⟨n1,⟨n4,n3,fun u hu v hv e=>nx v (.inr (.inr hv)) u (.inl hu) e.symm⟩,fun u hu v hv e=>?_⟩,⟨aM,List.nodup_nil⟩,fun u hu v hv e=>?_⟩
   ·rcases hv with hv|hv
    ·exact nx u (.inl hu) v (.inl hv) e
    ·exact n123 u hu v (.inr hv) e
   ·rcases hv with hv|hv
    ·subst e;subst hv
     rcases hu with hu|hu|hu
     ·exact g1 hu
     ·exact g4 hu
     ·exact g3 hu
    ·cases hv) (.inl rfl)
 refine alU (w':=w.setRow (φ b) cur') ?_ (h5 _ _ (bC.eqv ⟨_,_,_,c3⟩ (fun i=>rfl) (fun e=>?_)))
 ·unfold execOp
  have e2:=(LK hT w).2
  have e3:=run_storeCells_at P (φ b) off t (a.eval x).cells.toList 0 cur w hg (by rw [hxl,hv];have:cur.toList.length=cur.size:=aM;omega) (fun v hv=>hxv.2.one v hv)
  have e4:(a.eval x).cells.size=k:=by rw [←Array.length_toList,hxl,hv]
  have e5:(a.eval x).cells.toList.length=k:=by rw [hxl,hv]
  rw [Nat.add_zero,e5,hcur] at e3
  have ep':a.eval (.tmp p) = .pointer (some ⟨φ b,off,none⟩):=ep
  simp only [ep',Instr.storeAt,Instr.sureAddr,storeVar,Sem.run_bind,Sem.run_pure,Result.andThen_ok,e2,e4,ne_eq,not_true_eq_false,if_false,e3]
 ·show bZ [(b,some _)] σ.b e=_
  rw [St.setB_b,St.setB_b]
  simp only [bZ,beq_eq]
  by_cases he:e=b<;>simp [he];cases x<;>rfl
end
end
section
section
variable{P:Program}{n:Nat}{ops:Array Oper}{h0:Nat→Prop}{w0:World}{Fz0:aA}{σ τ:St}{a:Act}{w:World}{φ:Nat→Nat}{Fz:aA}{Fp:Nat→List Nat}
def bP.slrel(h:bP h0 w0 Fz0 n σ a w φ Fz Fp){s:Nat}{o:Fl}{es:List (List PV)}(hs:σ.s s=some (RV.slc o es)):qH es Fz w (a.tmps.getD s undef):=
 ((PV.sl o es).toRel (ce.atom (h.slot s _ hs))).1
def aZ{T E e bs d s k:Nat}{i:Operand}{ty:TypeId}{pos:String}{af:Array Edge}{g:Option (Nat×Bool)}{o:Fl}{es:List (List PV)}{cs:List PV}{q:Int}(hd:d < n)(hT:fy P T=some (E,e,bs))
  (hi:bG i (RV.int q)) (hq:q=(k:Int)) (hk:es[k]?=some cs) (he:cs.length=e) :
  Loc P n ⟨some d,.indexAddr T (.tmp s) i,ty,pos,af,g⟩ ⟨(s,RV.slc o es)::bm i (RV.int q),[],[(d,some (RV.eptr cs))],[],none⟩:=by
 intro h0 w0 Fz0 σ a w K Q hc hr _ _ h5
 obtain ⟨φ,Fz,Fp,hc⟩:=hc
 subst hq
 have ei:=hc.sc hr.2 hi
 obtain ⟨ad,c,e',u,ev,h1,h2,h3,h4,h6⟩:=hc.slrel hr.1
 have hlt:k < es.length:=(List.getElem?_eq_some_iff.1 hk).1
 have hee:e'=e:=by rw [←he];exact (h3 cs (List.mem_of_getElem? hk)).symm
 subst hee
 rcases h4 with h4|⟨b,off,rfl,h4⟩
 ·rw [h4] at hlt;simp at hlt
 obtain ⟨hu,inf,hinf,hsz,_⟩:=sy hT
 refine ez (v:=.pointer (some ⟨b,off+k * e',none⟩)) (w':=w) ?_ (h5 _ _ (hc.put0 hd ⟨⟨b,off+k * e',(List.range e').map (u k),rfl,?_,fun j x hx=>?_⟩,rfl⟩))
 ·unfold execOp
  have es':a.eval (.tmp s) = .slice (some ⟨b,off,none⟩) es.length c:=ev
  have hlt':(0:Int)≤(k:Int)∧(k:Int) < (es.length:Int):=ab
  simp only [es',ei,Instr.indexAt,asIntOf,Sem.run_bind,Sem.run_pure,Result.andThen_ok,run_underlying hu]
  simp [hlt',sizeOf,typeInfo,hinf,hsz,ow]
 ·refine ci.of_at (by simp [he]) fun j p v hp hv=>?_
  have hj:j < e':=by rw [←he];exact (List.getElem?_eq_some_iff.1 hp).1
  simp [hj] at hv
  subst hv
  exact h6 k cs j p hk hp
 ·have hj:j < e':=by have:=(List.getElem?_eq_some_iff.1 hx).1;simpa using this
  simp [hj] at hx
  subst hx
  rw [Nat.add_assoc]
  exact h4 k j hlt hj
def amd{T E e bs d s m:Nat}{ty:TypeId}{pos:String}{af:Array Edge}{g:Option (Nat×Bool)}{o:Fl}{es:List (List PV)}(hd:d < n)(hT:fy P T=some (E,e,bs))(hm:es.length=m) :
  Loc P n ⟨some d,.call { callee:=.builtin .len,args := #[.tmp s],argTypes := #[T] },ty,pos,af,g⟩ ⟨[(s,RV.slc o es)],[],[(d,some (RV.int (m:Int)))],[],none⟩:=by
 intro h0 w0 Fz0 σ a w K Q hc hr _ _ h5
 obtain ⟨φ,Fz,Fp,hc⟩:=hc
 obtain ⟨ad,c,e',u,ev,_⟩:=hc.slrel hr.1
 obtain ⟨hu,_⟩:=sy hT
 subst hm
 refine ez (v:=.int .i64 (es.length:Int)) (w':=w) ?_ (h5 _ _ (hc.put0 hd (ce.of_sc rfl)))
 have es':a.eval (.tmp s) = .slice ad es.length c:=ev
 unfold execOp
 simp [resolve,invoke,builtin,es',Builtin.len_,run_underlying hu,goInt]
def ame{T d s:Nat}{ty:TypeId}{pos:String}{af:Array Edge}{g:Option (Nat×Bool)}{b:ByteArray}(hd:d < n)(hT:P.underlying T=some .string) :
  Loc P n ⟨some d,.call { callee:=.builtin .len,args := #[.tmp s],argTypes := #[T] },ty,pos,af,g⟩ ⟨[(s,RV.sc (.string b))],[],[(d,some (RV.int (b.size:Int)))],[],none⟩:=by
 intro h0 w0 Fz0 σ a w K Q hc hr _ _ h5
 obtain ⟨φ,Fz,Fp,hc⟩:=hc
 have es':a.eval (.tmp s) = .string b:=(hc.one_ hr.1).1
 refine ez (v:=.int .i64 (b.size:Int)) (w':=w) ?_ (h5 _ _ (hc.put0 hd (ce.of_sc rfl)))
 unfold execOp
 simp [resolve,invoke,builtin,es',Builtin.len_,run_underlying hT,goInt]
def bC.lenle{s:Nat}{o:Fl}{es:List (List PV)}(h:bC h0 w0 Fz0 n σ a w)(hs:σ.s s=some (RV.slc o es)):es.length≤9223372036854775807:=by
 obtain ⟨φ,Fz,Fp,h⟩:=h
 obtain ⟨ad,c,e',u,ev,h1,h2,_⟩:=h.slrel hs
 unfold maxLen at h2;omega
def kH:List Operand→List (Bool×List PV)→List (Nat×RV)
 | x::xs,q::qs=>bm x (RV.sv q.1 q.2)++kH xs qs
 | _,_=>[]
def mE:List Operand→List (Bool×List PV)→Prop
 | [],[]=>True
 | x::xs,q::qs=>bG x (RV.sv q.1 q.2)∧mE xs qs
 | _,_=>False
def ny:List Operand→List (Nat×Option RV)
 | []=>[]
 | x::xs=>ul x++ny xs
def lT:List Operand→List Nat
 | []=>[]
 | .tmp t::xs=>t::lT xs
 | _::xs=>lT xs
def FL(xs:List Operand):Bool:=decide ((lT xs).Nodup)
def Bo{β:Type}:∀(l m:List (Nat×β)) (f:Nat→β),bZ (l++m) f=bZ m (bZ l f)
 | [],_,_=>rfl
 | (k,v)::l,m,f=>by rw [List.cons_append,bZ,bZ,Bo]
def Wi{x:Operand}:∀{xs:List Operand} {qs:List (Bool×List PV)},(∀t,x = .tmp t→t∉lT xs)→bl (kH xs qs) σ.s→bl (kH xs qs) (σ.kill x).s
 | [],[],_,_=>True.intro
 | [],_::_,_,_=>True.intro
 | _::_,[],_,_=>True.intro
 | y::xs,q::qs,hx,h=>by
  have ih:=Wi (x:=x) (xs:=xs) (qs:=qs) (fun t ht hm=>hx t ht (by cases y<;>simp [lT,hm])) h.right
  refine bl.of_mem fun p hp=>?_
  rcases List.mem_append.1 hp with hp|hp
  ·have h1:=h.left.mem p hp
   cases y with
   | tmp u=>
    simp [bm] at hp
    subst hp
    cases x with
    | tmp t=>
     have hne:u≠t:=fun e=>hx t rfl (by simp [lT,e])
     show (bif Nat.beq u t then none else σ.s u)=_
     rw [beq_eq,decide_eq_false hne];exact h1
    | _=>exact h1
   | _=>simp [bm] at hp
  ·exact ih.mem p hp
def bP.pulls:∀(xs:List Operand) (qs:List (Bool×List PV)) {σ:St} {Fp:Nat→List Nat},bP h0 w0 Fz0 n σ a w φ Fz Fp→bl (kH xs qs) σ.s→mE xs qs→(lT xs).Nodup →
  ∃F Fp',eT qs Fz w (xs.map a.eval) F∧bP h0 w0 Fz0 n ⟨bZ (ny xs) σ.s,σ.b⟩ a w φ Fz Fp'∧(∀b,b∈Fp' 0↔b∈F++Fp 0)∧(F++Fp 0).Nodup
 | [],[],σ,Fp,h,_,_,_=>⟨[],Fp,⟨rfl,rfl⟩,h,aM,by simpa using h.nod 0⟩
 | [],_::_,_,_,_,_,hk,_=>hk.elim
 | _::_,[],_,_,_,_,hk,_=>hk.elim
 | x::xs,q::qs,σ,Fp,h,hr,hk,hn=>by
  obtain ⟨Fx,Fp1,hv,h1,e1⟩:=h.pullO hr.left hk.1
  have hn':(lT xs).Nodup∧∀t,x = .tmp t→t∉lT xs:=by
   cases x with
   | tmp t=>exact ⟨(List.nodup_cons.1 hn).2,fun u hu=>by injection hu with hu;rw [←hu];exact (List.nodup_cons.1 hn).1⟩
   | _=>exact ⟨hn,fun u hu=>by cases hu⟩
  obtain ⟨F,Fp',hT,h2,hm,hnd⟩:=bP.pulls xs qs h1 (Wi hn'.2 hr.right) hk.2 hn'.1
  refine ⟨Fx++F,Fp',⟨_,_,Fx,F,rfl,rfl,hv,hT⟩,?_,fun b=>?_,?_⟩
  ·have:bZ (ny (x::xs)) σ.s=bZ (ny xs) (σ.kill x).s:=Bo _ _ _
   rw [this];exact h2
  ·rw [hm,e1]
   simp only [eS]
   constructor
   ·rintro (h|h|h)<;>simp [h]
   ·rintro ((h|h)|h)<;>simp [h]
  ·rw [e1] at hnd
   have hp:(Fx++F++Fp 0).Perm (F++(Fx++Fp 0)):=by
    rw [←bB]
    exact (lR).append_right _
   exact hp.nodup_iff.2 hnd
def um(place:Nat→Option (Nat×Nat)):List PV→List (Nat×List PV)→Option (List PV)
 | cs,[]=>some cs
 | cs,(i,q)::rest=>match place i with
  | none=>none
  | some (off,size)=>if q.length≠size∨off+q.length > cs.length then none else um place (cs.take off++(q++cs.drop (off+q.length))) rest
def amf(off:Nat):∀(vs:List Value) (k:Nat) (cells:Array Value),off+k+vs.length≤cells.size →
  ((vs.zipIdx k).foldl (fun cs p=>cs.setIfInBounds (off+p.2) p.1) cells).toList=cells.toList.take (off+k)++(vs++cells.toList.drop (off+k+vs.length)):=by
 intro vs
 induction vs with
 | nil=>intro k cells _;simp
 | cons v vs ih=>
  intro k cells h
  simp only [List.length_cons] at h
  rw [List.zipIdx_cons,List.foldl_cons,ih _ _ iV]
  simp only [Array.toList_setIfInBounds,List.length_cons]
  rw [show off+(k+1)=off+k+1 by omega,List.take_set,cU iV,List.drop_set_of_lt ab,List.set_append_right _ _ iV]
  have:off+k - (List.take (off+k) cells.toList).length=0:=iV
  rw [this]
  simp only [List.set_cons_zero,bB,List.cons_append,List.nil_append]
  rw [show off+k+1+vs.length=off+k+(vs.length+1) by omega]
def LM(place:Nat→Option (Nat×Nat)):∀(is:List Nat) (qs:List (Bool×List PV)) (vs:List Value) (cs cs':List PV) (cells:Array Value) (F G:List Nat),is.length=qs.length →
  aP cs Fz w cells.toList F→eT qs Fz w vs G→(F++G).Nodup→um place cs (is.zip (qs.map (·.2)))=some cs' →
  ∃cells' F',Instr.fill place cells (is.zip vs)=some cells'∧aP cs' Fz w cells'.toList F'∧F'.Nodup∧∀b,b∈F'→b∈F++G
 | [],[],vs,cs,cs',cells,F,G,_,ho,_,hn,hf=>by
  injection hf with hf
  subst hf
  exact ⟨cells,F,by simp [Instr.fill],ho,(List.nodup_append.1 hn).1,fun b hb=>by simp [hb]⟩
 | [],_::_,_,_,_,_,_,_,hl,_,_,_,_=>by simp at hl
 | _::_,[],_,_,_,_,_,_,hl,_,_,_,_=>by simp at hl
 | i::is,q::qs,vs,cs,cs',cells,F,G,hl,ho,hT,hn,hf=>by
  obtain ⟨v,vs',G1,G2,rfl,rfl,hv,hT'⟩:=hT
  have hvl:=hv.2.len
  have hol:=ho.len
  simp only [List.map_cons,List.zip_cons_cons,um] at hf
  cases hp:place i with
  | none=>rw [hp] at hf;cases hf
  | some os=>
   obtain ⟨off,size⟩:=os
   rw [hp] at hf
   simp only at hf
   split at hf
   ·cases hf
   ·rename_i hc
    have hc1:q.2.length=size:=ab
    have hc2:off+q.2.length≤cs.length:=ab
    obtain ⟨F1,F2,F3,rfl,o1,o2,o3⟩:=ho.seg off q.2.length hc2
    have hvs:v.cells.size=q.2.length:=by rw [←hvl];simp
    have hcl:cells.size=cs.length:=by rw [←hol];simp
    have e:=amf off v.cells.toList 0 cells (by rw [hvl,hcl];omega)
    rw [Nat.add_zero,hvl] at e
    simp only [df,eS] at hn
    obtain ⟨⟨n1,⟨n2,n3,n23⟩,n123⟩,⟨m1,m2,m12⟩,nm⟩:=hn
    obtain ⟨cells',F',k1,k2,k3,k4⟩:=LM place is qs vs' _ cs' (v.cells.zipIdx.foldl (fun cs p=>cs.setIfInBounds (off+p.2) p.1) cells) (F1++(G1++F3)) G2 ym
     (by
      have e':(v.cells.zipIdx.foldl (fun cs p=>cs.setIfInBounds (off+p.2) p.1) cells).toList=cells.toList.take off++(v.cells.toList++cells.toList.drop (off+q.2.length)):=by
       rw [←e,←Array.foldl_toList];congr 2;simp
      rw [e']
      exact o1.append (hv.2.append o3)) hT'
     (by
      simp only [df,eS]
      refine ⟨⟨n1,⟨m1,n3,fun u hu x hx e=>nm x (.inr (.inr hx)) u (.inl hu) e.symm⟩,fun u hu x hx e=>?_⟩,m2,fun u hu x hx e=>?_⟩
      ·rcases hx with hx|hx
       ·exact nm u (.inl hu) x (.inl hx) e
       ·exact n123 u hu x (.inr hx) e
      ·rcases hu with hu|hu|hu
       ·exact nm u (.inl hu) x (.inr hx) e
       ·exact m12 u hu x hx e
       ·exact nm u (.inr (.inr hu)) x (.inr hx) e) hf
    refine ⟨cells',F',?_,k2,k3,fun b hb=>?_⟩
    ·rw [List.zip_cons_cons,Instr.fill,hp]
     simp only
     rw [if_neg (by rw [hvs,hcl];simp;omega)]
     exact k1
    ·have:=k4 b hb
     simp only [eS] at this ⊢
     rcases this with (h|h|h)|h<;>simp [h]
def eA(P:Program)(T:TypeId):Option (List (Nat×Nat)):=match P.underlying T with
 | some (.struct fs)=>fs.toList.mapM fun f=>(P.info? f.type).map fun i=>(f.offset,i.size)
 | _=>none
def Wj{β γ:Type}(f:β→Sem γ)(g:β→Option γ)(hfg:∀x y,g x=some y→∀w,(f x).run P w = .ok y w):∀(l:List β) (ys:List γ),l.mapM g=some ys→∀w,(l.mapM f).run P w = .ok ys w
 | [],ys,h,w=>by simp at h;subst h;simp
 | x::l,ys,h,w=>by
  rw [List.mapM_cons] at h
  cases hx:g x with
  | none=>rw [hx] at h;simp at h
  | some y=>
   rw [hx] at h
   cases hl:l.mapM g with
   | none=>rw [hl] at h;simp at h
   | some zs=>
    rw [hl] at h
    simp at h
    subst h
    rw [List.mapM_cons]
    simp [hfg x y hx,Wj f g hfg l zs hl]
def amg{T:TypeId}{pl:List (Nat×Nat)}(h:eA P T=some pl)(w:World):∃fs:Array Field,P.underlying T=some (.struct fs) ∧
  Sem.run P (fs.mapM fun f=>do pure (f.offset,←sizeOf f.type):Sem (Array (Nat×Nat))) w = .ok pl.toArray w:=by
 unfold eA at h
 split at h
 ·rename_i fs hu
  refine ⟨fs,hu,?_⟩
  have:=Wj (P:=P) (fun f:Field=>(do pure (f.offset,←sizeOf f.type):Sem (Nat×Nat))) (fun f=>(P.info? f.type).map fun i=>(f.offset,i.size)) (fun x y hxy w=>by
   cases hi:P.info? x.type with
   | none=>rw [hi] at hxy;cases hxy
   | some i=>
    rw [hi] at hxy
    simp at hxy
    subst hxy
    simp [sizeOf,typeInfo,hi]) fs.toList pl h w
  rw [Array.mapM_eq_mapM_toList]
  simp only [map_eq_pure_bind,Sem.run_bind,this,Result.andThen_ok,Sem.run_pure]
 ·cases h
def cy{T d:Nat}{ty:TypeId}{pos:String}{af:Array Edge}{g:Option (Nat×Bool)}{parts:Array (Nat×Operand)}{qs:List (Bool×List PV)}{z:Value}{zs cs:List PV}{pl:List (Nat×Nat)}(hd:d < n)(hz:fI P T=some z)
  (hzs:∀{Fz:aA} {w:World},aP zs Fz w z.cells.toList []) (hpl:eA P T=some pl) (hl:(parts.toList.map (·.1)).length=qs.length) (hok:mE (parts.toList.map (·.2)) qs) (hap:FL (parts.toList.map (·.2))=true)
  (hf:um (fun i:Nat=>pl[i]?) zs ((parts.toList.map (·.1)).zip (qs.map (·.2)))=some cs) :
  Loc P n ⟨some d,.build T parts,ty,pos,af,g⟩ ⟨kH (parts.toList.map (·.2)) qs,[],ny (parts.toList.map (·.2))++[(d,some (RV.sv true cs))],[],none⟩:=by
 intro h0 w0 Fz0 σ a w K Q hc hr _ _ h5
 obtain ⟨φ,Fz,Fp,hc⟩:=hc
 obtain ⟨F,Fp',hT,hc',hm,hnd⟩:=hc.pulls _ _ hr hok (of_decide_eq_true hap)
 obtain ⟨fs,hu,hpr⟩:=amg hpl w
 obtain ⟨cells,F',e1,e2,e3,e4⟩:=LM (fun i:Nat=>pl[i]?) _ qs _ zs cs z.cells [] F hl hzs hT Uz hf
 have k:=hc'.push (i:=d) (rv:=RV.sv true cs) (v:=.agg cells) (F:=F') (X:=[]) hd ⟨rfl,e2⟩ (fun b hb=>by
  rw [hm]
  have:=e4 b (by simpa using hb)
  simp at this ⊢;exact .inl this) (by simpa using e3)
 refine ez (v:=.agg cells) (w':=w) ?_ (h5 _ _ (bC.eqv ⟨_,_,_,k⟩ (fun i=>?_) (fun e=>rfl)))
 ·unfold execOp
  have ep:(parts.map fun p=>(p.1,a.eval p.2)).toList=(parts.toList.map (·.1)).zip ((parts.toList.map (·.2)).map a.eval):=by
   rw [Array.toList_map];induction parts.toList with
   | nil=>rfl
   | cons p l ih=>simp [ih]
  simp only [Instr.build,Sem.run_bind,LL hz,Result.andThen_ok,Sem.run_pure,run_underlying hu,hpr]
  rw [ep]
  have ef:(fun i:Nat=>pl.toArray[i]?)=fun i:Nat=>pl[i]?:=by funext i;simp
  rw [ef,e1]
  rfl
 ·show bZ (ny _++[(d,some (RV.sv true cs))]) σ.s i=_
  rw [Bo];rfl
end
end
section
section
variable{P:Program}{n:Nat}{ops:Array Oper}{h0:Nat→Prop}{w0:World}{Fz0:aA}{σ τ:St}{a:Act}{w:World}{φ:Nat→Nat}{Fz:aA}{Fp:Nat→List Nat}
def Wk(e:Nat):∀(qs:List (List PV)) (k:Nat) (pre post:List PV),pre.length=k * e→post.length=qs.length * e→(∀q,q∈qs→q.length=e) →
  um (fun i=>some (i * e,e)) (pre++post) ((List.range' k qs.length).zip qs)=some (pre++qs.flatten)
 | [],k,pre,post,_,h2,_=>by
  have:post=[]:=kC (by simpa using h2)
  subst this;simp [um]
 | q::qs,k,pre,post,h1,h2,h3=>by
  have hq:=h3 q aM
  rw [List.length_cons,Nat.succ_mul] at h2
  rw [List.length_cons,List.range'_succ,List.zip_cons_cons,um]
  simp only
  rw [if_neg (by rw [bJ];omega),←h1,List.take_left,←List.drop_drop,List.drop_left,←bB]
  rw [Wk e qs (k+1) (pre++q) (post.drop q.length) (by rw [bJ,Nat.succ_mul];omega) vX fun x hx=>h3 x gC]
  simp
def aP.chunk{e:Nat}:∀{qs:List (List PV)} {vs:List Value} {F:List Nat},(∀q,q∈qs→q.length=e)→aP qs.flatten Fz w vs F→cG e qs Fz w vs F
 | [],_,_,_,h=>h
 | q::qs,vs,F,hq,h=>by
  rw [List.flatten_cons] at h
  obtain ⟨v1,v2,F1,F2,rfl,rfl,h1,h2⟩:=h.split
  exact ⟨v1,v2,F1,F2,rfl,rfl,by rw [h1.len];exact hq q aM,h1,aP.chunk (fun x hx=>hq x gC) h2⟩
def Bp:∀{vs:List Value},(∀v,v∈vs→v.oneCell'=true)→aP (vs.map PV.val) Fz w vs []
 | [],_=>⟨rfl,rfl⟩
 | v::vs,h=>⟨v,vs,[],[],rfl,rfl,⟨⟨rfl,h v aM⟩,rfl⟩,Bp fun u hu=>h u (by simp [hu])⟩
def cj{T E e bs d m:Nat}{ty:TypeId}{pos:String}{af:Array Edge}{g:Option (Nat×Bool)}{parts:Array (Nat×Operand)}{qs:List (Bool×List PV)}{z:Value}(hd:d < n)(hT:fy P T=some (E,e,bs))(hz:fI P E=some z)
  (he0:0 < e) (hz1:z.cells.size=e) (hz2:(z.cells.toList.all (·.oneCell'))=true) (hm:m=qs.length) (hi:parts.toList.map (·.1)=List.range' 0 qs.length) (hq:(qs.all fun q=>Nat.beq q.2.length e)=true) (hb:m * e≤16777216)
  (hok:mE (parts.toList.map (·.2)) qs) (hap:FL (parts.toList.map (·.2))=true) :
  Loc P n ⟨some d,.buildSlice T m parts,ty,pos,af,g⟩ ⟨kH (parts.toList.map (·.2)) qs,[],ny (parts.toList.map (·.2))++[(d,some (RV.slc (.own E e) (qs.map (·.2))))],[],none⟩:=by
 intro h0 w0 Fz0 σ a w K Q hc hr _ _ h5
 obtain ⟨φ,Fz,Fp,hc⟩:=hc
 obtain ⟨F,Fp',hT',hc',hmem,hnd⟩:=hc.pulls _ _ hr hok (of_decide_eq_true hap)
 obtain ⟨hu,inf,hinf,hsz,_⟩:=sy hT
 have hq':∀q,q∈qs.map (·.2)→q.length=e:=by
  intro q hq0
  obtain ⟨x,hx,rfl⟩:=List.mem_map.1 hq0
  have:=List.all_eq_true.1 hq x hx
  simpa [Nat.beq_eq] using this
 generalize hcells:((Array.range (m * e)).map fun i=>z.cells[i%z.cells.size]!)=cells0
 have hcs:cells0.size=m * e:=by rw [←hcells];simp
 have hone:∀v,v∈cells0.toList→v.oneCell'=true:=by
  intro v hv
  rw [←hcells] at hv
  simp only [Array.toList_map,Fy] at hv
  obtain ⟨i,hi',rfl⟩:=hv
  have hi2:i < m * e:=by simpa using hi'
  have he:0 < e:=by
   rcases Nat.eq_zero_or_pos e with h|h
   ·subst h;simp at hi2
   ·exact h
  have hlt:i%z.cells.size < z.cells.size:=Nat.mod_lt _ ab
  rw [getElem!_pos z.cells _ hlt]
  have:=List.all_eq_true.1 hz2 (z.cells[i%z.cells.size]) aM
  exact this
 have hfp:um (fun i=>some (i * e,e)) (cells0.toList.map PV.val) ((parts.toList.map (·.1)).zip (qs.map (·.2)))=some (qs.map (·.2)).flatten:=by
  have:=Wk e (qs.map (·.2)) 0 [] (cells0.toList.map PV.val) aM (by simp [hcs,hm]) hq'
  rw [hi]
  simpa using this
 obtain ⟨cells,F',e1,e2,e3,e4⟩:=LM (fun i=>some (i * e,e)) _ qs _ (cells0.toList.map PV.val) _ cells0 [] F (by rw [hi];simp) (Bp hone) hT' Uz hfp
 have hlen:cells.size=m * e:=by
  have:=e2.len
  have hfl:(qs.map (·.2)).flatten.length=(qs.map (·.2)).length * e:=by
   have key:∀(l:List (List PV)),(∀q,q∈l→q.length=e)→l.flatten.length=l.length * e:=by
    intro l
    induction l with
    | nil=>intro _;simp
    | cons q l ih=>intro h;rw [List.flatten_cons,bJ,ih fun x hx=>h x gC,h q aM,List.length_cons,Nat.succ_mul];omega
   exact key _ hq'
  rw [hfl,bf,←hm] at this
  simpa using this
 have hlt:=e2.lt
 have k:=hc'.new cells E (m * e)
 have hFl:∀b,b∈F'→b < w.heap.size:=hlt
 have hnew:w.heap.size∉F':=fun hh=>by have:=hlt _ hh;omega
 have hsl:dR E e (qs.map (·.2)) (fun b o=>Fz b o∨(b=w.heap.size∧o < m * e)) (w.alloc (.cells cells E)) (.slice (some ⟨w.heap.size,0,none⟩) m m) (w.heap.size::F'):=by
  have hmm:m≤maxLen:=by
   have h1:m * 1≤m * e:=Nat.mul_le_mul_left _ ab
   show m≤9223372036854775807
   omega
  refine ⟨cells.toList,F',?_,(e2.chunk hq').mono (Wg w Fz cells E _ hc.fzl) (Wh w Fz cells E _ hFl),?_,yl,?_⟩
  ·have:=World.ownsRow_lit (e:=E) (size:=e) w cells m (Nat.zero_le _) hmm hlen
   rw [show (qs.map (·.2)).length=m by rw [bf,hm]]
   exact this
  ·intro g hg o
   simp [Value.ownBlock] at hg
   subst hg
   rw [bf,←hm]
   constructor
   ·rintro (h|⟨_,h⟩)
    ·have:=hc.fzl _ _ h;omega
    ·exact h
   ·intro h;exact .inr ⟨rfl,h⟩
  ·intro g hg cur t' o hc x hx
   simp [Value.ownBlock] at hg
   subst hg
   rw [heap_alloc_new] at hc
   simp only [Option.some.injEq,Obj.cells.injEq] at hc
   rw [←hc.1] at hx
   exact e2.one x hx
 have k2:=k.push (i:=d) (rv:=RV.slc (.own E e) (qs.map fun q:Bool×List PV=>q.2)) (v:=.slice (some ⟨w.heap.size,0,none⟩) m m) (F:=w.heap.size::F') (X:=[]) hd (ce.of_atom (p:=PV.sl (.own E e) (qs.map fun q:Bool×List PV=>q.2)) hsl)
  (fun b hb=>by
   simp only [if_true]
   rw [fV] at hb
   rcases List.mem_cons.1 hb with rfl|hb
   ·simp
   ·refine List.mem_cons_of_mem _ ?_
    rw [hmem]
    have:=e4 b hb
    simp at this ⊢;exact .inl this) (by rw [fV];exact List.nodup_cons.2 ⟨hnew,e3⟩)
 refine ez (v:=.slice (some ⟨w.heap.size,0,none⟩) m m) (w':=w.alloc (.cells cells E)) ?_ (h5 _ _ (bC.eqv ⟨_,_,_,k2⟩ (fun i=>?_) (fun e=>rfl)))
 ·unfold execOp
  have ep:(parts.map fun p=>(p.1,a.eval p.2)).toList=(parts.toList.map (·.1)).zip ((parts.toList.map (·.2)).map a.eval):=by
   rw [Array.toList_map];induction parts.toList with
   | nil=>rfl
   | cons p l ih=>simp [ih]
  have hng:¬(m * e > 2 ^ 24):=ab
  simp only [Instr.buildSlice,Sem.run_bind,run_underlying hu,Result.andThen_ok,sizeOf,typeInfo,run_program,hinf,hsz,Sem.run_pure,if_neg hng]
  by_cases h0:m * e=0
  ·have hc0:cells0 = #[]:=by apply Array.eq_empty_of_size_eq_zero;omega
   rw [if_pos h0]
   rw [Sem.run_bind,Sem.run_pure,Result.andThen_ok,ep,h0]
   rw [hc0] at e1
   rw [show ((Array.range 0).map fun x=>(#[]:Array Value)[x%(#[]:Array Value).size]!) = #[] by simp,e1]
   simp [newRow]
  ·rw [if_neg h0]
   simp only [Sem.run_bind,LL hz,Result.andThen_ok,Sem.run_pure]
   rw [ep,hcells,e1]
   simp [newRow]
 ·show bZ (ny _++[(d,some _)]) σ.s i=_
  rw [Bo];rfl
def FN(e:Nat)(ys:List (List PV))(Fz:aA)(w:World)(v:Value)(news:List Value)(F:List Nat):Prop:=
 ∃xa c,v = .slice xa ys.length c∧cG e ys Fz w news F∧(∀ad,xa=some ad→∀j u,news[j]?=some u→w.cell? (ad.add j)=some u)∧(xa=none→ys=[])
def amh{t e:Nat}{ys:List (List PV)}{v:Value}{F:List Nat}(h:dR t e ys Fz w v F):∃news F',FN e ys Fz w v news F'∧(∀b,b∈F'→b∈F)∧(F.Nodup→F'.Nodup):=by
 obtain ⟨css,F',ho,hl,hf,rfl,_⟩:=h
 refine ⟨css,F',?_,fun b hb=>by simp [hb],fun hn=>(List.nodup_append.1 hn).2.1⟩
 rcases ho.2 with ⟨rfl,hn⟩|⟨g,cap,cur,rfl,_⟩
 ·have he:ys=[]:=kC hn
  subst he
  exact ⟨none,0,rfl,hl,fun ad h=>by simp at h,fun _=>rfl⟩
 ·exact ⟨some ⟨g,0,none⟩,cap,rfl,hl,fun ad had j u hu=>by injection had with had;subst had;exact ho.cells (g:=g) rfl j u hu,fun h=>by simp at h⟩
def ami{e:Nat}{ys:List (List PV)}{v:Value}(he:0 < e)(h:qH ys Fz w v)(hlen:∀cs,cs∈ys→cs.length=e)(hb:∀cs,cs∈ys→aF cs):∃news,FN e ys Fz w v news []:=by
 obtain ⟨xa,c,e',u,rfl,h1,h2,h3,h4,h5⟩:=h
 refine ⟨(List.range (ys.length * e)).map fun q=>u (q / e) (q%e),xa,c,rfl,cG.of_bor aM hlen ?_,?_,?_⟩
 ·intro i cs j p v hi hj hv
  have hi':i < ys.length:=(List.getElem?_eq_some_iff.1 hi).1
  have hcs:=hlen cs (List.mem_of_getElem? hi)
  have hj':j < e:=by rw [←hcs];exact (List.getElem?_eq_some_iff.1 hj).1
  have hlt:i * e+j < ys.length * e:=by
   have:(i+1) * e≤ys.length * e:=Nat.mul_le_mul_right _ hi'
   rw [Nat.succ_mul] at this;omega
  simp [hlt] at hv
  rw [show (i * e+j) / e=i by rw [Nat.mul_comm,Nat.mul_add_div he,Nat.div_eq_of_lt hj',Nat.add_zero],Nat.mod_eq_of_lt hj'] at hv
  subst hv
  exact (hb cs (List.mem_of_getElem? hi)) p (List.mem_of_getElem? hj) (h5 i cs j p hi hj)
 ·intro ad had q x hx
  have hq:q < ys.length * e:=by have:=(List.getElem?_eq_some_iff.1 hx).1;simpa using this
  simp [hq] at hx
  subst hx
  have hdiv:q / e < ys.length:=(Nat.div_lt_iff_lt_mul he).2 hq
  rcases h4 with h4|⟨b,off,rfl,h4⟩
  ·rw [h4] at hq;simp at hq
  ·injection had with had
   subst had
   have hee:e'=e:=by
    have h0:ys[q / e]?=some ys[q / e]:=List.getElem?_eq_getElem hdiv
    rw [←h3 _ (List.mem_of_getElem? h0)];exact hlen _ (List.mem_of_getElem? h0)
   subst hee
   have:=(h4 (q / e') (q%e') hdiv (Nat.mod_lt _ he)).2
   rw [ow]
   rw [Nat.mul_comm,Nat.div_add_mod] at this
   exact this
 ·intro hx
  rcases h4 with h4|⟨b,off,h4,_⟩
  ·exact h4
  ·rw [hx] at h4;cases h4
def Wl{w:World}{bU:Array Value}{E m c:Nat}(h:∀x,x∈bU.toList→x.oneCell'=true):FC (w.alloc (.cells bU E)) (.slice (some ⟨w.heap.size,0,none⟩) m c):=by
 intro g hg cur t' o hc x hx
 simp [Value.ownBlock] at hg
 subst hg
 rw [heap_alloc_new] at hc
 simp only [Option.some.injEq,Obj.cells.injEq] at hc
 rw [←hc.1] at hx
 exact h x hx
def Wm{z:Array Value}{m:Nat}(h:(z.toList.all (·.oneCell'))=true):∀x,x∈(Builtin.zeroCells z m).toList→x.oneCell'=true:=by
 intro x hx
 unfold Builtin.zeroCells at hx
 rw [lQ] at h
 simp only [Array.toList_map,Array.toList_range,Fy,List.mem_range] at hx
 obtain ⟨i,hi,rfl⟩:=hx
 have hz:0 < z.size:=by
  rcases Nat.eq_zero_or_pos z.size with h0|h0
  ·rw [h0] at hi;simp at hi
  ·exact h0
 have hlt:i%z.size < z.size:=Nat.mod_lt _ hz
 rw [getElem!_pos z (i%z.size) hlt]
 exact h _ aM
def amj{t ty E e bs:Nat}{z:Value}{v x:Value}{k:Nat}{xs news:List Value}{ys:List (List PV)}{F:List Nat}(hT:fy P t=some (E,e,bs))(hz:fI P E=some z)(hzs:z.cells.size=e)(he:0 < e)
  (hown:w.ownsRow 0 E e v k xs) (hob:FC w v) (hoz:(z.cells.toList.all (·.oneCell'))=true) (hs:FN e ys Fz w x news F) (h63:k+ys.length≤9223372036854775807) (hbytes:(k+ys.length) * bs≤140737488355328) :
  ∃v' w',(Builtin.append_ #[t,t] ty #[v,x]).run P w = .ok v' w'∧w'.ownsRow 0 E e v' (k+ys.length) (xs++news)∧w'.os=w.os∧w'.tape=w.tape∧w'.output=w.output∧w.heap.size≤w'.heap.size ∧
   ((v'.ownBlock=v.ownBlock∧∀b,b < w.heap.size→some b≠v.ownBlock→w'.heap[b]?=w.heap[b]?)∨(v'.ownBlock=some w.heap.size∧∀b,b < w.heap.size→w'.heap[b]?=w.heap[b]?))∧FC w' v':=by
 obtain ⟨hu,i,hi,hsize,hby⟩:=sy hT
 obtain ⟨xa,c,rfl,hl,hcell,hnone⟩:=hs
 have hz':i.zero=some z:=by
  unfold fI at hz
  rw [hi,Option.bind_some] at hz;exact hz
 have hnl:=hl.len
 have h1:=hl.one
 cases xa with
 | none=>
  have hy:=hnone rfl
  subst hy
  have hn0:news=[]:=kC (by simpa using hnl)
  subst hn0
  refine ⟨v,w,?_,by simpa using hown,rfl,rfl,rfl,Nat.le_refl _,⟨.inl ⟨rfl,fun _ _ _=>rfl⟩,hob⟩⟩
  rcases hown.2 with ⟨rfl,rfl⟩|⟨g,cap,cur,rfl,_,_,hnc,_⟩
  ·simp [Builtin.append_,run_underlying hu,sizeOf,typeInfo,hi,Builtin.lenOf,Builtin.firstCells]
  ·simp [Builtin.append_,run_underlying hu,sizeOf,typeInfo,hi,Builtin.lenOf,Builtin.firstCells,hnc,storeCells]
 | some ad=>
  have hc:=hcell ad rfl
  subst hsize
  subst hby
  rcases hown.2 with ⟨rfl,rfl⟩|⟨g,cap,cur,rfl,hbg,hg,hnc,hcm,hcs,htake⟩
  ·have hx:xs=[]:=kC (by simpa using hown.1)
   subst hx
   by_cases hm:ys.length=0
   ·have hn0:news=[]:=kC (by rw [hnl,hm];simp)
    subst hn0
    refine ⟨.slice none 0 0,w,?_,?_,rfl,rfl,rfl,Nat.le_refl _,⟨.inl ⟨rfl,fun _ _ _=>rfl⟩,hob⟩⟩
    ·rw [hm]
     simp [Builtin.append_,run_underlying hu,sizeOf,typeInfo,hi,Builtin.lenOf,Builtin.firstCells,loadCells,loadCellsFrom]
    ·rw [hm];exact World.ownsRow_nil w 0 E i.size
   ·have hr:=run_append_nil (P:=P) w t ty E i z hu hi hz' ad ys.length c news hnl hc ab ab (by rw [Nat.zero_add] at hbytes;omega)
    have hge:=grownCap_ge w ys.length 0 E
    refine ⟨_,_,hr,⟨by rw [List.nil_append,Nat.zero_add];exact hnl,.inr ⟨w.heap.size,_,_,by rw [Nat.zero_add],Nat.zero_le _,heap_alloc_new w.drew _,by rw [Nat.zero_add];exact hge,grownCap_le_maxLen w ys.length 0 E (by show _≤9223372036854775807;omega),?_,?_⟩⟩,rfl,rfl,rfl,aM,⟨.inr ⟨rfl,fun b hb=>Below.heap_alloc w.drew _ b hb⟩,Wl (w:=w.drew) fun x hx=>by
     rw [Array.toList_append,eS] at hx
     rcases hx with hx|hx
     ·exact h1 x hx
     ·exact Wm hoz x hx⟩⟩
    ·rw [Array.size_append,size_zeroCells,hzs]
     simp only [List.size_toArray,hnl]
     rw [←Nat.add_mul];congr 1;omega
    ·rw [Nat.zero_add,List.nil_append,Array.toList_append,←hnl]
     simp
  ·by_cases hroom:k+ys.length≤cap
   ·have hfit:k * i.size+news.length≤cur.size:=by rw [hnl,hcs,←Nat.add_mul];exact Nat.mul_le_mul_right _ hroom
    have hr:=run_append_room (P:=P) w t ty E i hu hi g k cap cur hg ad ys.length c news hnl hc h1 hroom hfit
    have hlen:(xs++news).length=(k+ys.length) * i.size:=UG
    refine ⟨_,_,hr,⟨hlen,.inr ⟨g,cap,_,rfl,hbg,setRow_heap w g cur _ E _ hg,hroom,hcm,?_,?_⟩⟩,rfl,rfl,rfl,aM,⟨.inl ⟨rfl,fun b _ hne=>setRow_other w g b _ fun e=>hne (by simp [Value.ownBlock,e])⟩,fun g' hg' cur' t' o' hc' x hx=>by
     simp [Value.ownBlock] at hg'
     subst hg'
     rw [setRow_heap w g cur _ E _ hg] at hc'
     simp only [Option.some.injEq,Obj.cells.injEq] at hc'
     rw [←hc'.1] at hx
     simp only [eS] at hx
     have hold:=hob g rfl cur E (0,0) hg
     rcases hx with (hx|hx)|hx
     ·exact hold x (List.mem_of_mem_take hx)
     ·exact h1 x hx
     ·exact hold x (List.mem_of_mem_drop hx)⟩⟩
    ·simp only [List.size_toArray,bJ,cI,lj,Array.length_toList];omega
    ·rw [htake,←hlen];exact List.take_left
   ·have holds:∀j u,xs[j]?=some u→w.cell? ((⟨g,0,none⟩:Addr).add j)=some u:=hown.cells (g:=g) rfl
    have hr:=run_append_grow (P:=P) w t ty E i z hu hi hz' ⟨g,0,none⟩ k cap xs hown.1 holds ad ys.length c news hnl hc ab ab (growslice_fits ab hbytes)
    have hge:=grownCap_ge w (k+ys.length) cap E
    have hlen:(xs++news).length=(k+ys.length) * i.size:=UG
    refine ⟨_,_,hr,⟨hlen,.inr ⟨w.heap.size,_,_,rfl,Nat.zero_le _,heap_alloc_new w.drew _,hge,grownCap_le_maxLen w (k+ys.length) cap E h63,?_,?_⟩⟩,rfl,rfl,rfl,aM,⟨.inr ⟨rfl,fun b hb=>Below.heap_alloc w.drew _ b hb⟩,Wl (w:=w.drew) fun x hx=>by
     simp only [Array.toList_append,eS] at hx
     rcases hx with (hx|hx)|hx
     ·rw [←htake] at hx
      exact hob g rfl cur E (0,0) hg x (List.mem_of_mem_take hx)
     ·exact h1 x hx
     ·exact Wm hoz x hx⟩⟩
    ·simp only [Array.size_append,List.size_toArray,size_zeroCells,hzs,hown.1,hnl,←Nat.add_mul];congr 1;omega
    ·simp only [Array.toList_append,bB]
     rw [←bB,←hlen];exact List.take_left
def Wn{t ty E e bs d:Nat}{z:Value}{v x:Value}{es ys:List (List PV)}{news:List Value}{Fs Fx:List Nat}(hd:d < n)(hT:fy P t=some (E,e,bs))(hz:fI P E=some z)(hoz:(z.cells.toList.all (·.oneCell'))=true)(hzs:z.cells.size=e)(he:0 < e)
  (hc:bP h0 w0 Fz0 n σ a w φ Fz Fp) (hv:dR E e es Fz w v Fs) (hx:FN e ys Fz w x news Fx) (hsub:∀b,b∈Fs++Fx→b∈Fp 0) (hnd:(Fs++Fx).Nodup)
  (h63:es.length+ys.length≤9223372036854775807) (hbytes:(es.length+ys.length) * bs≤140737488355328) :
  ∃v' w',(Builtin.append_ #[t,t] ty #[v,x]).run P w = .ok v' w'∧bC h0 w0 Fz0 n (σ.set d (some (RV.slc (.own E e) (es++ys)))) (a.put (some d) v') w':=by
 obtain ⟨css,F',ho,hl,hf,rfl,hob⟩:=hv
 obtain ⟨v',w',hr,ho',k1,k2,k3,k4,k5,k6⟩:=amj (ty:=ty) hT hz hzs he ho hob hoz hx h63 hbytes
 obtain ⟨xa,c,rfl,hly,_,_⟩:=hx
 refine ⟨v',w',hr,?_⟩
 have hcl:=hl.len
 have hyl:=hly.len
 have hlt':∀g,v'.ownBlock=some g→g < w'.heap.size:=fun g hg=>(ho'.lt g hg).2
 have hlow:∀b,b∈v.ownBlock.toList++F'++Fx→b < w.heap.size:=fun b hb=>(hc.low 0 b (hsub b hb)).2
 simp only [df,eS] at hnd
 obtain ⟨⟨m1,m2,m12⟩,m3,m13⟩:=hnd
 generalize hFz':(fun (b o:Nat)=>Fz b o∨(v'.ownBlock=some b∧o < (es.length+ys.length) * e))=Fz'
 have hFin:∀b o,Fz' b o↔(Fz b o∨(v'.ownBlock=some b∧o < (es.length+ys.length) * e)):=fun b o=>by rw [←hFz']
 have hcellk:∀g,v'.ownBlock=some g→∀o,o < (es.length+ys.length) * e→w'.cell? ⟨g,o,none⟩=(css++news)[o]?:=by
  intro g hg o hog
  rcases ho'.2 with ⟨rfl,_⟩|⟨g',cap,cur,rfl,_,hgg,_,_,_,htk⟩
  ·simp [Value.ownBlock] at hg
  ·simp [Value.ownBlock] at hg
   subst hg
   rw [cell_of_row w' g' o cur E (0,0) hgg,←htk,List.getElem?_take_of_lt hog];simp
 have hcello:∀g,v.ownBlock=some g→∀o,o < es.length * e→w.cell? ⟨g,o,none⟩=css[o]?:=by
  intro g hg o hog
  rcases ho.2 with ⟨rfl,_⟩|⟨g',cap,cur,rfl,_,hgg,_,_,_,htk⟩
  ·simp [Value.ownBlock] at hg
  ·simp [Value.ownBlock] at hg
   subst hg
   rw [cell_of_row w g' o cur E (0,0) hgg,←htk,List.getElem?_take_of_lt hog];simp
 have hsame:∀b,b < w.heap.size→v.ownBlock≠some b→w'.heap[b]?=w.heap[b]?∧v'.ownBlock≠some b:=by
  intro b hb hne
  rcases k5 with ⟨k5,k6⟩|⟨k5,k6⟩
  ·exact ⟨k6 b hb (fun e=>hne e.symm),by rw [k5];exact hne⟩
  ·exact ⟨k6 b hb,by rw [k5];intro e;injection e with e;omega⟩
 have hkeep:gX Fz w Fz' w':=by
  intro b o hbo
  refine ⟨(hFin b o).2 (.inl hbo),?_⟩
  have hb:=hc.fzl b o hbo
  by_cases hvb:v.ownBlock=some b
  ·rcases k5 with ⟨k5,_⟩|⟨_,k6⟩
   ·have ho1:=(hf b hvb o).1 hbo
    have hle:es.length * e≤(es.length+ys.length) * e:=Nat.mul_le_mul_right _ ab
    rw [hcellk b (by rw [k5];exact hvb) o ab,hcello b hvb o ho1,List.getElem?_append_left ab]
   ·exact World.cell?_of_block (k6 b hb)
  ·exact World.cell?_of_block (hsame b hb hvb).1
 have hholds:∀G:List Nat,(∀b,b∈G→b < w.heap.size∧v.ownBlock≠some b)→ll G Fz w Fz' w':=by
  intro G hG b hb
  obtain ⟨g1,g2⟩:=hG b hb
  obtain ⟨g3,g4⟩:=hsame b g1 g2
  refine ⟨g3,fun o ho=>?_⟩
  rcases (hFin b o).1 ho with ho|⟨ho,_⟩
  ·exact ho
  ·exact absurd ho g4
 have hnewm:∀g,v'.ownBlock=some g→v.ownBlock=some g∨g=w.heap.size:=by
  intro g hg
  rcases k5 with ⟨k5,_⟩|⟨k5,_⟩
  ·exact .inl (by rw [←k5];exact hg)
  ·exact .inr (by rw [k5] at hg;injection hg with hg;exact hg.symm)
 have hnot:∀b,b∈F'++Fx→v'.ownBlock≠some b:=by
  intro b hb hg
  rcases hnewm b hg with h|h
  ·rcases List.mem_append.1 hb with hb|hb
   ·exact m12 b pi b hb rfl
   ·exact m13 b (.inl pi) b hb rfl
  ·have:=hlow b (by rcases List.mem_append.1 hb with hb|hb<;>simp [hb]);omega
 have hndX:(v'.ownBlock.toList++(F'++Fx)).Nodup:=by
  rw [df,df]
  refine ⟨by cases v'.ownBlock<;>simp,⟨m2,m3,fun u hu y hy=>m13 u (.inr hu) y hy⟩,fun u hu y hy e=>?_⟩
  subst e
  exact hnot u hy (by cases hvb:v'.ownBlock with|none=>rw [hvb] at hu;simp at hu|some g=>rw [hvb] at hu;simp at hu;rw [hu])
 have c2:=hc.world (w':=w') (Fz':=Fz') (X:=v'.ownBlock.toList++(F'++Fx)) k1 k2 k3 k4
  (fun b hb hb0=>by
   have hne:v.ownBlock≠some b:=fun h=>hb0 (hsub b pi)
   obtain ⟨g3,g4⟩:=hsame b hb hne
   refine ⟨g3,fun o ho=>?_⟩
   rcases (hFin b o).1 ho with ho|⟨ho,_⟩
   ·exact ho
   ·exact absurd ho g4) hkeep
  (fun b o ho=>by
   rcases (hFin b o).1 ho with ho|⟨ho,_⟩
   ·have:=hc.fzl b o ho;omega
   ·exact hlt' b ho)
  (fun b hb=>by
   rcases List.mem_append.1 hb with hb|hb
   ·cases hvb:v'.ownBlock with
    | none=>rw [hvb] at hb;simp at hb
    | some g=>
     rw [hvb] at hb;simp at hb;subst hb
     rcases hnewm b hvb with h|h
     ·exact .inl (hsub b pi)
     ·exact .inr ⟨ab,hlt' b hvb⟩
   ·refine .inl (hsub b ?_)
    rcases List.mem_append.1 hb with hb|hb<;>simp [hb]) hndX
 have hsl:dR E e (es++ys) Fz' w' v' (v'.ownBlock.toList++(F'++Fx)):=by
  refine ⟨css++news,F'++Fx,by rw [bJ];exact ho',?_,?_,rfl,k6⟩
  ·refine (hl.mono hkeep (hholds F' fun b hb=>⟨hlow b vZ,fun h=>m12 b pi b hb rfl⟩)).append
    (hly.mono hkeep (hholds Fx fun b hb=>⟨hlow b vZ,fun h=>m13 b (.inl pi) b hb rfl⟩))
  ·intro g hg o
   rw [hFin,bJ]
   constructor
   ·rintro (h|⟨_,h⟩)
    ·rcases hnewm g hg with hv|hv
     ·have:=(hf g hv o).1 h
      have hle:es.length * e≤(es.length+ys.length) * e:=Nat.mul_le_mul_right _ ab
      omega
     ·have:=hc.fzl g o h;omega
    ·exact h
   ·intro h;exact .inr ⟨hg,h⟩
 exact ⟨φ,Fz',_,c2.push (i:=d) (rv:=RV.slc (.own E e) (es++ys)) (F:=v'.ownBlock.toList++(F'++Fx)) (X:=[]) hd (ce.of_atom (p:=PV.sl (.own E e) (es++ys)) hsl) (fun b hb=>by simpa using hb) (by simpa using hndX)⟩
section
variable{t d s x E e bs:Nat}{ty:TypeId}{pos:String}{af:Array Edge}{g:Option (Nat×Bool)}{z:Value}{es ys:List (List PV)}
def fc{t2:Nat}(hd:d < n)(hT:fy P t=some (E,e,bs))(hz:fI P E=some z)(hoz:(z.cells.toList.all (·.oneCell'))=true)(hzs:z.cells.size=e)(he:0 < e)(hsx:Nat.beq s x=false)(h63:es.length+ys.length≤9223372036854775807)(hbytes:(es.length+ys.length) * bs≤140737488355328) :
  Loc P n ⟨some d,.call { callee:=.builtin .append,args := #[.tmp s,.tmp x],argTypes := #[t,t] },ty,pos,af,g⟩ ⟨[(s,RV.slc (.own E e) es),(x,RV.slc (.own t2 e) ys)],[],[(s,none),(x,none),(d,some (RV.slc (.own E e) (es++ys)))],[],none⟩:=by
 intro h0 w0 Fz0 σ a w K Q hc hr _ _ h5
 obtain ⟨φ,Fz,Fp,hc⟩:=hc
 rw [beq_eq,decide_eq_false_iff_not] at hsx
 have hv:=ce.atom (hc.slot s _ hr.1)
 have hx:=ce.atom (hc.slot x _ hr.2.1)
 have c1:=hc.pull s
 have c2:=c1.pull x
 obtain ⟨news,F',h1,h2,h3⟩:=amh hx
 have e0:mv (mv Fp (2 * s+1)) (2 * x+1) 0=Fp (2 * x+1)++(Fp (2 * s+1)++Fp 0):=by
  simp only [mv,if_true]
  rw [if_neg ab,if_neg ab]
 have hnd:=c2.nod 0
 rw [e0] at hnd
 simp only [df,eS] at hnd
 obtain ⟨v',w',hr',k⟩:=Wn (ty:=ty) (d:=d) hd hT hz hoz hzs he c2 hv h1 (fun b hb=>by
   rw [e0]
   rcases List.mem_append.1 hb with hb|hb
   ·simp [hb]
   ·simp [h2 b hb]) (by
   rw [df]
   exact ⟨hnd.2.1.1,h3 hnd.1,fun u hu y hy e=>hnd.2.2 y (h2 y hy) u (.inl hu) e.symm⟩) h63 hbytes
 refine ez (v:=v') (w':=w') ?_ (h5 _ _ (bC.eqv k (fun i=>rfl) (fun e=>rfl)))
 have es':a.eval (.tmp s)=a.tmps.getD s undef:=rfl
 have ex':a.eval (.tmp x)=a.tmps.getD x undef:=rfl
 unfold execOp
 simp only [resolve,invoke,builtin,Sem.run_bind,Sem.run_pure,Result.andThen_ok,List.map_toArray,List.map_cons,List.map_nil,es',ex',hr']
def lU{o:Fl}(hd:d < n)(hT:fy P t=some (E,e,bs))(hz:fI P E=some z)(hoz:(z.cells.toList.all (·.oneCell'))=true)(hzs:z.cells.size=e)(he:0 < e)(hlen:∀cs,cs∈ys→cs.length=e)(hb:∀cs,cs∈ys→aF cs)
  (h63:es.length+ys.length≤9223372036854775807) (hbytes:(es.length+ys.length) * bs≤140737488355328) :
  Loc P n ⟨some d,.call { callee:=.builtin .append,args := #[.tmp s,.tmp x],argTypes := #[t,t] },ty,pos,af,g⟩ ⟨[(s,RV.slc (.own E e) es),(x,RV.slc o ys)],[],[(s,none),(d,some (RV.slc (.own E e) (es++ys)))],[],none⟩:=by
 intro h0 w0 Fz0 σ a w K Q hc hr _ _ h5
 obtain ⟨φ,Fz,Fp,hc⟩:=hc
 have hv:=ce.atom (hc.slot s _ hr.1)
 have hx:=hc.slrel hr.2.1
 have c1:=hc.pull s
 obtain ⟨news,h1⟩:=ami he hx hlen hb
 have e0:mv Fp (2 * s+1) 0=Fp (2 * s+1)++Fp 0:=go
 have hnd:=c1.nod 0
 rw [e0] at hnd
 obtain ⟨v',w',hr',k⟩:=Wn (ty:=ty) (d:=d) hd hT hz hoz hzs he c1 hv h1 (fun b hb=>by
   rw [e0]
   rw [fV] at hb
   simp [hb]) (by rw [fV];exact (List.nodup_append.1 hnd).1) h63 hbytes
 refine ez (v:=v') (w':=w') ?_ (h5 _ _ (bC.eqv k (fun i=>rfl) (fun e=>rfl)))
 have es':a.eval (.tmp s)=a.tmps.getD s undef:=rfl
 have ex':a.eval (.tmp x)=a.tmps.getD x undef:=rfl
 unfold execOp
 simp only [resolve,invoke,builtin,Sem.run_bind,Sem.run_pure,Result.andThen_ok,List.map_toArray,List.map_cons,List.map_nil,es',ex',hr']
end
end
end
def sB:=@PV.To.refl
def axX:=@PV.bor_val
def axY:=@St.setB_b
abbrev ai:Fl:=.own 3 1
abbrev bc:Fl:=.own 116 4
abbrev aH:Fl:=.own 65 3
abbrev aL:Fl:=.own 27 2
abbrev bH:Fl:=.own 114 1
abbrev cm:Fl:=.own 102 10
abbrev cf:Fl:=.own 56 7
abbrev ck:Fl:=.own 149 5
abbrev wc:Fl:=.own 25 4
abbrev yt:Fl:=.own 307 3
abbrev un:Fl:=.own 9 1
end Go.Proofs.YtmekkgdboplbjaaGreatDoor.M
