/- Definitions and their laws. No condition. -/
import Derived.Test.YtmekkgdboplbjaaGreatDoorPB1
set_option linter.all false
namespace Go.Proofs.YtmekkgdboplbjaaGreatDoor
open Go Go.RowKit M
set_option maxRecDepth 10000
variable{s:am}{i:Nat}{e:au}{l:am}{ls:List am}{k:Nat}{n:Int}{ws:List am}{m:Nat}{o:List Int}{c:aO}{w:am}{α:Type}
def nn(v:bb):am:=fP (gx v)++[64]++itoa v.aJG++(if v.aJC = -1 then [] else [45]++itoa v.aJC)
def aFW(v:bb):nn v≠[]:=by unfold nn;intro e;have:=congrArg List.length e;simp at this
def ZL{now:Int}{v:bb}(h:fb now v=true)(hn:now≤100000):0≤v.aJG∧v.aJG≤100000 ∧ -1≤v.aJC∧v.aJC≤100000:=by simp [fb,aE] at h;omega
def aFX{now:Int}{v:bb}(h:fb now v=true)(hn:now≤100000):(nn v).length≤200:=by have h1:=ZL h hn;have h2:=yE (gx v);have h3:(itoa v.aJG).length≤21:=bu br;have h4:(itoa v.aJC).length≤21:=bu br;unfold nn;split<;>simp only [bv,List.length_cons,List.length_nil]<;>omega
def qe(s:Store)(i:Int):am:=if cv s&&aE i 0 (s.aJr.length - 1) then wy ((s.aJr.getD i.toNat []).map nn) else []
def OR{s:Store}(h:cv s=true)(hi:i < s.aJr.length)(k:Nat):(cQ ((s.aJr[i].take k).map nn) [32]).length≤1000:=by
 obtain ⟨a1,a2,a3,a4,a5,a6⟩:=jm h;have h1:=tY (m:=200) (sep:=[32]) (xs:=(s.aJr[i].take k).map nn) (by intro x hx;obtain ⟨v,hv,rfl⟩:=List.mem_map.1 hx;obtain ⟨j,hj,rfl⟩:=List.mem_iff_getElem.1 (List.mem_of_mem_take hv);exact aFX (Dh h hi hj) a4)
 have h2:=a5 _ (List.getElem_mem hi);rw [aU,cc] at h1;simp only [List.length_cons,List.length_nil] at h1;have:min k s.aJr[i].length * (200+(0+1))≤4 * 201:=Nat.mul_le_mul ab ab;omega
structure dK(e:au):Prop where
 ok:aV e=true
 ag:∀a∈e.aJs,a.Age≤e.Steps∧a.Sent+4 * (a.aJB.length:Int)≤32∧a.Rows.length+4 * a.aJB.length≤32
def dK.sub{f:au}(h:dK e)(hok:aV f=true)(hs:f.Steps=e.Steps)(ha:∀a∈f.aJs,a∈e.aJs):dK f:=⟨hok,fun a m=>by rw [hs];exact h.ag a (ha a m)⟩
def dK.reclaim(h:dK e):dK (eV e):=⟨aDI h.ok,h.ag⟩
def dK.seg(h:dK e):0 < e.Store.aJr.length:=(oV.1 (gz.1 h.ok).so).l1
def aFY(h:dK e)(id:Int):dK (dR e id).1:=by
 cases hc:oZ e id with
 | false=>rw [Ok hc];exact h
 | true=>
  rw [asb hc];refine dK.reclaim ?_;have hk:=gz.1 h.ok;have hs:(il e.aJs (eO e.aJs id).toNat).Sublist e.aJs:=by
   unfold il;conv=>rhs;rw [←iq (eO e.aJs id).toNat e.aJs]
   exact List.Sublist.append (List.Sublist.refl _) (by rw [List.drop_add_one_eq_tail_drop];exact List.tail_sublist _)
  have hl:=hs.length_le;have a8:=hk.a8;refine h.sub ?_ rfl (fun a ha=>hs.subset ha);rw [gz];exact ⟨hk.so,hk.c0,hk.c1,hk.od,hk.s0,hk.s1,by show (il e.aJs _).length≤8;omega,hk.d1,hk.l1,fun a ha=>hk.aa a (hs.subset ha),hk.pw.sublist hs,hk.fs,hk.cs⟩
def aFZ(h:dK e)(u:aJv):dK (dS e u).1:=by
 cases hu:aV e&&(fh e.Store u).2 with
 | false=>rw [YL hu];exact h
 | true=>
  rw [YM hu];refine dK.reclaim ?_;have hk:=gz.1 h.ok;have hs:=arU e.Store u hk.so;have hlen:(fh e.Store u).1.aJr.length=e.Store.aJr.length∧e.Store.Now≤(fh e.Store u).1.Now:=by
   cases ha:lM e.Store u with
   | false=>rw [HE ha];exact ⟨rfl,Int.le_refl _⟩
   | true=>
    by_cases hk2:u.Kind=2;·rw [AB ha hk2];exact ⟨Dv _ _,wN⟩
    ·rw [XY ha];unfold HD;rw [if_neg hk2];unfold Dt;dsimp only;rw [List.length_set,Dv];exact ⟨rfl,ab⟩
  refine h.sub ?_ rfl (fun a ha=>ha);rw [gz];unfold yD;refine ⟨hs,hk.c0,by dsimp only;rw [hlen.1];exact hk.c1,hk.od,hk.s0,hk.s1,hk.a8,hk.d1,hk.l1,fun a ha=>?_,hk.pw,fun f hf=>?_,hk.cs⟩
  ·have h3:=qU.1 (hk.aa a ha)
   dsimp only;rw [qU,hlen.1];exact { h3 with tm1:=by have:=h3.tm1;omega }
  ·have:=YT.1 (hk.fs f hf)
   dsimp only;rw [YT];exact ⟨this.1,⟨this.2.1.1,ab⟩,this.2.2⟩
def aF0(h:dK e)(q:aJt)(l:Int):dK (iy e q l).1:=by
 cases ha:oY e q l with
 | false=>rw [Oj ha];exact h
 | true=>
  rw [YF ha];obtain ⟨h1,h2,h3,h4,h5⟩:=Dz ha;have hk:=gz.1 h1;have hp:=aDM (q:=q) (l:=l) h1;have hl:=hp.length_eq;rw [List.length_cons] at hl;have l8:=(oV.1 hk.so).l8;have s0:=hk.s0;have mem:∀a∈oX e q l,a=fi e q l∨a∈e.aJs:=fun a ha=>List.mem_cons.1 (hp.mem_iff.1 ha);refine ⟨?_,fun a ha=>?_⟩
  ·rw [gz]
   refine ⟨hk.so,hk.c0,hk.c1,hk.od,hk.s0,hk.s1,wN,hk.d1,hk.l1,fun a ha=>?_,by exact aDN (e:=e) h1 h4,hk.fs,hk.cs⟩;rcases mem a ha with rfl|ha;·exact aDL (e:=e) h1 h2 h3
   ·exact hk.aa a ha
  ·rcases mem a ha with rfl|ha
   ·unfold fi;dsimp only;rw [HN];simp only [List.length_nil];omega
   ·exact h.ag a ha
def aF1:∀{l:List Int} {x:Int},x∉l→jG l x=l:=fun {l x} h=>by unfold jG;refine List.filter_eq_self.2 fun y hy=>?_;have:y≠x:=fun e=>h (e▸hy);simp [this]
def atF{x:Int}:∀{l:List Int},(l.Pairwise fun a b=>a < b)→x∈l→l.Perm (x::jG l x)
 | y::l,hp,hx=>by
  rw [List.pairwise_cons] at hp;by_cases h:y=x
  ·subst h
   have hn:y∉l:=fun hy=>by have:=hp.1 y hy;omega
   have e:jG (y::l) y=l:=by have:=aF1 hn;unfold jG at this ⊢;rw [List.filter_cons];simp;simpa using this
   rw [e]
  ·have hx2:x∈l:=(List.mem_cons.1 hx).resolve_left (fun e=>h e.symm)
   have ih:=atF hp.2 hx2;have e:jG (y::l) x=y::jG l x:=by unfold jG;rw [List.filter_cons,if_pos ql]
   rw [e];exact (ih.cons y).trans (List.Perm.swap x y _)
def aF2{x:Int}{l:List Int}(hp:l.Pairwise fun a b=>a < b)(hx:x∈l):(jG l x).length+1=l.length:=by have:=(atF hp hx).length_eq;rw [List.length_cons] at this;omega
def ZM(h:dK e){a:aJs}(ha:a∈e.aJs):(im e a).Sent+4 * ((im e a).aJB.length:Int)≤32∧(im e a).Rows.length+4 * (im e a).aJB.length≤32∧0≤(im e a).Sent:=by
 have hk:=gz.1 h.ok;have h3:=qU.1 (hk.aa a ha);have h4:=h3.sn0;obtain ⟨h5,h6,h7⟩:=h.ag a ha;have h2:=Yq h.ok a;rw [aDF,asi,asj];cases hp:kW e a with
 | false=>simp only [Bool.false_eq_true,if_false];split<;>omega
 | true=>
  have hm:e.aJw∈a.aJB:=YU.1 (by unfold kW at hp;rw [aR] at hp;exact hp.2);have hw:=aF2 h3.tp hm;simp only [if_true,bv];split<;>omega
def atG(h:dK e):dK (eo e):=by
 cases hso:my e with
 | false=>rw [arF hso];exact h
 | true=>
 obtain ⟨_,hst,hld,hdn⟩:=HF hso;rw [arG hso];refine dK.reclaim ?_;have hk:=gz.1 h.ok;obtain ⟨ea,ed⟩:=aDD h.ok;have c0:=hk.c0;have c1:=hk.c1;have hcur:=aDJ c0 c1;have el:(jX e).aJE=kD e (parts e).length:=rfl;have hll:(jX e).aJE.length≤e.aJE.length+1:=by
  rw [el];unfold kD;split;·omega
  ·rw [bv];simp
 have hrows:∀a∈e.aJs,∀r∈(im e a).Rows,bw r=true:=by
  intro a ha r hr;have h3:=qU.1 (hk.aa a ha);rw [asi] at hr;split at hr
  ·rcases List.mem_append.1 hr with hr|hr
   ·exact h3.rk r hr
   ·exact aDE h.ok a r hr
  ·exact h3.rk r hr
 have hsplit:((e.aJs.map (im e)).filter fun a=>!gy a).length+((e.aJs.map (im e)).filter gy).length=e.aJs.length:=by have:=Yn (e.aJs.map (im e));rw [aU] at this;exact this
 have mem:∀b,b∈(jX e).aJs→∃a∈e.aJs,b=im e a∧gy b=false:=by intro b hb2;rw [ea] at hb2;obtain ⟨hb2,he⟩:=List.mem_filter.1 hb2;obtain ⟨a,ha,rfl⟩:=List.mem_map.1 hb2;exact ⟨a,ha,rfl,by simpa using he⟩
 refine ⟨?_,?_⟩
 ·rw [gz]
  refine ⟨hk.so,?_,?_,hk.od,by show 0≤e.Steps+1;have:=hk.s0;omega,by show e.Steps+1≤100000;omega,?_,?_,ab,?_,?_,?_,?_⟩;·show 0≤(e.aJw+1).tmod _;rw [hcur];split<;>omega
  ·show (e.aJw+1).tmod (e.Store.aJr.length:Int) < (e.Store.aJr.length:Int);rw [hcur];split<;>omega
  ·rw [ea];have:=hk.a8;omega
  ·rw [ed,bv,aU];omega
  ·intro b hb2
   obtain ⟨a,ha,rfl,he⟩:=mem b hb2;have h3:=qU.1 (hk.aa a ha);have hq:=HO (e:=e) (a:=a);obtain ⟨h5,h6,h7⟩:=ZM h ha;have h8:=(h.ag a ha).1;rw [qU];have ht:(im e a).aJB.Sublist a.aJB:=by
    rw [asj];split;·exact List.filter_sublist
    ·exact List.Sublist.refl _
   refine ⟨?_,h3.tp.sublist ht,fun x hx=>h3.tr x (ht.subset hx),by rw [hq.1];exact h3.q,by rw [hq.2.1];exact h3.tm0,by rw [hq.2.1];exact h3.tm1,by rw [hq.2.2.2];have:=h3.ag0;omega,by rw [hq.2.2.2];omega,h7,ab,by rw [hq.2.2.1];exact h3.cp0,by rw [hq.2.2.1];exact h3.cp1,hrows a ha,ab⟩;unfold gy at he;simp only [decide_eq_false_iff_not] at he;omega
  ·rw [ea]
   refine List.Pairwise.filter _ ?_;rw [List.pairwise_map];refine hk.pw.imp fun {a b} k=>?_;rw [HO.1,HO.1];exact k
  ·rw [ed]
   intro f hf;rcases List.mem_append.1 hf with hf|hf;·exact hk.fs f hf
   ·obtain ⟨b,hb2,rfl⟩:=List.mem_map.1 hf
    obtain ⟨hb2,_⟩:=List.mem_filter.1 hb2;obtain ⟨a,ha,rfl⟩:=List.mem_map.1 hb2;have h3:=qU.1 (hk.aa a ha);have hq:=HO (e:=e) (a:=a);obtain ⟨h5,h6,h7⟩:=ZM h ha;have h8:=(h.ag a ha).1;rw [YT];unfold yy;dsimp only;rw [hq.1,hq.2.1,hq.2.2.2];have:=h3.ag0;exact ⟨h3.q,⟨h3.tm0,h3.tm1⟩,⟨ab,ab⟩,hrows a ha,ab⟩
  ·rw [el]
   intro c hc;unfold kD at hc;split at hc;·exact hk.cs c hc
   ·rcases List.mem_append.1 hc with hc|hc
    ·exact hk.cs c hc
    ·rw [List.mem_singleton.1 hc]
     exact aDH h.ok ab
 ·intro b hb2
  obtain ⟨a,ha,rfl,he⟩:=mem b hb2;have hq:=HO (e:=e) (a:=a);obtain ⟨h5,h6,h7⟩:=ZM h ha;have h8:=(h.ag a ha).1;rw [hq.2.2.2];refine ⟨?_,h5,h6⟩;show a.Age+1≤e.Steps+1;omega
def atH{e:au}(h:dK e):∀k,dK (mz e k)
 | 0=>h
 | k+1=>atG (atH h k)
def atJ{e:au}(h:dK e):∀k,dK (eP e k)
 | 0=>h
 | k+1=>by
  have h1:=atJ h k;unfold eP;split;·exact h1
  ·exact atG h1
def OS(h:dK e):dK (gD e):=by unfold gD;exact atJ h 200
def Ih(h:dK e)(o:List Int):dK (gE e o).1:=by
 unfold gE;split
 ·rename_i ho
  rw [aR] at ho;have hk:=gz.1 h.ok;refine h.sub ?_ rfl (fun a ha=>ha);rw [gz];exact ⟨hk.so,hk.c0,hk.c1,ho.2,hk.s0,hk.s1,hk.a8,hk.d1,hk.l1,hk.aa,hk.pw,hk.fs,hk.cs⟩
 ·exact h
def ZN{s:Store}(h:cv s=true):dK (pb s):=by have l1:=(oV.1 h).l1;refine ⟨?_,fun a ha=>absurd ha List.not_mem_nil⟩;rw [gz];exact ⟨h,Int.le_refl 0,by show (0:Int) < ((s.aJr.length:Nat):Int);omega,by show ci [0,1,2]=true;decide,Int.le_refl 0,Qf,yU,yU,yU,yU,yU,yU,yU⟩
def aF3(h:dK e)(x:fg):dK (dJ e x).1:=by
 unfold dJ;split
 ·split
  ·exact aF0 h _ _
  ·split
   ·exact aFY h _
   ·split
    ·exact aFZ h _
    ·exact atH h _
 ·exact h
def aF4{x:fg}(h:(dJ e x).2=false):(dJ e x).1=e:=by
 unfold dJ at h ⊢;split at h
 ·rename_i h0
  rw [if_pos h0];split at h
  ·rename_i h1
   rw [if_pos h1];unfold iy at h ⊢;split at h;·cases h
   ·rename_i h2;rw [if_neg h2]
  ·rename_i h1
   rw [if_neg h1];split at h
   ·rename_i h2
    rw [if_pos h2];unfold dR at h ⊢;split at h;·cases h
    ·rename_i h3;rw [if_neg h3]
   ·rename_i h2
    rw [if_neg h2];split at h
    ·rename_i h3
     rw [if_pos h3];unfold dS at h ⊢;split at h;·cases h
     ·rename_i h4;rw [if_neg h4]
    ·cases h
 ·rename_i h0;rw [if_neg h0]
noncomputable def kb(ws:List am):List Int:=(ws.drop 1).map bT
noncomputable def qf(ws:List am):List Int:=((ws.drop 1).filter cY).map bM
def AL(o:List Int):am:=itoa (o.getD 0 0)++[32]++itoa (o.getD 1 0)++[32]++itoa (o.getD 2 0)
noncomputable def sI(e:au):am:=if eB e=[] then ([110,111,110,101]:am) else cQ (eB e) [59,32]
noncomputable def qg(e:au)(w:am):am:=if w=([101,110,103,105,110,101]:am) then qL e else if w=([99,104,97,114,103,101,115]:am) then yJ e.aJE else if w=([97,99,116,105,118,101]:am) then sI e else ([119,104,97,116]:am)
noncomputable def lP(e:au)(w s:am):am:=if cY s=true∧0≤bM s then (if w=([114,101,115,117,108,116]:am) then (if (go e (bM s)).2 then qa (go e (bM s)).1 else ([110,111,32,114,101,115,117,108,116]:am)) else if w=([115,101,103,109,101,110,116]:am)∧bM s < (e.Store.aJr.length:Int) then qe e.Store (bM s) else ([119,104,97,116]:am)) else ([119,104,97,116]:am)
noncomputable def gF(e:au)(w:am):au×am:=if w=([97,100,97,112,116]:am) then (gp e,AL (gp e).Order) else if w=([102,105,110,105,115,104]:am) then (gD e,itoa ((gD e).Steps - e.Steps)) else (e,qg e w)
noncomputable def pi(e:au)(ws:List am):au×am:=if ws.length=1 then gF e (ws.getD 0 []) else if ws.length=2 then (e,lP e (ws.getD 0 []) (ws.getD 1 [])) else if ws.length=4∧ws.getD 0 []=([111,114,100,101,114]:am)∧ci (kb ws)=true then ((gE e (kb ws)).1,([111,107]:am)) else (e,([119,104,97,116]:am))
noncomputable def wH(e:au)(n:Int):au×am:=if (ix [] n).2 then (pb (ix [] n).1,([111,107]:am)) else (e,([110,111]:am))
def sJ(l:am):Bool:=(an 32 l).getD 0 []==([116,97,98,108,101]:am)&&(an 32 l).length==2
noncomputable def cO(e:au)(l:am):au×am:=
 if sJ l then wH e (bM ((an 32 l).getD 1 [])) else if e.Store.aJr.length=0 then (e,([110,111,32,116,97,98,108,101]:am)) else if (bH l).isSome then ((dJ e ((bH l).getD cU)).1,if (dJ e ((bH l).getD cU)).2 then ([111,107]:am) else ([110,111]:am)) else pi e (an 32 l)
def OT:au:=⟨⟨[],0⟩,0,[],[],[],[],0⟩
noncomputable def AM(s:au×am)(l:am):au×am:=if l=[] then s else ((cO s.1 l).1,s.2++((cO s.1 l).2++[10]))
noncomputable def dC(ls:List am)(k:Nat):au×am:=(ls.take k).foldl AM (OT,[])
def Ii(hk:k < ls.length):dC ls (k+1)=AM (dC ls k) ls[k]:=by unfold dC;rw [cI hk,List.foldl_append];rfl
def fQ(s:am):List am:=if (an 10 s).getLastD []=[] then (an 10 s).dropLast else an 10 s
noncomputable def kG(s:am):am:=if 3000 < s.length∨60 < (fQ s).length then [] else (dC (fQ s) (fQ s).length).2
def CI(e:au):Prop:=e=OT∨dK e
def CI.of(h:CI e)(hs:0 < e.Store.aJr.length):dK e:=by
 rcases h with rfl|h;·exact absurd hs (Nat.lt_irrefl 0)
 ·exact h
def OU(h:(ix [] n).2=true):cv (ix [] n).1=true:=by
 cases hn:ni [] n with
 | false=>rw [Yy hn] at h;cases h
 | true=>exact arZ hn
def OV(s:am):ix [] (bT s)=ix [] (bM s):=by
 unfold bT bM;cases iO s with
 | some n=>rfl
 | none=>rfl
def ZO(hi:dK e)(l:am):dK (cO e l).1:=by
 unfold cO;split
 ·unfold wH
  split;·rename_i hn;exact ZN (OU hn)
  ·exact hi
 ·split
  ·exact hi
  ·split
   ·exact aF3 hi _
   ·unfold pi
    split
    ·unfold gF
     split;·exact Ih hi _
     ·split
      ·dsimp only;exact OS hi
      ·exact hi
    ·split
     ·exact hi
     ·split
      ·exact Ih hi _
      ·exact hi
def aF5(h:CI e)(l:am):CI (cO e l).1:=by
 rcases h with rfl|h
 ·unfold cO
  split
  ·unfold wH
   split;·rename_i hn;exact .inr (ZN (OU hn))
   ·exact .inl rfl
  ·rw [if_pos (show OT.Store.aJr.length=0 from rfl)];exact .inl rfl
 ·exact .inr (ZO h l)
def atK(h:ws.length=4):(kb ws).length=3:=by unfold kb;rw [aU,ll];omega
def aF6(e:au)(l:am):aZ (cO e l).1≤aZ e+41000:=by
 unfold cO;split
 ·unfold wH
  split
  ·rename_i hn
   have h1:=HM (OU hn);have h2:aZ (pb (ix [] (bM ((an 32 l).getD 1 []))).1)≤cR (ix [] (bM ((an 32 l).getD 1 []))).1+20:=by unfold pb;simp only [aZ,fL,bf,fK,ii,gV,List.map_nil,List.sum_nil,List.length_nil,List.length_cons];omega
   dsimp only;omega
  ·dsimp only;omega
 ·split
  ·dsimp only;omega
  ·split
   ·have:=aDt e ((bH l).getD cU);dsimp only;omega
   ·unfold pi
    split
    ·unfold gF
     split;·have:=aFh e;dsimp only;omega
     ·split
      ·have:=aFf e;dsimp only;omega
      ·dsimp only;omega
    ·split
     ·dsimp only;omega
     ·split
      ·rename_i h4
       have h1:=ato e (kb (an 32 l));have h2:=atK h4.1;dsimp only;omega
      ·dsimp only;omega
def aF7(e:au):(qL e).length≤1000:=by
 unfold qL;split
 ·rename_i hok
  have hef:=hE hok;obtain ⟨a1,a2,a3,a4,a5,a6⟩:=jm hef.1;have hal:nd e.Store≤cR e.Store:=qH e.Store;have hsw:=HM hef.1;exact Xd (bu br) (bu br) (bu br) (bu br) (bu br) (bu br)
 ·simp
def ZP(h:dK e){a:aJs}(ha:a∈e.aJs):(mE a).length≤150:=by have hef:=hE h.ok;have hsf:=jm hef.1;have hac:=Zw (hef.2.2.2.2.2.2.2.2.2.1 a ha);have h3:=(h.ag a ha).2.2;exact aFj (bu br) (bu br) (bu br) (bu br)
def atL(h:dK e):(sI e).length≤2000:=by
 unfold sI;split;·decide
 ·have h8:=(gz.1 h.ok).a8
  rw [If h.ok];have hj:=tY (m:=150) (sep:=[59,32]) (xs:=e.aJs.map mE) (by intro x hx;obtain ⟨a,ha,rfl⟩:=List.mem_map.1 hx;exact ZP h ha);rw [aU] at hj;simp only [List.length_cons,List.length_nil] at hj;omega
def atM(h4:4≤m)(h:(cQ ws [32]).length≤m):(wy ws).length≤m:=by
 unfold wy;split;·exact h4
 ·exact h
def aF8(f:ig):(qa f).length≤101000:=by
 unfold qa;split
 ·rename_i h
  rw [aR] at h;have:=On (q:=f.aJt) h.2 f.Rows.length;rw [bF] at this;exact atM ai this
 ·simp
def aF9(s:Store)(i:Int):(qe s i).length≤1000:=by
 unfold qe;split
 ·rename_i h
  rw [aR] at h;have hin:=h.2;simp only [aE,aR,decide_eq_true_eq] at hin;have hil:i.toNat < s.aJr.length:=ab;have:=OR h.1 hil s.aJr[i.toNat].length;rw [bF] at this;have hg:s.aJr.getD i.toNat []=s.aJr[i.toNat]:=by rw [List.getD_eq_getElem?_getD,List.getElem?_eq_getElem hil];rfl
  rw [hg];exact atM ai this
 ·simp
def DH(h:dK e):0≤e.Steps∧e.Steps≤100000:=⟨(gz.1 h.ok).s0,(gz.1 h.ok).s1⟩
def ZQ(h:ci o=true):o∈dz:=by
 unfold ci at h;simp only [aR,decide_eq_true_eq,YU] at h;obtain ⟨hl,h0,h1,h2⟩:=h;match o,hl with
 | [a,b,c],_=>
  simp only [ip,List.not_mem_nil,or_false] at h0 h1 h2;rcases h0 with h0|h0|h0<;>rcases h1 with h1|h1|h1<;>rcases h2 with h2|h2|h2<;>first|(exfalso;omega)|(subst h0;subst h1;subst h2;simp [dz])
def ZR(h:ci o=true):(0≤o.getD 0 0∧o.getD 0 0≤2)∧(0≤o.getD 1 0∧o.getD 1 0≤2)∧0≤o.getD 2 0∧o.getD 2 0≤2:=by have hm:=ZQ h;simp only [dz,ip,List.not_mem_nil,or_false] at hm;rcases hm with rfl|rfl|rfl|rfl|rfl|rfl<;>decide
def aGa(h:ci o=true):(AL o).length≤70:=by have h1:=ZR h;have a1:=bu (n:=o.getD 0 0) br;have a2:=bu (n:=o.getD 1 0) br;have a3:=bu (n:=o.getD 2 0) br;unfold AL;simp only [bv,List.length_cons,List.length_nil];omega
def ZS(h:CI e)(l:am):(cO e l).2.length≤102000:=by
 unfold cO;split;·unfold wH;split<;>simp
 ·split
  ·simp
  ·rename_i hz
   have hi:=h.of ab;split;·dsimp only;split<;>simp
   ·unfold pi
    split
    ·unfold gF
     split
     ·have:=aGa (gz.1 (Ih hi (pW e)).ok).od
      exact Nat.le_trans this ab
     ·split
      ·have h1:=DH hi
       have h2:=DH (OS hi);dsimp only;exact Nat.le_trans (bu (n:=(gD e).Steps - e.Steps) br) ab
      ·dsimp only
       unfold qg;split;·have:=aF7 e;omega
       ·split
        ·have:=Zy (l:=e.aJE) (by have:=(gz.1 hi.ok).l1;omega) (k:=4) ab
         unfold yJ;omega
        ·split
         ·have:=atL hi;omega
         ·simp
    ·split
     ·dsimp only
      unfold lP;split
      ·split
       ·split
        ·have:=aF8 (go e (bM ((an 32 l).getD 1 []))).1;omega
        ·simp
       ·split
        ·have:=aF9 e.Store (bM ((an 32 l).getD 1 []));omega
        ·simp
      ·simp
     ·split<;>simp
def atN(ls:List am):∀k,k≤ls.length→CI (dC ls k).1∧aZ (dC ls k).1≤100+41000 * k∧(dC ls k).2.length≤102001 * k
 | 0,_=>⟨.inl rfl,by show aZ OT≤_;decide,Nat.le_refl _⟩
 | k+1,hk=>by
  obtain ⟨h1,h2,h3⟩:=atN ls k ab;rw [Ii ab];unfold AM;split;·exact ⟨h1,by rw [Nat.mul_succ];omega,by rw [Nat.mul_succ];omega⟩
  ·have h4:=aF6 (dC ls k).1 (ls[k]'(ab))
   have h5:=ZS h1 (ls[k]'(ab));refine ⟨aF5 h1 _,?_,?_⟩;·rw [Nat.mul_succ];exact Nat.le_trans h4 ab
   ·simp only [bv,List.length_cons,List.length_nil]
    rw [Nat.mul_succ];omega
def ZT(h6:ls.length≤60)(k:Nat)(hk:k≤ls.length):CI (dC ls k).1∧aZ (dC ls k).1≤3000000∧(dC ls k).2.length≤7000000:=by obtain ⟨h1,h2,h3⟩:=atN ls k hk;exact ⟨h1,ab,ab⟩
def aGb{c:UInt8}(h:(an c s).length=1):an c s=[s]:=by rw [asK] at h;exact sz (fun hx=>by have:=List.count_pos_iff.2 hx;omega)
def yK(hw:(32:UInt8)∉w):l=w↔(an 32 l).length=1∧(an 32 l).getD 0 []=w:=by
 constructor;·rintro rfl;rw [sz hw];exact ⟨rfl,rfl⟩
 ·rintro ⟨h1,h2⟩;rw [aGb h1] at h2;exact h2
def up(h:cY w=true):bM w=bT w:=by
 unfold cY at h;unfold bM bT;cases hn:iO w with
 | some n=>rfl
 | none=>rw [hn] at h;cases h
def OW(h:0≤bT w):cY w=true:=by
 unfold bT at h;unfold cY;cases hn:iO w with
 | some n=>rfl
 | none=>rw [hn] at h;exact absurd h ai
def atO(h:ws.length=4):ci (qf ws)=ci (kb ws)∧(ci (kb ws)=true→qf ws=kb ws):=by
 obtain ⟨a,b,c,d,rfl⟩:∃a b c d,ws=[a,b,c,d]:=by rcases ws with _|⟨a,_|⟨b,_|⟨c,_|⟨d,_|⟨x,r⟩⟩⟩⟩⟩<;>simp at h;exact ⟨a,b,c,d,rfl⟩
 by_cases hall:cY b=true∧cY c=true∧cY d=true
 ·obtain ⟨h1,h2,h3⟩:=hall
  have e:qf [a,b,c,d]=kb [a,b,c,d]:=by unfold qf kb;simp [List.filter,h1,h2,h3,up h1,up h2,up h3]
  exact ⟨by rw [e],fun _=>e⟩
 ·have e1:ci (kb [a,b,c,d])=false:=by rw [←Bool.not_eq_true];intro ho;obtain ⟨h1,h2,h3⟩:=ZR ho;exact hall ⟨OW h1.1,OW h2.1,OW h3.1⟩
  have e2:ci (qf [a,b,c,d])=false:=by
   rw [←Bool.not_eq_true];intro ho;have hl:(qf [a,b,c,d]).length=3:=by unfold ci at ho;simp only [aR,decide_eq_true_eq] at ho;exact ho.1
   unfold qf at hl;rw [aU] at hl;cases hb:cY b<;>cases hc:cY c<;>cases hd:cY d<;>simp [List.filter,hb,hc,hd] at hl;exact hall ⟨hb,hc,hd⟩
  rw [e1,e2];exact ⟨rfl,fun h=>nomatch h⟩
def aGc{p:α→Bool}{l:List α}(hk:k < l.length)(h:p l[k]=true):(l.take (k+1)).filter p=(l.take k).filter p++[l[k]]:=abW
def aGd{p:α→Bool}{l:List α}(hk:k < l.length)(h:p l[k]=false):(l.take (k+1)).filter p=(l.take k).filter p:=abW
def aGe(a:aJs):mE a≠[]:=by unfold mE AJ;split<;>simp
def aGf(e:au):(if cQ (eB e) [59,32]=[] then ([110,111,110,101]:am) else cQ (eB e) [59,32])=sI e:=by
 unfold sI;by_cases h:eB e=[];·rw [if_pos h,h];rfl
 ·rw [if_neg h,if_neg (asq h fun x hx=>by
   unfold eB at hx;split at hx;·obtain ⟨a,_,rfl⟩:=List.mem_map.1 hx;exact aGe a
   ·cases hx)]
def atP(h:(an 32 l).getD 0 []=([116,97,98,108,101]:am)∧(an 32 l).length=2):sJ l=true:=by unfold sJ;rw [h.1,h.2];rfl
def OX(h:¬((an 32 l).getD 0 []=([116,97,98,108,101]:am)∧(an 32 l).length=2)):sJ l=false:=by rw [←Bool.not_eq_true];intro hh;unfold sJ at hh;rw [aR] at hh;exact h ⟨by simpa using hh.1,by simpa using hh.2⟩
def atQ(h:sJ l=true):cO e l=wH e (bM ((an 32 l).getD 1 [])):=if_pos h
def atR(h:sJ l=false)(hz:e.Store.aJr.length=0):cO e l=(e,([110,111,32,116,97,98,108,101]:am)):=by unfold cO;rw [if_neg gJ,if_pos hz]
def ZU(h:sJ l=false)(hz:0 < e.Store.aJr.length)(hp:(bH l).isSome=true):cO e l=((dJ e ((bH l).getD cU)).1,if (dJ e ((bH l).getD cU)).2 then ([111,107]:am) else ([110,111]:am)):=by unfold cO;rw [if_neg gJ,if_neg ab,if_pos hp]
def atS(h:sJ l=false)(hz:0 < e.Store.aJr.length)(hp:(bH l).isSome=true)(hd:(dJ e ((bH l).getD cU)).2=false):cO e l=(e,([110,111]:am)):=by rw [ZU h hz hp,hd,aF4 hd];rfl
def ZV(h:sJ l=false)(hz:0 < e.Store.aJr.length)(hp:(bH l).isSome=true)(hd:(dJ e ((bH l).getD cU)).2=true):cO e l=((dJ e ((bH l).getD cU)).1,([111,107]:am)):=by rw [ZU h hz hp,hd];rfl
def OY(h:sJ l=false)(hz:0 < e.Store.aJr.length)(hp:(bH l).isSome=false):cO e l=pi e (an 32 l):=by unfold cO;rw [if_neg gJ,if_neg ab,if_neg (by rw [hp];simp)]
def atT(h:(ix [] n).2=true):wH e n=(pb (ix [] n).1,([111,107]:am)):=if_pos h
def atU(h:(ix [] n).2=false):wH e n=(e,([110,111]:am)):=if_neg gJ
def OZ(h:ws.length=1):pi e ws=gF e (ws.getD 0 []):=if_pos h
def atV(h:ws.length=2):pi e ws=(e,lP e (ws.getD 0 []) (ws.getD 1 [])):=by unfold pi;rw [if_neg ab,if_pos h]
def atW(h:ws.length=4)(hw:ws.getD 0 []=([111,114,100,101,114]:am))(ho:ci (kb ws)=true):pi e ws=((gE e (kb ws)).1,([111,107]:am)):=by unfold pi;rw [if_neg ab,if_neg ab,if_pos ⟨h,hw,ho⟩]
def ZW(h1:ws.length≠1)(h2:ws.length≠2)(h4:¬(ws.length=4∧ws.getD 0 []=([111,114,100,101,114]:am)∧ci (kb ws)=true)):pi e ws=(e,([119,104,97,116]:am)):=by unfold pi;rw [if_neg h1,if_neg h2,if_neg h4]
def atX(e:au):gF e ([97,100,97,112,116]:am)=(gp e,AL (gp e).Order):=if_pos rfl
def atY(e:au):gF e ([102,105,110,105,115,104]:am)=(gD e,itoa ((gD e).Steps - e.Steps)):=by unfold gF;rw [if_neg ai,if_pos rfl]
def atZ(h1:¬w=([97,100,97,112,116]:am))(h2:¬w=([102,105,110,105,115,104]:am)):gF e w=(e,qg e w):=by unfold gF;rw [if_neg h1,if_neg h2]
def at0(e:au):qg e ([101,110,103,105,110,101]:am)=qL e:=if_pos rfl
def at1(e:au):qg e ([99,104,97,114,103,101,115]:am)=yJ e.aJE:=by unfold qg;rw [if_neg ai,if_pos rfl]
def at2(e:au):qg e ([97,99,116,105,118,101]:am)=sI e:=by unfold qg;rw [if_neg ai,if_neg ai,if_pos rfl]
def at3(h1:¬w=([101,110,103,105,110,101]:am))(h2:¬w=([99,104,97,114,103,101,115]:am))(h3:¬w=([97,99,116,105,118,101]:am)):qg e w=([119,104,97,116]:am):=by unfold qg;rw [if_neg h1,if_neg h2,if_neg h3]
def at4(h:¬(cY s=true∧0≤bM s)):lP e w s=([119,104,97,116]:am):=if_neg h
def aGg(h:cY s=true∧0≤bM s)(hr:(go e (bM s)).2=true):lP e ([114,101,115,117,108,116]:am) s=qa (go e (bM s)).1:=by unfold lP;rw [if_pos h,if_pos rfl,if_pos hr]
def aGh(h:cY s=true∧0≤bM s)(hr:(go e (bM s)).2=false):lP e ([114,101,115,117,108,116]:am) s=([110,111,32,114,101,115,117,108,116]:am):=by unfold lP;rw [if_pos h,if_pos rfl,if_neg (by rw [hr];simp)]
def at5(h:cY s=true∧0≤bM s)(hs:bM s < (e.Store.aJr.length:Int)):lP e ([115,101,103,109,101,110,116]:am) s=qe e.Store (bM s):=by unfold lP;rw [if_pos h,if_neg ai,if_pos ⟨rfl,hs⟩]
def ZX(h:cY s=true∧0≤bM s)(h1:¬w=([114,101,115,117,108,116]:am))(h2:¬(w=([115,101,103,109,101,110,116]:am)∧bM s < (e.Store.aJr.length:Int))):lP e w s=([119,104,97,116]:am):=by unfold lP;rw [if_pos h,if_neg h1,if_neg h2]
def DI(s:am):0≤bT s↔(cY s=true∧0≤bM s):=by
 constructor;·intro h;have:=OW h;exact ⟨this,by rw [up this];exact h⟩
 ·rintro ⟨h1,h2⟩;rw [←up h1];exact h2
def at6{s:au×am}:AM s []=s:=if_pos rfl
def at7{s:au×am}(h:¬l=[]):AM s l=((cO s.1 l).1,s.2++((cO s.1 l).2++[10])):=if_neg h
def Pa(h:3000 < s.length∨60 < (fQ s).length):kG s=[]:=if_pos h
def Ij(h1:s.length≤3000)(h2:(fQ s).length≤60):kG s=(dC (fQ s) (fQ s).length).2:=if_neg ab
def ZY(h:(an 10 s).getLastD []=[]):fQ s=(an 10 s).dropLast:=if_pos h
def ZZ(h:¬(an 10 s).getLastD []=[]):fQ s=an 10 s:=if_neg h
def at8(h:l∈fQ s):l.length≤s.length:=by
 unfold fQ at h;split at h;·exact sE (List.dropLast_subset _ h)
 ·exact sE h
def aGi(a b:UInt8)(h:s.length≤1048576):s.length+Lib.count s [a] * [b].length≤140737488355328:=by rw [Lib.count_one];have:=List.count_le_length (a:=a) (l:=s);simp only [List.length_cons,List.length_nil];omega
def aaa(h:0≤n∧n < 10):itoa n=[UInt8.ofNat (48+n.toNat)]:=by rw [qJ ab,yk ab];congr 2;omega
def aGj:itoa 0=[48]∧itoa 1=[49]∧itoa 2=[50]:=⟨aaa ab,aaa ab,aaa ab⟩
def aGk(h:ci o=true):Lib.replaceAll (eN o) [44] [32]=AL o:=by have hm:=ZQ h;obtain ⟨e0,e1,e2⟩:=aGj;simp only [dz,ip,List.not_mem_nil,or_false] at hm;rcases hm with rfl|rfl|rfl|rfl|rfl|rfl<;>(unfold eN AL;simp only [List.map_cons,List.map_nil,List.getD_cons_zero,List.getD_cons_succ,e0,e1,e2];decide)
def at9(h:ci o=true):∀x∈o,dN x:=by have hm:=ZQ h;simp only [dz,ip,List.not_mem_nil,or_false] at hm;intro x hx;rcases hm with rfl|rfl|rfl|rfl|rfl|rfl<;>(simp only [ip,List.not_mem_nil,or_false] at hx;unfold dN;omega)
def aab(h:ci o=true):o.length=3:=by unfold ci at h;simp only [aR,decide_eq_true_eq] at h;exact h.1
def aGl(h:ci o=true):(eN o).length≤70:=by have h1:=qK (at9 h);have h2:=aab h;omega
def aGm(h:eB e=[]):sI e=([110,111,110,101]:am):=if_pos h
def aua(h:¬eB e=[]):sI e=cQ (eB e) [59,32]:=if_neg h
def aGn(h:(gE e o).2=true):ci o=true:=by
 cases ho:ci o with
 | true=>rfl
 | false=>rw [atn (by rw [ho];simp)] at h;cases h
def aGo(h:aV e=true)(ho:ci o=true):(gE e o).2=true:=by rw [Zv (by rw [h,ho];rfl)]
def Pb{l:List α}{d:α}(h:l.length - 1 < l.length):l.getLastD d=l[l.length - 1]:=by rw [List.getLastD_eq_getLast?,List.getLast?_eq_getElem?,List.getElem?_eq_getElem h];rfl
def aGp(h:1≤n∧n≤8):ni [] n=true:=by unfold ni;have h1:kE []=true:=ai;rw [h1];simp [aE];omega
def aGq:oW [] m m=List.replicate m []:=by
 by_cases h0:m=0;·subst h0;rfl
 ·have hp:∀i,qS [] m i=[]:=by intro i;unfold qS sh si;have:(0 - i+(m - 1)) / m=0:=Nat.div_eq_of_lt ab;simp [this];omega
  unfold oW;apply List.ext_getElem;·simp
  ·intro i h1 h2;simp [hp]
noncomputable def pj(ws:List am):Bool:=decide (ws.length=4∧ws.getD 0 []=([111,114,100,101,114]:am)∧ci (kb ws)=true)
def Pc(h:pj ws=true):ws.length=4∧ws.getD 0 []=([111,114,100,101,114]:am)∧ci (kb ws)=true:=by unfold pj at h;exact of_decide_eq_true h
def aGr(h:pj ws=false):¬(ws.length=4∧ws.getD 0 []=([111,114,100,101,114]:am)∧ci (kb ws)=true):=by unfold pj at h;exact of_decide_eq_false h
noncomputable def np(e:au)(ws:List am):am:=if ws.length=1 then qg e (ws.getD 0 []) else if ws.length=2 then lP e (ws.getD 0 []) (ws.getD 1 []) else ([119,104,97,116]:am)
def Ik(h:ws.length=1):np e ws=qg e (ws.getD 0 []):=if_pos h
def Pd(h:ws.length=2):np e ws=lP e (ws.getD 0 []) (ws.getD 1 []):=by unfold np;rw [if_neg ab,if_pos h]
def aGs(ha:¬(ws.length=1∧ws.getD 0 []=([97,100,97,112,116]:am)))(hf:¬(ws.length=1∧ws.getD 0 []=([102,105,110,105,115,104]:am)))(ho:pj ws=false):pi e ws=(e,np e ws):=by
 by_cases h1:ws.length=1;·rw [OZ h1,atZ (fun h=>ha ⟨h1,h⟩) (fun h=>hf ⟨h1,h⟩),Ik h1]
 ·by_cases h2:ws.length=2
  ·rw [atV h2,Pd h2]
  ·rw [ZW h1 h2 (aGr ho)];unfold np;rw [if_neg h1,if_neg h2]
def aGt(h:ws.length=1∧ws.getD 0 []=([101,110,103,105,110,101]:am)):np e ws=qL e:=by rw [Ik h.1,h.2,at0]
def aGu(h:ws.length=1∧ws.getD 0 []=([99,104,97,114,103,101,115]:am)):np e ws=yJ e.aJE:=by rw [Ik h.1,h.2,at1]
def aGv(h:ws.length=1∧ws.getD 0 []=([97,99,116,105,118,101]:am)):np e ws=sI e:=by rw [Ik h.1,h.2,at2]
def aGw(h:ws.length=2∧ws.getD 0 []=([114,101,115,117,108,116]:am)∧0≤bT (ws.getD 1 [])):np e ws=if (go e (bT (ws.getD 1 []))).2 then qa (go e (bT (ws.getD 1 []))).1 else ([110,111,32,114,101,115,117,108,116]:am):=by have hn:=(DI _).1 h.2.2;rw [Pd h.1,h.2.1,←up hn.1];unfold lP;rw [if_pos hn,if_pos rfl]
def aGx(h:ws.length=2∧ws.getD 0 []=([115,101,103,109,101,110,116]:am)∧aE (bT (ws.getD 1 [])) 0 (e.Store.aJr.length - 1)=true):np e ws=qe e.Store (bT (ws.getD 1 [])):=by have hb:=h.2.2;simp only [aE,aR,decide_eq_true_eq] at hb;have hn:=(DI _).1 hb.1;rw [up hn.1] at hn;rw [Pd h.1,h.2.1,at5 ((DI _).1 hb.1) (by rw [up ((DI _).1 hb.1).1];omega),up ((DI _).1 hb.1).1]
def aGy(n1:¬(ws.length=1∧ws.getD 0 []=([101,110,103,105,110,101]:am)))(n2:¬(ws.length=1∧ws.getD 0 []=([99,104,97,114,103,101,115]:am)))(n3:¬(ws.length=1∧ws.getD 0 []=([97,99,116,105,118,101]:am)))(n4:¬(ws.length=2∧ws.getD 0 []=([114,101,115,117,108,116]:am)∧0≤bT (ws.getD 1 [])))(n5:¬(ws.length=2∧ws.getD 0 []=([115,101,103,109,101,110,116]:am)∧aE (bT (ws.getD 1 [])) 0 (e.Store.aJr.length - 1)=true)):np e ws=([119,104,97,116]:am):=by
 by_cases h1:ws.length=1;·rw [Ik h1,at3 (fun h=>n1 ⟨h1,h⟩) (fun h=>n2 ⟨h1,h⟩) (fun h=>n3 ⟨h1,h⟩)]
 ·by_cases h2:ws.length=2
  ·rw [Pd h2]
   by_cases hn:cY (ws.getD 1 [])=true∧0≤bM (ws.getD 1 [])
   ·refine ZX hn (fun h=>n4 ⟨h2,h,(DI _).2 hn⟩) (fun h=>n5 ⟨h2,h.1,?_⟩)
    have h3:=h.2;have h4:=hn.2;rw [up hn.1] at h3 h4;simp only [aE,aR,decide_eq_true_eq];omega
   ·exact at4 hn
  ·unfold np;rw [if_neg h1,if_neg h2]
def aGz{a b:Nat}(h:0 < a)(k:0 < b):decide (0 < a)=decide (0 < b):=by rw [decide_eq_true h,decide_eq_true k]
def aGA(h:dK e)(k:Nat):(cQ ((eB e).take k) [59,32]).length≤2000:=by
 have h8:=(gz.1 h.ok).a8;rw [If h.ok];have hj:=tY (m:=150) (sep:=[59,32]) (xs:=(e.aJs.map mE).take k) (by intro x hx;obtain ⟨a,ha,rfl⟩:=List.mem_map.1 (List.mem_of_mem_take hx);exact ZP h ha);have hm:((e.aJs.map mE).take k).length≤8:=by rw [cc,aU];omega
 simp only [List.length_cons,List.length_nil] at hj;have:((e.aJs.map mE).take k).length * (150+(0+1+1))≤8 * 152:=Nat.mul_le_mul ab ab;omega
def aGB(h:dK e)(hk:k < (eB e).length):(eB e)[k].length≤150:=by
 have hs:∀x∈eB e,x.length≤150:=by rw [If h.ok];intro x hx;obtain ⟨a,ha,rfl⟩:=List.mem_map.1 hx;exact ZP h ha
 exact hs _ (List.getElem_mem hk)
def aGC{l:List α}(h:k < l.length)(hk:¬k=0):l.take k≠[]:=by intro e;have:=congrArg List.length e;rw [cc] at this;simp only [List.length_nil] at this;omega
def aGD(h:k < (eB e).length)(hk:¬k=0):cQ ((eB e).take (k+1)) [59,32]=cQ ((eB e).take k) [59,32]++[59,32]++(eB e)[k]:=by rw [cI h,pT,if_neg (aGC h hk)]
def aGE(h:0 < (eB e).length):cQ ((eB e).take (0+1)) [59,32]=(eB e)[0]:=by rw [cI h,List.take_zero,pT,if_pos rfl]
def aub(s:am)(h:(ix [] (bM s)).2=true):cv (ix [] (bT s)).1=true:=by rw [OV];exact OU h
/- bounds -/
def Pe(h:0≤n∧n≤99):(itoa n).length≤2:=by rw [qJ ab];exact HS 1 _ ab
def uq(h:0≤n∧n≤999):(itoa n).length≤3:=by rw [qJ ab];exact HS 2 _ ab
def auc{l:List Int}(h:∀x∈l,0≤x∧x≤99):(eN l).length≤l.length * 3:=by have:=tY (m:=2) (sep:=[44]) (xs:=l.map itoa) (by intro x hx;obtain ⟨y,hy,rfl⟩:=List.mem_map.1 hx;exact Pe (h y hy));simpa [eN] using this
def aGF(r:Row):(fP r).length≤20:=by
 unfold fP;split
 ·rename_i h
  have h1:=qV h;unfold bw at h;simp only [aR] at h;have h2:=auc (l:=r.Values) (fun x hx=>by have:=List.all_eq_true.1 h.1 x hx;simp [nJ,aE] at this;exact this);have h3:=uq (n:=r.Id) ab;simp only [bv,List.length_cons,List.length_nil];omega
 ·simp
def aGG(u:aJv):(gA u).length≤40:=by
 by_cases h:ez u=true
 ·rcases HX h with ⟨r,h1,rfl,e⟩|⟨n,h1,h2,rfl,e⟩|⟨n,f,v,⟨h1,h2⟩,⟨h3,h4⟩,⟨h5,h6⟩,rfl,e⟩<;>rw [e]
  ·have:=aGF r
   simp only [bv,List.length_cons,List.length_nil];omega
  ·have:=uq (n:=n) ab
   simp only [bv,List.length_cons,List.length_nil];omega
  ·have q1_:=uq (n:=n) ab
   have q2_:=uq (n:=f) ab;have q3_:=uq (n:=v) ab;simp only [bv,List.length_cons,List.length_nil];omega
 ·unfold gA;rw [if_neg h];simp
def aGH(q:aJt):(fc q).length≤110:=by
 unfold fc;split
 ·rename_i h
  obtain ⟨a1,a2,a3,a4,a5,a6,a7,a8⟩:=yF h;have ho:=DB h;have hw:∀w∈ja q q.aJu.length++[[111,117,116],eN q.Out],w.length≤9:=by
   intro w hw;rcases List.mem_append.1 hw with hw|hw
   ·unfold ja at hw
    rcases List.mem_append.1 hw with hw|hw
    ·rcases List.mem_cons.1 hw with rfl|hw
     ·have:=uq (n:=q.Id) ab;simp only [bv,List.length_cons,List.length_nil];omega
     ·rw [List.mem_singleton] at hw;subst hw
      have:=uq (n:=q.aJx) ab;simp only [bv,List.length_cons,List.length_nil];omega
    ·obtain ⟨c,hc,hw⟩:=List.mem_flatMap.1 hw
     rw [bF] at hc;obtain ⟨k,hk,rfl⟩:=List.mem_iff_getElem.1 hc;have h8:=a8 k hk;have b1:=Pe (n:=q.aJu[k].Field) ab;have b2:=Pe (n:=q.aJu[k].Low) ab;have b3:=Pe (n:=q.aJu[k].High) ab;unfold mB at hw;rcases List.mem_cons.1 hw with rfl|hw;·simp only [bv,List.length_cons,List.length_nil];omega
     ·rw [List.mem_singleton] at hw;subst hw
      simp only [bv,List.length_cons,List.length_nil];omega
   ·rcases List.mem_cons.1 hw with rfl|hw
    ·decide
    ·rw [List.mem_singleton] at hw;subst hw
     have:=auc (l:=q.Out) (fun x hx=>by have:=ho.2 x hx;omega);omega
  have hj:=tY (m:=9) (sep:=[32]) hw;have hl:=Zk q;have hl2:(ja q q.aJu.length++[[111,117,116],eN q.Out]).length=4+2 * q.aJu.length:=hl;rw [hl2] at hj;simp only [List.length_cons,List.length_nil] at hj;have:(4+2 * q.aJu.length) * (9+(0+1))≤10 * 10:=Nat.mul_le_mul ab ab;omega
 ·simp
def aGI(x:fg):(gB x).length≤200:=by
 by_cases h:eC x=true
 ·rcases OF h with ⟨q,n,h1,h2,h3,rfl,e⟩|⟨n,h2,h3,rfl,e⟩|⟨u,h1,rfl,e⟩|⟨n,h2,h3,rfl,e⟩<;>rw [e]
  ·have b1:=aGH q
   have b2:=uq (n:=n) ab;simp only [bv,List.length_cons,List.length_nil];omega
  ·have b2:=uq (n:=n) ab
   simp only [bv,List.length_cons,List.length_nil];omega
  ·have:=aGG u;omega
  ·have b2:=uq (n:=n) ab
   simp only [bv,List.length_cons,List.length_nil];omega
 ·unfold gB;rw [if_neg h];simp
section
def Pf(c:aO):Int×aO:=gj (gj c).2
def Pg(c:aO):Int×aO:=gj (Pf c).2
def Ph(c:aO):Int×aO:=gj (Pg c).2
def Pi(c:aO):Int:=(gj c).1 * 16777216+(Pf c).1 * 65536+(Pg c).1 * 256+(Ph c).1
def Il(c:aO)(n:Int):Int×aO:=((Pi c).tmod n,(Ph c).2)
def sK(c:aO)(n:Int):Int×aO:=if n≤256 then av c n else Il c n
def aGJ(c:aO):(0≤(gj c).1∧(gj c).1≤255)∧(0≤(Pf c).1∧(Pf c).1≤255)∧(0≤(Pg c).1∧(Pg c).1≤255)∧0≤(Ph c).1∧(Ph c).1≤255:=⟨rQ _,rQ _,rQ _,rQ _⟩
def aGK(c:aO):0≤Pi c∧Pi c≤4294967295:=by have:=aGJ c;unfold Pi;omega
def aud(h:n≤256):sK c n=av c n:=if_pos h
def aue(h:¬n≤256):sK c n=Il c n:=if_neg h
def aGL(c:aO)(h:0 < n):0≤(sK c n).1∧(sK c n).1 < n:=by
 by_cases h6:n≤256;·rw [aud h6];exact ⟨eM _ _,fv _ h⟩
 ·rw [aue h6];exact ⟨Int.tmod_nonneg n (aGK c).1,Int.tmod_lt_of_pos _ h⟩
def gq(c:aO)(s:am):Int×aO:=sK c s.length
def kc(c:aO)(s:am):Int×aO:=av (gq c s).2 4
def Pj(c:aO)(s:am):Int×aO:=gj (kc c s).2
def sqX(c:aO)(s:am):Int×aO:=av (kc c s).2 255
def aad(s:am)(k:Nat):Int:=((s.getD k 0).toNat:Int)
def sqV(c:aO)(s:am):Int:=IntKind.u8.wrap (JS (aad s (gq c s).1.toNat) (1+(sqX c s).1))
def qh(c:aO)(s:am):am×aO:=
 if (kc c s).1=0 then (s.take (gq c s).1.toNat++s.drop ((gq c s).1.toNat+1),(kc c s).2)
 else if (kc c s).1=1 then (s.take (gq c s).1.toNat++kr [(Pj c s).1]++s.drop (gq c s).1.toNat,(Pj c s).2)
 else if (kc c s).1=2 then (s.take (gq c s).1.toNat,(kc c s).2)
 else (s.take (gq c s).1.toNat++kr [sqV c s]++s.drop ((gq c s).1.toNat+1),(sqX c s).2)
section
variable{c:aO}{s:am}
def aGM(h0:(kc c s).1=0):qh c s=(s.take (gq c s).1.toNat++s.drop ((gq c s).1.toNat+1),(kc c s).2):=if_pos h0
def aGN(h0:¬(kc c s).1=0)(h1:(kc c s).1=1):qh c s=(s.take (gq c s).1.toNat++kr [(Pj c s).1]++s.drop (gq c s).1.toNat,(Pj c s).2):=by unfold qh;rw [if_neg h0,if_pos h1]
def aGO(h0:¬(kc c s).1=0)(h1:¬(kc c s).1=1)(h2:(kc c s).1=2):qh c s=(s.take (gq c s).1.toNat,(kc c s).2):=by unfold qh;rw [if_neg h0,if_neg h1,if_pos h2]
def aGP(h0:¬(kc c s).1=0)(h1:¬(kc c s).1=1)(h2:¬(kc c s).1=2):qh c s=(s.take (gq c s).1.toNat++kr [sqV c s]++s.drop ((gq c s).1.toNat+1),(sqX c s).2):=by unfold qh;rw [if_neg h0,if_neg h1,if_neg h2]
def auf(l:List Int):(kr l).length=l.length:=by unfold kr;exact aU _
def aGQ:(qh c s).1.length≤s.length+4:=by
 unfold qh;repeat' split
 all_goals (dsimp only;simp only [bv,cc,ll,auf,List.length_cons,List.length_nil];omega)
end
def PA:List am:=[([114,101,115,117,108,116,32]:am),([115,101,103,109,101,110,116,32]:am)]
def PB:List am:=[([101,110,103,105,110,101]:am),([99,104,97,114,103,101,115]:am),([97,99,116,105,118,101]:am),([102,105,110,105,115,104]:am),([97,100,97,112,116]:am)]
def PC:List am:=[[],([119,104,97,116]:am),([111,114,100,101,114,32,50,32,48,32,49]:am),([111,114,100,101,114,32,48,32,48,32,49]:am),([115,101,103,109,101,110,116,32,57]:am),([116,97,98,108,101,32,57]:am),([115,116,101,112,32,48]:am),([105,110,115,101,114,116,32,49,58,49,44,50,44,51]:am),([105,110,115,101,114,116,32,50,58,49,44,49,44,49]:am),([105,110,115,101,114,116,32,51,58,50,44,48,44,49]:am)]
def eE(c:aO):Int×aO:=av c 8
def Im(c:aO)(s:Store):fg×aO:=fx (eE c).2 s
def DJ(c:aO):Int×aO:=av (eE c).2 2
def DK(c:aO):Int×aO:=av (DJ c).2 6
def Pk(c:aO):Int×aO:=av (eE c).2 5
def Pm(c:aO):Int×aO:=av (eE c).2 10
def pk(c:aO)(s:Store):am×aO:=
 if (eE c).1 < 4 then (gB (Im c s).1,(Im c s).2) else if (eE c).1=4 then (PA.getD (DJ c).1.toNat []++itoa (DK c).1,(DK c).2) else if (eE c).1=5 then (PB.getD (Pk c).1.toNat [],(Pk c).2) else (PC.getD (Pm c).1.toNat [],(Pm c).2)
def aGR{s:Store}(h:(eE c).1 < 4):pk c s=(gB (Im c s).1,(Im c s).2):=if_pos h
def aaf{s:Store}(h:¬(eE c).1 < 4)(h4:(eE c).1=4):pk c s=(PA.getD (DJ c).1.toNat []++itoa (DK c).1,(DK c).2):=by unfold pk;rw [if_neg h,if_pos h4]
def aag{s:Store}(h:¬(eE c).1 < 4)(h4:¬(eE c).1=4)(h5:(eE c).1=5):pk c s=(PB.getD (Pk c).1.toNat [],(Pk c).2):=by unfold pk;rw [if_neg h,if_neg h4,if_pos h5]
def aah{s:Store}(h:¬(eE c).1 < 4)(h4:¬(eE c).1=4)(h5:¬(eE c).1=5):pk c s=(PC.getD (Pm c).1.toNat [],(Pm c).2):=by unfold pk;rw [if_neg h,if_neg h4,if_neg h5]
def Pn(h:ws.all (fun w=>decide (w.length≤m))=true)(i:Nat):(ws.getD i []).length≤m:=by
 by_cases hi:i < ws.length;·rw [wG hi];exact of_decide_eq_true (List.all_eq_true.1 h _ (List.getElem_mem hi))
 ·rw [List.getD_eq_getElem?_getD,List.getElem?_eq_none ab];exact Nat.zero_le _
def aug(c:aO)(s:Store):(pk c s).1.length≤200:=by
 unfold pk;split;·exact aGI _
 ·split
  ·have h1:=Pn (ws:=PA) (m:=8) ai (DJ c).1.toNat
   have h2:=eM (DJ c).2 6;have h3:=fv (DJ c).2 (n:=6) ai;have h4:(itoa (DK c).1).length≤21:=bu (by unfold dN DK;omega);dsimp only;rw [bv];omega
  ·split
   ·exact Nat.le_trans (Pn (ws:=PB) (m:=8) ai _) ai
   ·exact Nat.le_trans (Pn (ws:=PC) (m:=20) ai _) ai
def Po(c:aO):Int×aO:=av (iZ c).c 3
def DL(c:aO):am:=([116,97,98,108,101,32]:am)++itoa (1+(Po c).1)++[10]
def sN(c:aO):Int×aO:=av (Po c).2 18
structure AN where
 t:am
 c:aO
def auh(s:Store)(x:AN):AN:=⟨x.t++(pk x.c s).1++[10],(pk x.c s).2⟩
def ur(s:Store)(x:AN):Nat→AN
 | 0=>x
 | k+1=>auh s (ur s x k)
def wI(c:aO):AN:=⟨DL c,(sN c).2⟩
def ut(c:aO):AN:=ur (iZ c).s (wI c) (2+(sN c).1).toNat
def AO(c:aO):Int×aO:=av (ut c).c 14
def DM(c:aO):am:=if (AO c).1=0 then (qh (AO c).2 (ut c).t).1 else (ut c).t
def aai(s:Store)(x:AN):∀k,x.t.length≤(ur s x k).t.length∧(ur s x k).t.length≤x.t.length+201 * k
 | 0=>⟨Nat.le_refl _,Nat.le_refl _⟩
 | k+1=>by have h:=aai s x k;have h2:=aug (ur s x k).c s;unfold ur auh;simp only [bv,List.length_cons,List.length_nil];omega
def aui(c:aO):0 < (DL c).length∧(DL c).length≤30:=by have h2:=eM (iZ c).c 3;have h3:=fv (iZ c).c (n:=3) ai;have h4:(itoa (1+(Po c).1)).length≤21:=bu (by unfold dN Po;omega);unfold DL;simp only [bv,List.length_cons,List.length_nil];omega
def auj(c:aO):0≤(sN c).1∧(sN c).1 < 18:=⟨eM _ _,fv _ ai⟩
def aGS(c:aO):0 < (ut c).t.length∧(ut c).t.length≤4000:=by have h1:=aui c;have h2:=auj c;have h3:=aai (iZ c).s (wI c) (2+(sN c).1).toNat;have h4:(wI c).t.length=(DL c).length:=rfl;unfold ut;omega
def aGT(c:aO):(DM c).length≤4010:=by have h1:=aGS c;have h2:=aGQ (c:=(AO c).2) (s:=(ut c).t);unfold DM;split<;>omega
structure PS where
 cut:Int
 lines:Int
 full:Int
 frm:Int
def nq(s:am)(i:Nat)(x:PS):Prop:=(i=s.length∧x.frm=i)∨(i < s.length∧¬s.getD i 0=10)
instance(s:am)(i:Nat)(x:PS):Decidable (nq s i x):=by unfold nq;exact inferInstance
def pNx(s:am)(kk:Int)(i:Nat)(x:PS):PS:=if nq s i x then x else ⟨if x.lines+1=kk∧i < s.length then i+1 else x.cut,x.lines+1,if x.frm < i then x.full+1 else x.full,i+1⟩
def dl(s:am)(kk:Int):Nat→PS
 | 0=>⟨0,0,0,0⟩
 | i+1=>pNx s kk i (dl s kk i)
def Pp{kk:Int}(h:nq s i (dl s kk i)):dl s kk (i+1)=dl s kk i:=if_pos h
def AP{kk:Int}(h:¬nq s i (dl s kk i)):dl s kk (i+1)=⟨if (dl s kk i).lines+1=kk∧i < s.length then i+1 else (dl s kk i).cut,(dl s kk i).lines+1,if (dl s kk i).frm < i then (dl s kk i).full+1 else (dl s kk i).full,i+1⟩:=if_neg h
def p_b(s:am)(kk:Int):∀i,(0≤(dl s kk i).cut∧(dl s kk i).cut≤i)∧(0≤(dl s kk i).lines∧(dl s kk i).lines≤i)∧(0≤(dl s kk i).full∧(dl s kk i).full≤i)∧0≤(dl s kk i).frm∧(dl s kk i).frm≤i
 | 0=>by unfold dl;decide
 | i+1=>by
  have h:=p_b s kk i;by_cases hs:nq s i (dl s kk i);·rw [Pp hs];omega
  ·rw [AP hs]
   dsimp only;refine ⟨?_,ab,?_,ab⟩<;>split<;>omega
def wJ(l:List am):Int:=((l.filter fun w=>!w.isEmpty).length:Int)
def aaj(a b:List am):wJ (a++b)=wJ a+wJ b:=by unfold wJ;rw [ic,bv];omega
def aak(w:am):wJ [w]=if 0 < w.length then 1 else 0:=by
 cases w with
 | nil=>rfl
 | cons a r=>rfl
structure PI(s:am)(i:Nat)(x:PS):Prop where
 ln:x.lines=((an 10 (s.take i)).dropLast.length:Int)
 fr:x.frm+(((an 10 (s.take i)).getLastD []).length:Int)=i
 fu:x.full=wJ (an 10 (s.take i)).dropLast
 cu:∃m:Nat,x.cut=m∧m≤i∧(m=0∨∃u,s.take m=u++[10])
def aul(s:am)(kk:Int):∀i,i≤s.length→PI s i (dl s kk i)
 | 0,_=>⟨rfl,rfl,rfl,0,rfl,Nat.le_refl _,.inl rfl⟩
 | i+1,hi=>by
  have h:=aul s kk i ab;have hlt:i < s.length:=ab;have hg:s.getD i 0=s[i]:=by rw [List.getD_eq_getElem?_getD,List.getElem?_eq_getElem hlt];rfl
  obtain ⟨m,hm1,hm2,hm3⟩:=h.cu;have hf:=h.fr;by_cases hc:s[i]=10
  ·have hn:¬nq s i (dl s kk i):=by
    unfold nq;rw [hg];rintro (⟨h1,_⟩|⟨_,h2⟩);·omega
    ·exact h2 hc
   have hy:=atb (c:=10) hlt hc;rw [AP hn];refine ⟨?_,?_,?_,?_⟩;·rw [hy.1,bv];have:=h.ln;dsimp only;simp only [List.length_cons,List.length_nil];omega
   ·rw [hy.2];dsimp only;simp only [List.length_nil];omega
   ·rw [hy.1,aaj,aak,←h.fu]
    dsimp only;split<;>split<;>omega
   ·dsimp only
    split;·exact ⟨i+1,ab,Nat.le_refl _,.inr ⟨s.take i,by rw [cI hlt,hc]⟩⟩
    ·exact ⟨m,hm1,ab,hm3⟩
  ·have hs:nq s i (dl s kk i):=.inr ⟨hlt,by rw [hg];exact hc⟩
   have hn:=atc (c:=10) hlt hc;rw [Pp hs];refine ⟨by rw [hn.1];exact h.ln,?_,by rw [hn.1];exact h.fu,m,hm1,ab,hm3⟩;rw [hn.2,bv];simp only [List.length_cons,List.length_nil];omega
def aGV(s:am)(kk:Int):(dl s kk (s.length+1)).lines=((fQ s).length:Int)∧(dl s kk (s.length+1)).full=wJ (fQ s)∧∃m:Nat,(dl s kk (s.length+1)).cut=m∧m≤s.length∧(m=0∨∃u,s.take m=u++[10]):=by
 have h:=aul s kk s.length (Nat.le_refl _);have hc:=h.cu;have h1:=h.ln;have h2:=h.fr;have h3:=h.fu;rw [bF] at h1 h2 h3;have he:=OI 10 s;by_cases hs:nq s s.length (dl s kk s.length)
 ·rw [Pp hs]
  have hz:(an 10 s).getLastD []=[]:=by
   rcases hs with ⟨_,hf⟩|⟨hl,_⟩;·exact jd ab
   ·exact absurd hl (Nat.lt_irrefl _)
  rw [ZY hz];exact ⟨h1,h3,hc⟩
 ·have hf:¬(dl s kk s.length).frm=s.length:=fun hf=>hs (.inl ⟨rfl,hf⟩)
  rw [AP hs];have hz:¬(an 10 s).getLastD []=[]:=fun hz=>hf (by rw [hz] at h2;simp only [List.length_nil] at h2;omega);have hp:0 < ((an 10 s).getLastD []).length:=List.length_pos_iff.2 hz;rw [ZZ hz];refine ⟨?_,?_,?_⟩;·dsimp only;rw [he,bv] ; rw [h1];simp only [List.length_cons,List.length_nil,List.dropLast_concat];omega
  ·dsimp only
   rw [if_pos ab,h3];conv=>rhs;rw [he]
   rw [aaj,aak,if_pos hp]
  ·obtain ⟨m,e1,e2,e3⟩:=hc
   refine ⟨m,?_,e2,e3⟩;dsimp only;rw [if_neg ab];exact e1
def aGW{a b:List α}{d:α}(h:b≠[]):(a++b).getLastD d=b.getLastD d:=by
 cases b with
 | nil=>exact absurd rfl h
 | cons x r=>rw [List.getLastD_eq_getLast?,List.getLastD_eq_getLast?,List.getLast?_append];cases hg:(x::r).getLast? with
  | none=>simp at hg
  | some z=>rfl
def aGX:fQ []=[]:=rfl
def aum(u v:am):fQ (u++10::v)=an 10 u++fQ v:=by unfold fQ;have hn:=wC 10 v;rw [Ov,aGW hn,List.dropLast_append_of_ne_nil hn];split<;>rfl
def aGY(hm:m≤s.length)(h:m=0∨∃u,s.take m=u++[10]):∃j,j≤(fQ s).length∧fQ (s.take m)=(fQ s).take j:=by
 rcases h with rfl|⟨u,hu⟩;·exact ⟨0,Nat.zero_le _,rfl⟩
 ·have e:s=u++10::s.drop m:=by
   conv=>lhs;rw [←iq m s,hu]
   rw [bn];rfl
  have e1:=aum u (s.drop m);have e2:fQ (s.take m)=an 10 u:=by rw [hu,aum u [],aGX,fS]
  rw [←e] at e1;refine ⟨(an 10 u).length,by rw [e1,bv];omega,?_⟩;rw [e2,e1,List.take_left]
def aGZ{j:Nat}(h:j≤ls.length):dC (ls.take j) (ls.take j).length=dC ls j:=by unfold dC;rw [bF]
def aun(ls:List am)(j:Nat):∀d,j+d≤ls.length→∃r,(dC ls (j+d)).2=(dC ls j).2++r
 | 0,_=>⟨[],(fS _).symm⟩
 | d+1,h=>by
  obtain ⟨r,hr⟩:=aun ls j d ab;rw [show j+(d+1)=j+d+1 from rfl,Ii ab];unfold AM;split;·exact ⟨r,hr⟩
  ·exact ⟨r++((cO (dC ls (j+d)).1 (ls[j+d]'(ab))).2++[10]),by dsimp only;rw [hr,bn]⟩
noncomputable def uu(a s:am):Bool:=decide (a.length≤s.length∧s.take a.length=a)
def aG0(a r:am):uu a (a++r)=true:=by unfold uu;exact decide_eq_true ⟨by rw [bv];omega,List.take_left⟩
def aG1(h1:s.length≤3000)(h2:(fQ s).length≤60)(hm:m≤s.length)(h:m=0∨∃u,s.take m=u++[10]):uu (kG (s.take m)) (kG s)=true:=by obtain ⟨j,hj,e⟩:=aGY hm h;rw [Ij h1 h2,Ij dm (by rw [e,cc];omega),e,aGZ hj];obtain ⟨r,hr⟩:=aun (fQ s) j ((fQ s).length - j) ab;rw [show j+((fQ s).length - j)=(fQ s).length by omega] at hr;rw [hr];exact aG0 _ _
def Pq{c:UInt8}{sep:am}(hs:c∉sep)(h:∀w∈ws,c∉w):c∉cQ ws sep:=by
 induction ws using Ak with
 | h0=>simp [Dl]
 | h1 ws y ih=>
  rw [pT];split;·exact h y aL
  ·simp only [fm,not_or]
   exact ⟨⟨ih (fun w hw=>h w (by simp [hw])),hs⟩,h y aL⟩
def nr(n:Int):(10:UInt8)∉itoa n:=kF rfl
def l10(l:List Int):(10:UInt8)∉eN l:=Ow rfl ai
def kH{a b:am}(h:(10:UInt8)∉a)(k:(10:UInt8)∉b):(10:UInt8)∉a++b:=fun m=>(List.mem_append.1 m).elim h k
def aup(h:∀w∈ws,(10:UInt8)∉w):(10:UInt8)∉wy ws:=by
 unfold wy;split;·decide
 ·exact Pq ai h
def aG2(e:au):(10:UInt8)∉qL e:=by
 unfold qL;split
 ·refine Pq ai fun w hw=>?_
  unfold ud at hw;simp only [ip,List.not_mem_nil,or_false] at hw;rcases hw with rfl|rfl|rfl|rfl|rfl|rfl|rfl|rfl|rfl|rfl|rfl|rfl<;>first|exact nr _|decide
 ·decide
def aG3(l:List cH):(10:UInt8)∉yJ l:=by
 refine Pq ai fun w hw=>?_;unfold ph at hw;rcases List.mem_append.1 hw with hw|hw
 ·simp only [ip,List.not_mem_nil,or_false] at hw
  rcases hw with rfl|rfl;·decide
  ·exact nr _
 ·obtain ⟨i,_,hw⟩:=List.mem_flatMap.1 hw
  simp only [ip,List.not_mem_nil,or_false] at hw;rcases hw with rfl|rfl;·exact kH ai (nr _)
  ·exact nr _
def aG4(e:au):(10:UInt8)∉sI e:=by
 unfold sI;split;·decide
 ·refine Pq ai fun w hw=>?_
  unfold eB at hw;split at hw
  ·obtain ⟨a,_,rfl⟩:=List.mem_map.1 hw
   have hl:(10:UInt8)∉AJ a:=kH (kH (kH (kH (kH (kH (nr _) ai) (nr _)) ai) (nr _)) ai) (nr _);unfold mE;split;·exact hl
   ·exact kH hl ai
  ·cases hw
def aG5(r:Row):(10:UInt8)∉fP r:=by
 unfold fP;split;·exact kH (kH (nr _) ai) (l10 _)
 ·decide
def aG6(f:ig):(10:UInt8)∉qa f:=by
 unfold qa;split
 ·refine aup fun w hw=>?_
  obtain ⟨r,_,rfl⟩:=List.mem_map.1 hw;exact kH (kH (nr _) ai) (l10 _)
 ·decide
def aG7(s:Store)(i:Int):(10:UInt8)∉qe s i:=by
 unfold qe;split
 ·refine aup fun w hw=>?_
  obtain ⟨v,_,rfl⟩:=List.mem_map.1 hw;unfold nn;refine kH (kH (kH (aG5 _) ai) (nr _)) ?_;split;·decide
  ·exact kH ai (nr _)
 ·decide
def aG8(e:au)(l:am):(10:UInt8)∉(cO e l).2:=by
 unfold cO;split;·unfold wH;split<;>(dsimp only;decide)
 ·split
  ·dsimp only;decide
  ·split
   ·dsimp only;split<;>decide
   ·unfold pi
    split
    ·unfold gF
     split;·exact kH (kH (kH (kH (nr _) ai) (nr _)) ai) (nr _)
     ·split
      ·dsimp only;exact nr _
      ·dsimp only
       unfold qg;split;·exact aG2 e
       ·split
        ·exact aG3 _
        ·split
         ·exact aG4 e
         ·decide
    ·split
     ·dsimp only
      unfold lP;split
      ·split
       ·split
        ·exact aG6 _
        ·decide
       ·split
        ·exact aG7 _ _
        ·decide
      ·decide
     ·split<;>(dsimp only;decide)
def auq(ls:List am):∀k,k≤ls.length→(((dC ls k).2.count 10:Nat):Int)=wJ (ls.take k)
 | 0,_=>rfl
 | k+1,hk=>by
  have h:=auq ls k ab;have hlt:k < ls.length:=ab;rw [Ii hlt,cI hlt,aaj,aak,←h];unfold AM;split;·rename_i he;rw [he];simp
  ·rename_i he
   have hz:(cO (dC ls k).1 ls[k]).2.count 10=0:=List.count_eq_zero.2 (aG8 _ _);have hp:0 < ls[k].length:=List.length_pos_iff.2 he;dsimp only;rw [List.count_append,List.count_append,hz,if_pos hp];simp
def aG9(h1:s.length≤3000)(h2:(fQ s).length≤60):(((kG s).count 10:Nat):Int)=wJ (fQ s):=by rw [Ij h1 h2,auq _ _ (Nat.le_refl _),bF]
def aur(s:am):(kG s).length≤7000000:=by
 unfold kG;split;·exact Nat.zero_le _
 ·rename_i h;exact (ZT ab _ (Nat.le_refl _)).2.2
def aHa(h:k < s.length)(hc:s[k]=10):((s.take (k+1)).count 10:Nat)=(s.take k).count 10+1:=by rw [cI h,List.count_append,hc];simp
def aHb(h:k < s.length)(hc:¬s[k]=10):((s.take (k+1)).count 10:Nat)=(s.take k).count 10:=by rw [cI h,List.count_append,List.count_singleton];simp [hc]
def aHc(h:k < s.length):s.getD k 0=10↔((s[k].toNat:Nat):Int)=10:=by
 rw [List.getD_eq_getElem?_getD,List.getElem?_eq_getElem h,Option.getD_some];constructor;·intro e;rw [e];rfl
 ·intro e;exact UInt8.toNat_inj.1 (by show s[k].toNat=10;omega)
end
end Go.Proofs.YtmekkgdboplbjaaGreatDoor
