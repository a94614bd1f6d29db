/- Definitions and their laws. No condition. -/
import Derived.Test.YtmekkgdboplbjaaGreatDoorPZ0
import Derived.Lib.Split
import Derived.Lib.AtoiAllCases
set_option linter.all false
namespace Go.Proofs.YtmekkgdboplbjaaGreatDoor
open Go Go.RowKit M
set_option maxRecDepth 10000
variable{e:au}{l:List Int}{n:Int}{s:am}{a:aJs}{q:aJt}{b:am}{x:fg}{c:UInt8}{r:Row}{ws:List am}{α:Type}{k:Nat}{rows:List Row}{u:aJv}{w:am}{code:List Int}{id:Int}
structure aDy(e:au):Prop where
 so:cv e.Store=true
 c0:0≤e.aJw
 c1:e.aJw < e.Store.aJr.length
 od:ci e.Order=true
 s0:0≤e.Steps
 s1:e.Steps≤100000
 a8:e.aJs.length≤8
 d1:e.Done.length≤1000
 l1:e.aJE.length≤1000
 aa:∀a∈e.aJs,gM e.Store a=true
 pw:e.aJs.Pairwise fun a b=>a.aJt.Id < b.aJt.Id
 fs:∀f∈e.Done,mn e.Store.Now f=true
 cs:∀c∈e.aJE,dI c=true
def gz:aV e=true↔aDy e:=by
 constructor
 ·intro h
  obtain ⟨h1,h2,h3,h4,h5,h6,h7,h8,h9,h10,h11,h12⟩:=hE h;exact ⟨h1,h3,ab,h2,h8,h9,h5,h6,h7,h10,wu h,h11,h12⟩
 ·intro h
  have c0:=h.c0;have c1:=h.c1;have s0:=h.s0;have s1:=h.s1;have a8:=h.a8;have d1:=h.d1;have l1:=h.l1;refine apT ?_ (HI h.aa (h.pw.imp fun {a b} k=>by unfold pV;simpa using k)) (List.all_eq_true.2 h.fs) (List.all_eq_true.2 h.cs);unfold nc;rw [h.so,h.od];simp only [aE,Bool.true_and,aR,decide_eq_true_eq];omega
structure aDz(n:Nat)(now:Int)(a:aJs):Prop where
 t0:0 < a.aJB.length
 tp:a.aJB.Pairwise fun x y=>x < y
 tr:∀x∈a.aJB,0≤x∧x < n
 q:bq a.aJt=true
 tm0:0≤a.Time
 tm1:a.Time≤now
 ag0:0≤a.Age
 ag1:a.Age≤100000
 sn0:0≤a.Sent
 sn1:a.Sent≤1000
 cp0:0≤a.Cap
 cp1:a.Cap≤32
 rk:∀r∈a.Rows,bw r=true
 rl:a.Rows.length≤1000
def aDA(h:fq 0 (oL n) oM l=true):l.Pairwise fun x y=>x < y:=by
 rw [List.pairwise_iff_getElem];have step:∀i (hi:i+1 < l.length),l[i] < l[i+1]:=by
  intro i hi;have:=List.all_eq_true.1 h (i+1) (List.mem_range.2 hi);rw [mY,show i+1 - 1=i from rfl,fZ hi,fZ (show i < l.length by omega)] at this;rcases this.2 with h0|h0;·omega
  ·unfold oM at h0;simpa using h0
 intro i j hi hj hij;induction j with
 | zero=>omega
 | succ j ih=>
  by_cases he:i=j;·subst he;exact step i hj
  ·have h1:=ih ab ab
   have h2:=step j hj;omega
def qU{s:Store}:gM s a=true↔aDz s.aJr.length s.Now a:=by
 constructor
 ·intro h
  unfold gM oN jj at h;simp only [aR,aE,decide_eq_true_eq] at h;obtain ⟨⟨h1,h2⟩,h3,h4,h5,h6,h7,h8,h9⟩:=h;refine ⟨h2,aDA h1,fun x hx=>?_,h3,h4.1,h4.2,h5.1,h5.2,h6.1,h6.2,h7.1,h7.2,List.all_eq_true.1 h8,ab⟩;obtain ⟨k,hk,rfl⟩:=List.mem_iff_getElem.1 hx;have:=Hb h1 hk;unfold oL aE at this;simp only [aR,decide_eq_true_eq] at this;omega
 ·intro h
  have t0:=h.t0;have tm0:=h.tm0;have tm1:=h.tm1;have ag0:=h.ag0;have ag1:=h.ag1;have sn0:=h.sn0;have sn1:=h.sn1;have cp0:=h.cp0;have cp1:=h.cp1;have rl:=h.rl;unfold gM oN jj;have e1:fq 0 (oL s.aJr.length) oM a.aJB=true:=HI (fun x hx=>by have:=h.tr x hx;unfold oL aE;simp only [aR,decide_eq_true_eq];omega) (h.tp.imp fun {a b} k=>by unfold oM;simpa using k);rw [e1,h.q,List.all_eq_true.2 h.rk];simp only [aE,Bool.true_and,aR,decide_eq_true_eq];omega
def YT{now:Int}{f:ig}:mn now f=true↔bq f.aJt=true∧(0≤f.Time∧f.Time≤now)∧(0≤f.Steps∧f.Steps≤100000)∧(∀r∈f.Rows,bw r=true)∧f.Rows.length≤1000:=by
 unfold mn jj;simp only [aR,aE,decide_eq_true_eq,nw];constructor;·rintro ⟨h1,h2,h3,h4,h5⟩;exact ⟨h1,h2,h3,h4,ab⟩
 ·rintro ⟨h1,h2,h3,h4,h5⟩;exact ⟨h1,h2,h3,h4,ab⟩
def ash(h:bq q=true):(0≤q.Id∧q.Id≤23)∧0≤q.aJx∧q.aJx≤3:=by unfold bq at h;simp only [aR,aE,decide_eq_true_eq] at h;omega
def aDB(h:aV e=true){b:aJs}(ha:a∈e.aJs)(hb:b∈e.aJs)(hid:a.aJt.Id=b.aJt.Id):a=b:=by obtain ⟨i,hi,rfl⟩:=List.mem_iff_getElem.1 ha;obtain ⟨j,hj,rfl⟩:=List.mem_iff_getElem.1 hb;have:=HG h hi hj hid;subst this;rfl
def YU{x:Int}:cn l x=true↔x∈l:=by unfold cn;simp
def aDC(h:aV e=true)(ha:a∈e.aJs):cn (parts e) a.aJt.Id=kW e a:=by
 rw [Bool.eq_iff_iff,YU,wa h];unfold jn;rw [Jo];constructor
 ·rintro ⟨b,hb,hid⟩
  obtain ⟨hb,hp⟩:=List.mem_filter.1 hb;rw [←aDB h hb ha hid];exact hp
 ·intro hp;exact ⟨a,List.mem_filter.2 ⟨ha,hp⟩,rfl⟩
def im(e:au)(a:aJs):aJs:=oa (e.Store.aJr.length:Int) (if kW e a then pZ e a else a)
def aDD(h:aV e=true):(jX e).aJs=(e.aJs.map (im e)).filter (fun a=>!gy a)∧(jX e).Done=e.Done++((e.aJs.map (im e)).filter gy).map yy:=by
 have hl:=Yj (e:=e) (k:=(parts e).length);have ht:(dQ e (parts e).length).take e.aJs.length=dQ e (parts e).length:=tf ab;have hs:dQ e (parts e).length=e.aJs.map (im e):=by unfold dQ cS;rw [List.map_map,bF];refine List.map_congr_left fun a ha=>?_;show oa _ (nZ e (parts e) a)=im e a;unfold nZ im;rw [aDC h ha]
 unfold jX Yc ob kC;dsimp only;rw [ht,hs];exact ⟨rfl,rfl⟩
def aDE(h:aV e=true)(a:aJs):∀r∈mx e a,bw r=true:=by intro r hr;unfold mx at hr;exact arO h a.Time r (List.mem_filter.1 hr).1
def HO:(im e a).aJt=a.aJt∧(im e a).Time=a.Time∧(im e a).Cap=a.Cap∧(im e a).Age=a.Age+1:=by unfold im oa pZ;split<;>exact ⟨rfl,rfl,rfl,rfl⟩
def asi:(im e a).Rows=if kW e a then a.Rows++mx e a else a.Rows:=by unfold im oa pZ;split<;>rfl
def asj:(im e a).aJB=if kW e a then jG a.aJB e.aJw else a.aJB:=by unfold im oa pZ;split<;>rfl
def aDF:(im e a).Sent=if (a.Age+1).tmod (e.Store.aJr.length:Int)=0 then 0 else if kW e a then a.Sent+((mx e a).length:Int) else a.Sent:=by unfold im oa pZ;split<;>rfl
structure aJn(N:Nat)(e:au):Prop where
 ok:aV e=true
 ld:e.aJE.length≤N
 dn:e.Done.length+e.aJs.length≤N
 ag:∀a∈e.aJs,a.Age≤N∧a.Sent≤4 * N∧a.Rows.length≤4 * N
structure aDG(N:Nat)(e:au):Prop where
 ok:aV e=true
 st:e.Steps≤N
 ld:e.aJE.length≤N
 dn:e.Done.length+e.aJs.length≤N
 ag:∀a∈e.aJs,a.Age≤N∧a.Sent≤4 * N∧a.Rows.length≤4 * N
def aDH(h:aV e=true)(hp:0 < (parts e).length):dI (gk e (parts e).length)=true:=by
 have hk:=gz.1 h;have hl:=NX (e:=e) (Nat.le_refl (parts e).length);have hpl:=Ap (e:=e);have ha8:=hk.a8;have hs8:=(oV.1 hk.so).l8;have hc0:=hk.c0;have hc1:=hk.c1;have hs4:=NY h;have hset:fC (parts e)=true:=by
  have:fq 0 (fun x=>aE x 0 23) (fun a b=>decide (a < b)) (parts e)=true:=HI (fun x hx=>by rw [wa h] at hx;obtain ⟨a,ha,rfl⟩:=List.mem_map.1 hx;have:=ash (qU.1 (hk.aa a (List.mem_filter.1 ha).1)).q;unfold aE;simp only [aR,decide_eq_true_eq];omega) ((Yd h).imp fun {a b} k=>by simpa using k)
  exact this
 unfold dI pU;have e1:(gk e (parts e).length).Ids=parts e:=by unfold gk;rw [bF]
 have e2:(gk e (parts e).length).Segment=e.aJw:=rfl;have e3:(gk e (parts e).length).Base=((cN e).length:Int):=rfl;have e4:vY (gk e (parts e).length) (gk e (parts e).length).Ids.length=true:=by
  unfold vY;refine List.all_eq_true.2 fun k hk2=>?_;have hk2:=List.mem_range.1 hk2;rw [e1] at hk2;unfold tZ;rw [e3];have t1:(gk e (parts e).length).aJy.getD k 0=Dw e (parts e)[k]:=by unfold gk;dsimp only;rw [bF,List.getD_eq_getElem?_getD,List.getElem?_map,List.getElem?_eq_getElem hk2];rfl
  have t2:(gk e (parts e).length).Rows.getD k 0=Dx e (parts e)[k]:=by unfold gk;dsimp only;rw [bF,List.getD_eq_getElem?_getD,List.getElem?_map,List.getElem?_eq_getElem hk2];rfl
  obtain ⟨i,hi,hf,hid,hpp⟩:=Ye h hk2;have ha:=Yg hi hf;rw [t1,t2];unfold Dw Dx;rw [ha];have h5:=ash (qU.1 (hk.aa _ (List.getElem_mem hi))).q;have h6:(mx e e.aJs[i]).length≤(cN e).length:=Nat.le_trans (kh _ _) (HH _ _);simp only [aE,aR,decide_eq_true_eq];omega
 rw [e4,e1,e2,e3,hset];simp only [aE,Bool.true_and,Bool.and_true,aR,decide_eq_true_eq];exact ⟨⟨⟨ab,ab⟩,ab,ab⟩,⟨ab,ab⟩,ab,ab⟩
def aDI(h:aV e=true):aV (eV e)=true:=by
 have hk:=gz.1 h;have hr:=aCL (s:=e.Store) (jD e.aJs);rw [gz];unfold eV;refine ⟨aCK _ hk.so,hk.c0,?_,hk.od,hk.s0,hk.s1,hk.a8,hk.d1,hk.l1,fun a ha=>?_,hk.pw,fun f hf=>?_,hk.cs⟩;·dsimp only;rw [hr.1];exact hk.c1
 ·dsimp only;rw [qU,hr.1,hr.2,←qU];exact hk.aa a ha
 ·dsimp only;rw [hr.2];exact hk.fs f hf
def aDJ{c:Int}(h0:0≤c)(h1:c < n):(c+1).tmod n=if c+1=n then 0 else c+1:=by
 rw [Int.tmod_eq_emod_of_nonneg ab];split;·rename_i h;rw [h,Int.emod_self]
 ·exact Int.emod_eq_of_lt ab ab
def aDK{n:Nat}:∀x∈sw n,0≤x∧x < n:=by intro x hx;unfold sw at hx;obtain ⟨i,hi,rfl⟩:=List.mem_map.1 hx;have:=List.mem_range.1 hi;omega
def aDL{l:Int}(h:aV e=true)(hq:bq q=true)(hl:0≤l∧l≤32):gM e.Store (fi e q l)=true:=by have hk:=gz.1 h;have hs:=oV.1 hk.so;have l1:=hs.l1;rw [qU];unfold fi;refine ⟨by rw [HN];omega,?_,aDK,hq,hs.n0,Int.le_refl _,Int.le_refl 0,Qf,Int.le_refl 0,by show (0:Int)≤1000;decide,hl.1,hl.2,aL,aL⟩;unfold sw;rw [List.pairwise_map];refine (List.pairwise_lt_range).imp fun {a b} k=>by omega
def aDM{l:Int}(h:aV e=true):(oX e q l).Perm (fi e q l::e.aJs):=by have hc:=DA (fun a:aJs=>a.aJt.Id) q.Id (wu h);have e1:e.aJs.filter (mA q.Id)=e.aJs.take (fj e.aJs q.Id):=hc;unfold oX;rw [e1];refine List.perm_middle.trans ?_;rw [iq]
def aDN{l:Int}(h:aV e=true)(hf:eO e.aJs q.Id < 0):(oX e q l).Pairwise fun a b=>a.aJt.Id < b.aJt.Id:=by
 have hp:=wu h;have hc:=DA (fun a:aJs=>a.aJt.Id) q.Id hp;have e1:e.aJs.filter (mA q.Id)=e.aJs.take (fj e.aJs q.Id):=hc;have hcut:=fun (k:Nat) (hk:k < e.aJs.length)=>ar9 (x:=q.Id) h hk;have hge:∀b∈e.aJs.drop (fj e.aJs q.Id),q.Id < b.aJt.Id:=by intro b hb;obtain ⟨j,hj,rfl⟩:=List.mem_iff_getElem.1 hb;rw [ll] at hj;rw [List.getElem_drop];have h1:=hcut (fj e.aJs q.Id+j) ab;have h2:=asa hf (show fj e.aJs q.Id+j < e.aJs.length by omega);omega
 have hlt:∀b∈e.aJs.take (fj e.aJs q.Id),b.aJt.Id < q.Id:=by intro b hb;rw [←e1] at hb;have:=(List.mem_filter.1 hb).2;unfold mA at this;simpa using this
 unfold oX;rw [e1,List.pairwise_append,List.pairwise_cons];refine ⟨hp.sublist (List.take_sublist _ _),⟨fun b hb=>hge b hb,hp.sublist (List.drop_sublist _ _)⟩,fun a ha b hb=>?_⟩;have h1:=hlt a ha;rcases List.mem_cons.1 hb with rfl|hb;·exact h1
 ·have:=hge b hb;omega
def ww:aJv:=⟨0,⟨0,[]⟩,0,0⟩
def wx:aJt:=⟨0,0,[],[]⟩
def eh(c:aO):Int×aO:=av c 6
def YV(c:aO):aJt×aO:=oI (av (eh c).2 6).2 (av (eh c).2 6).1
def Ol(c:aO):Int×aO:=ct (YV c).2 [0,0,1,2]
def fx(c:aO)(s:Store):fg×aO:=
 if (eh c).1=0∨(eh c).1=1 then (⟨1,(YV c).1,(Ol c).1,0,ww,0⟩,(Ol c).2)
 else if (eh c).1=2 then (⟨2,wx,0,(av (eh c).2 6).1,ww,0⟩,(av (eh c).2 6).2)
 else if (eh c).1=3 then (⟨4,wx,0,0,ww,1+(av (eh c).2 3).1⟩,(av (eh c).2 3).2)
 else (⟨3,wx,0,0,(iN (eh c).2 s).1,0⟩,(iN (eh c).2 s).2)
def asl{c:aO}{s:Store}(h:(eh c).1=0∨(eh c).1=1):fx c s=(⟨1,(YV c).1,(Ol c).1,0,ww,0⟩,(Ol c).2):=if_pos h
def asm{c:aO}{s:Store}(h:¬((eh c).1=0∨(eh c).1=1))(h2:(eh c).1=2):fx c s=(⟨2,wx,0,(av (eh c).2 6).1,ww,0⟩,(av (eh c).2 6).2):=by unfold fx;rw [if_neg h,if_pos h2]
def asn{c:aO}{s:Store}(h:¬((eh c).1=0∨(eh c).1=1))(h2:¬(eh c).1=2)(h3:(eh c).1=3):fx c s=(⟨4,wx,0,0,ww,1+(av (eh c).2 3).1⟩,(av (eh c).2 3).2):=by unfold fx;rw [if_neg h,if_neg h2,if_pos h3]
def aso{c:aO}{s:Store}(h:¬((eh c).1=0∨(eh c).1=1))(h2:¬(eh c).1=2)(h3:¬(eh c).1=3):fx c s=(⟨3,wx,0,0,(iN (eh c).2 s).1,0⟩,(iN (eh c).2 s).2):=by unfold fx;rw [if_neg h,if_neg h2,if_neg h3]
inductive Om(s:Store):fg→Prop
 | adm (q:aJt) (l:Int) (h1:bq q=true) (h2:0≤q.Id∧q.Id≤5) (h3:0≤l∧l≤2):Om s ⟨1,q,l,0,ww,0⟩
 | can (i:Int) (h:0≤i∧i≤5):Om s ⟨2,wx,0,i,ww,0⟩
 | stp (n:Int) (h:1≤n∧n≤3):Om s ⟨4,wx,0,0,ww,n⟩
 | upd (u:aJv):Om s ⟨3,wx,0,0,u,0⟩
structure aJo where
 l:List fg
 c:aO
def pb(s:Store):au:=⟨s,0,[0,1,2],[],[],[],0⟩
def fP(r:Row):am:=if bw r then itoa r.Id++[58]++eN r.Values else []
def qV(h:bw r=true):0≤r.Id∧r.Id≤999∧r.Values.length=3∧∀x∈r.Values,dN x:=by unfold bw at h;simp only [aR,decide_eq_true_eq,aE] at h;refine ⟨h.2.1.1,h.2.1.2,ab,fun x hx=>?_⟩;have:=List.all_eq_true.1 h.1 x hx;simp [nJ,aE] at this;unfold dN;omega
def yE(r:Row):(fP r).length≤100:=by
 unfold fP;split
 ·rename_i h
  obtain ⟨h1,h2,h3,h4⟩:=qV h;have h5:(itoa r.Id).length≤21:=bu br;have h6:=qK h4;simp only [bv,List.length_cons,List.length_nil];omega
 ·simp
def aDO(n:Int):itoa n≠[]:=by
 have hd:∀u,Lib.decDigits u≠[]:=fun u e=>by have:=Lib.nDigits_pos u;rw [←Lib.decDigits_length,e] at this;simp at this
 by_cases h:n < 0;·rw [yl h];simp
 ·rw [qJ h];exact hd _
def wy(ws:List am):am:=if ws=[] then [110,111,110,101] else cQ ws [32]
def asp(h:ws≠[]):wy ws=cQ ws [32]:=if_neg h
def asq{sep:am}(h:ws≠[])(hw:∀x∈ws,x≠[]):cQ ws sep≠[]:=by
 cases ws with
 | nil=>exact absurd rfl h
 | cons x r=>
  unfold cQ;rw [Lib.join_cons];intro e;exact hw x aL (List.append_eq_nil_iff.1 e).1
def asr(hw:∀x∈ws,x≠[]):(if cQ ws [32]=[] then [110,111,110,101] else cQ ws [32])=wy ws:=by
 by_cases h:ws=[];·subst h;rfl
 ·rw [if_neg (asq h hw),asp h]
def ass{β:Type}{l:List α}{f:α→β}(h:k < l.length)(hk:¬k=0):(l.take k).map f≠[]:=by
 intro e;have:=congrArg List.length e;rw [aU,cc] at this;simp at this;rcases this with e|e;·exact hk e
 ·rw [e] at h;simp at h
def uk(q:aJt)(r:Row):List Int:=if bw r&&bq q then q.Out.map fun f=>r.Values.getD f.toNat 0 else []
def DB(h:bq q=true):q.Out.length≤3∧∀f∈q.Out,0≤f∧f≤2:=by unfold bq pP at h;simp only [aR] at h;have h1:=h.2.2.1;have h2:=h.2.2.2;refine ⟨by simp [aE] at h2;omega,fun f hf=>?_⟩;have:=List.all_eq_true.1 h1 f hf;simpa [mZ,aE] using this
def aDP(h:(k=q.Out.length∧(bw r&&bq q)=true)∨(k=0∧(q.Out.length=0∨(bw r&&bq q)=false))):((q.Out.take k).map fun f=>r.Values.getD f.toNat 0)=uk q r:=by
 unfold uk;rcases h with ⟨rfl,h⟩|⟨rfl,h⟩;·rw [if_pos h,bF]
 ·split
  ·rename_i h2
   rcases h with h|h;·rw [jd h];rfl
   ·rw [h] at h2;cases h2
  ·rfl
def YW(q:aJt)(r:Row):(uk q r).length≤3∧∀x∈uk q r,dN x:=by
 unfold uk;split
 ·rename_i h
  rw [aR] at h;obtain ⟨h1,h2,h3,h4⟩:=qV h.1;have h5:=DB h.2;refine ⟨by rw [aU];exact h5.1,fun x hx=>?_⟩;obtain ⟨f,hf,rfl⟩:=List.mem_map.1 hx;have:=h5.2 f hf;have hlt:f.toNat < r.Values.length:=ab;rw [List.getD_eq_getElem?_getD,List.getElem?_eq_getElem hlt];exact h4 _ (List.getElem_mem hlt)
 ·exact ⟨aL,fun x hx=>nomatch hx⟩
def oi(q:aJt)(r:Row):am:=itoa r.Id++[58]++eN (uk q r)
def aDQ(q:aJt)(r:Row):oi q r≠[]:=by unfold oi;intro e;exact aDO r.Id (List.append_eq_nil_iff.1 (List.append_eq_nil_iff.1 e).1).1
def aDR(h:bw r=true):(oi q r).length≤100:=by obtain ⟨h1,h2,h3,h4⟩:=qV h;have h5:(itoa r.Id).length≤21:=bu br;have h6:=YW q r;have h7:=qK h6.2;unfold oi;simp only [bv,List.length_cons,List.length_nil];omega
def qa(x:ig):am:=if bq x.aJt&&jj x.Rows then wy (x.Rows.map (oi x.aJt)) else []
def YX(h:jj rows=true)(hr:r∈rows):bw r=true:=by unfold jj at h;rw [aR] at h;exact List.all_eq_true.1 h.1 r hr
def YY(h:jj rows=true):rows.length≤1000:=by unfold jj at h;rw [aR] at h;have:=of_decide_eq_true h.2;omega
def On(h:jj rows=true)(k:Nat):(cQ ((rows.take k).map (oi q)) [32]).length≤101000:=by
 have h1:=tY (m:=100) (sep:=[32]) (xs:=(rows.take k).map (oi q)) (by intro x hx;obtain ⟨r,hr,rfl⟩:=List.mem_map.1 hx;exact aDR (YX h (List.mem_of_mem_take hr)))
 have h2:=YY h;rw [aU,cc] at h1;simp only [List.length_cons,List.length_nil] at h1;have:min k rows.length * (100+(0+1))≤1000 * 101:=Nat.mul_le_mul ab ab;omega
def mB(c:fI):List am:=[[102]++itoa c.Field,itoa c.Low++[46,46]++itoa c.High]
def ja(q:aJt)(k:Nat):List am:=[[113]++itoa q.Id,[116]++itoa q.aJx]++(q.aJu.take k).flatMap mB
def ast(h:k < q.aJu.length):ja q (k+1)=ja q k++mB q.aJu[k]:=by unfold ja;rw [awz h,bn]
def asu:ja q k≠[]:=by simp [ja]
def fc(q:aJt):am:=if bq q then cQ (ja q q.aJu.length++[[111,117,116],eN q.Out]) [32] else []
def yF(h:bq q=true):0≤q.Id∧q.Id≤23∧0≤q.aJx∧q.aJx≤3∧q.aJu.length≤3∧q.Out.length≤3∧(∀x∈q.Out,dN x)∧∀k,(hk:k < q.aJu.length)→0≤q.aJu[k].Field∧q.aJu[k].Field≤2∧0≤q.aJu[k].Low∧q.aJu[k].Low≤99∧0≤q.aJu[k].High∧q.aJu[k].High≤99:=by have ho:=DB h;have h':=h;unfold bq pO at h';simp only [aR,aE,decide_eq_true_eq] at h';refine ⟨ab,ab,ab,ab,ab,ho.1,fun x hx=>by have:=ho.2 x hx;unfold dN;omega,fun k hk=>?_⟩;have:=List.all_eq_true.1 h'.2.1 k (List.mem_range.2 hk);rw [aR,fZ hk] at this;have:=this.1;simp [pN,aE] at this;omega
def HP(k:Nat):(ja q k).length=2+2 * (q.aJu.take k).length:=by
 unfold ja;rw [bv];have:∀l:List fI,(l.flatMap mB).length=2 * l.length:=by
  intro l;induction l with
  | nil=>rfl
  | cons c l ih=>rw [List.flatMap_cons,bv,ih];simp [mB];omega
 rw [this];rfl
def aDS(h:bq q=true)(k:Nat):∀x∈ja q k,x.length≤66:=by
 obtain ⟨a1,a2,a3,a4,a5,a6,a7,a8⟩:=yF h;have h1:(itoa q.Id).length≤21:=bu br;have h2:(itoa q.aJx).length≤21:=bu br;intro x hx;unfold ja at hx;rcases List.mem_append.1 hx with hx|hx
 ·simp only [ip,List.not_mem_nil,or_false] at hx
  rcases hx with rfl|rfl<;>simp only [bv,List.length_cons,List.length_nil]<;>omega
 ·obtain ⟨c,hc,hx⟩:=List.mem_flatMap.1 hx
  obtain ⟨j,hj,rfl⟩:=List.mem_iff_getElem.1 (List.mem_of_mem_take hc);have h3:=a8 j hj;have h4:(itoa q.aJu[j].Field).length≤21:=bu br;have h5:(itoa q.aJu[j].Low).length≤21:=bu br;have h6:(itoa q.aJu[j].High).length≤21:=bu br;simp only [mB,ip,List.not_mem_nil,or_false] at hx;rcases hx with rfl|rfl<;>simp only [bv,List.length_cons,List.length_nil]<;>omega
def HQ(h:bq q=true)(k:Nat):(cQ (ja q k) [32]).length≤600:=by have h1:=tY (m:=66) (sep:=[32]) (aDS h k);have h2:=(yF h).2.2.2.2.1;have h3:=HP (q:=q) k;rw [cc] at h3;rw [h3] at h1;simp only [List.length_cons,List.length_nil] at h1;have:(2+2 * min k q.aJu.length) * (66+(0+1))≤8 * 67:=Nat.mul_le_mul ab ab;omega
def YZ(k:Nat):cQ (ja q k++[[111,117,116],eN q.Out]) [32]=cQ (ja q k) [32]++[32,111,117,116,32]++eN q.Out:=by rw [WQ asu];simp [bn]
def Oo(q:aJt):(fc q).length≤800:=by
 unfold fc;split
 ·rename_i h
  have h1:=HQ h q.aJu.length;obtain ⟨a1,a2,a3,a4,a5,a6,a7,a8⟩:=yF h;have h2:=qK a7;rw [YZ];simp only [bv,List.length_cons,List.length_nil];omega
 ·simp
def gA(u:aJv):am:=
 if ez u then
  if u.Kind=1 then [105,110,115,101,114,116,32]++fP u.Row
  else if u.Kind=2 then [100,101,108,101,116,101,32]++itoa u.Row.Id
  else [115,101,116,32]++itoa u.Row.Id++[32,102]++itoa u.Field++[32]++itoa u.Value
 else []
def Za(h:ez u=true):0≤u.Row.Id∧u.Row.Id≤999∧0≤u.Field∧u.Field≤99∧0≤u.Value∧u.Value≤99:=by
 unfold ez at h;split at h;·simp [bw,aE] at h;omega
 ·split at h
  ·simp [rL,aE] at h;omega
  ·split at h
   ·simp [rL,aE] at h;omega
   ·cases h
def asv(u:aJv):(gA u).length≤200:=by
 unfold gA;split
 ·rename_i h
  have h1:=Za h;have h2:=yE u.Row;have h3:(itoa u.Row.Id).length≤21:=bu br;have h4:(itoa u.Field).length≤21:=bu br;have h5:(itoa u.Value).length≤21:=bu br;split;·simp only [bv,List.length_cons,List.length_nil];omega
  ·split<;>simp only [bv,List.length_cons,List.length_nil]<;>omega
 ·simp
def gB(x:fg):am:=
 if eC x then
  if x.Kind=1 then [97,100,109,105,116,32]++itoa x.Limit++[32]++fc x.aJt
  else if x.Kind=2 then [99,97,110,99,101,108,32]++itoa x.Id
  else if x.Kind=3 then gA x.aJv
  else [115,116,101,112,32]++itoa x.Steps
 else []
def asw(h:eC x=true):0≤x.Limit∧x.Limit≤32∧0≤x.Id∧x.Id≤23∧0≤x.Steps∧x.Steps≤100:=by
 unfold eC at h;split at h;·simp [aE] at h;omega
 ·split at h
  ·simp [aE] at h;omega
  ·split at h
   ·simp [aE] at h;omega
   ·split at h
    ·simp [aE] at h;omega
    ·cases h
section
/- ---- one value by its text ---- -/
noncomputable def pc(P:α→Bool)(f:α→am)(s:am):Option α:=@dite _ (∃x,P x=true∧f x=s) (Classical.propDecidable _) (fun h=>some h.choose) (fun _=>none)
section
variable{α:Type}{P:α→Bool}{f:α→am}{g:am→α}{s:am}{x:α}
def asx(h:pc P f s=some x):P x=true∧f x=s:=by
 unfold pc at h;split at h;·rename_i h1;injection h with h;subst h;exact h1.choose_spec
 ·cases h
def HR(hg:∀x,P x=true→g (f x)=x)(h:P x=true):pc P f (f x)=some x:=by have h1:∃y,P y=true∧f y=f x:=⟨x,h,rfl⟩;unfold pc;rw [dif_pos h1];have h2:=h1.choose_spec;have h3:=hg _ h2.1;rw [h2.2,hg _ h] at h3;rw [←h3]
def wz(hg:∀x,P x=true→g (f x)=x)(h1:P (g s)=true)(h2:f (g s)=s):pc P f s=some (g s):=by have:=HR (x:=g s) hg h1;rwa [h2] at this
def AF(h:∀x,P x=true→f x≠s):pc P f s=none:=by unfold pc;rw [dif_neg];rintro ⟨x,h1,h2⟩;exact h x h1 h2
def qb(hg:∀x,P x=true→g (f x)=x)(h:¬(P (g s)=true∧f (g s)=s)):pc P f s=none:=by apply AF;rintro x h1 rfl;rw [hg x h1] at h;exact h ⟨h1,rfl⟩
def Zb{ok:am→Bool}(hk:∀x,P x=true→ok (f x)=true)(h:ok s=false):pc P f s=none:=by apply AF;rintro x h1 rfl;rw [hk x h1] at h;cases h
end
/- ---- numbers ---- -/
def qc(b:UInt8):Bool:=decide (48≤b.toNat)&&decide (b.toNat≤57)
def AG(l:am):Nat:=l.foldl (fun a b=>a * 10+(b.toNat - 48)) 0
def asy(l:am)(b:UInt8):AG (l++[b])=AG l * 10+(b.toNat - 48):=by unfold AG;rw [List.foldl_append];rfl
def Oq{d:Nat}(h:d < 10):(UInt8.ofNat (48+d)).toNat=48+d:=by rw [UInt8.toNat_ofNat'];omega
def DC(u:Nat):∀b∈Lib.decDigits u,qc b=true:=by
 induction u using Nat.strongRecOn with
 | ind u ih=>
  intro b hb;by_cases h:u < 10
  ·rw [yk h] at hb
   rw [List.mem_singleton] at hb;subst hb;unfold qc;rw [Oq h,aR,decide_eq_true_iff,decide_eq_true_iff];omega
  ·rw [Ho ab] at hb
   rcases List.mem_append.1 hb with hb|hb;·exact ih _ ab b hb
   ·rw [List.mem_singleton] at hb;subst hb
    unfold qc;rw [Oq (Nat.mod_lt _ ab),aR,decide_eq_true_iff,decide_eq_true_iff];omega
def Zc(u:Nat):AG (Lib.decDigits u)=u:=by
 induction u using Nat.strongRecOn with
 | ind u ih=>
  by_cases h:u < 10
  ·rw [yk h]
   show 0 * 10+((UInt8.ofNat (48+u)).toNat - 48)=u;rw [Oq h];omega
  ·rw [Ho ab,asy,ih _ ab,Oq (Nat.mod_lt _ ab)]
   omega
def Zd(u:Nat):Lib.decDigits u≠[]:=by
 by_cases h:u < 10;·rw [yk h];simp
 ·rw [Ho ab];simp
def HS:∀(k u:Nat),u < 10 ^ (k+1)→(Lib.decDigits u).length≤k+1
 | 0,u,h=>by rw [yk qn];simp
 | k+1,u,h=>by
  by_cases h1:u < 10;·rw [yk h1];simp
  ·rw [Ho ab,bv]
   have:=HS k (u / 10) (by rw [Nat.pow_succ] at h;omega);simp;omega
def HT(b:UInt8):Bool:=qc b||b==45
def aDT(n:Int):∀b∈itoa n,HT b=true:=by
 intro b hb;by_cases h:n < 0
 ·rw [yl h] at hb
  rcases List.mem_cons.1 hb with rfl|hb;·rfl
  ·simp [HT,DC _ b hb]
 ·rw [qJ h] at hb
  simp [HT,DC _ b hb]
def aDU(n:Int):itoa n≠[]:=by
 by_cases h:n < 0;·rw [yl h];simp
 ·rw [qJ h];exact Zd _
def aDV(h : -999999999≤n∧n≤999999999):(itoa n).length≤10:=by
 have h1:=HS 8 n.natAbs ab;by_cases h:n < 0;·rw [yl h];simp;omega
 ·rw [qJ h];omega
def asz(u:Nat):∃b r,Lib.decDigits u=b::r∧qc b=true:=by
 have h1:=Zd u;have h2:=DC u;cases h:Lib.decDigits u with
 | nil=>exact absurd h h1
 | cons b r=>exact ⟨b,r,rfl,h2 b gJ⟩
def HU{b:UInt8}:qc b=true↔48≤b.toNat∧b.toNat≤57:=by simp [qc]
def asA:∀(l:am) (acc:Nat),(∀b∈l,qc b=true)→l.foldl (fun a b=>a * 10+(b.toNat - 48)) acc < 1844674407370955162→Lib.parseUint10 acc l = .ok (l.foldl (fun a b=>a * 10+(b.toNat - 48)) acc)
 | [],acc,_,_=>rfl
 | c::r,acc,hd,hv=>by
  have h1:=HU.1 (hd c aL);have hmono:∀(l:am) (a:Nat),a≤l.foldl (fun a b=>a * 10+(b.toNat - 48)) a:=by
   intro l;induction l with
   | nil=>intro a;exact Nat.le_refl _
   | cons x l ih=>intro a;exact Nat.le_trans (show a≤a * 10+(x.toNat - 48) by omega) (ih _)
  have h2:=hmono r (acc * 10+(c.toNat - 48));rw [List.foldl_cons] at hv ⊢;unfold Lib.parseUint10;rw [if_pos h1,if_neg ab,if_neg ab];exact asA r _ (fun b hb=>hd b yV) hv
def asB(h : -999999999≤n∧n≤999999999):Lib.atoiAll (itoa n) = .ok n:=by
 have hv:=Zc n.natAbs;have hp:Lib.parseMag (Lib.decDigits n.natAbs) = .ok n.natAbs:=by unfold Lib.parseMag;rw [if_neg (Zd _)];have:=asA (Lib.decDigits n.natAbs) 0 (DC _) (by show AG _ < _;rw [hv];omega);rw [this];show Lib.NumEnd.ok (AG _)=_;rw [hv]
 by_cases h0:n < 0
 ·rw [yl h0]
  simp only [Lib.atoiAll];rw [if_pos (Or.inr ai),hp];dsimp only;rw [if_neg (by intro e;exact e.1 ai),if_neg ab,if_pos ai];congr 1;omega
 ·rw [qJ h0]
  obtain ⟨b,r,e,hb⟩:=asz n.natAbs;have hb:=HU.1 hb;rw [e] at hp ⊢;simp only [Lib.atoiAll];rw [if_neg ab,hp];dsimp only;rw [if_neg ab,if_neg ab,if_neg ab];congr 1;omega
def iz(n:Int):Bool:=decide (-999999999≤n)&&decide (n≤999999999)
def wB:iz n=true ↔ -999999999≤n∧n≤999999999:=by simp [iz]
noncomputable def iO(s:am):Option Int:=pc iz itoa s
def Ot(s:am):Int:=match Lib.atoiAll s with | .ok v=>v|_=>0
def asC(n:Int)(h:iz n=true):Ot (itoa n)=n:=by unfold Ot;rw [asB (wB.1 h)]
def Ou(h:iz n=true):iO (itoa n)=some n:=HR asC h
def asD(h:iO s=some n):iz n=true∧itoa n=s:=asx h
def aDW(h:∀v,Lib.atoiAll s ≠ .ok v):iO s=none:=by apply AF;rintro n hn rfl;exact h n (asB (wB.1 hn))
def aDX{v:Int}(h:Lib.atoiAll s = .ok v)(h2:¬(iz v=true∧itoa v=s)):iO s=none:=by refine qb asC ?_;rw [show Ot s=v by unfold Ot;rw [h]];exact h2
def aDY{v:Int}(h1:iz v=true)(h2:itoa v=s):iO s=some v:=by rw [←h2];exact Ou h1
/- the reference's reading -/
def gN(l:am):Nat×Nat:=l.foldl (fun a b=>if qc b then (a.1 * 10+(b.toNat - 48),a.2+1) else a) (0,0)
def Ze(l:am)(b:UInt8):gN (l++[b])=if qc b then ((gN l).1 * 10+(b.toNat - 48),(gN l).2+1) else gN l:=by unfold gN;rw [List.foldl_append];rfl
def asE(l:am):(gN l).2≤l.length∧(gN l).1 < 10 ^ (gN l).2:=by
 induction l using Ak with
 | h0=>exact ⟨Nat.le_refl _,ai⟩
 | h1 l b ih=>
  rw [Ze];split
  ·rename_i h
   have:=HU.1 h;refine ⟨jq,?_⟩;show _ < 10 ^ ((gN l).2+1);rw [Nat.pow_succ];omega
  ·exact ⟨jq,ih.2⟩
def asF{l:am}(h:∀b∈l,qc b=true):gN l=(AG l,l.length):=by
 induction l using Ak with
 | h0=>rfl
 | h1 l b ih=>
  rw [Ze,if_pos (h b aL),ih (fun x hx=>h x ib),asy];simp
def aDZ(l:am):gN (45::l)=gN l:=rfl
def qW(s:am):Int:=if s.head?=some 45 then -((gN (s.take 11)).1:Int) else ((gN (s.take 11)).1:Int)
def ul(s:am):Bool:=decide (9 < (gN (s.take 11)).2)||(decide (10 < s.length)||!(itoa (qW s)==s))
def asG(n:Int)(h:iz n=true):qW (itoa n)=n∧ul (itoa n)=false:=by
 have hl:=aDV (wB.1 h);have ht:(itoa n).take 11=itoa n:=tf ab;have hk:=HS 8 n.natAbs (by have:=wB.1 h;omega);have hs:gN (itoa n)=(n.natAbs,(Lib.decDigits n.natAbs).length):=by
  by_cases h0:n < 0;·rw [yl h0,aDZ,asF (DC _),Zc]
  ·rw [qJ h0,asF (DC _),Zc]
 have h1:qW (itoa n)=n:=by
  unfold qW;rw [ht,hs];by_cases h0:n < 0;·rw [if_pos (by rw [yl h0];rfl)];simp;omega
  ·rw [if_neg]
   ·simp;omega
   ·rw [qJ h0]
    obtain ⟨b,r,e,hb⟩:=asz n.natAbs;rw [e];intro e;simp at e;rw [e] at hb;exact absurd hb ai
 refine ⟨h1,?_⟩;unfold ul;rw [h1,ht,hs];simp;omega
def aD0(h:ul s=true):iO s=none:=Zb (ok:=fun s=>!ul s) (fun n hn=>by rw [(asG n hn).2];rfl) (by rw [h];rfl)
def aD1(h:ul s=false):iO s=some (qW s):=by have h1:=h;unfold ul at h1;simp at h1;have h2:=asE (s.take 11);have h3:10 ^ (gN (s.take 11)).2≤10 ^ 9:=Nat.pow_le_pow_right ai ab;refine wz (g:=qW) (fun n hn=>(asG n hn).1) (wB.2 ?_) h1.2.2;unfold qW;split<;>omega
noncomputable def cY(s:am):Bool:=(iO s).isSome
noncomputable def bM(s:am):Int:=(iO s).getD 0
noncomputable def bT(s:am):Int:=(iO s).getD (-100000)
def HV(h:iz n=true):cY (itoa n)=true:=by unfold cY;rw [Ou h];rfl
def sx(h:iz n=true):bM (itoa n)=n:=by unfold bM;rw [Ou h];rfl
def sy(h:iz n=true):bT (itoa n)=n:=by unfold bT;rw [Ou h];rfl
def aD2(s:am):-999999999≤bM s∧bM s≤999999999:=by
 unfold bM;cases h:iO s with
 | none=>simp
 | some n=>exact wB.1 (asD h).1
def Zf(s:am):-999999999≤bT s∧bT s≤999999999:=by
 unfold bT;cases h:iO s with
 | none=>simp
 | some n=>exact wB.1 (asD h).1
/- ---- parts of a text ---- -/
def an(c:UInt8):am→List am
 | []=>[[]]
 | b::r=>if b=c then []::an c r else (b::(an c r).headD [])::(an c r).tail
def wC(c:UInt8)(s:am):an c s≠[]:=by
 cases s with
 | nil=>simp [an]
 | cons b r=>unfold an;split<;>simp
def sz{a:am}(h:c∉a):an c a=[a]:=by
 induction a with
 | nil=>rfl
 | cons b r ih=>
  unfold an;rw [if_neg (by rintro rfl;simp at h),ih (fun hx=>h ib)];rfl
def Ov(c:UInt8)(a b:am):an c (a++c::b)=an c a++an c b:=by
 induction a with
 | nil=>simp [an]
 | cons x r ih=>
  rw [List.cons_append];rw [an,an.eq_2 c x r];split;·rw [ih];rfl
  ·have h1:=wC c r
   rw [ih];cases hh:an c r with
   | nil=>exact absurd hh h1
   | cons y ys=>rfl
def asH(c b:UInt8)(s:am):an c (s++[b])=if b=c then an c s++[[]] else (an c s).dropLast++[(an c s).getLastD []++[b]]:=by
 split
 ·rename_i h;subst h
  have:=Ov b s [];simpa [an] using this
 ·rename_i h
  induction s with
  | nil=>simp [an,h]
  | cons x r ih=>
   have h1:=wC c r;rw [List.cons_append];unfold an;rw [ih];cases hh:an c r with
   | nil=>exact absurd hh h1
   | cons y ys=>
    split;·cases ys<;>simp
    ·cases ys with
     | nil=>simp
     | cons z zs=>simp
def sB{a:am}(h:c∉a):an c (a++c::b)=a::an c b:=by rw [Ov,sz h];rfl
def asJ(h0:ws≠[])(h:∀w∈ws,c∉w):an c (cQ ws [c])=ws:=by
 induction ws using Ak with
 | h0=>exact absurd rfl h0
 | h1 ws y ih=>
  rw [pT];split;·rename_i e;subst e;simp [sz (h y aL)]
  ·rename_i e
   rw [bn,List.singleton_append,Ov,ih e (fun w hw=>h w (by simp [hw])),sz (h y aL)]
/- the library's splitting is this one -/
def asK(c:UInt8)(s:am):(an c s).length=s.count c+1:=by
 induction s with
 | nil=>rfl
 | cons b r ih=>
  unfold an;split;·rename_i h;subst h;simp [ih]
  ·rename_i h
   have h1:=wC c r;rw [List.count_cons_of_ne (fun e=>h e)];cases hh:an c r with
   | nil=>exact absurd hh h1
   | cons y ys=>rw [hh] at ih;simpa using ih
def asL{a:am}(h:c∉a):Lib.index (a++c::b) [c]=a.length:=by
 induction a with
 | nil=>unfold Lib.index;simp
 | cons x r ih=>
  rw [List.cons_append];unfold Lib.index;rw [if_neg,ih (fun hx=>h ib)]
  ·rw [if_neg]
   ·simp
   ·intro e;have:=beq_iff_eq.1 e;omega
  ·simp;rintro rfl;simp at h
def aD3(h:c∈s):∃a b,s=a++c::b∧c∉a:=by
 induction s with
 | nil=>simp at h
 | cons x r ih=>
  by_cases e:x=c;·subst e;exact ⟨[],r,rfl,aL⟩
  ·obtain ⟨a,b,e1,e2⟩:=ih (by rcases List.mem_cons.1 h with h|h;exact absurd h.symm e;exact h)
   exact ⟨x::a,b,by rw [e1];rfl,by rintro hx;rcases List.mem_cons.1 hx with hx|hx;exact e hx.symm;exact e2 hx⟩
def asM(c:UInt8):∀(k:Nat) (s:am),s.count c=k→Lib.splitK [c] 0 k s=an c s
 | 0,s,h=>by rw [sz (fun hx=>by have:=List.count_pos_iff.2 hx;omega)];rfl
 | k+1,s,h=>by
  have hm:c∈s:=List.count_pos_iff.1 ab;obtain ⟨a,b,rfl,ha⟩:=aD3 hm;rw [sB ha];unfold Lib.splitK;rw [asL ha,if_neg (by intro e;have:=beq_iff_eq.1 e;omega)];have hc:b.count c=k:=by rw [List.count_append,List.count_cons_self,List.count_eq_zero_of_not_mem ha] at h;omega
  have:=asM c k b hc;simp [this]
end
/- ---- parts of printed texts ---- -/
def kF(h:HT c=false):c∉itoa n:=by intro hc;rw [aDT n c hc] at h;cases h
def Ow(h:HT c=false)(h2:c≠44):c∉eN l:=by
 unfold eN;have:∀ws:List am,(∀w∈ws,c∉w)→c∉cQ ws [44]:=by
  intro ws;induction ws using Ak with
  | h0=>intro _;simp [Dl]
  | h1 ws y ih=>
   intro hw;rw [pT];split;·exact hw y aL
   ·simp only [fm,List.mem_singleton,not_or]
    exact ⟨⟨ih (fun w hx=>hw w ib),h2⟩,hw y aL⟩
 refine this _ fun w hw=>?_;obtain ⟨x,_,rfl⟩:=List.mem_map.1 hw;exact kF h
def Zg(h:l≠[]):an 44 (eN l)=l.map itoa:=by unfold eN;refine asJ qn fun w hw=>?_;obtain ⟨x,_,rfl⟩:=List.mem_map.1 hw;exact kF ai
noncomputable def sC(s:am):Bool:=(an 44 s).all cY
noncomputable def wD(s:am):List Int:=if sC s then (an 44 s).map bM else []
noncomputable def DD(s:am):List Int:=(an 44 s).map bT
def Zh(h:l≠[])(h2:∀x∈l,iz x=true):sC (eN l)=true:=by unfold sC;rw [Zg h,nw];intro w hw;obtain ⟨x,hx,rfl⟩:=List.mem_map.1 hw;exact HV (h2 x hx)
def aD4(h2:∀x∈l,iz x=true):(l.map itoa).map bM=l:=by
 rw [List.map_map];conv=>rhs;rw [←List.map_id l]
 exact List.map_congr_left fun x hx=>sx (h2 x hx)
def aD5(h2:∀x∈l,iz x=true):(l.map itoa).map bT=l:=by
 rw [List.map_map];conv=>rhs;rw [←List.map_id l]
 exact List.map_congr_left fun x hx=>sy (h2 x hx)
def asN(h:l≠[])(h2:∀x∈l,iz x=true):wD (eN l)=l:=by unfold wD;rw [if_pos (Zh h h2),Zg h,aD4 h2]
def asO(h:l≠[])(h2:∀x∈l,iz x=true):DD (eN l)=l:=by unfold DD;rw [Zg h,aD5 h2]
def gn(s p:am):am:=(Lib.cut s p).1
def jb(s p:am):am:=(Lib.cut s p).2.1
def DE{a:am}(h:c∉a):gn (a++c::b) [c]=a∧jb (a++c::b) [c]=b:=by unfold gn jb Lib.cut;rw [asL h,if_pos ab];simp
def aD6{a:am}(h:c∉a):Lib.index (a++c::c::b) [c,c]=a.length:=by
 induction a with
 | nil=>unfold Lib.index;simp
 | cons x r ih=>
  rw [List.cons_append];unfold Lib.index;rw [if_neg,ih (fun hx=>h ib)]
  ·rw [if_neg]
   ·simp
   ·intro e;have:=beq_iff_eq.1 e;omega
  ·simp;rintro rfl;simp at h
def aD7{a:am}(h:c∉a):gn (a++c::c::b) [c,c]=a∧jb (a++c::c::b) [c,c]=b:=by unfold gn jb Lib.cut;rw [aD6 h,if_pos ab];simp
def mC(a : -999999999≤n)(b:n≤999999999):iz n=true:=wB.2 ⟨a,b⟩
/- ---- rows ---- -/
def asP(h:bw r=true):(0≤r.Id∧r.Id≤999)∧r.Values≠[]∧r.Values.length=3∧∀x∈r.Values,iz x=true:=by obtain ⟨a,b,c,d⟩:=qV h;refine ⟨⟨a,b⟩,by rintro e;rw [e] at c;simp at c,c,fun x hx=>?_⟩;unfold bw at h;simp only [aR] at h;have:=List.all_eq_true.1 h.1 x hx;simp [nJ,aE] at this;exact mC ab ab
noncomputable def qd(s:am):Row:=⟨bM (gn s [58]),wD (jb s [58])⟩
noncomputable def Ox(s:am):Bool:=cY (gn s [58])&&sC (jb s [58])
noncomputable def nk(s:am):Row:=⟨bT ((an 58 s).getD 0 []),if (an 58 s).length=2 then DD ((an 58 s).getD 1 []) else []⟩
noncomputable def jH(s:am):Option Row:=pc bw fP s
def Zi(h:bw r=true):fP r=itoa r.Id++58::eN r.Values:=by unfold fP;rw [if_pos h];simp
def aD8(h:fP r≠[]):bw r=true:=by
 cases e:bw r with
 | true=>rfl
 | false=>exact absurd (by unfold fP;rw [if_neg Bc]) h
def aD9(h:bw r=true):fP r≠[]:=by rw [Zi h];simp
def Oy(r:Row)(h:bw r=true):qd (fP r)=r∧Ox (fP r)=true:=by obtain ⟨⟨a,b⟩,c,d,e⟩:=asP h;have hc:=DE (c:=58) (a:=itoa r.Id) (b:=eN r.Values) (kF ai);have hn:=mC (n:=r.Id) ab ab;unfold qd Ox;rw [Zi h,hc.1,hc.2,sx hn,asN c e,HV hn,Zh c e];exact ⟨rfl,rfl⟩
def Zj(r:Row)(h:bw r=true):nk (fP r)=r:=by
 obtain ⟨⟨a,b⟩,c,d,e⟩:=asP h;have hs:an 58 (fP r)=[itoa r.Id,eN r.Values]:=by rw [Zi h,sB (kF ai),sz (Ow ai ai)]
 unfold nk;rw [hs];show (⟨bT (itoa r.Id),DD (eN r.Values)⟩:Row)=r;rw [sy (mC ab ab),asO c e]
def qX:Row:=⟨0,[]⟩
def aEa(h:Ox s=false∨bw (qd s)=false∨fP (qd s)≠s):jH s=none:=by
 rcases h with h|h|h;·exact Zb (fun r hr=>(Oy r hr).2) h
 ·exact qb (g:=qd) (fun r hr=>(Oy r hr).1) gJ
 ·exact qb (g:=qd) (fun r hr=>(Oy r hr).1) (fun e=>h e.2)
def aEb(h1:bw (qd s)=true)(h2:fP (qd s)=s):jH s=some (qd s):=wz (g:=qd) (fun r hr=>(Oy r hr).1) h1 h2
def asQ(h:s=[]∨fP (nk s)≠s):jH s=none:=by
 rcases h with h|h;·exact AF fun r hr e=>aD9 hr (e.trans h)
 ·exact qb (g:=nk) Zj (fun e=>h e.2)
def asR(h1:s≠[])(h2:fP (nk s)=s):jH s=some (nk s):=wz (g:=nk) Zj (aD8 PP) h2
/- ---- a number behind a letter ---- -/
def HW(s p:am):Bool:=p.isPrefixOf s
def sD(s p:am):am:=if p.isPrefixOf s then s.drop p.length else s
noncomputable def um(c:UInt8)(w:am):Int:=bM (sD w [c])
noncomputable def un(c:UInt8)(w:am):Bool:=HW w [c]&&cY (sD w [c])
noncomputable def lf(c:UInt8)(w:am):Int:=if w.length < 2∨w.head?≠some c then -100000 else bT (w.drop 1)
def Oz(h:iz n=true):um c (c::itoa n)=n∧un c (c::itoa n)=true∧lf c (c::itoa n)=n:=by
 have h1:=aDU n;have h2:(itoa n).length≠0:=Jj;refine ⟨?_,?_,?_⟩;·unfold um sD;rw [if_pos aL];exact sx h
 ·unfold un HW sD;rw [if_pos aL];simp [HV h]
 ·unfold lf;rw [if_neg jq];exact sy h
/- ---- updates ---- -/
def dq:aJv:=⟨0,qX,0,0⟩
noncomputable def pd(s:am):aJv:=
 if (an 32 s).getD 0 []=([105,110,115,101,114,116]:am)∧(an 32 s).length=2 then ⟨1,(jH ((an 32 s).getD 1 [])).getD qX,0,0⟩
 else if (an 32 s).getD 0 []=([100,101,108,101,116,101]:am)∧(an 32 s).length=2 then ⟨2,⟨bM ((an 32 s).getD 1 []),[]⟩,0,0⟩
 else if (an 32 s).getD 0 []=([115,101,116]:am)∧(an 32 s).length=4 then ⟨3,⟨bM ((an 32 s).getD 1 []),[]⟩,um 102 ((an 32 s).getD 2 []),bM ((an 32 s).getD 3 [])⟩
 else dq
noncomputable def jp(s:am):aJv:=
 if (an 32 s).length=2∧(an 32 s).getD 0 []=([105,110,115,101,114,116]:am) then ⟨1,(jH ((an 32 s).getD 1 [])).getD qX,0,0⟩
 else if (an 32 s).length=2 then ⟨2,⟨bT ((an 32 s).getD 1 []),[]⟩,0,0⟩
 else if (an 32 s).length=4 then ⟨3,⟨bT ((an 32 s).getD 1 []),[]⟩,lf 102 ((an 32 s).getD 2 []),bT ((an 32 s).getD 3 [])⟩
 else dq
noncomputable def gO(s:am):Option aJv:=pc ez gA s
def aEc:(32:UInt8)∉fP r:=by
 unfold fP;split
 ·simp only [fm,not_or]
  exact ⟨⟨kF ai,ai⟩,Ow ai ai⟩
 ·simp
def HX(h:ez u=true) :
  (∃r,bw r=true∧u=⟨1,r,0,0⟩∧gA u=([105,110,115,101,114,116]:am)++32::fP r) ∨
  (∃n:Int,0≤n∧n≤999∧u=⟨2,⟨n,[]⟩,0,0⟩∧gA u=([100,101,108,101,116,101]:am)++32::itoa n) ∨
  (∃n f v:Int,(0≤n∧n≤999)∧(0≤f∧f≤2)∧(0≤v∧v≤99)∧u=⟨3,⟨n,[]⟩,f,v⟩∧gA u=([115,101,116]:am)++32::(itoa n++32::(102::itoa f++32::itoa v))):=by
 have h':=h;obtain ⟨k,⟨i,vs⟩,f,v⟩:=u;unfold ez at h;dsimp only at h;split at h
 ·rename_i hk
  subst hk;simp only [aR,decide_eq_true_eq] at h;obtain ⟨h1,rfl,rfl⟩:=h;refine Or.inl ⟨⟨i,vs⟩,h1,rfl,?_⟩;unfold gA;rw [if_pos h',if_pos rfl];rfl
 ·split at h
  ·rename_i hk
   subst hk;simp [rL,aE] at h;obtain ⟨⟨⟨h1,h2⟩,rfl⟩,rfl,rfl⟩:=h;refine Or.inr (Or.inl ⟨i,h1,h2,rfl,?_⟩);unfold gA;rw [if_pos h',if_neg aL,if_pos rfl];rfl
  ·split at h
   ·rename_i hk
    subst hk;simp [rL,aE] at h;obtain ⟨⟨⟨h1,h2⟩,rfl⟩,⟨h3,h4⟩,h5,h6⟩:=h;refine Or.inr (Or.inr ⟨i,f,v,⟨h1,h2⟩,⟨h3,h4⟩,⟨h5,h6⟩,rfl,?_⟩);unfold gA;rw [if_pos h',if_neg aL,if_neg aL];simp [bn]
   ·cases h
def aEd(h:bw r=true):jH (fP r)=some r:=HR (g:=nk) Zj h
def DF(u:aJv)(h:ez u=true):pd (gA u)=u∧jp (gA u)=u:=by
 rcases HX h with ⟨r,h1,rfl,e⟩|⟨n,h1,h2,rfl,e⟩|⟨n,f,v,⟨h1,h2⟩,⟨h3,h4⟩,⟨h5,h6⟩,rfl,e⟩
 ·have hs:an 32 (([105,110,115,101,114,116]:am)++32::fP r)=[([105,110,115,101,114,116]:am),fP r]:=by rw [sB ai,sz aEc]
  unfold pd jp;rw [e,hs];have:=aEd h1;simp [this]
 ·have hs:an 32 (([100,101,108,101,116,101]:am)++32::itoa n)=[([100,101,108,101,116,101]:am),itoa n]:=by rw [sB ai,sz (kF ai)]
  have hn:=mC (n:=n) ab ab;unfold pd jp;rw [e,hs];simp [sx hn,sy hn]
 ·have hs:an 32 (([115,101,116]:am)++32::(itoa n++32::(102::itoa f++32::itoa v)))=[([115,101,116]:am),itoa n,102::itoa f,itoa v]:=by
   rw [sB ai,sB (kF ai),sB,sz (kF ai)];intro hx;rcases List.mem_cons.1 hx with hx|hx;·exact absurd hx ai
   ·exact kF ai hx
  have hn:=mC (n:=n) ab ab;have hf:=Oz (c:=102) (mC (n:=f) ab ab);have hv:=mC (n:=v) ab ab;unfold pd jp;rw [e,hs];simp [sx hn,sy hn,sx hv,sy hv,hf]
def asS(h:ez u=true):gA u≠[]:=by rcases HX h with ⟨r,h1,rfl,e⟩|⟨n,h1,h2,rfl,e⟩|⟨n,f,v,⟨h1,h2⟩,⟨h3,h4⟩,⟨h5,h6⟩,rfl,e⟩<;>rw [e]<;>simp
def aEe(h:gA u≠[]):ez u=true:=by
 cases e:ez u with
 | true=>rfl
 | false=>exact absurd (by unfold gA;rw [if_neg Bc]) h
def aEf(h:ez u=true):gO (gA u)=some u:=HR (g:=pd) (fun u hu=>(DF u hu).1) h
def aEg(h:ez (pd s)=false∨gA (pd s)≠s):gO s=none:=by
 rcases h with h|h;·exact qb (g:=pd) (fun u hu=>(DF u hu).1) gJ
 ·exact qb (g:=pd) (fun u hu=>(DF u hu).1) (fun e=>h e.2)
def aEh(h1:ez (pd s)=true)(h2:gA (pd s)=s):gO s=some (pd s):=wz (g:=pd) (fun u hu=>(DF u hu).1) h1 h2
def asT(h:s=[]∨gA (jp s)≠s):gO s=none:=by
 rcases h with h|h;·exact AF fun r hr e=>asS hr (e.trans h)
 ·exact qb (g:=jp) (fun u hu=>(DF u hu).2) (fun e=>h e.2)
def asU(h1:s≠[])(h2:gA (jp s)=s):gO s=some (jp s):=wz (g:=jp) (fun u hu=>(DF u hu).2) (aEe PP) h2
/- ---- queries ---- -/
def eD:aJt:=⟨0,0,[],[]⟩
noncomputable def OA(ws:List am)(j:Nat):fI:=⟨um 102 (ws.getD (2+2 * j) []),bM (gn (ws.getD (3+2 * j) []) [46,46]),bM (jb (ws.getD (3+2 * j) []) [46,46])⟩
noncomputable def AH(ws:List am)(j:Nat):Bool:=un 102 (ws.getD (2+2 * j) [])&&(cY (gn (ws.getD (3+2 * j) []) [46,46])&&cY (jb (ws.getD (3+2 * j) []) [46,46]))
noncomputable def yG(ws:List am)(k:Nat):List fI:=(List.range k).map (OA ws)
noncomputable def oj(ws:List am):aJt:=⟨um 113 (ws.getD 0 []),um 116 (ws.getD 1 []),yG ws ((ws.length - 4) / 2),wD (ws.getD (ws.length - 1) [])⟩
noncomputable def OB(ws:List am):Bool:=un 113 (ws.getD 0 [])&&(un 116 (ws.getD 1 [])&&sC (ws.getD (ws.length - 1) []))
noncomputable def yH(ws:List am)(k:Nat):Bool:=OB ws&&(List.range k).all (AH ws)
noncomputable def DG(ws:List am):Bool:=decide (4≤ws.length∧ws.length%2=0∧ws.length≤10)&&yH ws ((ws.length - 4) / 2)
def aEi(ws:List am)(k:Nat):yG ws (k+1)=yG ws k++[OA ws k]:=by unfold yG;rw [List.range_succ,bj];rfl
def aEj(ws:List am)(k:Nat):yH ws (k+1)=(yH ws k&&AH ws k):=by unfold yH;rw [List.range_succ,List.all_append];simp [Bool.and_assoc]
def asV(ws:List am)(k:Nat):(yG ws k).length=k:=by unfold yG;simp
def pf(w:am)(i:Nat):Bool:=(w.drop i).take 2==[46,46]
def HY(w:am):Option Nat:=(List.range (w.length - 1)).find? (pf w)
noncomputable def wE(w:am):Int×Int:=match HY w with|some i=>(bT (w.take i),bT (w.drop (i+2)))|none=>(-100000,-100000)
noncomputable def OC(ws:List am)(j:Nat):fI:=⟨lf 102 (ws.getD (2+2 * j) []),(wE (ws.getD (3+2 * j) [])).1,(wE (ws.getD (3+2 * j) [])).2⟩
noncomputable def wF(ws:List am)(k:Nat):List fI:=(List.range k).map (OC ws)
noncomputable def uo(ws:List am):aJt:=⟨lf 113 (ws.getD 0 []),lf 116 (ws.getD 1 []),wF ws ((ws.length - 4) / 2),DD (ws.getD (ws.length - 1) [])⟩
def aEk(ws:List am)(k:Nat):wF ws (k+1)=wF ws k++[OC ws k]:=by unfold wF;rw [List.range_succ,bj];rfl
def aEl(ws:List am)(k:Nat):(wF ws k).length=k:=by unfold wF;simp
def asW(h0:k+1 < w.length)(h1:∀j,j < k→pf w j=false)(h2:pf w k=true):wE w=(bT (w.take k),bT (w.drop (k+2))):=by
 have:HY w=some k:=by unfold HY;rw [List.find?_range_eq_some];exact ⟨h2,List.mem_range.2 ab,fun j hj=>by rw [h1 j hj];rfl⟩
 unfold wE;rw [this]
def aEm(h1:∀j,j+1 < w.length→pf w j=false):wE w=(-100000,-100000):=by
 have:HY w=none:=by unfold HY;rw [List.find?_eq_none];intro j hj;rw [h1 j (by have:=List.mem_range.1 hj;omega)];simp
 unfold wE;rw [this]
def aEn{a:am}(ha:(46:UInt8)∉a):wE (a++46::46::b)=(bT a,bT b):=by
 have:=asW (w:=a++46::46::b) (k:=a.length) aL (fun j hj=>?_) (by unfold pf;simp);·rw [this,List.take_append_of_le_length (Nat.le_refl _),bF,show a++46::46::b=(a++[46,46])++b by simp,List.drop_append_of_le_length aL,List.drop_eq_nil_of_le aL];rfl
 ·unfold pf
  rw [Bool.eq_false_iff];intro e;have e:=beq_iff_eq.1 e;rw [List.drop_append_of_le_length ab,List.drop_eq_getElem_cons hj,List.cons_append,List.take_succ_cons] at e;injection e with e1 e2;exact ha (e1▸List.getElem_mem hj)
def asX(h:bq q=true):iz q.Id=true∧iz q.aJx=true∧q.Out≠[]∧(∀x∈q.Out,iz x=true)∧q.aJu.length≤3∧∀k,(hk:k < q.aJu.length)→iz q.aJu[k].Field=true∧iz q.aJu[k].Low=true∧iz q.aJu[k].High=true:=by
 obtain ⟨a1,a2,a3,a4,a5,a6,a7,a8⟩:=yF h;have ho:=DB h;have ho1:1≤q.Out.length:=by have h':=h;unfold bq pP at h';simp only [aR,aE,decide_eq_true_eq] at h';omega
 refine ⟨mC ab ab,mC ab ab,by rintro e;rw [e] at ho1;simp at ho1,fun x hx=>?_,a5,fun k hk=>?_⟩
 ·have:=ho.2 x hx
  exact mC ab ab
 ·have:=a8 k hk
  exact ⟨mC ab ab,mC ab ab,mC ab ab⟩
def mD(q:aJt):List am:=ja q q.aJu.length++[[111,117,116],eN q.Out]
def aEo{c:fI}:∀w∈mB c,(32:UInt8)∉w:=by
 intro w hw;unfold mB at hw;rcases List.mem_cons.1 hw with rfl|hw;·simp only [fm,not_or];exact ⟨ai,kF ai⟩
 ·rw [List.mem_singleton] at hw;subst hw
  simp only [fm,not_or];exact ⟨⟨kF ai,ai⟩,kF ai⟩
def aEp(q:aJt):∀w∈mD q,(32:UInt8)∉w:=by
 intro w hw;unfold mD ja at hw;rcases List.mem_append.1 hw with hw|hw
 ·rcases List.mem_append.1 hw with hw|hw
  ·rcases List.mem_cons.1 hw with rfl|hw
   ·simp only [fm,not_or];exact ⟨ai,kF ai⟩
   ·rw [List.mem_singleton] at hw;subst hw
    simp only [fm,not_or];exact ⟨ai,kF ai⟩
  ·obtain ⟨c,_,hc⟩:=List.mem_flatMap.1 hw
   exact aEo w hc
 ·rcases List.mem_cons.1 hw with rfl|hw
  ·decide
  ·rw [List.mem_singleton] at hw;subst hw
   exact Ow ai ai
def asY(h:bq q=true):an 32 (fc q)=mD q:=by unfold fc;rw [if_pos h];exact asJ aL (aEp q)
def Zk(q:aJt):(mD q).length=4+2 * q.aJu.length:=by unfold mD;rw [bv,HP];simp;omega
def asZ:∀(l:List fI) (k:Nat) (hk:k < l.length),(l.flatMap mB).getD (2 * k) []=[102]++itoa l[k].Field∧(l.flatMap mB).getD (2 * k+1) []=itoa l[k].Low++[46,46]++itoa l[k].High
 | c::r,0,_=>by simp [mB]
 | c::r,k+1,hk=>by have:=asZ r k (by simpa using hk);simpa [mB,Nat.mul_succ] using this
def aEq(l:List fI):(l.flatMap mB).length=2 * l.length:=by
 induction l with
 | nil=>rfl
 | cons c r ih=>rw [List.flatMap_cons,bv,ih];simp [mB];omega
def as0:(mD q).getD 0 []=113::itoa q.Id∧(mD q).getD 1 []=116::itoa q.aJx∧(mD q).getD (3+2 * q.aJu.length) []=eN q.Out∧∀k,(hk:k < q.aJu.length)→(mD q).getD (2+2 * k) []=102::itoa q.aJu[k].Field∧(mD q).getD (3+2 * k) []=itoa q.aJu[k].Low++46::46::itoa q.aJu[k].High:=by
 have hl:=aEq q.aJu;have e:mD q=(113::itoa q.Id)::(116::itoa q.aJx)::(q.aJu.flatMap mB++[[111,117,116],eN q.Out]):=by unfold mD ja;rw [bF];simp
 rw [e];refine ⟨rfl,rfl,?_,fun k hk=>?_⟩
 ·rw [show 3+2 * q.aJu.length=(q.aJu.flatMap mB).length+1+1+1 by omega,List.getD_cons_succ,List.getD_cons_succ]
  simp [List.getD_eq_getElem?_getD,List.getElem?_append_right]
 ·have:=asZ q.aJu k hk
  rw [show 2+2 * k=2 * k+1+1 by omega,show 3+2 * k=2 * k+1+1+1 by omega,List.getD_cons_succ,List.getD_cons_succ,List.getD_cons_succ,List.getD_cons_succ];have gl:∀(xs ys:List am) (i:Nat),i < xs.length→(xs++ys).getD i []=xs.getD i []:=fun xs ys i hi=>by rw [List.getD_eq_getElem?_getD,List.getElem?_append_left hi,←List.getD_eq_getElem?_getD]
  rw [gl _ _ _ ab,gl _ _ _ ab];rw [this.1,this.2];simp
def Zl(h:bq q=true)(hk:k < q.aJu.length):OA (mD q) k=q.aJu[k]∧AH (mD q) k=true∧OC (mD q) k=q.aJu[k]:=by obtain ⟨a1,a2,a3,a4,a5,a6⟩:=asX h;obtain ⟨b1,b2,b3,b4⟩:=as0 (q:=q);obtain ⟨c1,c2⟩:=b4 k hk;obtain ⟨d1,d2,d3⟩:=a6 k hk;have hc:=aD7 (c:=46) (a:=itoa q.aJu[k].Low) (b:=itoa q.aJu[k].High) (kF ai);have hr:=aEn (a:=itoa q.aJu[k].Low) (b:=itoa q.aJu[k].High) (kF ai);obtain ⟨e1,e2,e3⟩:=Oz (c:=102) d1;unfold OA AH OC;rw [c1,c2,hc.1,hc.2,hr,e1,e2,e3,sx d2,sx d3,HV d2,HV d3];dsimp only;rw [sy d2,sy d3];exact ⟨rfl,rfl,rfl⟩
def as1{l:List fI}{f:Nat→fI}(h:∀k,(hk:k < l.length)→f k=l[k]):(List.range l.length).map f=l:=by
 apply List.ext_getElem;·simp
 ·intro i h1 h2
  simp [h i h2]
def Zm(q:aJt)(h:bq q=true):oj (an 32 (fc q))=q∧DG (an 32 (fc q))=true∧uo (an 32 (fc q))=q:=by
 obtain ⟨a1,a2,a3,a4,a5,a6⟩:=asX h;obtain ⟨b1,b2,b3,b4⟩:=as0 (q:=q);have hl:=Zk q;have hk:((mD q).length - 4) / 2=q.aJu.length:=ab;have h1:(mD q).length - 1=3+2 * q.aJu.length:=ab;obtain ⟨d1,d2,d3⟩:=Oz (c:=113) a1;obtain ⟨e1,e2,e3⟩:=Oz (c:=116) a2;rw [asY h];refine ⟨?_,?_,?_⟩
 ·unfold oj yG
  rw [hk,h1,b1,b2,b3,d1,e1,asN a3 a4,as1 fun k hk=>(Zl h hk).1]
 ·unfold DG yH OB
  rw [hk,h1,b1,b2,b3,d2,e2,Zh a3 a4,hl];simp only [aR,decide_eq_true_eq,nw,List.mem_range];refine ⟨ab,aL,fun k hk=>(Zl h hk).2.1⟩
 ·unfold uo wF
  rw [hk,h1,b1,b2,b3,d3,e3,asO a3 a4,as1 fun k hk=>(Zl h hk).2.2]
noncomputable def gP(s:am):Option aJt:=pc bq fc s
def aEr(h:fc q≠[]):bq q=true:=by
 cases e:bq q with
 | true=>rfl
 | false=>exact absurd (by unfold fc;rw [if_neg Bc]) h
def OD(q:aJt)(h:bq q=true):(fun s=>oj (an 32 s)) (fc q)=q:=(Zm q h).1
def as2(q:aJt)(h:bq q=true):(fun s=>uo (an 32 s)) (fc q)=q:=(Zm q h).2.2
def as3(h:bq q=true):gP (fc q)=some q:=HR (g:=fun s=>oj (an 32 s)) OD h
def as4(h:DG (an 32 s)=false∨bq (oj (an 32 s))=false∨fc (oj (an 32 s))≠s):gP s=none:=by
 rcases h with h|h|h;·exact Zb (ok:=fun s=>DG (an 32 s)) (fun q hq=>(Zm q hq).2.1) h
 ·exact qb (g:=fun s=>oj (an 32 s)) OD gJ
 ·exact qb (g:=fun s=>oj (an 32 s)) OD (fun e=>h e.2)
def aEs(h1:bq (oj (an 32 s))=true)(h2:fc (oj (an 32 s))=s):gP s=some (oj (an 32 s)):=wz (g:=fun s=>oj (an 32 s)) OD h1 h2
def aEt(h:(an 32 s).length < 4):gP s=none:=by refine AF fun q hq e=>?_;have h1:=asY hq;rw [e] at h1;have h2:=Zk q;rw [←h1] at h2;omega
def aEu(h:fc (uo (an 32 s))≠s):gP s=none:=qb (g:=fun s=>uo (an 32 s)) as2 (fun e=>h e.2)
def aEv(h0:4≤(an 32 s).length)(h2:fc (uo (an 32 s))=s):gP s=some (uo (an 32 s)):=
 wz (g:=fun s=>uo (an 32 s)) as2 (aEr (by rw [h2];rintro rfl;simp [an] at h0)) h2
/- ---- events ---- -/
def cU:fg:=⟨0,eD,0,0,dq,0⟩
noncomputable def fy(s:am):fg:=
 if gn s [32]=([97,100,109,105,116]:am) then ⟨1,(gP (jb (jb s [32]) [32])).getD eD,bM (gn (jb s [32]) [32]),0,dq,0⟩
 else if gn s [32]=([99,97,110,99,101,108]:am) then ⟨2,eD,0,bM (jb s [32]),dq,0⟩
 else if gn s [32]=([115,116,101,112]:am) then ⟨4,eD,0,0,dq,bM (jb s [32])⟩
 else ⟨3,eD,0,0,(gO s).getD dq,0⟩
noncomputable def gC(s:am):fg:=
 if 2 < (an 32 s).length∧(an 32 s).getD 0 []=([97,100,109,105,116]:am) then ⟨1,(gP (s.drop (((an 32 s).getD 0 []).length+((an 32 s).getD 1 []).length+2))).getD eD,bT ((an 32 s).getD 1 []),0,dq,0⟩
 else if (an 32 s).length=2∧(an 32 s).getD 0 []=([99,97,110,99,101,108]:am) then ⟨2,eD,0,bT ((an 32 s).getD 1 []),dq,0⟩
 else if (an 32 s).length=2∧(an 32 s).getD 0 []=([115,116,101,112]:am) then ⟨4,eD,0,0,dq,bT ((an 32 s).getD 1 [])⟩
 else ⟨3,eD,0,0,(gO s).getD dq,0⟩
noncomputable def bH(s:am):Option fg:=pc eC gB s
def Zn:pQ q=true↔q=eD:=by rw [←Hc,pL];exact Iff.rfl
def OE:pR u=true↔u=dq:=by rw [←He,pL];exact Iff.rfl
def OF(h:eC x=true) :
  (∃(q:aJt) (n:Int),bq q=true∧0≤n∧n≤32∧x=⟨1,q,n,0,dq,0⟩∧gB x=([97,100,109,105,116]:am)++32::(itoa n++32::fc q)) ∨
  (∃n:Int,0≤n∧n≤23∧x=⟨2,eD,0,n,dq,0⟩∧gB x=([99,97,110,99,101,108]:am)++32::itoa n) ∨
  (∃u:aJv,ez u=true∧x=⟨3,eD,0,0,u,0⟩∧gB x=gA u) ∨
  (∃n:Int,1≤n∧n≤100∧x=⟨4,eD,0,0,dq,n⟩∧gB x=([115,116,101,112]:am)++32::itoa n):=by
 have h':=h;obtain ⟨k,q,l,i,u,n⟩:=x;unfold eC at h;dsimp only at h;split at h
 ·rename_i hk
  subst hk;simp only [aR,decide_eq_true_eq,aE,OE] at h;obtain ⟨h1,⟨h2,h3⟩,rfl,rfl,rfl⟩:=h;refine Or.inl ⟨q,l,h1,h2,h3,rfl,?_⟩;unfold gB;rw [if_pos h',if_pos rfl];simp
 ·split at h
  ·rename_i hk
   subst hk;simp only [aR,decide_eq_true_eq,aE,OE,Zn] at h;obtain ⟨rfl,rfl,⟨h2,h3⟩,rfl,rfl⟩:=h;refine Or.inr (Or.inl ⟨i,h2,h3,rfl,?_⟩);unfold gB;rw [if_pos h',if_neg aL,if_pos rfl];simp
  ·split at h
   ·rename_i hk
    subst hk;simp only [aR,decide_eq_true_eq,aE,OE,Zn] at h;obtain ⟨rfl,rfl,rfl,h1,rfl⟩:=h;refine Or.inr (Or.inr (Or.inl ⟨u,h1,rfl,?_⟩));unfold gB;rw [if_pos h',if_neg aL,if_neg aL,if_pos rfl]
   ·split at h
    ·rename_i hk
     subst hk;simp only [aR,decide_eq_true_eq,aE,OE,Zn] at h;obtain ⟨rfl,rfl,rfl,rfl,h2,h3⟩:=h;refine Or.inr (Or.inr (Or.inr ⟨n,h2,h3,rfl,?_⟩));unfold gB;rw [if_pos h',if_neg aL,if_neg aL,if_neg aL];simp
    ·cases h
def aEw(h:ez u=true):∃a b,gA u=a++32::b∧(32:UInt8)∉a∧a≠([97,100,109,105,116]:am)∧a≠([99,97,110,99,101,108]:am)∧a≠([115,116,101,112]:am):=by rcases HX h with ⟨r,h1,rfl,e⟩|⟨n,h1,h2,rfl,e⟩|⟨n,f,v,⟨h1,h2⟩,⟨h3,h4⟩,⟨h5,h6⟩,rfl,e⟩<;>exact ⟨_,_,e,ai,ai,ai,ai⟩
def HZ(x:fg)(h:eC x=true):fy (gB x)=x∧gC (gB x)=x:=by
 rcases OF h with ⟨q,n,h1,h2,h3,rfl,e⟩|⟨n,h2,h3,rfl,e⟩|⟨u,h1,rfl,e⟩|⟨n,h2,h3,rfl,e⟩
 ·have hn:=mC (n:=n) ab ab
  have hc:=DE (c:=32) (a:=([97,100,109,105,116]:am)) (b:=itoa n++32::fc q) ai;have hc2:=DE (c:=32) (a:=itoa n) (b:=fc q) (kF ai);have hs:an 32 (([97,100,109,105,116]:am)++32::(itoa n++32::fc q))=([97,100,109,105,116]:am)::itoa n::an 32 (fc q):=by rw [sB ai,sB (kF ai)]
  have hd:(([97,100,109,105,116]:am)++32::(itoa n++32::fc q)).drop (([97,100,109,105,116]:am).length+(itoa n).length+2)=fc q:=by rw [show ([97,100,109,105,116]:am)++32::(itoa n++32::fc q)=(([97,100,109,105,116]:am)++32::itoa n++[32])++fc q by simp];rw [List.drop_append_of_le_length jq,List.drop_eq_nil_of_le jq];rfl
  have hne:=wC 32 (fc q);have hl:(an 32 (fc q)).length≠0:=by simpa using hne
  rw [e];constructor
  ·unfold fy
   rw [hc.1,hc.2,hc2.1,hc2.2,if_pos rfl,as3 h1,sx hn];rfl
  ·unfold gC
   rw [hs,if_pos ⟨jq,rfl⟩];show (⟨1,(gP (List.drop (([97,100,109,105,116]:am).length+(itoa n).length+2) _)).getD eD,bT (itoa n),0,dq,0⟩:fg)=_;rw [hd,as3 h1,sy hn];rfl
 ·have hn:=mC (n:=n) ab ab
  have hc:=DE (c:=32) (a:=([99,97,110,99,101,108]:am)) (b:=itoa n) ai;have hs:an 32 (([99,97,110,99,101,108]:am)++32::itoa n)=[([99,97,110,99,101,108]:am),itoa n]:=aby;rw [e];unfold fy gC;rw [hc.1,hc.2,hs,sx hn];simp [sy hn]
 ·obtain ⟨a,b,e1,e2,e3,e4,e5⟩:=aEw h1
  have hu:=aEf h1;rw [e];rw [e1] at hu ⊢;have hc:=DE (c:=32) (a:=a) (b:=b) e2;have hs:(an 32 (a++32::b)).getD 0 []=a:=by rw [sB e2];rfl
  unfold fy gC;rw [hc.1,hs,hu];simp [e3,e4,e5]
 ·have hn:=mC (n:=n) ab ab
  have hc:=DE (c:=32) (a:=([115,116,101,112]:am)) (b:=itoa n) ai;have hs:an 32 (([115,116,101,112]:am)++32::itoa n)=[([115,116,101,112]:am),itoa n]:=aby;rw [e];unfold fy gC;rw [hc.1,hc.2,hs,sx hn];simp [sy hn]
def aEx(h:eC x=true):gB x≠[]:=by
 rcases OF h with ⟨q,n,h1,h2,h3,rfl,e⟩|⟨n,h2,h3,rfl,e⟩|⟨u,h1,rfl,e⟩|⟨n,h2,h3,rfl,e⟩<;>rw [e];·simp
 ·simp
 ·exact asS h1
 ·simp
def aEy(h:gB x≠[]):eC x=true:=by
 cases e:eC x with
 | true=>rfl
 | false=>exact absurd (by unfold gB;rw [if_neg Bc]) h
def aEz(h:bH s=some x):eC x=true∧gB x=s:=asx h
def as5(h:eC (fy s)=false∨gB (fy s)≠s):bH s=none:=by
 rcases h with h|h;·exact qb (g:=fy) (fun u hu=>(HZ u hu).1) gJ
 ·exact qb (g:=fy) (fun u hu=>(HZ u hu).1) (fun e=>h e.2)
def as6(h1:eC (fy s)=true)(h2:gB (fy s)=s):bH s=some (fy s):=wz (g:=fy) (fun u hu=>(HZ u hu).1) h1 h2
def Zo(h:s=[]∨gB (gC s)≠s):bH s=none:=by
 rcases h with h|h;·exact AF fun r hr e=>aEx hr (e.trans h)
 ·exact qb (g:=gC) (fun u hu=>(HZ u hu).2) (fun e=>h e.2)
def Zp(h1:s≠[])(h2:gB (gC s)=s):bH s=some (gC s):=wz (g:=gC) (fun u hu=>(HZ u hu).2) (aEy PP) h2
section
def u8(b:Int):UInt8:=UInt8.ofNat b.toNat
def Zq{x:UInt8}{b:Int}(h0:0≤b)(h1:b≤255):(((x.toNat:Nat):Int)=b)↔x=u8 b:=by
 have hx:=x.toNat_lt;constructor;·rintro rfl;unfold u8;rw [Int.toNat_natCast,UInt8.ofNat_toNat]
 ·rintro rfl;unfold u8;rw [UInt8.toNat_ofNat'];omega
def as7(s:am):dN (lL s):=by
 unfold lL;rcases h:Lib.atoiAll s with v|_|_;·exact Lib.atoiAll_bounds h
 ·exact (show dN 0 from ⟨ai,ai⟩)
 ·exact Lib.atoiSat_bounds s
def aEA(h:sf s=true):Lib.atoiAll s = .ok (lL s):=by
 unfold sf at h;unfold lL;rcases e:Lib.atoiAll s with v|_|_;·rfl
 ·rw [e] at h;cases h
 ·rw [e] at h;cases h
def aEB(h:sf s=false∨itoa (lL s)≠s∨lL s < -999999999∨999999999 < lL s):iO s=none:=by
 cases e:sf s with
 | false=>
  refine aDW fun v hv=>?_;unfold sf at e;rw [hv] at e;cases e
 | true=>
  refine aDX (aEA e) fun hc=>?_;have:=wB.1 hc.1;rw [e] at h;rcases h with h|h|h|h;·cases h
  ·exact h hc.2
  ·omega
  ·omega
def aEC(h2:itoa (lL s)=s)(h3 : -999999999≤lL s)(h4:lL s≤999999999):iO s=some (lL s):=aDY (mC h3 h4) h2
section
variable{s:am}{n:Int}
def aED(h:iO s=none):bM s=0:=by unfold bM;rw [h];rfl
def aEE(h:iO s=some n):bM s=n:=by unfold bM;rw [h];rfl
def aEF(h:cY s=false):bT s = -100000:=by
 unfold cY at h;unfold bT;cases e:iO s with
 | none=>rfl
 | some n=>rw [e] at h;cases h
def aEG(h:cY s=true):bT s=bM s:=by
 unfold cY at h;unfold bT bM;cases e:iO s with
 | none=>rw [e] at h;cases h
 | some n=>rfl
def aEH(h:iO s=none):cY s=false:=by unfold cY;rw [h];rfl
def aEI(h:iO s=some n):cY s=true:=by unfold cY;rw [h];rfl
end
/- the reference's loop over digits -/
def as8(h:k < s.length):gN (s.take (k+1))=if qc s[k] then ((gN (s.take k)).1 * 10+(s[k].toNat - 48),(gN (s.take k)).2+1) else gN (s.take k):=by rw [cI h,Ze]
def OG(s:am)(k:Nat)(h:k≤11):(gN (s.take k)).1 < 100000000000∧(gN (s.take k)).2≤11:=by have h1:=asE (s.take k);have h2:(s.take k).length≤k:=dm;have h3:10 ^ (gN (s.take k)).2≤10 ^ 11:=Nat.pow_le_pow_right ai ab;omega
def as9(h:k=s.length∨k=11)(hk:k≤11):s.take k=s.take 11:=by
 rcases h with h|h;·rw [tf ab,tf ab]
 ·rw [h]
def ata(h:s.head?=some 45):qW s = -((gN (s.take 11)).1:Int):=if_pos h
def OH(h:¬s.head?=some 45):qW s=((gN (s.take 11)).1:Int):=if_neg h
def Ia(h:0 < s.length):s.head?=some c↔s[0].toNat=c.toNat:=by
 cases s with
 | nil=>simp at h
 | cons b r=>simp [UInt8.toNat_inj]
def Zr(h:¬0 < s.length):¬s.head?=some c:=by
 cases s with
 | nil=>simp
 | cons b r=>simp at h
def aEJ(h:9 < (gN (s.take 11)).2∨10 < s.length∨itoa (qW s)≠s):ul s=true:=by
 unfold ul;rcases h with h|h|h;·simp [h]
 ·simp [h]
 ·rw [show (itoa (qW s)==s)=false by simpa using h];simp
def aEK(h1:(gN (s.take 11)).2≤9)(h2:s.length≤10)(h3:itoa (qW s)=s):ul s=false:=by unfold ul;rw [h3];simp;omega
/- splitting, byte by byte -/
def Zs(l:List α)(x d:α):(l++[x]).getLastD d=x:=aL
def OI(c:UInt8)(s:am):an c s=(an c s).dropLast++[(an c s).getLastD []]:=by
 have h:=wC c s;have key:∀l:List am,l≠[]→l=l.dropLast++[l.getLastD []]:=by
  intro l;induction l using Ak with
  | h0=>intro h;exact absurd rfl h
  | h1 l a _=>intro _;rw [List.dropLast_concat,Zs]
 exact key _ h
def atb(h:k < s.length)(hc:s[k]=c):(an c (s.take (k+1))).dropLast=(an c (s.take k)).dropLast++[(an c (s.take k)).getLastD []]∧(an c (s.take (k+1))).getLastD []=[]:=by rw [cI h,asH,if_pos hc,Zs,List.dropLast_concat];exact ⟨OI c _,rfl⟩
def atc(h:k < s.length)(hc:¬s[k]=c):(an c (s.take (k+1))).dropLast=(an c (s.take k)).dropLast∧(an c (s.take (k+1))).getLastD []=(an c (s.take k)).getLastD []++[s[k]]:=by rw [cI h,asH,if_neg hc,Zs,List.dropLast_concat];exact ⟨rfl,rfl⟩
def pg(c:UInt8)(s:am):(an c s).length≤s.length+1∧1≤(an c s).length:=by rw [asK];have:=List.count_le_length (a:=c) (l:=s);omega
def sE(h:w∈an c s):w.length≤s.length:=by
 induction s generalizing w with
 | nil=>simp [an] at h;subst h;simp
 | cons b r ih=>
  unfold an at h;split at h
  ·rcases List.mem_cons.1 h with rfl|h
   ·simp
   ·have:=ih h;simp;omega
  ·rcases List.mem_cons.1 h with rfl|h
   ·have h1:=wC c r
    cases hh:an c r with
    | nil=>exact absurd hh h1
    | cons y ys=>
     have:=ih (w:=y) (by rw [hh];simp);simp;omega
   ·have:=ih (List.mem_of_mem_tail h);simp;omega
def aEL(s:am):((an c s).getLastD []).length≤s.length:=by have h:=wC c s;have e:=OI c s;refine sE (c:=c) (s:=s) ?_;rw [e];simp
def aEM(c:UInt8)(s:am):Lib.splitK [c] 0 (Lib.count s [c]) s=an c s:=by rw [Lib.count_one];exact asM c _ s rfl
def OJ(h:k < (an c s).length):(an c s).getD k []=(an c s)[k]:=by rw [List.getD_eq_getElem?_getD,List.getElem?_eq_getElem h];rfl
/- numbers between commas -/
def aEN(hk:k < (an 44 s).length)(h:cY (an 44 s)[k]=false):sC s=false:=qE hk h
def aEO(h:sC s=false):wD s=[]:=if_neg gJ
def aEP(h:sC s=true):wD s=(an 44 s).map bM:=if_pos h
def Ib(s p:am):(gn s p).length≤s.length:=by
 unfold gn Lib.cut;split;·simp [cc];omega
 ·exact Nat.le_refl _
def Ic(s p:am):(jb s p).length≤s.length:=by
 unfold jb Lib.cut;split;·simp
 ·simp
def aEQ(s p:am):(sD s p).length≤s.length:=by
 unfold sD;split;·simp
 ·exact Nat.le_refl _
def aER(h:0 < s.length):s.head?=some c↔s[0]=c:=by
 cases s with
 | nil=>simp at h
 | cons b r=>simp
def aES(h:s.length < 2∨s.head?≠some c):lf c s = -100000:=if_pos h
def aET(h1:¬s.length < 2)(h2:s.head?=some c):lf c s=bT (s.drop 1):=if_neg (by rintro (h|h);exact h1 h;exact h h2)
def aEU(h:∀j,j < k→pf s j=false)(h2:pf s k=false):∀j,j < k+1→pf s j=false:=fun j hj=>by
 by_cases e:j=k;·rw [e];exact h2
 ·exact h j ab
def iP(c:UInt8)(s:am)(j:Nat):((an c s).getD j []).length≤s.length:=by
 by_cases h:j < (an c s).length;·rw [OJ h];exact sE (List.getElem_mem h)
 ·rw [List.getD_eq_getElem?_getD,List.getElem?_eq_none ab];simp
def wG(h:k < ws.length):ws.getD k []=ws[k]:=by rw [List.getD_eq_getElem?_getD,List.getElem?_eq_getElem h];rfl
def aEV(c:UInt8)(s:am):((an c s).map fun w=>w.length+1).sum=s.length+1:=by
 induction s with
 | nil=>rfl
 | cons b r ih=>
  unfold an;split;·simp [ih];omega
  ·have h1:=wC c r
   cases hh:an c r with
   | nil=>exact absurd hh h1
   | cons y ys=>rw [hh] at ih;simp at ih ⊢;omega
def aEW(h:2 < (an c s).length):((an c s).getD 0 []).length+((an c s).getD 1 []).length+2≤s.length:=by
 have h1:=aEV c s;rcases hw:an c s with _|⟨a,_|⟨b,_|⟨d,r⟩⟩⟩<;>rw [hw] at h h1;·simp at h
 ·simp at h
 ·simp at h
 ·simp at h1 ⊢;omega
def aEX(n:Nat):((n:Int)).tmod 2=((n%2:Nat):Int):=by rw [Int.tmod_eq_emod_of_nonneg ab];omega
/- the updates' readings, case by case -/
noncomputable def jZ(ws:List am):aJv:=
 if ws.getD 0 []=([105,110,115,101,114,116]:am)∧ws.length=2 then ⟨1,(jH (ws.getD 1 [])).getD qX,0,0⟩
 else if ws.getD 0 []=([100,101,108,101,116,101]:am)∧ws.length=2 then ⟨2,⟨bM (ws.getD 1 []),[]⟩,0,0⟩
 else if ws.getD 0 []=([115,101,116]:am)∧ws.length=4 then ⟨3,⟨bM (ws.getD 1 []),[]⟩,um 102 (ws.getD 2 []),bM (ws.getD 3 [])⟩
 else dq
def atd(s:am):pd s=jZ (an 32 s):=rfl
section
variable{ws:List am}{s:am}
def aEY(h:ws.getD 0 []=([105,110,115,101,114,116]:am)∧ws.length=2):jZ ws=⟨1,(jH (ws.getD 1 [])).getD qX,0,0⟩:=if_pos h
def aEZ(h0:¬(ws.getD 0 []=([105,110,115,101,114,116]:am)∧ws.length=2))(h:ws.getD 0 []=([100,101,108,101,116,101]:am)∧ws.length=2):jZ ws=⟨2,⟨bM (ws.getD 1 []),[]⟩,0,0⟩:=by unfold jZ;rw [if_neg h0,if_pos h]
def aE0(h0:¬(ws.getD 0 []=([105,110,115,101,114,116]:am)∧ws.length=2))(h1:¬(ws.getD 0 []=([100,101,108,101,116,101]:am)∧ws.length=2))(h:ws.getD 0 []=([115,101,116]:am)∧ws.length=4):jZ ws=⟨3,⟨bM (ws.getD 1 []),[]⟩,um 102 (ws.getD 2 []),bM (ws.getD 3 [])⟩:=by unfold jZ;rw [if_neg h0,if_neg h1,if_pos h]
def aE1(h0:¬(ws.getD 0 []=([105,110,115,101,114,116]:am)∧ws.length=2))(h1:¬(ws.getD 0 []=([100,101,108,101,116,101]:am)∧ws.length=2))(h2:¬(ws.getD 0 []=([115,101,116]:am)∧ws.length=4)):jZ ws=dq:=by unfold jZ;rw [if_neg h0,if_neg h1,if_neg h2]
def aE2(h:(an 32 s).length=2∧(an 32 s).getD 0 []=([105,110,115,101,114,116]:am)):jp s=⟨1,(jH ((an 32 s).getD 1 [])).getD qX,0,0⟩:=if_pos h
def ate(h0:¬((an 32 s).length=2∧(an 32 s).getD 0 []=([105,110,115,101,114,116]:am)))(h:(an 32 s).length=2):jp s=⟨2,⟨bT ((an 32 s).getD 1 []),[]⟩,0,0⟩:=by unfold jp;rw [if_neg h0,if_pos h]
def atf(h0:¬((an 32 s).length=2∧(an 32 s).getD 0 []=([105,110,115,101,114,116]:am)))(h1:¬(an 32 s).length=2)(h:(an 32 s).length=4):jp s=⟨3,⟨bT ((an 32 s).getD 1 []),[]⟩,lf 102 ((an 32 s).getD 2 []),bT ((an 32 s).getD 3 [])⟩:=by unfold jp;rw [if_neg h0,if_neg h1,if_pos h]
def atg(h0:¬((an 32 s).length=2∧(an 32 s).getD 0 []=([105,110,115,101,114,116]:am)))(h1:¬(an 32 s).length=2)(h2:¬(an 32 s).length=4):jp s=dq:=by unfold jp;rw [if_neg h0,if_neg h1,if_neg h2]
def aE3(h:gn s [32]=([97,100,109,105,116]:am)):fy s=⟨1,(gP (jb (jb s [32]) [32])).getD eD,bM (gn (jb s [32]) [32]),0,dq,0⟩:=if_pos h
def aE4(h0:¬gn s [32]=([97,100,109,105,116]:am))(h:gn s [32]=([99,97,110,99,101,108]:am)):fy s=⟨2,eD,0,bM (jb s [32]),dq,0⟩:=by unfold fy;rw [if_neg h0,if_pos h]
def aE5(h0:¬gn s [32]=([97,100,109,105,116]:am))(h1:¬gn s [32]=([99,97,110,99,101,108]:am))(h:gn s [32]=([115,116,101,112]:am)):fy s=⟨4,eD,0,0,dq,bM (jb s [32])⟩:=by unfold fy;rw [if_neg h0,if_neg h1,if_pos h]
def aE6(h0:¬gn s [32]=([97,100,109,105,116]:am))(h1:¬gn s [32]=([99,97,110,99,101,108]:am))(h2:¬gn s [32]=([115,116,101,112]:am)):fy s=⟨3,eD,0,0,(gO s).getD dq,0⟩:=by unfold fy;rw [if_neg h0,if_neg h1,if_neg h2]
def aE7(h:2 < (an 32 s).length∧(an 32 s).getD 0 []=([97,100,109,105,116]:am)):gC s=⟨1,(gP (s.drop (((an 32 s).getD 0 []).length+((an 32 s).getD 1 []).length+2))).getD eD,bT ((an 32 s).getD 1 []),0,dq,0⟩:=if_pos h
def ath(h0:¬(2 < (an 32 s).length∧(an 32 s).getD 0 []=([97,100,109,105,116]:am)))(h:(an 32 s).length=2∧(an 32 s).getD 0 []=([99,97,110,99,101,108]:am)):gC s=⟨2,eD,0,bT ((an 32 s).getD 1 []),dq,0⟩:=by unfold gC;rw [if_neg h0,if_pos h]
def Zt(h0:¬(2 < (an 32 s).length∧(an 32 s).getD 0 []=([97,100,109,105,116]:am)))(h1:¬((an 32 s).length=2∧(an 32 s).getD 0 []=([99,97,110,99,101,108]:am)))(h:(an 32 s).length=2∧(an 32 s).getD 0 []=([115,116,101,112]:am)):gC s=⟨4,eD,0,0,dq,bT ((an 32 s).getD 1 [])⟩:=by unfold gC;rw [if_neg h0,if_neg h1,if_pos h]
def OK(h0:¬(2 < (an 32 s).length∧(an 32 s).getD 0 []=([97,100,109,105,116]:am)))(h1:¬((an 32 s).length=2∧(an 32 s).getD 0 []=([99,97,110,99,101,108]:am)))(h2:¬((an 32 s).length=2∧(an 32 s).getD 0 []=([115,116,101,112]:am))):gC s=⟨3,eD,0,0,(gO s).getD dq,0⟩:=by unfold gC;rw [if_neg h0,if_neg h1,if_neg h2]
end
def aE8(x:List fI):xY x=x.length:=by
 have h:∀l:List fI,(l.map CV).sum=0:=by
  intro l;induction l with
  | nil=>rfl
  | cons a l ih=>rw [List.map_cons,List.sum_cons,ih];rfl
 simp [xY,h]
def OL(s:am):CW ((bH s).getD cU)≤20:=by
 cases h:bH s with
 | none=>decide
 | some x=>
  have h0_:=(aEz h).1;show CW x≤20;rcases OF h0_ with ⟨q,n,h1,h2,h3,rfl,e⟩|⟨n,h2,h3,rfl,e⟩|⟨u,h1,rfl,e⟩|⟨n,h2,h3,rfl,e⟩
  ·have h4:=yF h1
   show bf 1+eZ q+bf n+bf 0+jz dq+bf 0≤20;have h5:jz dq=0:=ai;rw [h5];simp only [eZ,aE8,fL,bf];omega
  ·have h5:jz dq=0:=by decide
   have h6:eZ eD=0:=ai;show bf 2+eZ eD+bf 0+bf n+jz dq+bf 0≤20;rw [h5,h6];simp [bf]
  ·have h6:eZ eD=0:=by decide
   show bf 3+eZ eD+bf 0+bf 0+jz u+bf 0≤20;rw [h6];rcases HX h1 with ⟨r,hr1,rfl,e⟩|⟨n,h1,h2,rfl,e⟩|⟨n,f,v,⟨h1,h2⟩,⟨h3,h4⟩,⟨h5,h6⟩,rfl,e⟩
   ·have:=qV hr1
    simp only [jz,jy,fL,bf];omega
   ·simp only [jz,jy,fL,bf];simp
   ·simp only [jz,jy,fL,bf];simp
  ·have h5:jz dq=0:=by decide
   have h6:eZ eD=0:=ai;show bf 4+eZ eD+bf 0+bf 0+jz dq+bf n≤20;rw [h5,h6];simp [bf]
end
def yI(code:List Int)(i:Int):Int:=if i < code.length then IntKind.i64.wrap (code.getD i.toNat 0) else (i * 37+(code.length:Int) * 11).tmod 256
def aE9{i:Int}(h:i < code.length):yI code i=IntKind.i64.wrap (code.getD i.toNat 0):=if_pos h
def aFa{i:Int}(h:¬i < code.length):yI code i=(i * 37+(code.length:Int) * 11).tmod 256:=if_neg h
def aFb(hc:∀x∈code,0≤x∧x≤255)(i:Int)(hi:0≤i):0≤yI code i∧yI code i≤255:=by
 unfold yI;split
 ·rename_i h
  have hl:i.toNat < code.length:=ab;rw [List.getD_eq_getElem?_getD,List.getElem?_eq_getElem hl,Option.getD_some];have:=hc _ (List.getElem_mem hl);rw [IntWalk.i64_in _ ab];exact this
 ·have h1:=Int.tmod_nonneg 256 (show 0≤i * 37+(code.length:Int) * 11 by omega)
  have h2:=Int.tmod_lt_of_pos (i * 37+(code.length:Int) * 11) (show (0:Int) < 256 by decide);omega
section
def Zu(n c0:Nat)(q:aJt)(snap:Nat→List Row):Nat→List Row
 | 0=>[]
 | k+1=>Zu n c0 q snap k++(snap ((c0+k)%n)).filter (iI q)
structure aFc(n c0:Nat)(q:aJt)(t:Int)(snap:Nat→List Row)(k:Nat)(e:au)(a:aJs):Prop where
 hq:a.aJt=q
 ht:a.Time=t
 hc:a.Cap=0
 ha:a.Age=k
 hr:a.Rows=Zu n c0 q snap k
 td:∀i:Nat,(i:Int)∈a.aJB↔i < n∧∀j < k,i≠(c0+j)%n
 tr:∀x∈a.aJB,0≤x∧x < n
 sn:∀i:Nat,(i:Int)∈a.aJB→fw (yx e.Store i) t=snap i
structure Iso(n c0:Nat)(q:aJt)(t:Int)(snap:Nat→List Row)(N k:Nat)(e:au):Prop where
 b:aDG N e
 hn:e.Store.aJr.length=n
 hcu:e.aJw=((c0+k)%n:Nat)
 htm:t≤e.Store.Now
 hst:(k < n∧(∃a∈e.aJs,aFc n c0 q t snap k e a)∧∀f∈e.Done,f.aJt.Id≠q.Id) ∨
  (n≤k∧(∀a∈e.aJs,a.aJt.Id≠q.Id)∧∃d1 d2,e.Done=d1++⟨q,t,n,Zu n c0 q snap n⟩::d2∧∀f∈d2,f.aJt.Id≠q.Id)
section
variable{n c0:Nat}{q:aJt}{t:Int}{snap:Nat→List Row}{N k:Nat}{e:au}
end
structure aJq where
 e:au
def qY(e:au):Bool:=!(aV e&&decide (0 < e.aJs.length))
def eP(e:au):Nat→au
 | 0=>e
 | k+1=>if qY (eP e k) then eP e k else eo (eP e k)
def gD(e:au):au:=eP e 200
def ati{e:au}{k:Nat}(h:qY (eP e k)=true):∀m,eP e (k+m)=eP e k
 | 0=>rfl
 | m+1=>by show (if qY (eP e (k+m)) then eP e (k+m) else _)=_;rw [ati h m,if_pos h]
def aFd(hk:k≤200)(h:k=200∨qY (eP e k)=true):eP e k=gD e:=by
 rcases h with rfl|h;·rfl
 ·have:=ati h (200 - k)
  rw [Nat.add_sub_cancel' hk] at this;exact this.symm
def Ie:ig:=⟨⟨0,0,[],[]⟩,0,0,[]⟩
def go(e:au)(id:Int):ig×Bool:=if aV e then (match e.Done.reverse.find? (fun d=>d.aJt.Id==id) with|some d=>(d,true)|none=>(Ie,false)) else (Ie,false)
def aFe{d1 d2:List ig}{f:ig}(hf:f.aJt.Id=id)(h:∀g∈d2,g.aJt.Id≠id):(d1++f::d2).reverse.find? (fun d=>d.aJt.Id==id)=some f:=by
 rw [List.reverse_append,List.find?_append,List.reverse_cons,List.find?_append];have h1:d2.reverse.find? (fun d=>d.aJt.Id==id)=none:=by rw [List.find?_eq_none];intro g hg;have:=h g (List.mem_reverse.1 hg);simpa using this
 rw [h1];simp [hf]
section
variable{n c0:Nat}{q:aJt}{t:Int}{snap:Nat→List Row}{N k:Nat}{e:au}
end
section
variable{n:Nat}{q:aJt}{t:Int}{snap:Nat→List Row}{N k:Nat}{a b:au}{s:Store}{x:fg}
end
def OM(e:au):∀k,aZ (eP e k)≤aZ e+200 * k
 | 0=>Nat.le_refl _
 | k+1=>by have h1:=OM e k;have h2:=arQ (eP e k);show aZ (if qY (eP e k) then eP e k else eo (eP e k))≤_;split<;>omega
def aFf(e:au):aZ (gD e)≤aZ e+40000:=OM e 200
def aFg(h:qY (eP e k)=false):eP e (k+1)=eo (eP e k):=by show (if qY (eP e k) then eP e k else eo (eP e k))=_;rw [if_neg gJ]
def atj(hk:k < e.Done.length)(hok:aV e=true)(hn:∀f∈e.Done.drop (e.Done.length - k),f.aJt.Id≠id)(hy:e.Done[e.Done.length - 1 - k].aJt.Id=id):go e id=(e.Done[e.Done.length - 1 - k],true):=by
 have hd:e.Done=e.Done.take (e.Done.length - 1 - k)++e.Done[e.Done.length - 1 - k]::e.Done.drop (e.Done.length - k):=by have h1:e.Done.length - k=e.Done.length - 1 - k+1:=ab;rw [h1,←List.drop_eq_getElem_cons ab,iq]
 unfold go;rw [if_pos hok];have:=aFe (d1:=e.Done.take (e.Done.length - 1 - k)) hy hn;rw [←hd] at this;rw [this]
def atk(hok:aV e=true)(hn:∀f∈e.Done,f.aJt.Id≠id):go e id=(Ie,false):=by
 have:e.Done.reverse.find? (fun d=>d.aJt.Id==id)=none:=by rw [List.find?_eq_none];intro g hg;have:=hn g (List.mem_reverse.1 hg);simpa using this
 unfold go;rw [if_pos hok,this]
def atl(hok:aV e=false):go e id=(Ie,false):=if_neg qj
def atm(hk:k < e.Done.length)(hn:∀f∈e.Done.drop (e.Done.length - k),f.aJt.Id≠id)(hy:¬e.Done[e.Done.length - 1 - k].aJt.Id=id):∀f∈e.Done.drop (e.Done.length - (k+1)),f.aJt.Id≠id:=by
 have h1:e.Done.length - k=e.Done.length - (k+1)+1:=ab;have h2:e.Done.length - 1 - k=e.Done.length - (k+1):=ab;rw [List.drop_eq_getElem_cons ab,←h1];intro f hf;rcases List.mem_cons.1 hf with rfl|hf;·simp only [h2] at hy;exact hy
 ·exact hn f hf
end
noncomputable def gE(e:au)(o:List Int):au×Bool:=if aV e&&ci o then ({ e with Order:=o },true) else (e,false)
def Zv{o:List Int}(h:(aV e&&ci o)=true):gE e o=({ e with Order:=o },true):=if_pos h
def atn{o:List Int}(h:(aV e&&ci o)=false):gE e o=(e,false):=if_neg gJ
noncomputable def gp(e:au):au:=(gE e (pW e)).1
def ato(e:au)(o:List Int):aZ (gE e o).1≤aZ e+o.length:=by
 unfold gE;split;·simp only [aZ,fL,bf];omega
 ·dsimp only;omega
def aFh(e:au):aZ (gp e)≤aZ e+3:=by have h1:=ato e (pW e);have h2:=Xc e;unfold gp;omega
def AJ(a:aJs):am:=itoa a.aJt.Id++[32,97,116,32]++itoa a.Time++[32,108,101,102,116,32]++itoa (a.aJB.length:Int)++[32,114,111,119,115,32]++itoa (a.Rows.length:Int)
def mE(a:aJs):am:=if mo a then AJ a else AJ a++[32,97,115,108,101,101,112]
noncomputable def eB(e:au):List am:=if aV e then e.aJs.map mE else []
def atp(h:mo a=true):mE a=AJ a:=if_pos h
def atq(h:mo a=false):mE a=AJ a++[32,97,115,108,101,101,112]:=if_neg gJ
def If(h:aV e=true):eB e=e.aJs.map mE:=if_pos h
def atr(h:aV e=false):eB e=[]:=if_neg gJ
def Zw{s:Store}(h:gM s a=true):(0≤a.aJt.Id∧a.aJt.Id≤23)∧(0≤a.Time∧a.Time≤s.Now)∧a.Rows.length≤1000:=by unfold gM bq jj at h;simp only [aR,aE,decide_eq_true_eq] at h;omega
def ats(e:au):(eB e).length≤e.aJs.length:=by
 unfold eB;split;·rw [aU];exact Nat.le_refl _
 ·exact Nat.zero_le _
def aFi(h:(k=e.aJs.length∧aV e=true)∨(k=0∧(e.aJs.length=0∨aV e=false))):(e.aJs.take k).map mE=eB e:=by
 rcases h with ⟨rfl,h⟩|⟨rfl,h⟩;·rw [bF,If h]
 ·rcases h with h|h
  ·unfold eB
   rw [jd h];split<;>rfl
  ·rw [atr h];rfl
def aFj(h0:(itoa a.aJt.Id).length≤21)(h1:(itoa a.Time).length≤21)(h2:(itoa (a.aJB.length:Int)).length≤21)(h3:(itoa (a.Rows.length:Int)).length≤21):(mE a).length≤150:=by unfold mE AJ;split<;>simp only [bv,List.length_cons,List.length_nil]<;>omega
def ph(l:List cH)(k:Nat):List am:=[[116,111,116,97,108],itoa (vZ l)]++(List.range k).flatMap fun i:Nat=>[[116]++itoa (i:Int),itoa (rW l (i:Int))]
def Zx{l:List cH}:ph l (k+1)=ph l k++[[116]++itoa (k:Int),itoa (rW l (k:Int))]:=by simp [ph,List.range_succ,List.flatMap_append]
def aFk{l:List cH}:ph l k≠[]:=by simp [ph]
def ON{l:List cH}:(ph l k).length=2+2 * k:=by
 induction k with
 | zero=>rfl
 | succ k ih=>rw [Zx,bv,ih];simp;omega
def yJ(l:List cH):am:=cQ (ph l 4) [32]
def aFl{l:List cH}(hl:l.length≤1048576)(hk:k≤4):∀x∈ph l k,x.length≤22:=by
 have h1:=Hp l;have h3:(itoa (vZ l)).length≤21:=bu br;intro x hx;unfold ph at hx;rcases List.mem_append.1 hx with hx|hx
 ·simp at hx
  rcases hx with rfl|rfl;·decide
  ·omega
 ·obtain ⟨i,hi,hx⟩:=List.mem_flatMap.1 hx
  have hi:=List.mem_range.1 hi;have h2:=Hq l (i:Int);have h4:(itoa (i:Int)).length≤21:=bu br;have h5:(itoa (rW l (i:Int))).length≤21:=bu br;simp at hx;rcases hx with rfl|rfl;·simp;omega
  ·omega
def Zy{l:List cH}(hl:l.length≤1048576)(hk:k≤4):(cQ (ph l k) [32]).length≤400:=by have h:=tY (m:=22) (sep:=[32]) (aFl hl hk);rw [ON] at h;simp only [List.length_cons,List.length_nil] at h;have:(2+2 * k) * (22+(0+1))≤10 * 23:=Nat.mul_le_mul ab ab;omega
end Go.Proofs.YtmekkgdboplbjaaGreatDoor
