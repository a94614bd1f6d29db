/- Definitions and their laws. No condition. -/
import Derived.Test.YtmekkgdboplbjaaGreatDoorRJ1
set_option linter.all false
namespace Go.Proofs.YtmekkgdboplbjaaGreatDoor
open Go Go.RowKit M
set_option maxRecDepth 10000
variable{e:av}{l s:an}{k:Nat}{n:Int}{ws:List an}{o:List Int}{w:an}{α:Type}
structure dw(e:av):Prop where
 ok:aU e=true
 ag:∀a∈e.aC6,a.Age≤e.Steps∧a.Sent+4 * (a.aDf.length:Int)≤32∧a.Rows.length+4 * a.aDf.length≤32
def dw.sub{f:av}(h:dw e)(hok:aU f=true)(hs:f.Steps=e.Steps)(ha:∀a∈f.aC6,a∈e.aC6):dw f:=⟨hok,fun a m=>by rw [hs];exact h.ag a (ha a m)⟩
def dw.reclaim(h:dw e):dw (eD e):=⟨az4 h.ok,h.ag⟩
def dw.seg(h:dw e):0 < e.Store.aC5.length:=(nV.1 (fO.1 h.ok).so).l1
def aAT(h:dw e)(id:Int):dw (dE e id).1:=by
 cases hc:nP e id with
 | false=>rw [KY hc];exact h
 | true=>
  rw [anc hc]
  refine dw.reclaim ?_
  have hk:=fO.1 h.ok
  have hs:(gM e.aC6 (ez e.aC6 id).toNat).Sublist e.aC6:=by
   unfold gM
   conv=>rhs;rw [←hO (ez e.aC6 id).toNat e.aC6]
   exact List.Sublist.append (List.Sublist.refl _) (by rw [List.drop_add_one_eq_tail_drop];exact List.tail_sublist _)
  have hl:=hs.length_le
  have a8:=hk.a8
  refine h.sub ?_ rfl (fun a ha=>hs.subset ha)
  rw [fO]
  exact ⟨hk.so,hk.c0,hk.c1,hk.od,hk.s0,hk.s1,by show (gM e.aC6 _).length≤8;omega,hk.d1,hk.l1,fun a ha=>hk.aa a (hs.subset ha),hk.pw.sublist hs,hk.fs,hk.cs⟩
def aAU(h:dw e)(u:aC9):dw (dG e u).1:=by
 cases hu:aU e&&(eV e.Store u).2 with
 | false=>rw [Uk hu];exact h
 | true=>
  rw [Ul hu]
  refine dw.reclaim ?_
  have hk:=fO.1 h.ok
  have hs:=azN e.Store u hk.so
  have hlen:(eV e.Store u).1.aC5.length=e.Store.aC5.length∧e.Store.Now≤(eV e.Store u).1.Now:=by
   cases ha:kD e.Store u with
   | false=>rw [Ff ha];exact ⟨rfl,Int.le_refl _⟩
   | true=>
    by_cases hk2:u.Kind=2
    ·rw [yw ha hk2];exact ⟨Bv _ _,uO⟩
    ·rw [Ug ha];unfold Fe;rw [if_neg hk2];unfold Bs;dsimp only;rw [List.length_set,Bv];exact ⟨rfl,ab⟩
  refine h.sub ?_ rfl (fun a ha=>ha)
  rw [fO]
  unfold wC
  refine ⟨hs,hk.c0,by dsimp only;rw [hlen.1];exact hk.c1,hk.od,hk.s0,hk.s1,hk.a8,hk.d1,hk.l1,fun a ha=>?_,hk.pw,fun f hf=>?_,hk.cs⟩
  ·have h3:=pG.1 (hk.aa a ha)
   dsimp only
   rw [pG,hlen.1]
   exact { h3 with tm1:=by have:=h3.tm1;omega }
  ·have:=Vo.1 (hk.fs f hf)
   dsimp only
   rw [Vo]
   exact ⟨this.1,⟨this.2.1.1,ab⟩,this.2.2⟩
def aAV(h:dw e)(q:aC7)(l:Int):dw (hJ e q l).1:=by
 cases ha:nO e q l with
 | false=>rw [KX ha];exact h
 | true=>
  rw [TY ha]
  obtain ⟨h1,h2,h3,h4,h5⟩:=Bq ha
  have hk:=fO.1 h1
  have hp:=az8 (q:=q) (l:=l) h1
  have hl:=hp.length_eq
  rw [List.length_cons] at hl
  have l8:=(nV.1 hk.so).l8
  have s0:=hk.s0
  have mem:∀a∈nN e q l,a=eM e q l∨a∈e.aC6:=fun a ha=>List.mem_cons.1 (hp.mem_iff.1 ha)
  refine ⟨?_,fun a ha=>?_⟩
  ·rw [fO]
   refine ⟨hk.so,hk.c0,hk.c1,hk.od,hk.s0,hk.s1,uO,hk.d1,hk.l1,fun a ha=>?_,by exact az9 (e:=e) h1 h4,hk.fs,hk.cs⟩
   rcases mem a ha with rfl|ha
   ·exact az7 (e:=e) h1 h2 h3
   ·exact hk.aa a ha
  ·rcases mem a ha with rfl|ha
   ·unfold eM;dsimp only;rw [Fc];simp only [List.length_nil];omega
   ·exact h.ag a ha
def aAW:∀{l:List Int} {x:Int},x∉l→iW l x=l:=fun {l x} h=>by
 unfold iW
 refine List.filter_eq_self.2 fun y hy=>?_
 have:y≠x:=fun e=>h (e▸hy)
 simp [this]
def aoH{x:Int}:∀{l:List Int},(l.Pairwise fun a b=>a < b)→x∈l→l.Perm (x::iW l x)
 | y::l,hp,hx=>by
  rw [List.pairwise_cons] at hp
  by_cases h:y=x
  ·subst h
   have hn:y∉l:=fun hy=>by have:=hp.1 y hy;omega
   have e:iW (y::l) y=l:=by
    have:=aAW hn
    unfold iW at this ⊢
    rw [List.filter_cons];simp;simpa using this
   rw [e]
  ·have hx2:x∈l:=(List.mem_cons.1 hx).resolve_left (fun e=>h e.symm)
   have ih:=aoH hp.2 hx2
   have e:iW (y::l) x=y::iW l x:=by unfold iW;rw [List.filter_cons,if_pos pL]
   rw [e]
   exact (ih.cons y).trans (List.Perm.swap x y _)
def aAX{x:Int}{l:List Int}(hp:l.Pairwise fun a b=>a < b)(hx:x∈l):(iW l x).length+1=l.length:=by
 have:=(aoH hp hx).length_eq
 rw [List.length_cons] at this;omega
def VD(h:dw e){a:aC6}(ha:a∈e.aC6):(gR e a).Sent+4 * ((gR e a).aDf.length:Int)≤32∧(gR e a).Rows.length+4 * (gR e a).aDf.length≤32∧0≤(gR e a).Sent:=by
 have hk:=fO.1 h.ok
 have h3:=pG.1 (hk.aa a ha)
 have h4:=h3.sn0
 obtain ⟨h5,h6,h7⟩:=h.ag a ha
 have h2:=TX h.ok a
 rw [az1,aor,aos]
 cases hp:jT e a with
 | false=>simp only [Bool.false_eq_true,if_false];split<;>omega
 | true=>
  have hm:e.aDa∈a.aDf:=Vp.1 (by unfold jT at hp;rw [aR] at hp;exact hp.2)
  have hw:=aAX h3.tp hm
  simp only [if_true,bV]
  split<;>omega
def aoI(h:dw e):dw (dO e):=by
 cases hso:le e with
 | false=>rw [amS hso];exact h
 | true=>
 obtain ⟨_,hst,hld,hdn⟩:=EX hso
 rw [amT hso]
 refine dw.reclaim ?_
 have hk:=fO.1 h.ok
 obtain ⟨ea,ed⟩:=azZ h.ok
 have c0:=hk.c0;have c1:=hk.c1
 have hcur:=az5 c0 c1
 have el:(jj e).aDi=jC e (parts e).length:=rfl
 have hll:(jj e).aDi.length≤e.aDi.length+1:=by
  rw [el];unfold jC;split
  ·omega
  ·rw [bV];simp
 have hrows:∀a∈e.aC6,∀r∈(gR e a).Rows,bA r=true:=by
  intro a ha r hr
  have h3:=pG.1 (hk.aa a ha)
  rw [aor] at hr
  split at hr
  ·rcases List.mem_append.1 hr with hr|hr
   ·exact h3.rk r hr
   ·exact az0 h.ok a r hr
  ·exact h3.rk r hr
 have hsplit:((e.aC6.map (gR e)).filter fun a=>!fK a).length+((e.aC6.map (gR e)).filter fK).length=e.aC6.length:=by
  have:=TU (e.aC6.map (gR e));rw [aX] at this;exact this
 have mem:∀b,b∈(jj e).aC6→∃a∈e.aC6,b=gR e a∧fK b=false:=by
  intro b hb2
  rw [ea] at hb2
  obtain ⟨hb2,he⟩:=List.mem_filter.1 hb2
  obtain ⟨a,ha,rfl⟩:=List.mem_map.1 hb2
  exact ⟨a,ha,rfl,by simpa using he⟩
 refine ⟨?_,?_⟩
 ·rw [fO]
  refine ⟨hk.so,?_,?_,hk.od,by show 0≤e.Steps+1;have:=hk.s0;omega,by show e.Steps+1≤100000;omega,?_,?_,ab,?_,?_,?_,?_⟩
  ·show 0≤(e.aDa+1).tmod _;rw [hcur];split<;>omega
  ·show (e.aDa+1).tmod (e.Store.aC5.length:Int) < (e.Store.aC5.length:Int);rw [hcur];split<;>omega
  ·rw [ea];have:=hk.a8;omega
  ·rw [ed,bV,aX];omega
  ·intro b hb2
   obtain ⟨a,ha,rfl,he⟩:=mem b hb2
   have h3:=pG.1 (hk.aa a ha)
   have hq:=FF (e:=e) (a:=a)
   obtain ⟨h5,h6,h7⟩:=VD h ha;have h8:=(h.ag a ha).1
   rw [pG]
   have ht:(gR e a).aDf.Sublist a.aDf:=by
    rw [aos];split
    ·exact List.filter_sublist
    ·exact List.Sublist.refl _
   refine ⟨?_,h3.tp.sublist ht,fun x hx=>h3.tr x (ht.subset hx),by rw [hq.1];exact h3.q,by rw [hq.2.1];exact h3.tm0,by rw [hq.2.1];exact h3.tm1,by rw [hq.2.2.2];have:=h3.ag0;omega,by rw [hq.2.2.2];omega,h7,ab,by rw [hq.2.2.1];exact h3.cp0,by rw [hq.2.2.1];exact h3.cp1,hrows a ha,ab⟩
   unfold fK at he
   simp only [decide_eq_false_iff_not] at he
   omega
  ·rw [ea]
   refine List.Pairwise.filter _ ?_
   rw [List.pairwise_map]
   refine hk.pw.imp fun {a b} k=>?_
   rw [FF.1,FF.1];exact k
  ·rw [ed]
   intro f hf
   rcases List.mem_append.1 hf with hf|hf
   ·exact hk.fs f hf
   ·obtain ⟨b,hb2,rfl⟩:=List.mem_map.1 hf
    obtain ⟨hb2,_⟩:=List.mem_filter.1 hb2
    obtain ⟨a,ha,rfl⟩:=List.mem_map.1 hb2
    have h3:=pG.1 (hk.aa a ha)
    have hq:=FF (e:=e) (a:=a)
    obtain ⟨h5,h6,h7⟩:=VD h ha;have h8:=(h.ag a ha).1
    rw [Vo]
    unfold wx
    dsimp only
    rw [hq.1,hq.2.1,hq.2.2.2]
    have:=h3.ag0
    exact ⟨h3.q,⟨h3.tm0,h3.tm1⟩,⟨ab,ab⟩,hrows a ha,ab⟩
  ·rw [el]
   intro c hc
   unfold jC at hc
   split at hc
   ·exact hk.cs c hc
   ·rcases List.mem_append.1 hc with hc|hc
    ·exact hk.cs c hc
    ·rw [List.mem_singleton.1 hc]
     exact az3 h.ok ab
 ·intro b hb2
  obtain ⟨a,ha,rfl,he⟩:=mem b hb2
  have hq:=FF (e:=e) (a:=a)
  obtain ⟨h5,h6,h7⟩:=VD h ha;have h8:=(h.ag a ha).1
  rw [hq.2.2.2]
  refine ⟨?_,h5,h6⟩
  show a.Age+1≤e.Steps+1
  omega
def aoJ{e:av}(h:dw e):∀k,dw (lh e k)
 | 0=>h
 | k+1=>aoI (aoJ h k)
def aoK{e:av}(h:dw e):∀k,dw (eA e k)
 | 0=>h
 | k+1=>by
  have h1:=aoK h k
  unfold eA
  split
  ·exact h1
  ·exact aoI h1
def LK(h:dw e):dw (fP e):=by unfold fP;exact aoK h 200
def FI(h:dw e)(o:List Int):dw (fM e o).1:=by
 unfold fM
 split
 ·rename_i ho
  rw [aR] at ho
  have hk:=fO.1 h.ok
  refine h.sub ?_ rfl (fun a ha=>ha)
  rw [fO]
  exact ⟨hk.so,hk.c0,hk.c1,ho.2,hk.s0,hk.s1,hk.a8,hk.d1,hk.l1,hk.aa,hk.pw,hk.fs,hk.cs⟩
 ·exact h
def VE{s:Store}(h:cy s=true):dw (nY s):=by
 have l1:=(nV.1 h).l1
 refine ⟨?_,fun a ha=>absurd ha List.not_mem_nil⟩
 rw [fO]
 exact ⟨h,Int.le_refl 0,by show (0:Int) < ((s.aC5.length:Nat):Int);omega,by show cb [0,1,2]=true;decide,Int.le_refl 0,ME,wN,wN,wN,wN,wN,wN,wN⟩
def aAY(h:dw e)(x:fx):dw (dv e x).1:=by
 unfold dv
 split
 ·split
  ·exact aAV h _ _
  ·split
   ·exact aAT h _
   ·split
    ·exact aAU h _
    ·exact aoJ h _
 ·exact h
def aAZ{x:fx}(h:(dv e x).2=false):(dv e x).1=e:=by
 unfold dv at h ⊢
 split at h
 ·rename_i h0
  rw [if_pos h0]
  split at h
  ·rename_i h1
   rw [if_pos h1]
   unfold hJ at h ⊢
   split at h
   ·cases h
   ·rename_i h2;rw [if_neg h2]
  ·rename_i h1
   rw [if_neg h1]
   split at h
   ·rename_i h2
    rw [if_pos h2]
    unfold dE at h ⊢
    split at h
    ·cases h
    ·rename_i h3;rw [if_neg h3]
   ·rename_i h2
    rw [if_neg h2]
    split at h
    ·rename_i h3
     rw [if_pos h3]
     unfold dG at h ⊢
     split at h
     ·cases h
     ·rename_i h4;rw [if_neg h4]
    ·cases h
 ·rename_i h0;rw [if_neg h0]
noncomputable def jo(ws:List an):List Int:=(ws.drop 1).map bT
noncomputable def oR(ws:List an):List Int:=((ws.drop 1).filter cQ).map bJ
def yI(o:List Int):an:=itoa (o.getD 0 0)++[32]++itoa (o.getD 1 0)++[32]++itoa (o.getD 2 0)
noncomputable def uG(e:av):an:=if eg e=[] then ([110,111,110,101]:an) else cI (eg e) [59,32]
noncomputable def pJ(e:av)(w:an):an:=if w=([101,110,103,105,110,101]:an) then sf e else if w=([99,104,97,114,103,101,115]:an) then yF e.aDi else if w=([97,99,116,105,118,101]:an) then uG e else ([119,104,97,116]:an)
noncomputable def lm(e:av)(w s:an):an:=if cQ s=true∧0≤bJ s then (if w=([114,101,115,117,108,116]:an) then (if (fD e (bJ s)).2 then qH (fD e (bJ s)).1 else ([110,111,32,114,101,115,117,108,116]:an)) else if w=([115,101,103,109,101,110,116]:an)∧bJ s < (e.Store.aC5.length:Int) then qP e.Store (bJ s) else ([119,104,97,116]:an)) else ([119,104,97,116]:an)
noncomputable def fZ(e:av)(w:an):av×an:=if w=([97,100,97,112,116]:an) then (fC e,yI (fC e).Order) else if w=([102,105,110,105,115,104]:an) then (fP e,itoa ((fP e).Steps - e.Steps)) else (e,pJ e w)
noncomputable def oS(e:av)(ws:List an):av×an:=if ws.length=1 then fZ e (ws.getD 0 []) else if ws.length=2 then (e,lm e (ws.getD 0 []) (ws.getD 1 [])) else if ws.length=4∧ws.getD 0 []=([111,114,100,101,114]:an)∧cb (jo ws)=true then ((fM e (jo ws)).1,([111,107]:an)) else (e,([119,104,97,116]:an))
noncomputable def wI(e:av)(n:Int):av×an:=if (ik [] n).2 then (nY (ik [] n).1,([111,107]:an)) else (e,([110,111]:an))
def qS(l:an):Bool:=(aq 32 l).getD 0 []==([116,97,98,108,101]:an)&&(aq 32 l).length==2
noncomputable def cV(e:av)(l:an):av×an:=
 if qS l then wI e (bJ ((aq 32 l).getD 1 [])) else if e.Store.aC5.length=0 then (e,([110,111,32,116,97,98,108,101]:an)) else if (bE l).isSome then ((dv e ((bE l).getD cH)).1,if (dv e ((bE l).getD cH)).2 then ([111,107]:an) else ([110,111]:an)) else oS e (aq 32 l)
def LL:av:=⟨⟨[],0⟩,0,[],[],[],[],0⟩
noncomputable def FJ(s:av×an)(l:an):av×an:=if l=[] then s else ((cV s.1 l).1,s.2++((cV s.1 l).2++[10]))
noncomputable def eE(ls:List an)(k:Nat):av×an:=(ls.take k).foldl FJ (LL,[])
def VF{ls:List an}(hk:k < ls.length):eE ls (k+1)=FJ (eE ls k) ls[k]:=by
 unfold eE;rw [cU hk,List.foldl_append];rfl
def mY(s:an):List an:=if (aq 10 s).getLastD []=[] then (aq 10 s).dropLast else aq 10 s
noncomputable def FK(s:an):an:=if 3000 < s.length∨60 < (mY s).length then [] else (eE (mY s) (mY s).length).2
def CI(e:av):Prop:=e=LL∨dw e
def CI.of(h:CI e)(hs:0 < e.Store.aC5.length):dw e:=by
 rcases h with rfl|h
 ·exact absurd hs (Nat.lt_irrefl 0)
 ·exact h
def LM(h:(ik [] n).2=true):cy (ik [] n).1=true:=by
 cases hn:nX [] n with
 | false=>rw [Vi hn] at h;cases h
 | true=>exact azT hn
def LN(s:an):ik [] (bT s)=ik [] (bJ s):=by
 unfold bT bJ
 cases ii s with
 | some n=>rfl
 | none=>rfl
def VG(hi:dw e)(l:an):dw (cV e l).1:=by
 unfold cV
 split
 ·unfold wI
  split
  ·rename_i hn;exact VE (LM hn)
  ·exact hi
 ·split
  ·exact hi
  ·split
   ·exact aAY hi _
   ·unfold oS
    split
    ·unfold fZ
     split
     ·exact FI hi _
     ·split
      ·dsimp only;exact LK hi
      ·exact hi
    ·split
     ·exact hi
     ·split
      ·exact FI hi _
      ·exact hi
def aA0(h:CI e)(l:an):CI (cV e l).1:=by
 rcases h with rfl|h
 ·unfold cV
  split
  ·unfold wI
   split
   ·rename_i hn;exact .inr (VE (LM hn))
   ·exact .inl rfl
  ·rw [if_pos (show LL.Store.aC5.length=0 from rfl)];exact .inl rfl
 ·exact .inr (VG h l)
def aoL(h:ws.length=4):(jo ws).length=3:=by unfold jo;rw [aX,lp];omega
def aA1(e:av)(l:an):aZ (cV e l).1≤aZ e+41000:=by
 unfold cV
 split
 ·unfold wI
  split
  ·rename_i hn
   have h1:=Vn (LM hn)
   have h2:aZ (nY (ik [] (bJ ((aq 32 l).getD 1 []))).1)≤da (ik [] (bJ ((aq 32 l).getD 1 []))).1+20:=by
    unfold nY;simp only [aZ,fU,bh,fk,gN,go,List.map_nil,List.sum_nil,List.length_nil,List.length_cons];omega
   dsimp only;omega
  ·dsimp only;omega
 ·split
  ·dsimp only;omega
  ·split
   ·have:=axA e ((bE l).getD cH);dsimp only;omega
   ·unfold oS
    split
    ·unfold fZ
     split
     ·have:=azy e;dsimp only;omega
     ·split
      ·have:=aAd e;dsimp only;omega
      ·dsimp only;omega
    ·split
     ·dsimp only;omega
     ·split
      ·rename_i h4
       have h1:=aok e (jo (aq 32 l))
       have h2:=aoL h4.1
       dsimp only;omega
      ·dsimp only;omega
def aA2(e:av):(sf e).length≤1000:=by
 unfold sf
 split
 ·rename_i hok
  have hef:=gu hok
  obtain ⟨a1,a2,a3,a4,a5,a6⟩:=iE hef.1
  have hal:lQ e.Store≤da e.Store:=qr e.Store
  have hsw:=Vn hef.1
  exact SX (bv br) (bv br) (bv br) (bv br) (bv br) (bv br)
 ·simp
def VH(h:dw e){a:aC6}(ha:a∈e.aC6):(lP a).length≤150:=by
 have hef:=gu h.ok
 have hsf:=iE hef.1
 have hac:=SV (hef.2.2.2.2.2.2.2.2.2.1 a ha)
 have h3:=(h.ag a ha).2.2
 exact asT (bv br) (bv br) (bv br) (bv br)
def aoM(h:dw e):(uG e).length≤2000:=by
 unfold uG
 split
 ·decide
 ·have h8:=(fO.1 h.ok).a8
  rw [EL h.ok]
  have hj:=wn (m:=150) (sep:=[59,32]) (xs:=e.aC6.map lP) (by intro x hx;obtain ⟨a,ha,rfl⟩:=List.mem_map.1 hx;exact VH h ha)
  rw [aX] at hj
  simp only [List.length_cons,List.length_nil] at hj
  omega
def aoN{m:Nat}(h4:4≤m)(h:(cI ws [32]).length≤m):(yz ws).length≤m:=by
 unfold yz
 split
 ·exact h4
 ·exact h
def aA3(f:gZ):(qH f).length≤101000:=by
 unfold qH
 split
 ·rename_i h
  rw [aR] at h
  have:=Le (q:=f.aC7) h.2 f.Rows.length
  rw [bG] at this
  exact aoN ak this
 ·simp
def aA4(s:Store)(i:Int):(qP s i).length≤1000:=by
 unfold qP
 split
 ·rename_i h
  rw [aR] at h
  have hin:=h.2
  simp only [aF,aR,decide_eq_true_eq] at hin
  have hil:i.toNat < s.aC5.length:=ab
  have:=Ly h.1 hil s.aC5[i.toNat].length
  rw [bG] at this
  have hg:s.aC5.getD i.toNat []=s.aC5[i.toNat]:=by rw [List.getD_eq_getElem?_getD,List.getElem?_eq_getElem hil];rfl
  rw [hg]
  exact aoN ak this
 ·simp
def BD(h:dw e):0≤e.Steps∧e.Steps≤100000:=⟨(fO.1 h.ok).s0,(fO.1 h.ok).s1⟩
def VI(h:cb o=true):o∈di:=by
 unfold cb at h
 simp only [aR,decide_eq_true_eq,Vp] at h
 obtain ⟨hl,h0,h1,h2⟩:=h
 match o,hl with
 | [a,b,c],_=>
  simp only [jq,List.not_mem_nil,or_false] at h0 h1 h2
  rcases h0 with h0|h0|h0<;>rcases h1 with h1|h1|h1<;>rcases h2 with h2|h2|h2<;>first|(exfalso;omega)|(subst h0;subst h1;subst h2;simp [di])
def VJ(h:cb o=true):(0≤o.getD 0 0∧o.getD 0 0≤2)∧(0≤o.getD 1 0∧o.getD 1 0≤2)∧0≤o.getD 2 0∧o.getD 2 0≤2:=by
 have hm:=VI h
 simp only [di,jq,List.not_mem_nil,or_false] at hm
 rcases hm with rfl|rfl|rfl|rfl|rfl|rfl<;>decide
def aA5(h:cb o=true):(yI o).length≤70:=by
 have h1:=VJ h
 have a1:=bv (n:=o.getD 0 0) br
 have a2:=bv (n:=o.getD 1 0) br
 have a3:=bv (n:=o.getD 2 0) br
 unfold yI
 simp only [bV,List.length_cons,List.length_nil]
 omega
def VK(h:CI e)(l:an):(cV e l).2.length≤102000:=by
 unfold cV
 split
 ·unfold wI;split<;>simp
 ·split
  ·simp
  ·rename_i hz
   have hi:=h.of ab
   split
   ·dsimp only;split<;>simp
   ·unfold oS
    split
    ·unfold fZ
     split
     ·have:=aA5 (fO.1 (FI hi (oK e)).ok).od
      exact Nat.le_trans this ab
     ·split
      ·have h1:=BD hi
       have h2:=BD (LK hi)
       dsimp only
       exact Nat.le_trans (bv (n:=(fP e).Steps - e.Steps) br) ab
      ·dsimp only
       unfold pJ
       split
       ·have:=aA2 e;omega
       ·split
        ·have:=UZ (l:=e.aDi) (by have:=(fO.1 hi.ok).l1;omega) (k:=4) ab
         unfold yF;omega
        ·split
         ·have:=aoM hi;omega
         ·simp
    ·split
     ·dsimp only
      unfold lm
      split
      ·split
       ·split
        ·have:=aA3 (fD e (bJ ((aq 32 l).getD 1 []))).1;omega
        ·simp
       ·split
        ·have:=aA4 e.Store (bJ ((aq 32 l).getD 1 []));omega
        ·simp
      ·simp
     ·split<;>simp
def aoO(ls:List an):∀k,k≤ls.length→CI (eE ls k).1∧aZ (eE ls k).1≤100+41000 * k∧(eE ls k).2.length≤102001 * k
 | 0,_=>⟨.inl rfl,by show aZ LL≤_;decide,Nat.le_refl _⟩
 | k+1,hk=>by
  obtain ⟨h1,h2,h3⟩:=aoO ls k ab
  rw [VF ab]
  unfold FJ
  split
  ·exact ⟨h1,by rw [Nat.mul_succ];omega,by rw [Nat.mul_succ];omega⟩
  ·have h4:=aA1 (eE ls k).1 (ls[k]'(ab))
   have h5:=VK h1 (ls[k]'(ab))
   refine ⟨aA0 h1 _,?_,?_⟩
   ·rw [Nat.mul_succ];exact Nat.le_trans h4 ab
   ·simp only [bV,List.length_cons,List.length_nil]
    rw [Nat.mul_succ]
    omega
def aoP{ls:List an}(h6:ls.length≤60)(k:Nat)(hk:k≤ls.length):CI (eE ls k).1∧aZ (eE ls k).1≤3000000∧(eE ls k).2.length≤7000000:=by
 obtain ⟨h1,h2,h3⟩:=aoO ls k hk
 exact ⟨h1,ab,ab⟩
def aA6{c:UInt8}(h:(aq c s).length=1):aq c s=[s]:=by
 rw [anH] at h
 exact qK (fun hx=>by have:=List.count_pos_iff.2 hx;omega)
def wJ(hw:(32:UInt8)∉w):l=w↔(aq 32 l).length=1∧(aq 32 l).getD 0 []=w:=by
 constructor
 ·rintro rfl;rw [qK hw];exact ⟨rfl,rfl⟩
 ·rintro ⟨h1,h2⟩;rw [aA6 h1] at h2;exact h2
def sB(h:cQ w=true):bJ w=bT w:=by
 unfold cQ at h;unfold bJ bT
 cases hn:ii w with
 | some n=>rfl
 | none=>rw [hn] at h;cases h
def LO(h:0≤bT w):cQ w=true:=by
 unfold bT at h;unfold cQ
 cases hn:ii w with
 | some n=>rfl
 | none=>rw [hn] at h;exact absurd h ak
def aoQ(h:ws.length=4):cb (oR ws)=cb (jo ws)∧(cb (jo ws)=true→oR ws=jo ws):=by
 obtain ⟨a,b,c,d,rfl⟩:∃a b c d,ws=[a,b,c,d]:=by
  rcases ws with _|⟨a,_|⟨b,_|⟨c,_|⟨d,_|⟨x,r⟩⟩⟩⟩⟩<;>simp at h
  exact ⟨a,b,c,d,rfl⟩
 by_cases hall:cQ b=true∧cQ c=true∧cQ d=true
 ·obtain ⟨h1,h2,h3⟩:=hall
  have e:oR [a,b,c,d]=jo [a,b,c,d]:=by
   unfold oR jo
   simp [List.filter,h1,h2,h3,sB h1,sB h2,sB h3]
  exact ⟨by rw [e],fun _=>e⟩
 ·have e1:cb (jo [a,b,c,d])=false:=by
   rw [←Bool.not_eq_true]
   intro ho
   obtain ⟨h1,h2,h3⟩:=VJ ho
   exact hall ⟨LO h1.1,LO h2.1,LO h3.1⟩
  have e2:cb (oR [a,b,c,d])=false:=by
   rw [←Bool.not_eq_true]
   intro ho
   have hl:(oR [a,b,c,d]).length=3:=by unfold cb at ho;simp only [aR,decide_eq_true_eq] at ho;exact ho.1
   unfold oR at hl
   rw [aX] at hl
   cases hb:cQ b<;>cases hc:cQ c<;>cases hd:cQ d<;>simp [List.filter,hb,hc,hd] at hl
   exact hall ⟨hb,hc,hd⟩
  rw [e1,e2]
  exact ⟨rfl,fun h=>nomatch h⟩
def aA7{p:α→Bool}{l:List α}(hk:k < l.length)(h:p l[k]=true):(l.take (k+1)).filter p=(l.take k).filter p++[l[k]]:=WX
def aA8{p:α→Bool}{l:List α}(hk:k < l.length)(h:p l[k]=false):(l.take (k+1)).filter p=(l.take k).filter p:=WX
def aA9(a:aC6):lP a≠[]:=by unfold lP Bg;split<;>simp
def aBa(e:av):(if cI (eg e) [59,32]=[] then ([110,111,110,101]:an) else cI (eg e) [59,32])=uG e:=by
 unfold uG
 by_cases h:eg e=[]
 ·rw [if_pos h,h];rfl
 ·rw [if_neg h,if_neg (ann h fun x hx=>by
   unfold eg at hx
   split at hx
   ·obtain ⟨a,_,rfl⟩:=List.mem_map.1 hx;exact aA9 a
   ·cases hx)]
def aoR(h:(aq 32 l).getD 0 []=([116,97,98,108,101]:an)∧(aq 32 l).length=2):qS l=true:=by unfold qS;rw [h.1,h.2];rfl
def LP(h:¬((aq 32 l).getD 0 []=([116,97,98,108,101]:an)∧(aq 32 l).length=2)):qS l=false:=by
 rw [←Bool.not_eq_true];intro hh;unfold qS at hh;rw [aR] at hh;exact h ⟨by simpa using hh.1,by simpa using hh.2⟩
def aoS(h:qS l=true):cV e l=wI e (bJ ((aq 32 l).getD 1 [])):=if_pos h
def aoT(h:qS l=false)(hz:e.Store.aC5.length=0):cV e l=(e,([110,111,32,116,97,98,108,101]:an)):=by unfold cV;rw [if_neg fR,if_pos hz]
def VL(h:qS l=false)(hz:0 < e.Store.aC5.length)(hp:(bE l).isSome=true):cV e l=((dv e ((bE l).getD cH)).1,if (dv e ((bE l).getD cH)).2 then ([111,107]:an) else ([110,111]:an)):=by unfold cV;rw [if_neg fR,if_neg ab,if_pos hp]
def aoU(h:qS l=false)(hz:0 < e.Store.aC5.length)(hp:(bE l).isSome=true)(hd:(dv e ((bE l).getD cH)).2=false):cV e l=(e,([110,111]:an)):=by rw [VL h hz hp,hd,aAZ hd];rfl
def VM(h:qS l=false)(hz:0 < e.Store.aC5.length)(hp:(bE l).isSome=true)(hd:(dv e ((bE l).getD cH)).2=true):cV e l=((dv e ((bE l).getD cH)).1,([111,107]:an)):=by rw [VL h hz hp,hd];rfl
def LQ(h:qS l=false)(hz:0 < e.Store.aC5.length)(hp:(bE l).isSome=false):cV e l=oS e (aq 32 l):=by unfold cV;rw [if_neg fR,if_neg ab,if_neg (by rw [hp];simp)]
def aoV(h:(ik [] n).2=true):wI e n=(nY (ik [] n).1,([111,107]:an)):=if_pos h
def aoW(h:(ik [] n).2=false):wI e n=(e,([110,111]:an)):=if_neg fR
def LR(h:ws.length=1):oS e ws=fZ e (ws.getD 0 []):=if_pos h
def aoX(h:ws.length=2):oS e ws=(e,lm e (ws.getD 0 []) (ws.getD 1 [])):=by unfold oS;rw [if_neg ab,if_pos h]
def aoY(h:ws.length=4)(hw:ws.getD 0 []=([111,114,100,101,114]:an))(ho:cb (jo ws)=true):oS e ws=((fM e (jo ws)).1,([111,107]:an)):=by unfold oS;rw [if_neg ab,if_neg ab,if_pos ⟨h,hw,ho⟩]
def VN(h1:ws.length≠1)(h2:ws.length≠2)(h4:¬(ws.length=4∧ws.getD 0 []=([111,114,100,101,114]:an)∧cb (jo ws)=true)):oS e ws=(e,([119,104,97,116]:an)):=by unfold oS;rw [if_neg h1,if_neg h2,if_neg h4]
def aoZ(e:av):fZ e ([97,100,97,112,116]:an)=(fC e,yI (fC e).Order):=if_pos rfl
def ao0(e:av):fZ e ([102,105,110,105,115,104]:an)=(fP e,itoa ((fP e).Steps - e.Steps)):=by unfold fZ;rw [if_neg ak,if_pos rfl]
def ao1(h1:¬w=([97,100,97,112,116]:an))(h2:¬w=([102,105,110,105,115,104]:an)):fZ e w=(e,pJ e w):=by unfold fZ;rw [if_neg h1,if_neg h2]
def ao2(e:av):pJ e ([101,110,103,105,110,101]:an)=sf e:=if_pos rfl
def ao3(e:av):pJ e ([99,104,97,114,103,101,115]:an)=yF e.aDi:=by unfold pJ;rw [if_neg ak,if_pos rfl]
def ao4(e:av):pJ e ([97,99,116,105,118,101]:an)=uG e:=by unfold pJ;rw [if_neg ak,if_neg ak,if_pos rfl]
def ao5(h1:¬w=([101,110,103,105,110,101]:an))(h2:¬w=([99,104,97,114,103,101,115]:an))(h3:¬w=([97,99,116,105,118,101]:an)):pJ e w=([119,104,97,116]:an):=by unfold pJ;rw [if_neg h1,if_neg h2,if_neg h3]
def ao6(h:¬(cQ s=true∧0≤bJ s)):lm e w s=([119,104,97,116]:an):=if_neg h
def aBb(h:cQ s=true∧0≤bJ s)(hr:(fD e (bJ s)).2=true):lm e ([114,101,115,117,108,116]:an) s=qH (fD e (bJ s)).1:=by unfold lm;rw [if_pos h,if_pos rfl,if_pos hr]
def aBc(h:cQ s=true∧0≤bJ s)(hr:(fD e (bJ s)).2=false):lm e ([114,101,115,117,108,116]:an) s=([110,111,32,114,101,115,117,108,116]:an):=by unfold lm;rw [if_pos h,if_pos rfl,if_neg (by rw [hr];simp)]
def ao7(h:cQ s=true∧0≤bJ s)(hs:bJ s < (e.Store.aC5.length:Int)):lm e ([115,101,103,109,101,110,116]:an) s=qP e.Store (bJ s):=by unfold lm;rw [if_pos h,if_neg ak,if_pos ⟨rfl,hs⟩]
def VO(h:cQ s=true∧0≤bJ s)(h1:¬w=([114,101,115,117,108,116]:an))(h2:¬(w=([115,101,103,109,101,110,116]:an)∧bJ s < (e.Store.aC5.length:Int))):lm e w s=([119,104,97,116]:an):=by unfold lm;rw [if_pos h,if_neg h1,if_neg h2]
def BE(s:an):0≤bT s↔(cQ s=true∧0≤bJ s):=by
 constructor
 ·intro h;have:=LO h;exact ⟨this,by rw [sB this];exact h⟩
 ·rintro ⟨h1,h2⟩;rw [←sB h1];exact h2
def ao8{s:av×an}:FJ s []=s:=if_pos rfl
def ao9{s:av×an}(h:¬l=[]):FJ s l=((cV s.1 l).1,s.2++((cV s.1 l).2++[10])):=if_neg h
def VP(h:3000 < s.length∨60 < (mY s).length):FK s=[]:=if_pos h
def apa(h1:s.length≤3000)(h2:(mY s).length≤60):FK s=(eE (mY s) (mY s).length).2:=if_neg ab
def apb(h:(aq 10 s).getLastD []=[]):mY s=(aq 10 s).dropLast:=if_pos h
def apc(h:¬(aq 10 s).getLastD []=[]):mY s=aq 10 s:=if_neg h
def apd(h:l∈mY s):l.length≤s.length:=by
 unfold mY at h
 split at h
 ·exact qO (List.dropLast_subset _ h)
 ·exact qO h
def aBd(a b:UInt8)(h:s.length≤1048576):s.length+Lib.count s [a] * [b].length≤140737488355328:=by
 rw [Lib.count_one]
 have:=List.count_le_length (a:=a) (l:=s)
 simp only [List.length_cons,List.length_nil]
 omega
def VQ(h:0≤n∧n < 10):itoa n=[UInt8.ofNat (48+n.toNat)]:=by rw [rZ ab,wl ab];congr 2;omega
def aBe:itoa 0=[48]∧itoa 1=[49]∧itoa 2=[50]:=⟨VQ ab,VQ ab,VQ ab⟩
def aBf(h:cb o=true):Lib.replaceAll (fc o) [44] [32]=yI o:=by
 have hm:=VI h
 obtain ⟨e0,e1,e2⟩:=aBe
 simp only [di,jq,List.not_mem_nil,or_false] at hm
 rcases hm with rfl|rfl|rfl|rfl|rfl|rfl<;>(unfold fc yI;simp only [List.map_cons,List.map_nil,List.getD_cons_zero,List.getD_cons_succ,e0,e1,e2];decide)
def ape(h:cb o=true):∀x∈o,dN x:=by
 have hm:=VI h
 simp only [di,jq,List.not_mem_nil,or_false] at hm
 intro x hx
 rcases hm with rfl|rfl|rfl|rfl|rfl|rfl<;>(simp only [jq,List.not_mem_nil,or_false] at hx;unfold dN;omega)
def VR(h:cb o=true):o.length=3:=by unfold cb at h;simp only [aR,decide_eq_true_eq] at h;exact h.1
def aBg(h:cb o=true):(fc o).length≤70:=by
 have h1:=px (ape h)
 have h2:=VR h
 omega
def aBh(h:eg e=[]):uG e=([110,111,110,101]:an):=if_pos h
def apf(h:¬eg e=[]):uG e=cI (eg e) [59,32]:=if_neg h
def aBi(h:(fM e o).2=true):cb o=true:=by
 cases ho:cb o with
 | true=>rfl
 | false=>rw [aoj (by rw [ho];simp)] at h;cases h
def aBj(h:aU e=true)(ho:cb o=true):(fM e o).2=true:=by rw [Va (by rw [h,ho];rfl)]
def LS{l:List α}{d:α}(h:l.length - 1 < l.length):l.getLastD d=l[l.length - 1]:=by
 rw [List.getLastD_eq_getLast?,List.getLast?_eq_getElem?,List.getElem?_eq_getElem h];rfl
def aBk(h:1≤n∧n≤8):nX [] n=true:=by
 unfold nX
 have h1:ma []=true:=ak
 rw [h1]
 simp [aF];omega
def aBl{m:Nat}:nW [] m m=List.replicate m []:=by
 by_cases h0:m=0
 ·subst h0;rfl
 ·have hp:∀i,pF [] m i=[]:=by
   intro i
   unfold pF qQ qR
   have:(0 - i+(m - 1)) / m=0:=Nat.div_eq_of_lt ab
   simp [this]
   omega
  unfold nW
  apply List.ext_getElem
  ·simp
  ·intro i h1 h2;simp [hp]
noncomputable def nZ(ws:List an):Bool:=decide (ws.length=4∧ws.getD 0 []=([111,114,100,101,114]:an)∧cb (jo ws)=true)
def LU(h:nZ ws=true):ws.length=4∧ws.getD 0 []=([111,114,100,101,114]:an)∧cb (jo ws)=true:=by unfold nZ at h;exact of_decide_eq_true h
def aBm(h:nZ ws=false):¬(ws.length=4∧ws.getD 0 []=([111,114,100,101,114]:an)∧cb (jo ws)=true):=by unfold nZ at h;exact of_decide_eq_false h
noncomputable def mb(e:av)(ws:List an):an:=if ws.length=1 then pJ e (ws.getD 0 []) else if ws.length=2 then lm e (ws.getD 0 []) (ws.getD 1 []) else ([119,104,97,116]:an)
def FL(h:ws.length=1):mb e ws=pJ e (ws.getD 0 []):=if_pos h
def LV(h:ws.length=2):mb e ws=lm e (ws.getD 0 []) (ws.getD 1 []):=by unfold mb;rw [if_neg ab,if_pos h]
def aBn(ha:¬(ws.length=1∧ws.getD 0 []=([97,100,97,112,116]:an)))(hf:¬(ws.length=1∧ws.getD 0 []=([102,105,110,105,115,104]:an)))(ho:nZ ws=false):oS e ws=(e,mb e ws):=by
 by_cases h1:ws.length=1
 ·rw [LR h1,ao1 (fun h=>ha ⟨h1,h⟩) (fun h=>hf ⟨h1,h⟩),FL h1]
 ·by_cases h2:ws.length=2
  ·rw [aoX h2,LV h2]
  ·rw [VN h1 h2 (aBm ho)];unfold mb;rw [if_neg h1,if_neg h2]
def aBo(h:ws.length=1∧ws.getD 0 []=([101,110,103,105,110,101]:an)):mb e ws=sf e:=by rw [FL h.1,h.2,ao2]
def aBp(h:ws.length=1∧ws.getD 0 []=([99,104,97,114,103,101,115]:an)):mb e ws=yF e.aDi:=by rw [FL h.1,h.2,ao3]
def aBq(h:ws.length=1∧ws.getD 0 []=([97,99,116,105,118,101]:an)):mb e ws=uG e:=by rw [FL h.1,h.2,ao4]
def aBr(h:ws.length=2∧ws.getD 0 []=([114,101,115,117,108,116]:an)∧0≤bT (ws.getD 1 [])):mb e ws=if (fD e (bT (ws.getD 1 []))).2 then qH (fD e (bT (ws.getD 1 []))).1 else ([110,111,32,114,101,115,117,108,116]:an):=by
 have hn:=(BE _).1 h.2.2
 rw [LV h.1,h.2.1,←sB hn.1]
 unfold lm
 rw [if_pos hn,if_pos rfl]
def aBs(h:ws.length=2∧ws.getD 0 []=([115,101,103,109,101,110,116]:an)∧aF (bT (ws.getD 1 [])) 0 (e.Store.aC5.length - 1)=true):mb e ws=qP e.Store (bT (ws.getD 1 [])):=by
 have hb:=h.2.2
 simp only [aF,aR,decide_eq_true_eq] at hb
 have hn:=(BE _).1 hb.1
 rw [sB hn.1] at hn
 rw [LV h.1,h.2.1,ao7 ((BE _).1 hb.1) (by rw [sB ((BE _).1 hb.1).1];omega),sB ((BE _).1 hb.1).1]
def aBt(n1:¬(ws.length=1∧ws.getD 0 []=([101,110,103,105,110,101]:an)))(n2:¬(ws.length=1∧ws.getD 0 []=([99,104,97,114,103,101,115]:an)))(n3:¬(ws.length=1∧ws.getD 0 []=([97,99,116,105,118,101]:an)))(n4:¬(ws.length=2∧ws.getD 0 []=([114,101,115,117,108,116]:an)∧0≤bT (ws.getD 1 [])))(n5:¬(ws.length=2∧ws.getD 0 []=([115,101,103,109,101,110,116]:an)∧aF (bT (ws.getD 1 [])) 0 (e.Store.aC5.length - 1)=true)):mb e ws=([119,104,97,116]:an):=by
 by_cases h1:ws.length=1
 ·rw [FL h1,ao5 (fun h=>n1 ⟨h1,h⟩) (fun h=>n2 ⟨h1,h⟩) (fun h=>n3 ⟨h1,h⟩)]
 ·by_cases h2:ws.length=2
  ·rw [LV h2]
   by_cases hn:cQ (ws.getD 1 [])=true∧0≤bJ (ws.getD 1 [])
   ·refine VO hn (fun h=>n4 ⟨h2,h,(BE _).2 hn⟩) (fun h=>n5 ⟨h2,h.1,?_⟩)
    have h3:=h.2
    have h4:=hn.2
    rw [sB hn.1] at h3 h4
    simp only [aF,aR,decide_eq_true_eq]
    omega
   ·exact ao6 hn
  ·unfold mb;rw [if_neg h1,if_neg h2]
def aBu{a b:Nat}(h:0 < a)(k:0 < b):decide (0 < a)=decide (0 < b):=by rw [decide_eq_true h,decide_eq_true k]
def aBv(h:dw e)(k:Nat):(cI ((eg e).take k) [59,32]).length≤2000:=by
 have h8:=(fO.1 h.ok).a8
 rw [EL h.ok]
 have hj:=wn (m:=150) (sep:=[59,32]) (xs:=(e.aC6.map lP).take k) (by intro x hx;obtain ⟨a,ha,rfl⟩:=List.mem_map.1 (List.mem_of_mem_take hx);exact VH h ha)
 have hm:((e.aC6.map lP).take k).length≤8:=by rw [cj,aX];omega
 simp only [List.length_cons,List.length_nil] at hj
 have:((e.aC6.map lP).take k).length * (150+(0+1+1))≤8 * 152:=Nat.mul_le_mul ab ab
 omega
def aBw(h:dw e)(hk:k < (eg e).length):(eg e)[k].length≤150:=by
 have hs:∀x∈eg e,x.length≤150:=by
  rw [EL h.ok]
  intro x hx
  obtain ⟨a,ha,rfl⟩:=List.mem_map.1 hx
  exact VH h ha
 exact hs _ (List.getElem_mem hk)
def aBx{l:List α}(h:k < l.length)(hk:¬k=0):l.take k≠[]:=by
 intro e
 have:=congrArg List.length e
 rw [cj] at this
 simp only [List.length_nil] at this
 omega
def aBy(h:k < (eg e).length)(hk:¬k=0):cI ((eg e).take (k+1)) [59,32]=cI ((eg e).take k) [59,32]++[59,32]++(eg e)[k]:=by rw [cU h,pv,if_neg (aBx h hk)]
def aBz(h:0 < (eg e).length):cI ((eg e).take (0+1)) [59,32]=(eg e)[0]:=by rw [cU h,List.take_zero,pv,if_pos rfl]
def apg(s:an)(h:(ik [] (bJ s)).2=true):cy (ik [] (bT s)).1=true:=by rw [LN];exact LM h
end Go.Proofs.YtmekkgdboplbjaaGreatDoor
