/- The logic. No condition. -/
import Derived.Test.YtmekkgdboplbjaaGreatDoorPB0
import Derived.KernelRfl
import Derived.Laws.Strings3
import Derived.Laws.BytesString
import Derived.Laws.Concat
import Derived.Lib.LaidTab
import Derived.Lib.Join
import Derived.Lib.ItoaNum
import Derived.Lib.ItoaLen
import Derived.Sort.Grow
import Derived.Deep.Draws
import Derived.ProofKit
import Derived.OpenShut
import Derived.Carry
import Derived.Below
import Derived.ChangeSame
import Derived.ChangeArms
import Derived.WideKeyArgs
import Derived.Deep.Slices
set_option linter.all false
namespace Go.Proofs.YtmekkgdboplbjaaGreatDoor.M
open Go Go.RowKit
variable{Fz:aC}{w:World}{f d t:Nat}{xs:List Operand}{args:Array Operand}{tys:Array TypeId}{ty:TypeId}{pos:String}{af:Array Edge}{g:Option (Nat×Bool)}{p:Nat}{cs:List PV}{qs as_:List (Bool×List PV)}{r:RV}{L:Nat→Prop}{es:List (List PV)}{T e m:Nat}{x y:Operand}{α:Type}{off k:Nat}{ag:Bool}{jk:List Value}{s:Nat}{v:Value}{o:Fl}{i:Int}{w':World}
section
section
variable{P:Program}{n:Nat}{h0:Nat→Prop}{w0:World}{Fz0:aC}{ops:Array Oper}{Q:Exit→St→Prop}
def hJ.bor:∀{l:List (Bool×List PV)} {vs:List Value},(∀q,q∈l→aS q.2)→hJ l Fz w vs→fz l Fz w vs []
 | [],_,_,h=>⟨h,rfl⟩
 | q::l,vs,hb,h=>by obtain ⟨v,vs',rfl,h1,h2⟩:=h;exact ⟨v,vs',[],[],rfl,rfl,⟨h1.1,aS.own (hb q aL) h1.2⟩,hJ.bor (fun x hx=>hb x ib) h2⟩
def adl{a:Act}(hf:aB P f=true)(he:args.toList = .tmp t::xs) :
  (execOp a.eval ⟨some d,.call { callee:=.value (.func f),args:=args,argTypes:=tys },ty,pos,af,g⟩).run P w = .ok (.enter f (a.tmps.getD t undef::xs.map a.eval).toArray) w:=by
 unfold execOp;have e:(#[]++args.map a.eval ++ #[]:Array Value)=(args.toList.map a.eval).toArray:=DW;simp only [resolve,Act.eval,Deferred.ofValue,Sem.run_bind,Sem.run_pure,Result.andThen_ok,invoke];rw [Ei hf,e,he];rfl
def Rn{a:Act}(hf:aB P f=true) :
  (execOp a.eval ⟨some d,.call { callee:=.value (.func f),args:=args,argTypes:=tys },ty,pos,af,g⟩).run P w = .ok (.enter f (args.toList.map a.eval).toArray) w:=by
 unfold execOp;have e:(#[]++args.map a.eval ++ #[]:Array Value)=(args.toList.map a.eval).toArray:=DW;simp only [resolve,Act.eval,Deferred.ofValue,Sem.run_bind,Sem.run_pure,Result.andThen_ok,invoke];rw [Ei hf,e]
def iS{bx:Nat}{cs':List PV}(hd:d < n)(hf:aB P f=true)(he:args.toList = .tmp p::xs)
  (hok:mI xs qs) (hto:pp qs as_) (hbc:aS cs) (hba:∀q,q∈as_→aS q.2) (hu:jM P f t cs cs' as_ r) :
  Loc P n ⟨some d,.call { callee:=.value (.func f),args:=args,argTypes:=tys },ty,pos,af,g⟩ ⟨(p,RV.ptr bx 0)::kL xs qs,[(bx,(t,cs))],[(d,some r)],[(bx,some (t,cs'))],none⟩:=by
 intro h0 w0 Fz0 σ a w K Q hc hr hrb _ h5;obtain ⟨φ,Fz,Fp,hc⟩:=hc;have hp:=(hc.slot p _ hr.1).1;obtain ⟨cur,hg,ho⟩:=hc.box bx _ hrb.1;obtain ⟨g1,g2,g3⟩:=hc.bxb bx _ hrb.1;have hglt:φ bx < w.heap.size:=(Array.getElem?_eq_some_iff.1 hg).1;have hrel:=hto.rel (hc.relT hr.2 hok);unfold Oper.wp;rw [adl hf he,hp,Oper.upon_enter];refine (hu w (φ bx) cur _ Fz [] [] hc.fzl hg g2 (aS.own hbc ho.rel) (hJ.bor hba hrel) aL).mono ?_;rintro e w' ⟨v,Fz',cur',F1',G,rfl,ht,hg',hf',ho',hv,hn,hin⟩;simp only [fS,List.not_mem_nil,false_or] at hin;refine h5 _ _ ?_;have c1:=hc.pullB hrb.1;have hn':=hn;rw [kg,dD] at hn';have c2:=c1.world (w':=w') (Fz':=Fz') (X:=φ bx::(F1'++G)) ht.os ht.tape ht.output ht.size (fun b hb hb0=>by have hbg:b≠φ bx:=fun e=>hb0 (by simp [e]);have:=ht.same b hb (fun e=>hbg (Option.some.inj e)) aL;exact ⟨this.1,fun o=>(this.2 o).1⟩)
  (fun b o hbo=>by have hb:=hc.fzl b o hbo;have hbg:b≠φ bx:=fun e=>g2 o (e▸hbo);have:=ht.same b hb (fun e=>hbg (Option.some.inj e)) aL;exact ⟨(this.2 o).2 hbo,World.cell?_of_block this.1⟩) ht.fzl
  (fun b hb=>by
   rcases List.mem_cons.1 hb with rfl|hb;·exact .inl aL
   ·exact .inr (hin b hb)) hn
 have c3:=c2.pushB (d:=bx) (g:=φ bx) (t:=t) (cs:=cs') (cur:=cur') (F:=F1') (X:=G) Jb hg' ho' hf' (fun b hb=>by simp only [if_true];simp only [fm,ip] at hb ⊢;rcases hb with hb|hb|hb<;>simp [hb])
  (by
   rw [dD,kg];refine ⟨hn'.2.1,⟨fun h=>hn'.1 ql,hn'.2.2.1⟩,fun x hx y hy e=>?_⟩;rcases List.mem_cons.1 hy with rfl|hy;·exact hn'.1 (by simp [←e,hx])
   ·exact hn'.2.2.2 x hx y hy e) (.inl rfl)
 have c4:=c3.push (i:=d) (rv:=r) (v:=v) (F:=G) (X:=[]) hd (hv _) (fun b hb=>by simp only [eQ];rw [if_neg ab];simpa using hb) (by simpa using hn'.2.2.1)
 exact bB.eqv ⟨_,_,_,c4⟩ (fun i=>rfl) (fun x=>by show (bif Nat.beq x bx then some (t,cs') else σ.b x)=_;rw [St.set_b,St.setB_b,St.setB_b,beq_eq];by_cases e:x=bx<;>simp [e])
def PV.OTo(p q:PV):Prop:=∀{Fz:aC} {w:World} {v:Value} {F:List Nat},p.own Fz w v F→q.own Fz w v F
def OTo.refl{p:PV}:p.OTo p:=fun h=>h
def OTo.lo:(PV.sl (.lo L) es).OTo (PV.sl .v es):=fun h=>⟨h.1.1,h.2⟩
def uJ.cons{p q:PV}{ps qs:List PV}(h:p.OTo q)(k:uJ ps qs):uJ (p::ps) (q::qs):=fun hh=>by obtain ⟨v,vs',F1,F2,rfl,rfl,h1,h2⟩:=hh;exact ⟨v,vs',F1,F2,rfl,rfl,h h1,k h2⟩
def Bq:List (Bool×List PV)→List (Bool×List PV)→Prop
 | [],[]=>True
 | p::ps,q::qs=>(p.1=q.1∧uJ p.2 q.2)∧Bq ps qs
 | _,_=>False
def Bq.own:∀{ps qs:List (Bool×List PV)} {vs:List Value} {F:List Nat},Bq ps qs→fz ps Fz w vs F→fz qs Fz w vs F
 | [],[],_,_,_,h=>h
 | p::ps,q::qs,_,_,k,h=>by obtain ⟨v,vs',F1,F2,rfl,rfl,h1,h2⟩:=h;exact ⟨v,vs',F1,F2,rfl,rfl,⟨k.1.1▸h1.1,k.1.2 h1.2⟩,Bq.own k.2 h2⟩
def Br(L:Nat→Prop)(ts:List Nat):List (Nat×RV)→Prop
 | []=>True
 | p::l=>(p.1∈ts∨p.2.Lcl L)∧Br L ts l
def Br.mem{ts:List Nat}:∀{l:List (Nat×RV)},Br L ts l→∀p,p∈l→p.1∈ts∨p.2.Lcl L
 | [],_,p,hp=>by simp at hp
 | q::l,h,p,hp=>by
  rcases List.mem_cons.1 hp with rfl|hp;·exact h.1
  ·exact Br.mem h.2 p hp
def Ro:∀{xs:List Operand} {f:Nat→Option RV} {i:Nat} {rv:RV},bK (po xs) f i=some rv→i∉nz xs∧f i=some rv
 | [],f,i,rv,h=>⟨by simp [nz],h⟩
 | x::xs,f,i,rv,h=>by
  have h:bK (po xs) (bK (wS x) f) i=some rv:=by rw [←Eg];exact h
  obtain ⟨k1,k2⟩:=Ro h;cases x with
  | tmp t=>
   have k2:(bif Nat.beq i t then none else f i)=some rv:=k2;rw [beq_eq] at k2;by_cases e:i=t;·simp [e] at k2
   ·simp [e] at k2
    exact ⟨by simp [nz,e,k1],k2⟩
  | _=>exact ⟨k1,k2⟩
def Rp{ol:List Oper}{l:List (Nat×RV)}{b:List (Nat×(Nat×List PV))} 
  (hd:d < n) (hf:aB P f=true) (hrd:bh (kL args.toList qs) (lk l)) (hok:mI args.toList qs) (hap:Jw args.toList=true) (hto:Bq qs as_) (hu:QX P f as_ r) (hL:∀x,L x→h0 x) (hls:Br L (nz args.toList) l) (hlb:Bi L b)
  (h:oq P n h0 w0 Fz0 ops ol ((⟨bK (po args.toList) (lk l),lk b⟩:St).set d (some r)) Q) :
  oq P n h0 w0 Fz0 ops (⟨some d,.call { callee:=.value (.func f),args:=args,argTypes:=tys },ty,pos,af,none⟩::ol) (St.of l b) Q:=fun a w hc=>by
 obtain ⟨φ,Fz,Fp,hc⟩:=hc;obtain ⟨F,Fp',hown,c1,hm,hnd⟩:=hc.pulls args.toList qs hrd hok (of_decide_eq_true hap);have hF:=(List.nodup_append.1 hnd).1;refine wpList_plain rfl fun K hK=>?_;unfold Oper.wp;rw [Rn hf,Oper.upon_enter];refine (hu w _ Fz F hc.fzl (hto.own hown) hF).mono ?_;rintro e w' ⟨v,Fz',G,rfl,ht,hv,hn,hin⟩;have hlt0:∀x,x∈Fp 0→x < w.heap.size:=fun x hx=>(hc.low 0 x hx).2
 have c2:=c1.uworld (w':=w') (Fz':=Fz') (L:=L) (X:=G++Fp 0) ht.os ht.tape ht.output ht.size (fun x hx hx0=>ht.same x hx aL (fun k=>hx0 ((hm x).2 wQ))) hL
  (fun i rv hi=>by
   obtain ⟨k1,k2⟩:=Ro hi;rcases hls.mem _ (lV k2) with k|k;·exact absurd k k1
   ·exact k)
  (fun d' bx hb=>Bi.mem hlb _ (lV hb)) ht.fzl
  (fun x hx=>by
   rcases List.mem_append.1 hx with hx|hx
   ·rcases hin x hx with k|k
    ·exact .inl ((hm x).2 wQ)
    ·exact .inr k
   ·exact .inl ((hm x).2 ib))
  (by
   rw [dD] at hnd ⊢;refine ⟨hn,hnd.2.1,fun x hx y hy e=>?_⟩;rcases hin x hx with k|k;·exact hnd.2.2 x k y hy e
   ·have:=hlt0 y hy;omega)
 have c3:=c2.push (i:=d) (rv:=r) (v:=v) (F:=G) (X:=Fp 0) hd (hv _) (fun x hx=>by simpa using hx) (by have:=c2.nod 0;simpa using this)
 exact hK _ _ (h _ _ ⟨_,_,_,c3⟩)
def Ez{bx:Nat}{ol:List Oper}{l:List (Nat×RV)}{b:List (Nat×(Nat×List PV))}{cs':List PV} 
  (hd:d < n) (hf:aB P f=true) (he:args.toList = .tmp p::xs) (hp:lk l p=some (RV.ptr bx 0)) (hbx:lk b bx=some (t,cs)) (hrd:bh (kL xs qs) (lk l)) (hok:mI xs qs) (hap:Jw xs=true) (hto:Bq qs as_) (hu:jM P f t cs cs' as_ r) (hL:∀x,L x→h0 x) (hls:Br L (nz xs) l) (hlb:Bh L bx b)
  (h:oq P n h0 w0 Fz0 ops ol (((⟨bK (po xs) (lk l),lk b⟩:St).setB bx (some (t,cs'))).set d (some r)) Q) :
  oq P n h0 w0 Fz0 ops (⟨some d,.call { callee:=.value (.func f),args:=args,argTypes:=tys },ty,pos,af,none⟩::ol) (St.of l b) Q:=fun a w hc=>by
 obtain ⟨φ,Fz,Fp,hc⟩:=hc;have hpv:=(hc.slot p _ hp).1;obtain ⟨F,Fp',hown,c1,hm,hnd⟩:=hc.pulls xs qs hrd hok (of_decide_eq_true hap);have hF:=(List.nodup_append.1 hnd).1;have hb1:(⟨bK (po xs) (St.of l b).s,(St.of l b).b⟩:St).b bx=some (t,cs):=hbx;obtain ⟨cur,hg,ho⟩:=c1.box bx _ hb1;obtain ⟨g1,g2,g3⟩:=c1.bxb bx _ hb1;have hglt:φ bx < w.heap.size:=(Array.getElem?_eq_some_iff.1 hg).1;have c2:=c1.pullB hb1;generalize hFp2:(fun x=>if x=0 then φ bx::mv Fp' (2 * bx+2) 0 else mv Fp' (2 * bx+2) x)=Fp2 at c2;have e0:Fp2 0=φ bx::(Fp' (2 * bx+2)++Fp' 0):=by rw [←hFp2];simp [mv]
 have hFin:∀x,x∈F→x∈Fp' 0:=fun x hx=>(hm x).2 ib;have hXin:∀x,x∈Fp 0→x∈Fp' 0:=fun x hx=>(hm x).2 ib;have hn1:(φ bx::(Fp' (2 * bx+2)++F)).Nodup:=by
  rw [kg,dD];refine ⟨fun k=>?_,c1.nod _,hF,fun x hx y hy e=>?_⟩
  ·rcases List.mem_append.1 k with k|k
   ·exact g3 _ k
   ·exact g3 0 (hFin _ k)
  ·subst e
   exact c1.dis 0 (2 * bx+2) ab x (hFin x hy) hx
 refine wpList_plain rfl fun K hK=>?_;unfold Oper.wp;rw [adl hf he,hpv,Oper.upon_enter];refine (hu w (φ bx) cur _ Fz _ F hc.fzl hg g2 ho (hto.own hown) hn1).mono ?_;rintro e w' ⟨v,Fz',cur',F1',G,rfl,ht,hg',hf',ho',hv,hn,hin⟩;have hn':=hn;rw [kg,dD] at hn';have hlt0:∀x,x∈Fp 0→x < w.heap.size:=fun x hx=>(hc.low 0 x hx).2;have hdis0:∀x,x∈Fp 0→x≠φ bx∧x∉Fp' (2 * bx+2)∧x∉F:=fun x hx=>by refine ⟨fun e=>g3 0 (e▸hXin x hx),fun k=>c1.dis 0 (2 * bx+2) ab x (hXin x hx) k,fun k=>?_⟩;rw [dD] at hnd;exact hnd.2.2 x k x hx rfl
 have hdn:∀x,x∈F1'++G→x∉Fp 0:=fun x hx k=>by
  obtain ⟨k1,k2,k3⟩:=hdis0 x k;rcases hin x hx with hx|hx
  ·rcases List.mem_append.1 hx with hx|hx
   ·exact k2 hx
   ·exact k3 hx
  ·have:=hlt0 x k;omega
 have c3:=c2.uworld (w':=w') (Fz':=Fz') (L:=L) (X:=φ bx::(F1'++(G++Fp 0))) ht.os ht.tape ht.output ht.size (fun x hx hx0=>ht.same x hx (fun k=>hx0 (by rw [e0,Option.some.inj k];simp)) (fun k=>hx0 (by
    rw [e0];rcases List.mem_append.1 k with k|k;·simp [k]
    ·simp [hFin x k]))) hL
  (fun i rv hi=>by
   obtain ⟨k1,k2⟩:=Ro hi;rcases hls.mem _ (lV k2) with k|k;·exact absurd k k1
   ·exact k)
  (fun d' bxx hb=>by
   rw [St.setB_b] at hb;split at hb;·cases hb
   ·rename_i hne
    rcases hlb.mem _ (lV hb) with k|k;·exact absurd k hne
    ·exact k) ht.fzl
  (fun x hx=>by
   rw [e0];simp only [ip,fm] at hx ⊢;rcases hx with hx|hx|hx|hx;·exact .inl (.inl hx)
   ·rcases hin x ib with k|k
    ·rcases List.mem_append.1 k with k|k
     ·exact .inl (.inr (.inl k))
     ·exact .inl (.inr (.inr (hFin x k)))
    ·exact .inr k
   ·rcases hin x ib with k|k
    ·rcases List.mem_append.1 k with k|k
     ·exact .inl (.inr (.inl k))
     ·exact .inl (.inr (.inr (hFin x k)))
    ·exact .inr k
   ·exact .inl (.inr (.inr (hXin x hx))))
  (by
   rw [kg,dD,dD];refine ⟨fun k=>?_,hn'.2.1,⟨hn'.2.2.1,(List.nodup_append.1 hnd).2.1,fun x hx y hy e=>hdn x ib (e▸hy)⟩,fun x hx y hy e=>?_⟩
   ·simp only [fm] at k
    rcases k with k|k|k;·exact hn'.1 wQ
    ·exact hn'.1 wQ
    ·exact (hdis0 _ k).1 rfl
   ·rcases List.mem_append.1 hy with hy|hy
    ·exact hn'.2.2.2 x hx y hy e
    ·exact hdn x ib (e▸hy))
 have hnX:(F1'++φ bx::(G++Fp 0)).Nodup:=by have:=c3.nod 0;simp only [if_true] at this;refine (List.Perm.nodup_iff ?_).2 this;exact List.perm_middle
 have c4:=c3.pushB (d:=bx) (g:=φ bx) (t:=t) (cs:=cs') (cur:=cur') (F:=F1') (X:=G++Fp 0) Jb hg' ho' hf' (fun x hx=>by simp only [if_true];simp only [fm,ip] at hx ⊢;rcases hx with hx|hx|hx|hx<;>simp [hx]) hnX (.inl rfl)
 have c5:=c4.push (i:=d) (rv:=r) (v:=v) (F:=G) (X:=Fp 0) hd (hv _) (fun x hx=>by
   simp only [eQ,if_true];rw [if_neg ab];exact hx) (by
   have:=c4.nod 0;simp only [eQ,if_true] at this;rw [if_neg ab] at this;exact this)
 exact hK _ _ (h _ _ (bB.eqv ⟨_,_,_,c5⟩ (fun i=>rfl) (fun x=>by simp only [St.set_b,St.setB_b];split<;>rfl)))
end
end
section
section
variable{P:Program}{n:Nat}{h0:Nat→Prop}{w0:World}{Fz0:aC}{ops:Array Oper}{Q:Exit→St→Prop}
def avK{E bs:Nat}{q q2:Int}{z:Value}{zs:List PV}(hd:d < n)(hT:gu P T=some (E,e,bs))(hz:fU P E=some z)(hz1:z.cells.size=e)
  (hzs:∀{Fz:aC} {w:World},aN zs Fz w z.cells.toList []) (hx:bG x (RV.int q)) (hy:bG y (RV.int q2)) (hq:q=(m:Int)) (hq2:q2=(m:Int)) (hm:m≤9223372036854775807) (hb:bs * m≤281474976710656) :
  Loc P n ⟨some d,.makeSlice T x y,ty,pos,af,g⟩ ⟨bl x (RV.int q)++bl y (RV.int q2),[],[(d,some (RV.slc (.own E e) (List.replicate m zs)))],[(d,none)],some d⟩:=by
 intro h0 w0 Fz0 σ a w K Q hc hr _ h4 h5;obtain ⟨φ,Fz,Fp,hc⟩:=hc;subst hq;subst hq2;have ex:=hc.sc hr.left hx;have ey:=hc.sc hr.right hy;obtain ⟨hu,inf,hinf,hsz,hby⟩:=tk hT;have hz':inf.zero=some z:=by unfold fU at hz;rw [hinf,Option.bind_some] at hz;exact hz
 have hb':(inf.bytes:Int) * (m:Int)≤281474976710656:=by
  have h:((inf.bytes * m:Nat):Int)≤281474976710656:=by rw [hby];omega
  rwa [Int.natCast_mul] at h
 have hr2:=run_make (P:=P) w T E inf z hu hinf hz' .i64 .i64 m m ab (Int.le_refl _) hb' ab;simp only [Int.toNat_natCast,hsz] at hr2;have k:=(hc.drop d).new (madeCells z.cells (m * e)) E 0
 have k2:=k.pushB (d:=d) (g:=w.heap.size) (cs:=(List.replicate m zs).flatten++([]:List Value).map PV.val) (F:=[]) (X:=Fp 0) mF (heap_alloc_new w _)
  (by rw [←hz1,acy,List.map_nil,fS];exact acz hzs m)
  (fun o ho=>by
   rcases ho with ho|⟨_,ho⟩;·have:=hc.fzl _ _ ho;omega
   ·omega)
  (fun b hb=>hb) (by simpa using k.nod 0) (.inr (h4 d rfl))
 obtain ⟨Fz',Fp',c3,hsl,hX,hnd,_⟩:=k2.freeze (s:=d) (b:=d) (m:=m) (c:=m) (e:=e) (es:=List.replicate m zs) (jk:=[]) mF (Nat.le_refl _) hm aL (fun c hc=>by rw [List.eq_of_mem_replicate hc,←hz1];have:=(hzs (Fz:=fun _ _=>False) (w:=w)).len;simpa using this.symm) aL
 rw [if_pos rfl] at hsl
 have c4:=c3.push (i:=d) (rv:=RV.slc (.own E e) (List.replicate m zs)) (v:=.slice (some ⟨w.heap.size,0,none⟩) m m) (X:=[]) hd (bY.of_atom (p:=PV.sl (.own E e) (List.replicate m zs)) hsl)
  (fun x hx=>hX x Bb) (by simpa using hnd)
 refine eH (v:=.slice (some ⟨w.heap.size,0,none⟩) m m) (w':=w.alloc (.cells (madeCells z.cells (m * e)) E)) ?_ (h5 _ _ (bB.eqv ⟨_,_,_,c4⟩ (fun i=>?_) (fun x=>?_)))
 ·unfold execOp
  simp only [ex,ey,hr2,Sem.run_bind,Result.andThen_ok,Sem.run_pure]
 ·simp only [St.set_s,St.setB_s]
  show bK [(d,some _)] σ.s i=_;simp only [bK,beq_eq];by_cases hi:i=d<;>simp [hi]
 ·simp only [St.set_b,St.setB_b]
  show bK [(d,none)] σ.b x=_;simp only [bK,beq_eq];by_cases hx:x=d<;>simp [hx]
def bX(f:α→List PV)(xs:List α)(jk:List Value):List PV:=(xs.map f).flatten++jk.map PV.val
def avL{b:Nat}{f:α→List PV}{xs:List α}{qs:List PV}(hf:∀x,(f x).length=e)(hoff:off=k * e)(hk:k < xs.length)(hd:d < n)(hT:dr P T=some (ag,e))(h1:ag=false→e=1)
  (ht:az (f xs[k]) qs) (hb:aS qs) :
  Loc P n ⟨some d,.load T (.tmp p),ty,pos,af,g⟩ ⟨[(p,RV.ptr b off)],[(b,(t,bX f xs jk))],[(d,some (RV.sv ag qs))],[],none⟩:=by
 unfold bX;rw [qt hk];exact yX (o:=0) aaU hd hT h1 (by rw [hf];omega) (by rw [List.drop_zero,tf (by rw [hf];exact Nat.le_refl _)];exact ht) hb
def avM{b:Nat}{f:α→List PV}{xs:List α}{vs:List PV}(y:α)(hf:∀x,(f x).length=e)(hoff:off=k * e)(hk:k < xs.length)(hT:dr P T=some (ag,e))(hx:bG x (RV.sv ag vs))(hv:vs=f y) :
  Loc P n ⟨none,.store T (.tmp p) x,ty,pos,af,g⟩ ⟨(p,RV.ptr b off)::bl x (RV.sv ag vs),[(b,(t,bX f xs jk))],wS x,[(b,some (t,bX f (xs.set k y) jk))],none⟩:=by
 have h:Loc P n ⟨none,.store T (.tmp p) x,ty,pos,af,g⟩ _:=to (off:=off) (P:=P) (n:=n) (T:=T) (p:=p) (b:=b) (t:=t) (x:=x) (ty:=ty) (pos:=pos) (af:=af) (g:=g) (ag:=ag) (A:=((xs.take k).map f).flatten) (m:=f xs[k]) (B:=((xs.drop (k+1)).map f).flatten++jk.map PV.val) (vs:=vs) (o:=0) aaU hT hx (by rw [hv];exact hf y) (by rw [hf];omega);unfold bX;rw [qt hk,←tt (cs:=vs) y hk hv];have e2:List.take 0 (f xs[k])++(vs++List.drop (0+e) (f xs[k]))=vs:=by rw [List.take_zero,List.nil_append,List.drop_eq_nil_of_le (by rw [hf];omega),fS]
 rw [e2] at h;exact @h
end
end
section
section
variable{P:Program}{n:Nat}{h0:Nat→Prop}{w0:World}{Fz0:aC}{ops:Array Oper}{σ σ0:St}{QS:St→Prop}{Q:Exit→St→Prop}{o:Oper}{l:List Oper}{acc:List (Nat×aM)}{c:Code}
def rA{L:aM}(y:bR P n ops QS l (σ.app L))(h1:bh L.rs σ.s:=by repeat (first|exact True.intro|refine And.intro rfl ?_))(h2:bh L.rb σ.b:=by repeat (first|exact True.intro|refine And.intro rfl ?_))(x:Loc P n o L)(hg:o.guard=none:=by exact rfl)(ha:L.al=none:=by exact rfl):bR P n ops QS (o::l) σ:=
 bR.step h1 h2 (db.of hg x) (fun d hd=>by rw [ha] at hd;cases hd) y
def rB{L:aM}{g:Nat}{b c:Bool}(hb:c=b)(y:bR P n ops QS l (σ.app ⟨(s,RV.bool c)::L.rs,L.rb,L.ws,L.wb,L.al⟩))(hg:o.guard=some (g,b):=by exact rfl)(hs:(ops[g]?).bind (·.dst)=some s:=by exact rfl)(h1:bh ((s,RV.bool c)::L.rs) σ.s:=by repeat (first|exact True.intro|refine And.intro rfl ?_))(h2:bh L.rb σ.b:=by repeat (first|exact True.intro|refine And.intro rfl ?_))(x:Loc P n o L)(hlt:s < n:=by decide)(ha:L.al=none:=by exact rfl):bR P n ops QS (o::l) σ:=
 bR.step (L:=⟨(s,RV.bool c)::L.rs,L.rb,L.ws,L.wb,L.al⟩) h1 h2 (db.yes hg hs hlt hb x) (fun d hd=>by have hd:L.al=some d:=hd;rw [ha] at hd;cases hd) y
def dA{L:aM}(m:Nat)(y:cj P n ops σ0 (fun _ _=>True) QS l (acc++[(m,L)]) (σ.app L))(h1:bh L.rs σ.s:=by repeat (first|exact True.intro|refine And.intro rfl ?_))(h2:bh L.rb σ.b:=by repeat (first|exact True.intro|refine And.intro rfl ?_))(x:Loc P n o L)(hg:o.guard=none:=by exact rfl)(ha:L.al=none:=by exact rfl)(h4:tj m o L acc=true:=by kernel_rfl):cj P n ops σ0 (fun _ _=>True) QS (o::l) acc σ:=
 cj.step m h1 h2 (db.of hg x) (fun d hd=>by rw [ha] at hd;cases hd) h4 y
def dB{L:aM}{g:Nat}{b c:Bool}(m:Nat)(hb:c=b)(y:cj P n ops σ0 (fun _ _=>True) QS l (acc++[(m,⟨(s,RV.bool c)::L.rs,L.rb,L.ws,L.wb,L.al⟩)]) (σ.app ⟨(s,RV.bool c)::L.rs,L.rb,L.ws,L.wb,L.al⟩))(hg:o.guard=some (g,b):=by exact rfl)(hs:(ops[g]?).bind (·.dst)=some s:=by exact rfl)(h1:bh ((s,RV.bool c)::L.rs) σ.s:=by repeat (first|exact True.intro|refine And.intro rfl ?_))(h2:bh L.rb σ.b:=by repeat (first|exact True.intro|refine And.intro rfl ?_))(x:Loc P n o L)(hlt:s < n:=by decide)(ha:L.al=none:=by exact rfl)
  (h4:tj m o ⟨(s,RV.bool c)::L.rs,L.rb,L.ws,L.wb,L.al⟩ acc=true:=by kernel_rfl):cj P n ops σ0 (fun _ _=>True) QS (o::l) acc σ:=
 cj.step (L:=⟨(s,RV.bool c)::L.rs,L.rb,L.ws,L.wb,L.al⟩) m h1 h2 (db.yes hg hs hlt hb x) (fun d hd=>by have hd:L.al=some d:=hd;rw [ha] at hd;cases hd) h4 y
def dF{g:Nat}{c:Bool}(m:Nat)(hb:c=false)(y:cj P n ops σ0 (fun _ _=>True) QS l (acc++[(m,⟨[(s,RV.bool c)],[],[(d,some RV.und)],[],none⟩)]) (σ.app ⟨[(s,RV.bool c)],[],[(d,some RV.und)],[],none⟩))(hg:o.guard=some (g,true):=by exact rfl)(hs:(ops[g]?).bind (·.dst)=some s:=by exact rfl)(hlt:s < n:=by decide)(hd:o.dst=some d:=by exact rfl)
  (h1:σ.s s=some (RV.bool c):=by exact rfl) (h4:tj m o ⟨[(s,RV.bool c)],[],[(d,some RV.und)],[],none⟩ acc=true:=by kernel_rfl):cj P n ops σ0 (fun _ _=>True) QS (o::l) acc σ:=
 cj.step (L:=⟨[(s,RV.bool c)],[],[(d,some RV.und)],[],none⟩) m ⟨h1,True.intro⟩ True.intro (db.no hg hs hlt hb hd) ki h4 y
def dT{g:Nat}{c:Bool}(m:Nat)(hb:c=true)(y:cj P n ops σ0 (fun _ _=>True) QS l (acc++[(m,⟨[(s,RV.bool c)],[],[(d,some RV.und)],[],none⟩)]) (σ.app ⟨[(s,RV.bool c)],[],[(d,some RV.und)],[],none⟩))(hg:o.guard=some (g,false):=by exact rfl)(hs:(ops[g]?).bind (·.dst)=some s:=by exact rfl)(hlt:s < n:=by decide)(hd:o.dst=some d:=by exact rfl)
  (h1:σ.s s=some (RV.bool c):=by exact rfl) (h4:tj m o ⟨[(s,RV.bool c)],[],[(d,some RV.und)],[],none⟩ acc=true:=by kernel_rfl):cj P n ops σ0 (fun _ _=>True) QS (o::l) acc σ:=
 cj.step (L:=⟨[(s,RV.bool c)],[],[(d,some RV.und)],[],none⟩) m ⟨h1,True.intro⟩ True.intro (db.no hg hs hlt hb hd) ki h4 y
def dU{g:Nat}{b:Bool}(m:Nat)(y:cj P n ops σ0 (fun _ _=>True) QS l (acc++[(m,⟨[(s,RV.und)],[],[(d,some RV.und)],[],none⟩)]) (σ.app ⟨[(s,RV.und)],[],[(d,some RV.und)],[],none⟩))(hg:o.guard=some (g,b):=by exact rfl)(hs:(ops[g]?).bind (·.dst)=some s:=by exact rfl)(hd:o.dst=some d:=by exact rfl)
  (h1:σ.s s=some RV.und:=by exact rfl) (h4:tj m o ⟨[(s,RV.und)],[],[(d,some RV.und)],[],none⟩ acc=true:=by kernel_rfl):cj P n ops σ0 (fun _ _=>True) QS (o::l) acc σ:=
 cj.step (L:=⟨[(s,RV.und)],[],[(d,some RV.und)],[],none⟩) m ⟨h1,True.intro⟩ True.intro (db.noU hg hs hd) ki h4 y
def sO(l:List (Nat×RV))(b:List (Nat×(Nat×List PV)))(h:SW P n h0 w0 Fz0 c (St.of l b) Q)(hl:bh l σ.s:=by repeat (first|exact True.intro|refine And.intro rfl ?_))(hb:bh b σ.b:=by repeat (first|exact True.intro|refine And.intro rfl ?_)):SW P n h0 w0 Fz0 c σ Q:=avp hl hb h
def wO(m:List (Nat×RV))(b:List (Nat×(Nat×List PV)))(h:oq P n h0 w0 Fz0 ops l (St.of m b) Q)(hl:bh m σ.s:=by repeat (first|exact True.intro|refine And.intro rfl ?_))(hb:bh b σ.b:=by repeat (first|exact True.intro|refine And.intro rfl ?_)):oq P n h0 w0 Fz0 ops l σ Q:=avv hl hb h
def wA{L:aM}(y:oq P n h0 w0 Fz0 ops l (σ.app L) Q)(h1:bh L.rs σ.s:=by repeat (first|exact True.intro|refine And.intro rfl ?_))(h2:bh L.rb σ.b:=by repeat (first|exact True.intro|refine And.intro rfl ?_))(x:Loc P n o L)(hg:o.guard=none:=by exact rfl)(ha:L.al=none:=by exact rfl):oq P n h0 w0 Fz0 ops (o::l) σ Q:=
 avu h1 h2 (db.of hg x) (fun d hd=>by rw [ha] at hd;cases hd) y
end
section
variable{P:Program}{n:Nat}{d x:Nat}{ty:TypeId}{pos:String}{af:Array Edge}{g:Option (Nat×Bool)}
def cM{r':RV}(hc:Cp r r')(hd:d < n:=by decide):Loc P n ⟨some d,.move (.tmp x),ty,pos,af,g⟩ ⟨[(x,r)],[],[(d,some r')],[],none⟩:=lW (.inl rfl) hd hc
def cA{r':RV}(hc:Cp r r')(hd:d < n:=by decide):Loc P n ⟨some d,.assign (.tmp x),ty,pos,af,g⟩ ⟨[(x,r)],[],[(d,some r')],[],none⟩:=lW (.inr rfl) hd hc
def sM(hd:d < n:=by decide):Loc P n ⟨some d,.move (.tmp x),ty,pos,af,g⟩ ⟨[(x,RV.sc v)],[],[(d,some (RV.sc v))],[],none⟩:=cM Cp.sc hd
def sA(hd:d < n:=by decide):Loc P n ⟨some d,.assign (.tmp x),ty,pos,af,g⟩ ⟨[(x,RV.sc v)],[],[(d,some (RV.sc v))],[],none⟩:=cA Cp.sc hd
def vM(ag:Bool)(qs:List PV)(ht:az cs qs:=by repeat' (first|exact True.intro|exact PV.To.refl _|exact PV.to_none|apply And.intro))(hb:aS qs:=by repeat (first|exact aS.nil|refine aS.cons (PV.bor_val _) ?_|refine aS.cons (PV.bor_sl _) ?_|refine aS.cons (PV.bor_lo _ _) ?_))(hd:d < n:=by decide) :
  Loc P n ⟨some d,.move (.tmp x),ty,pos,af,g⟩ ⟨[(x,RV.sv ag cs)],[],[(d,some (RV.sv ag qs))],[],none⟩:=cM (Cp.sv ht hb) hd
def vA(ag:Bool)(qs:List PV)(ht:az cs qs:=by repeat' (first|exact True.intro|exact PV.To.refl _|exact PV.to_none|apply And.intro))(hb:aS qs:=by repeat (first|exact aS.nil|refine aS.cons (PV.bor_val _) ?_|refine aS.cons (PV.bor_sl _) ?_|refine aS.cons (PV.bor_lo _ _) ?_))(hd:d < n:=by decide) :
  Loc P n ⟨some d,.assign (.tmp x),ty,pos,af,g⟩ ⟨[(x,RV.sv ag cs)],[],[(d,some (RV.sv ag qs))],[],none⟩:=cA (Cp.sv ht hb) hd
def tM(hd:d < n:=by decide):Loc P n ⟨some d,.move (.tmp x),ty,pos,af,g⟩ ⟨[(x,r)],[],[(x,none),(d,some r)],[],none⟩:=Ef (.inl rfl) hd
def tA(hd:d < n:=by decide):Loc P n ⟨some d,.assign (.tmp x),ty,pos,af,g⟩ ⟨[(x,r)],[],[(x,none),(d,some r)],[],none⟩:=Ef (.inr rfl) hd
def kM(h:v.oneCell'=true:=by exact rfl)(hd:d < n:=by decide):Loc P n ⟨some d,.move (.const v),ty,pos,af,g⟩ ⟨[],[],[(d,some (RV.sc v))],[],none⟩:=rg (.inl rfl) hd (aY h)
def kA(h:v.oneCell'=true:=by exact rfl)(hd:d < n:=by decide):Loc P n ⟨some d,.assign (.const v),ty,pos,af,g⟩ ⟨[],[],[(d,some (RV.sc v))],[],none⟩:=rg (.inr rfl) hd (aY h)
def lD{b:Nat}(qs:List PV)(hT:dr P T=some (ag,k))(h1:ag=false→k=1:=by first|exact fun _=>rfl|exact fun h=>nomatch h)(hk:off+k≤cs.length:=by exact Nat.le_of_ble_eq_true rfl)(ht:az ((cs.drop off).take k) qs:=by repeat' (first|exact True.intro|exact PV.To.refl _|exact PV.to_none|apply And.intro))
  (hb:aS qs:=by repeat (first|exact aS.nil|refine aS.cons (PV.bor_val _) ?_|refine aS.cons (PV.bor_sl _) ?_|refine aS.cons (PV.bor_lo _ _) ?_)) (hd:d < n:=by decide) :
  Loc P n ⟨some d,.load T (.tmp p),ty,pos,af,g⟩ ⟨[(p,RV.ptr b off)],[(b,(t,cs))],[(d,some (RV.sv ag qs))],[],none⟩:=mH hd hT h1 hk ht hb
def lE(qs:List PV)(hT:dr P T=some (ag,k))(h1:ag=false→k=1:=by first|exact fun _=>rfl|exact fun h=>nomatch h)(hk:k≤cs.length:=by exact Nat.le_of_ble_eq_true rfl)(ht:az (cs.take k) qs:=by repeat' (first|exact True.intro|exact PV.To.refl _|exact PV.to_none|apply And.intro))
  (hb:aS qs:=by repeat (first|exact aS.nil|refine aS.cons (PV.bor_val _) ?_|refine aS.cons (PV.bor_sl _) ?_|refine aS.cons (PV.bor_lo _ _) ?_)) (hd:d < n:=by decide) :
  Loc P n ⟨some d,.load T (.tmp p),ty,pos,af,g⟩ ⟨[(p,RV.eptr cs)],[],[(d,some (RV.sv ag qs))],[],none⟩:=tl hd hT h1 hk ht hb
def lF{b fo:Nat}(hT:co P T f=some fo)(hd:d < n:=by decide):Loc P n ⟨some d,.fieldAddr T (.tmp p) f,ty,pos,af,g⟩ ⟨[(p,RV.ptr b off)],[],[(d,some (RV.ptr b (off+fo)))],[],none⟩:=acp hd hT
def lN{E bs:Nat}(hT:gu P T=some (E,e,bs))(hm:es.length=m:=by first|exact aU _|exact rfl)(hd:d < n:=by decide) :
  Loc P n ⟨some d,.call { callee:=.builtin .len,args := #[.tmp s],argTypes := #[T] },ty,pos,af,g⟩ ⟨[(s,RV.slc o es)],[],[(d,some (RV.int (m:Int)))],[],none⟩:=avd hd hT hm
def nT{T:TypeId}{b:Bool}(hd:d < n:=by decide):Loc P n ⟨some d,.unOp .not T (.tmp x),ty,pos,af,g⟩ ⟨[(x,RV.bool b)],[],[(d,some (RV.bool !b))],[],none⟩:=avc hd
def ce{c x:Operand}{b:Bool}(hg:b=true)(hc:bG c (RV.bool b):=by exact True.intro)(hz:bG x r:=by first|exact True.intro|exact aY rfl)(hcp:Cp r r:=by exact Cp.sc)(hd:d < n:=by decide):Loc P n ⟨some d,.pick c x y,ty,pos,af,g⟩ ⟨bl c (RV.bool b)++bl x r,[],[(d,some r)],[],none⟩:=acl (z:=x) hd (by rw [hg];rfl) hc hz hcp
def bE{c x:Operand}{b:Bool}(hg:b=false)(hc:bG c (RV.bool b):=by exact True.intro)(hz:bG y r:=by first|exact True.intro|exact aY rfl)(hcp:Cp r r:=by exact Cp.sc)(hd:d < n:=by decide):Loc P n ⟨some d,.pick c x y,ty,pos,af,g⟩ ⟨bl c (RV.bool b)++bl y r,[],[(d,some r)],[],none⟩:=acl (z:=y) hd (by rw [hg];rfl) hc hz hcp
def cL(qs as_:List (Bool×List PV))(hf:aB P f=true)(hok:mI args.toList qs:=by repeat' (first|exact True.intro|exact aY rfl|exact ack|apply And.intro))
  (hto:pp qs as_:=by repeat' (first|exact True.intro|exact rfl|exact PV.To.refl _|exact PV.to_none|apply And.intro)) (hs:aD P f as_ r) (hd:d < n:=by decide):Loc P n ⟨some d,.call { callee:=.value (.func f),args:=args,argTypes:=tys },ty,pos,af,g⟩ ⟨kL args.toList qs,[],[(d,some r)],[],none⟩:=uG hd hf hok hto hs
section
variable{T T2:TypeId}{x y:Operand}{i j:Int}
def ow(hx:bG x (RV.int i):=by first|exact True.intro|exact aY rfl)(hy:bG y (RV.int j):=by first|exact True.intro|exact aY rfl)(hd:d < n:=by decide):Loc P n ⟨some d,.binOp .lss T x y T2,ty,pos,af,g⟩ ⟨bl x (RV.int i)++bl y (RV.int j),[],[(d,some (RV.bool (decide (i < j))))],[],none⟩:=au5 hd hx hy
def lZ(hx:bG x (RV.int i):=by first|exact True.intro|exact aY rfl)(hy:bG y (RV.int j):=by first|exact True.intro|exact aY rfl)(hd:d < n:=by decide):Loc P n ⟨some d,.binOp .leq T x y T2,ty,pos,af,g⟩ ⟨bl x (RV.int i)++bl y (RV.int j),[],[(d,some (RV.bool (decide (i≤j))))],[],none⟩:=au6 hd hx hy
def jO(hx:bG x (RV.int i):=by first|exact True.intro|exact aY rfl)(hy:bG y (RV.int j):=by first|exact True.intro|exact aY rfl)(hd:d < n:=by decide):Loc P n ⟨some d,.binOp .gtr T x y T2,ty,pos,af,g⟩ ⟨bl x (RV.int i)++bl y (RV.int j),[],[(d,some (RV.bool (decide (i > j))))],[],none⟩:=au7 hd hx hy
def jP(hx:bG x (RV.int i):=by first|exact True.intro|exact aY rfl)(hy:bG y (RV.int j):=by first|exact True.intro|exact aY rfl)(hd:d < n:=by decide):Loc P n ⟨some d,.binOp .geq T x y T2,ty,pos,af,g⟩ ⟨bl x (RV.int i)++bl y (RV.int j),[],[(d,some (RV.bool (decide (i≥j))))],[],none⟩:=au8 hd hx hy
def lu(hx:bG x (RV.int i):=by first|exact True.intro|exact aY rfl)(hy:bG y (RV.int j):=by first|exact True.intro|exact aY rfl)(hd:d < n:=by decide):Loc P n ⟨some d,.binOp .eql T x y T2,ty,pos,af,g⟩ ⟨bl x (RV.int i)++bl y (RV.int j),[],[(d,some (RV.bool (i==j)))],[],none⟩:=au9 hd hx hy
def ma(hx:bG x (RV.int i):=by first|exact True.intro|exact aY rfl)(hy:bG y (RV.int j):=by first|exact True.intro|exact aY rfl)(hd:d < n:=by decide):Loc P n ⟨some d,.binOp .neq T x y T2,ty,pos,af,g⟩ ⟨bl x (RV.int i)++bl y (RV.int j),[],[(d,some (RV.bool (i != j)))],[],none⟩:=ava hd hx hy
def pz(hx:bG x (RV.int i):=by first|exact True.intro|exact aY rfl)(hy:bG y (RV.int j):=by first|exact True.intro|exact aY rfl)(h:dN (i+j):=by unfold dN;omega)(hd:d < n:=by decide):Loc P n ⟨some d,.binOp .add T x y T2,ty,pos,af,g⟩ ⟨bl x (RV.int i)++bl y (RV.int j),[],[(d,some (RV.int (i+j)))],[],none⟩:=QA hd hx hy h
def kQ(hx:bG x (RV.int i):=by first|exact True.intro|exact aY rfl)(hy:bG y (RV.int j):=by first|exact True.intro|exact aY rfl)(h:dN (i - j):=by unfold dN;omega)(hd:d < n:=by decide):Loc P n ⟨some d,.binOp .sub T x y T2,ty,pos,af,g⟩ ⟨bl x (RV.int i)++bl y (RV.int j),[],[(d,some (RV.int (i - j)))],[],none⟩:=avb hd hx hy h
end
end
end
section
section
variable{P:Program}{n:Nat}
section
variable{T:TypeId}{x y:Operand}{i j:Int}{k:IntKind}{w:World}
def avN:Sem.run P (do eqGuard .leq T x y (.int k i) (.int k j);binOp .leq T (.int k i) (.int k j):Sem Value) w = .ok (.bool (decide (i≤j))) w:=tc
def avO:Sem.run P (do eqGuard .geq T x y (.int k i) (.int k j);binOp .geq T (.int k i) (.int k j):Sem Value) w = .ok (.bool (decide (i≥j))) w:=tc
def avP:Sem.run P (do eqGuard .eql T x y (.int k i) (.int k j);binOp .eql T (.int k i) (.int k j):Sem Value) w = .ok (.bool (i==j)) w:=tc
def avQ:Sem.run P (do eqGuard .neq T x y (.int k i) (.int k j);binOp .neq T (.int k i) (.int k j):Sem Value) w = .ok (.bool (i != j)) w:=tc
end
section
variable{T T2:TypeId}{x y:Operand}{d:Nat}{ty:TypeId}{pos:String}{af:Array Edge}{g:Option (Nat×Bool)}{i j:Int}{k:IntKind}
def avR(hx:bG x (RV.sc (.int k i)):=by first|exact True.intro|exact aY rfl)(hy:bG y (RV.sc (.int k j)):=by first|exact True.intro|exact aY rfl)(hd:d < n:=by decide):Loc P n ⟨some d,.binOp .leq T x y T2,ty,pos,af,g⟩ ⟨bl x (RV.sc (.int k i))++bl y (RV.sc (.int k j)),[],[(d,some (RV.bool (decide (i≤j))))],[],none⟩:=ir hd hx hy rfl fun _=>avN
def avS(hx:bG x (RV.sc (.int k i)):=by first|exact True.intro|exact aY rfl)(hy:bG y (RV.sc (.int k j)):=by first|exact True.intro|exact aY rfl)(hd:d < n:=by decide):Loc P n ⟨some d,.binOp .geq T x y T2,ty,pos,af,g⟩ ⟨bl x (RV.sc (.int k i))++bl y (RV.sc (.int k j)),[],[(d,some (RV.bool (decide (i≥j))))],[],none⟩:=ir hd hx hy rfl fun _=>avO
def JN(hx:bG x (RV.sc (.int k i)):=by first|exact True.intro|exact aY rfl)(hy:bG y (RV.sc (.int k j)):=by first|exact True.intro|exact aY rfl)(hd:d < n:=by decide):Loc P n ⟨some d,.binOp .eql T x y T2,ty,pos,af,g⟩ ⟨bl x (RV.sc (.int k i))++bl y (RV.sc (.int k j)),[],[(d,some (RV.bool (i==j)))],[],none⟩:=ir hd hx hy rfl fun _=>avP
def Rq(hx:bG x (RV.sc (.int k i)):=by first|exact True.intro|exact aY rfl)(hy:bG y (RV.sc (.int k j)):=by first|exact True.intro|exact aY rfl)(hd:d < n:=by decide):Loc P n ⟨some d,.binOp .neq T x y T2,ty,pos,af,g⟩ ⟨bl x (RV.sc (.int k i))++bl y (RV.sc (.int k j)),[],[(d,some (RV.bool (i != j)))],[],none⟩:=ir hd hx hy rfl fun _=>avQ
def xj{src dst:TypeId}{k2:IntKind}(hS:P.underlying src=some (.int k))(hD:P.underlying dst=some (.int k2))(hj:k2.wrap i=j)(hx:bG x (RV.sc (.int k i)):=by first|exact True.intro|exact aY rfl)(hd:d < n:=by decide) :
  Loc P n ⟨some d,.convert src dst x,ty,pos,af,g⟩ ⟨bl x (RV.sc (.int k i)),[],[(d,some (RV.sc (.int k2 j)))],[],none⟩:=by
 intro h0 w0 Fz0 σ a w K Q h1 h2 _ _ h5;obtain ⟨φ,Fz,Fp,hc⟩:=h1;have ex:=hc.sc h2 hx;refine eH (v:=.int k2 j) (w':=w) ?_ (h5 _ _ (hc.put0 hd (bY.of_sc rfl)));unfold execOp;simp [ex,convert,run_underlying hS,run_underlying hD,Conv.intToInt,hj]
def adn{s:ByteArray}(hS:P.underlying T=some .string)(hx:bG x (RV.sc (.string s)):=by first|exact True.intro|exact aY rfl)(hy:bG y (RV.sc (.int k i)):=by first|exact True.intro|exact aY rfl)(hi:0≤i)(hb:∃b,s[i.toNat]?=some b∧((b.toNat:Nat):Int)=j)(hd:d < n:=by decide) :
  Loc P n ⟨some d,.index T x y,ty,pos,af,g⟩ ⟨bl x (RV.sc (.string s))++bl y (RV.sc (.int k i)),[],[(d,some (RV.sc (.int .u8 j)))],[],none⟩:=by
 intro h0 w0 Fz0 σ a w K Q h1 h2 _ _ h5;obtain ⟨φ,Fz,Fp,hc⟩:=h1;have ex:=hc.sc h2.left hx;have ey:=hc.sc h2.right hy;obtain ⟨b,hb,rfl⟩:=hb;refine eH (v:=.int .u8 (b.toNat:Nat)) (w':=w) ?_ (h5 _ _ (hc.put0 hd (bY.of_sc rfl)));unfold execOp;simp [ex,ey,Instr.index,asIntOf,run_underlying hS,hi,hb]
end
section
variable{h0:Nat→Prop}{w0:World}{Fz0:aC}{σ:St}{Q:Exit→St→Prop}{c1 c2:Code}
end
end
end
section
def mQ:List Value→List PV→List PV
 | u::us,p::ps=>PV.nv u p::mQ us ps
 | _,_=>[]
def JO{Fz:aC}{w:World}:∀{ps:List PV} {us:List Value},aS ps→cC ps Fz w us→aN (mQ us ps) Fz w us []
 | [],us,_,h=>by have h:us=[]:=h;subst h;exact ⟨rfl,rfl⟩
 | p::ps,us,hb,h=>by obtain ⟨v,vs,rfl,h1,h2⟩:=h;exact ⟨v,vs,[],[],rfl,rfl,⟨rfl,hb p aL h1⟩,JO (fun q hq=>hb q (by simp [hq])) h2⟩
def fX(h:Nat→Value):Nat→List PV→List PV
 | _,[]=>[]
 | i,p::ps=>PV.nv (h i) p::fX h (i+1) ps
def JP(h:Nat→Value):∀(ps:List PV) (i:Nat),fX h i ps=mQ ((List.range' i ps.length).map h) ps
 | [],i=>rfl
 | p::ps,i=>by rw [fX,JP h ps (i+1)];rfl
def bz(e:Nat)(zs:List (α×(Nat→Value))):List Value:=(zs.map fun z=>(List.range e).map z.2).flatten
def cb(f:α→List PV)(zs:List (α×(Nat→Value))):List PV:=(zs.map fun z=>f z.1).flatten
def ado:∀{us vs:List Value} {ps qs:List PV},us.length=ps.length→mQ (us++vs) (ps++qs)=mQ us ps++mQ vs qs
 | [],vs,[],qs,_=>rfl
 | u::us,vs,p::ps,qs,h=>by simp only [List.cons_append,mQ];rw [ado qn]
def Rr{us:List Value}(h:us.length=e):∃k:Nat→Value,us=(List.range e).map k:=by
 refine ⟨fun i=>us.getD i undef,?_⟩;subst h;apply List.ext_getElem;·simp
 ·intro i h1 h2
  simp [h1]
def adp{α:Type}{g:α→List PV}{fN:α×(Nat→Value)→List PV}{e:Nat}(hN:∀x h,fN (x,h)=fX h 0 (g x))(hg:∀x,(g x).length=e)(jk:List PV):∀(xs:List α) (us:List Value),us.length=xs.length * e+jk.length →
  ∃(zs:List (α×(Nat→Value))) (vs:List Value),zs.map Prod.fst=xs∧us=bz e zs++vs∧vs.length=jk.length∧mQ us ((xs.map g).flatten++jk)=(zs.map fN).flatten++mQ vs jk
 | [],us,h=>⟨[],us,rfl,rfl,qn,rfl⟩
 | x::xs,us,h=>by
  have hs:(x::xs).length * e=e+xs.length * e:=by rw [List.length_cons,Nat.succ_mul];omega
  obtain ⟨k,hk⟩:=Rr (e:=e) (us:=us.take e) dm;obtain ⟨zs,vs,e1,e2,e3,e4⟩:=adp hN hg jk xs (us.drop e) uB;refine ⟨(x,k)::zs,vs,PJ,?_,e3,?_⟩
  ·rw [←iq e us,hk,e2]
   simp [bz,bn]
  ·rw [←iq e us]
   have:((x::xs).map g).flatten++jk=g x++((xs.map g).flatten++jk):=aL;rw [this,ado (by rw [hg,cc];omega),e4,hk];simp only [List.map_cons,List.flatten_cons,bn];rw [hN,JP,hg,List.range_eq_range']
def adq{α:Type}{f g:α→List PV}(h:∀x,az (f x) (g x)):∀(xs:List α) {js:List PV},az ((xs.map f).flatten++js) ((xs.map g).flatten++js)
 | [],js=>az.refl js
 | x::xs,js=>by
  have k:∀{ps qs rs ss:List PV},az ps qs→az rs ss→az (ps++rs) (qs++ss):=by
   intro ps;induction ps with
   | nil=>intro qs rs ss h1 h2;cases qs with
    | nil=>exact h2
    | cons q qs=>exact h1.elim
   | cons p ps ih=>intro qs rs ss h1 h2;cases qs with
    | nil=>exact h1.elim
    | cons q qs=>exact ⟨h1.1,ih h1.2 h2⟩
  simp only [List.map_cons,List.flatten_cons,bn];exact k (h x) (adq h xs)
def avT{g:α→List PV}(h:∀x,aS (g x))(xs:List α)(jk:List Value):aS ((xs.map g).flatten++jk.map PV.val):=fun p hp=>by
 rcases List.mem_append.1 hp with hp|hp
 ·obtain ⟨cs,hcs,hp⟩:=List.mem_flatten.1 hp
  obtain ⟨x,_,rfl⟩:=List.mem_map.1 hcs;exact h x p hp
 ·obtain ⟨v,_,rfl⟩:=List.mem_map.1 hp
  exact PV.bor_val _
def adr{Fz:aC}{w:World}:∀{jk us vs:List Value} {F:List Nat},aN (mQ us (jk.map PV.val)) Fz w vs F→us.length=jk.length→aN (jk.map PV.val) Fz w vs F
 | [],us,vs,F,h,hl=>by have:us=[]:=jd hl;subst this;exact h
 | j::jk,[],vs,F,h,hl=>by simp at hl
 | j::jk,u::us,vs,F,h,hl=>by obtain ⟨v,vs',F1,F2,rfl,rfl,h1,h2⟩:=h;exact ⟨v,vs',F1,F2,rfl,rfl,h1.2,adr h2 AZ⟩
def avU{f:α→List PV}(hf:∀x,(f x).length=e){zs ys:List (α×(Nat→Value))}(hp:zs.Perm ys):∀{F:List Nat},aN (cb f zs) Fz w (bz e zs) F→∃F',F.Perm F'∧aN (cb f ys) Fz w (bz e ys) F':=by
 have hone:∀{z:α×(Nat→Value)} {l:List (α×(Nat→Value))} {F:List Nat},aN (cb f (z::l)) Fz w (bz e (z::l)) F→∃F1 F2,F=F1++F2∧aN (f z.1) Fz w ((List.range e).map z.2) F1∧aN (cb f l) Fz w (bz e l) F2:=by
  intro z l F h;have h:aN (f z.1++cb f l) Fz w ((List.range e).map z.2++bz e l) F:=h;obtain ⟨v1,v2,F1,F2,e1,rfl,h1,h2⟩:=h.split;have hl:((List.range e).map z.2).length=v1.length:=by rw [h1.len,hf];simp
  obtain ⟨rfl,rfl⟩:=List.append_inj e1 hl;exact ⟨F1,F2,rfl,h1,h2⟩
 induction hp with
 | nil=>intro F h;exact ⟨F,List.Perm.refl _,h⟩
 | cons z _ ih=>
  intro F h;obtain ⟨F1,F2,rfl,h1,h2⟩:=hone h;obtain ⟨F',k1,k2⟩:=ih h2;exact ⟨F1++F',jr F1 k1,h1.append k2⟩
 | swap z y l=>
  intro F h;obtain ⟨F1,F2,rfl,h1,h2⟩:=hone h;obtain ⟨F3,F4,rfl,h3,h4⟩:=hone h2;refine ⟨F3++(F1++F4),?_,h3.append (h1.append h4)⟩;rw [←bn,←bn];exact lU _ ny
 | trans _ _ ih1 ih2=>
  intro F h;obtain ⟨F1,k1,h1⟩:=ih1 h;obtain ⟨F2,k2,h2⟩:=ih2 h1;exact ⟨F2,k1.trans k2,h2⟩
section
variable{P:Program}{n:Nat}{h0:Nat→Prop}{w0:World}{Fz0:aC}{σ:St}{Q:Exit→St→Prop}{c:Code}{ops:Array Oper}
def JQ{G:Nat}{qs:List PV}(hd:σ.b d=some (t,cs))(hG:σ.s G=none)(hq:az cs qs)(hb:aS qs)(h:∀us:List Value,(∃Fz w,cC cs Fz w us)→SW P n h0 w0 Fz0 c ((σ.setB d (some (t,mQ us qs))).set G (some (RV.gh us cs))) Q):SW P n h0 w0 Fz0 c σ Q:=fun a w hc=>by
 obtain ⟨φ,Fz,Fp,hc⟩:=hc;obtain ⟨cur,h1,h2⟩:=hc.box d _ hd;have k0:=hc.pull G;have e0:∀i rv,(σ.set G none).s i=some rv→i≠G∧σ.s i=some rv:=fun i rv hi=>by
  rw [St.set_s] at hi;split at hi;·cases hi
  ·rename_i hne;exact ⟨hne,hi⟩
 have hne:mv Fp (2 * G+1) (2 * d+2)=Fp (2 * d+2):=by simp only [mv];rw [if_neg ab,if_neg ab]
 have hgn:mv Fp (2 * G+1) (2 * G+1)=[]:=hI;generalize hFp1:mv Fp (2 * G+1)=Fp1 at k0 hne hgn;refine h cur.toList ⟨Fz,w,h2.rel⟩ a w ⟨φ,Fz,pq Fp1 (2 * d+2) (2 * G+1),?_⟩;have hsub:∀r b,b∈pq Fp1 (2 * d+2) (2 * G+1) r→∃r',b∈Fp1 r':=fun r b hb=>by
  rcases QK hb with ⟨_,k⟩|⟨_,_,k⟩;·exact ⟨_,k⟩
  ·exact ⟨_,k⟩
 exact { k0 with
  slot:=fun i rv hi=>by
   rw [St.set_s] at hi;split at hi
   ·rename_i e
    subst e;injection hi with hi;subst hi;show aN cs Fz w cur.toList (pq Fp1 (2 * d+2) (2 * i+1) (2 * i+1));simp only [pq,if_true];rw [hne];exact h2
   ·rename_i e
    have:=k0.slot i rv (by rw [St.set_s,if_neg e];exact hi);simp only [pq];rw [if_neg ab,if_neg ab];exact this
  box:=fun e bx he=>by
   rw [St.set_b,St.setB_b] at he;split at he
   ·rename_i e';subst e';injection he with he;subst he
    refine ⟨cur,h1,?_⟩;simp only [pq];rw [if_neg ab,if_pos (by trivial)];exact JO hb (hq.rel h2.rel)
   ·rename_i e'
    obtain ⟨cur',k1,k2⟩:=k0.box e bx he;refine ⟨cur',k1,?_⟩;simp only [pq];rw [if_neg ab,if_neg ab];exact k2
  bxb:=fun e bx he=>by
   have:∃z,(σ.set G none).b e=some z:=by
    rw [St.set_b,St.setB_b] at he;split at he;·rename_i e';subst e';exact ⟨_,hd⟩
    ·exact ⟨_,he⟩
   obtain ⟨z,hz⟩:=this;obtain ⟨g1,g2,g3⟩:=k0.bxb e z hz;exact ⟨g1,g2,fun r hr=>by obtain ⟨r',h'⟩:=hsub r _ hr;exact g3 r' h'⟩
  inj:=fun e e' c1 c2 he he'=>by
   have f:∀x y,((σ.setB d (some (t,mQ cur.toList qs))).set G (some (RV.gh cur.toList cs))).b x=some y→∃z,(σ.set G none).b x=some z:=by
    intro x y hx;rw [St.set_b,St.setB_b] at hx;split at hx;·rename_i e';subst e';exact ⟨_,hd⟩
    ·exact ⟨_,hx⟩
   obtain ⟨z1,f1⟩:=f _ _ he;obtain ⟨z2,f2⟩:=f _ _ he';exact k0.inj e e' z1 z2 f1 f2
  dis:=avz k0.dis
  nod:=avA k0.nod
  low:=fun r b hb=>by obtain ⟨r',h'⟩:=hsub r b hb;exact k0.low r' b h' }
def avV{G:Nat}{f g:α→List PV}{fN:α×(Nat→Value)→List PV}{xs:List α}(hd:σ.b d=some (t,bX f xs jk))(hG:σ.s G=none)(hN:∀x h,fN (x,h)=fX h 0 (g x))(hg:∀x,(g x).length=e)(hq:∀x,az (f x) (g x))(hb:∀x,aS (g x))
  (h:∀zs:List (α×(Nat→Value)),zs.map Prod.fst=xs→SW P n h0 w0 Fz0 c ((σ.setB d (some (t,bX fN zs jk))).set G (some (RV.gh (bz e zs) (cb f zs)))) Q):SW P n h0 w0 Fz0 c σ Q:=by
 refine JQ hd hG (adq hq xs) (avT hb xs jk) fun us hus=>?_;intro a w hc;have hfl:∀x,(f x).length=e:=fun x=>by rw [(hq x).len];exact hg x
 have hlen:us.length=xs.length * e+(jk.map PV.val).length:=by obtain ⟨_,_,hr⟩:=hus;rw [hr.len];unfold bX;rw [bv,Bg (e:=e) (fun cs hcs=>by obtain ⟨x,_,rfl⟩:=List.mem_map.1 hcs;exact hfl x),aU]
 obtain ⟨zs,vs,e1,e2,e3,e4⟩:=adp hN hg (jk.map PV.val) xs us hlen;have hvl:(bz e zs).length=(cb f zs).length:=by
  unfold bz cb;rw [Bg (e:=e) (fun cs hcs=>by obtain ⟨x,_,rfl⟩:=List.mem_map.1 hcs;exact hfl x.1)];have:∀l:List (α×(Nat→Value)),(l.map fun z=>(List.range e).map z.2).flatten.length=l.length * e:=by
   intro l;induction l with
   | nil=>simp
   | cons z l ih=>rw [List.map_cons,List.flatten_cons,bv,ih,List.length_cons,Nat.succ_mul];simp;omega
  rw [this,aU]
 have hfm:cb f zs=(xs.map f).flatten:=by unfold cb;rw [←e1,List.map_map];rfl
 refine h zs e1 a w ?_;obtain ⟨φ,Fz,Fp,hc⟩:=hc;refine ⟨φ,Fz,Fp,{ hc with slot:=fun i rv hi=>?_,box:=fun b bx hb'=>?_,bxb:=fun b bx hb'=>?_,inj:=fun b b' c1 c2 hb1 hb2=>?_ }⟩
 ·rw [St.set_s] at hi
  split at hi
  ·rename_i hiG
   injection hi with hi;subst hi;have:=hc.slot i _ (by rw [St.set_s,if_pos hiG]);have this:aN (bX f xs jk) Fz w us (Fp (2 * i+1)):=this;unfold bX at this;rw [e2] at this;obtain ⟨v1,v2,F1,F2,k1,k2,k3,k4⟩:=this.split;have hF2:F2=[]:=by
    have:∀(jk:List Value) (v2:List Value) (G2:List Nat),aN (jk.map PV.val) Fz w v2 G2→G2=[]:=by
     intro jk;induction jk with
     | nil=>intro v2 G2 h;exact h.2
     | cons j jk ih=>
      intro v2 G2 h;obtain ⟨v,vs',F1,F2,_,rfl,h1,h2⟩:=h;rw [ih _ _ h2,h1.2];rfl
    exact this _ _ _ k4
   obtain ⟨rfl,rfl⟩:=List.append_inj k1 (by rw [hvl,k3.len,hfm]);show aN (cb f zs) Fz w (bz e zs) (Fp (2 * i+1));rw [k2,hF2,fS,hfm];exact k3
  ·rename_i hiG
   exact hc.slot i rv (by rw [St.set_s,if_neg hiG];exact hi)
 ·rw [St.set_b,St.setB_b] at hb'
  split at hb'
  ·rename_i hbd
   injection hb' with hb';subst hb';obtain ⟨cur,k1,k2⟩:=hc.box b (t,mQ us ((xs.map g).flatten++jk.map PV.val)) (by rw [St.set_b,St.setB_b,if_pos hbd]);refine ⟨cur,k1,?_⟩;have k2:aN (mQ us ((xs.map g).flatten++jk.map PV.val)) Fz w cur.toList (Fp (2 * b+2)):=k2;rw [e4] at k2;obtain ⟨v1,v2,F1,F2,q1,q2,q3,q4⟩:=k2.split;rw [q1,q2];exact q3.append (adr q4 (by rw [e3,aU]))
  ·rename_i hbd
   exact hc.box b bx (by rw [St.set_b,St.setB_b,if_neg hbd];exact hb')
 ·have:∃z,((σ.setB d (some (t,mQ us ((xs.map g).flatten++jk.map PV.val)))).set G (some (RV.gh us (bX f xs jk)))).b b=some z:=by
   rw [St.set_b,St.setB_b] at hb' ⊢;split at hb';·rename_i hbd;rw [if_pos hbd];exact ⟨_,rfl⟩
   ·rename_i hbd;rw [if_neg hbd];exact ⟨_,hb'⟩
  obtain ⟨z,hz⟩:=this;exact hc.bxb b z hz
 ·have:∀x y,((σ.setB d (some (t,bX fN zs jk))).set G (some (RV.gh (bz e zs) (cb f zs)))).b x=some y→∃z,((σ.setB d (some (t,mQ us ((xs.map g).flatten++jk.map PV.val)))).set G (some (RV.gh us (bX f xs jk)))).b x=some z:=by
   intro x y hx;rw [St.set_b,St.setB_b] at hx ⊢;split at hx;·rename_i hbd;rw [if_pos hbd];exact ⟨_,rfl⟩
   ·rename_i hbd;rw [if_neg hbd];exact ⟨_,hx⟩
  obtain ⟨z1,f1⟩:=this _ _ hb1;obtain ⟨z2,f2⟩:=this _ _ hb2;exact hc.inj b b' z1 z2 f1 f2
def Rs{α:Type}{g:α→List PV}{fN:α×(Nat→Value)→List PV}{e:Nat}(hN:∀x h,fN (x,h)=fX h 0 (g x))(hg:∀x,(g x).length=e){Fz:aC}{w:World}:∀{zs:List (α×(Nat→Value))} {js:List PV} {us:List Value},cC ((zs.map fN).flatten++js) Fz w us→∃vs,us=bz e zs++vs∧cC js Fz w vs
 | [],js,us,h=>⟨us,rfl,h⟩
 | z::zs,js,us,h=>by
  have hk:∀(ps:List PV) (i:Nat) (k:Nat→Value) (vs:List Value),cC (fX k i ps) Fz w vs→vs=(List.range' i ps.length).map k:=by
   intro ps;induction ps with
   | nil=>intro i k vs h;exact h
   | cons p ps ih=>
    intro i k vs h;obtain ⟨v,vs',rfl,h1,h2⟩:=h;rw [ih _ _ _ h2,h1.1];rfl
  simp only [List.map_cons,List.flatten_cons,bn] at h;obtain ⟨v1,v2,rfl,h1,h2⟩:=h.split;obtain ⟨vs,rfl,h3⟩:=Rs hN hg h2;obtain ⟨x,k⟩:=z;rw [hN] at h1;have:=hk _ _ _ _ h1;rw [hg] at this;refine ⟨vs,?_,h3⟩;rw [this];simp [bz,List.range_eq_range']
def ads{T T2:TypeId}{k k2:IntKind}{j:Int}(hm:j=(m:Int))(hb:m≤k.bits)(hx:bG x (RV.sc (.int k i)):=by first|exact True.intro|exact aY rfl)(hy:bG y (RV.sc (.int k2 j)):=by first|exact True.intro|exact aY rfl)(hd:d < n:=by decide) :
  Loc P n ⟨some d,.binOp .shr T x y T2,ty,pos,af,g⟩ ⟨bl x (RV.sc (.int k i))++bl y (RV.sc (.int k2 j)),[],[(d,some (RV.sc (.int k (i.fdiv (2 ^ m)))))],[],none⟩:=by
 subst hm;refine ir hd hx hy rfl fun w=>?_;have h1:¬(m:Int) < 0:=ab;simp [eqGuard,binOp,Op.shift,h1,Nat.min_eq_left hb]
def adt:i.fdiv (2 ^ 1)=i / 2:=by rw [Int.fdiv_eq_ediv_of_nonneg _ ai];rfl
end
end
def aD.view{P:Program}{f:FuncId}{args:List (Bool×List PV)}{qs:List PV}(ht:az cs qs)(hb:aS qs)(h:aD P f args (RV.sv ag cs)):aD P f args (RV.sv ag qs):=fun w vs Fz hz hr=>by refine (h w vs Fz hz hr).mono ?_;rintro e w' ⟨v,Fz',F,e1,hb1,h1,h2,hv,hn,hF⟩;exact ⟨v,Fz',[],e1,hb1,h1,h2,fun φ=>Cp.sv ht hb (hv φ),List.nodup_nil,fun b hb=>nomatch hb⟩
section
section
variable{P:Program}{n:Nat}{h0:Nat→Prop}{w0:World}{Fz0:aC}{Q:Exit→St→Prop}{c:Code}
end
end
section
section
variable{P:Program}{n:Nat}{h0:Nat→Prop}{w0:World}{Fz0:aC}
section
variable{σ:St}{a:Act}{w:World}{φ:Nat→Nat}{Fz:aC}{Fp:Nat→List Nat}
end
section
variable{ops:Array Oper}{Q:Exit→St→Prop}
end
variable{Q:Exit→St→Prop}{c:Code}
def ze{σ:St}(qs:List PV)(hs:σ.s s=some (RV.sv ag cs))(ht:az cs qs)(hb:aS qs)(h:SW P n h0 w0 Fz0 c (σ.set s (some (RV.sv ag qs))) Q):SW P n h0 w0 Fz0 c σ Q:=fun a w hc=>by
 obtain ⟨φ,Fz,Fp,hc⟩:=hc;have hv:bY ag cs Fz w (a.tmps.getD s undef) (Fp (2 * s+1)):=hc.slot s _ hs;have c1:=(hc.pull s).reslot (s:=s) (rv:=RV.sv ag qs) (by have:mv Fp (2 * s+1) (2 * s+1)=[]:=hI;rw [this];exact ⟨hv.1,hb.own (ht.rel hv.2.rel)⟩)
 exact h a w (bB.eqv ⟨φ,Fz,_,c1⟩ (fun i=>by simp only [St.set_s];split<;>rfl) (fun d=>rfl))
end
end
section
def Rt(P:Program)(f:FuncId)(t:Nat)(args:List (Bool×List PV))(cs:List PV):Prop:=
 ∀(w:World) (vs:List Value) (Fz:aC),(∀b o,Fz b o→b < w.heap.size)→hJ args Fz w vs→Calls P f vs.toArray w fun e w'=>∃g Fz' cur,e = .returned (.pointer (some ⟨g,0,none⟩))∧Below w.heap.size w w' ∧
  (∀b o,b < w.heap.size→(Fz' b o↔Fz b o))∧(∀b o,Fz' b o→b < w'.heap.size)∧w.heap.size≤g∧w'.heap[g]?=some (.cells cur t (0,0))∧(∀o,¬Fz' g o)∧aN cs Fz' w' cur.toList []
def Ru(rs t:Nat)(cs:List PV)(τ:St):Prop:=∃D,τ.s rs=some (RV.ptr D 0)∧τ.b D=some (t,cs)
def avW(rs t:Nat)(cs:List PV):Exit→St→Prop
 | .normal,τ=>Ru rs t cs τ
 | .ret,τ=>Ru rs t cs τ
 | _,_=>False
section
variable{P:Program}{n:Nat}{h0:Nat→Prop}{w0:World}{Fz0:aC}
def avX{f:FuncId}{fn:Func}{c:Code}{args:List (Bool×List PV)}{rs:Nat}(hf:P.funcs[f]?=some fn)(hb:fn.body=some c)(hres0:fn.results.toList=[.tmp rs])(hn:args.length≤fn.ntmps)(hbor:∀q,q∈args→aS q.2)(hbc:aS cs)
  (h:∀(h0:Nat→Prop) (w0:World) (Fz0:aC),SW P fn.ntmps h0 w0 Fz0 c (St.of (jv 0 args) []) (avW rs t cs)):Rt P f t args cs:=by
 intro w vs Fz hz hrel;have hvl:=hrel.len;refine calls_of_wp hf hb ?_;have hc:bB (fun b=>b < w.heap.size) w Fz fn.ntmps (St.of (jv 0 args) []) { tmps:=vs.toArray++Array.replicate (fn.ntmps - vs.toArray.size) undef,defers:=[] } w:=by
  refine ⟨fun _=>0,Fz,fun _=>[],⟨re.refl _ _,rfl,jq,fun _ hb=>hb,fun _ _ _=>Iff.rfl,hz,fun i rv hi=>?_,fun d cs hd=>uz,fun d cs hd=>uz,fun d d' cs cs' hd=>uz,fun _ _ _ b hb=>Jk,fun _=>List.nodup_nil,fun _ b hb=>Jk⟩⟩;obtain ⟨j,v,e1,e2,e3,e4⟩:=BorT.own (φ:=fun _=>0) hbor hrel hi;rw [Nat.zero_add] at e1;subst e1;have:(vs.toArray++Array.replicate (fn.ntmps - vs.toArray.size) undef).getD i undef=v:=by rw [Array.getD_eq_getD_getElem?,Array.getElem?_append_left Jh];simp [e3]
  rw [this];exact e4
 refine wp_mono (h _ w Fz _ w hc) fun e a' w' ⟨τ,hq,hc'⟩=>?_;obtain ⟨φ,Fz',Fp,hc'⟩:=hc'
 have hres:Ru rs t cs τ→a'.defers=[]∧∃v,(results fn a'.tmps).run P w' = .ok v w'∧∃g Fz' cur,Ending.returned v = .returned (.pointer (some ⟨g,0,none⟩))∧Below w.heap.size w w' ∧
   (∀b o,b < w.heap.size→(Fz' b o↔Fz b o))∧(∀b o,Fz' b o→b < w'.heap.size)∧w.heap.size≤g∧w'.heap[g]?=some (.cells cur t (0,0))∧(∀o,¬Fz' g o)∧aN cs Fz' w' cur.toList []:=by
  rintro ⟨D,k1,k2⟩;have hp:=(hc'.slot rs _ k1).1;obtain ⟨cur,q1,q2⟩:=hc'.box D _ k2;obtain ⟨m1,m2,m3⟩:=hc'.bxb D _ k2;refine ⟨hc'.dfr,?_⟩;rw [QG];have erun:Sem.run P (fn.results.mapM (uH a'.tmps)) w' = .ok #[.pointer (some ⟨φ D,0,none⟩)] w':=by rw [Array.mapM_eq_mapM_toList,hres0];simp only [map_eq_pure_bind,List.mapM_cons,List.mapM_nil,uH,Sem.run_bind,Sem.run_pure,Result.andThen_ok,hp]
  simp only [Sem.run_bind,erun,Result.andThen_ok,Sem.run_pure];exact ⟨_,rfl,φ D,Fz',cur,rfl,⟨hc'.bel.os,hc'.bel.tape,hc'.bel.output,hc'.bel.size,hc'.bel.block⟩,hc'.fz0,hc'.fzl,Nat.le_of_not_lt m1,q1,m2,hbc.own q2.rel⟩
 cases e with
 | normal=>exact hres hq
 | ret=>exact hres hq
 | _=>exact hq.elim
def avY(hd:d < n)(hf:aB P f=true)(hok:mI args.toList qs)(hto:pp qs as_)(hs:Rt P f t as_ cs) :
  Loc P n ⟨some d,.call { callee:=.value (.func f),args:=args,argTypes:=tys },ty,pos,af,g⟩ ⟨kL args.toList qs,[],[(d,some (RV.ptr d 0))],[(d,some (t,cs))],some d⟩:=by
 intro h0 w0 Fz0 σ a w K Q hc hr _ h4 h5;obtain ⟨φ,Fz,Fp,hc⟩:=hc;have hrel:=hto.rel (hc.relT hr hok);unfold Oper.wp;rw [Rn hf,Oper.upon_enter];refine (hs w _ Fz hc.fzl hrel).mono ?_;rintro e w' ⟨G,Fz',cur,rfl,hbl,hz1,hz2,hG,hg,hgz,ho⟩;refine h5 _ _ ?_;have hglt:G < w'.heap.size:=(Array.getElem?_eq_some_iff.1 hg).1
 have k:=(hc.drop d).world (w':=w') (Fz':=Fz') (X:=[G]) hbl.os hbl.tape hbl.output hbl.size (fun b hb' _=>⟨hbl.block b hb',fun o ho=>(hz1 b o hb').1 ho⟩)
  (fun b o ho=>⟨(hz1 b o (hc.fzl b o ho)).2 ho,World.cell?_of_block (hbl.block b (hc.fzl b o ho))⟩) hz2 (fun b hb'=>.inr (by rw [List.mem_singleton] at hb';subst hb';exact ⟨hG,hglt⟩)) aL
 have k2:=k.pushB (d:=d) (g:=G) (t:=t) (cs:=cs) (F:=[]) (X:=[]) mF hg ho hgz (fun b hb=>by simpa using hb) aL (.inr (h4 d rfl));have k3:=k2.push (i:=d) (rv:=RV.ptr d 0) (v:=.pointer (some ⟨G,0,none⟩)) (F:=[]) (X:=[]) hd ⟨aL,rfl⟩ (fun b hb=>nomatch hb) aL;exact bB.eqv ⟨_,_,_,k3⟩ (fun i=>rfl) (fun e=>by show bK [(d,some (t,cs))] σ.b e=_;rw [St.set_b,St.setB_b,St.setB_b];simp only [bK,beq_eq];by_cases he:e=d<;>simp [he])
end
def rr{P:Program}{n x b:Nat}(hd:d < n):Loc P n ⟨some d,.nilCheck (.tmp x),ty,pos,af,g⟩ ⟨[(x,RV.ptr b off)],[],[(d,some (RV.ptr b off))],[],none⟩:=by intro h0 w0 Fz0 σ a w K Q h1 h2 _ _ h5;obtain ⟨φ,Fz,Fp,hc⟩:=h1;have ex:=(hc.slot x _ h2.1).1;refine eH (v:=.pointer (some ⟨φ b,off,none⟩)) (w':=w) ?_ (h5 _ _ (hc.put0 hd (r:=RV.ptr b off) ⟨rfl,rfl⟩));unfold execOp;simp only [Act.eval,ex,Sem.run_pure]
section
variable{P:Program}{n:Nat}{h0:Nat→Prop}{w0:World}{Fz0:aC}{σ:St}{Q:Exit→St→Prop}{c:Code}
end
def JR(x y:Int):Int:=IntKind.i64.wrap (x * y)
def zg(x y:Int):Int:=IntKind.i64.wrap (x+y)
def uP(x y:Int):Int:=IntKind.i64.wrap (BitVec.ofInt 64 x &&& BitVec.ofInt 64 y).toNat
def JS(x y:Int):Int:=IntKind.i64.wrap (BitVec.ofInt 64 x ^^^ BitVec.ofInt 64 y).toNat
def adu{x:Int}(hm:m < 2 ^ 62):0≤uP x (m:Int)∧uP x (m:Int)≤m:=by
 have e:(BitVec.ofInt 64 (m:Int)).toNat=m:=by rw [BitVec.toNat_ofInt];omega
 have h:(BitVec.ofInt 64 x &&& BitVec.ofInt 64 (m:Int)).toNat≤m:=by rw [BitVec.toNat_and,e];exact Nat.and_le_right
 unfold uP;rw [IntWalk.i64_in _ ab];omega
section
variable{P:Program}{n:Nat}{T T2:TypeId}{x y:Operand}{d:Nat}{ty:TypeId}{pos:String}{af:Array Edge}{g:Option (Nat×Bool)}{i j:Int}
def adv(hd:d < n)(hx:bG x (RV.int i))(hy:bG y (RV.int j)):Loc P n ⟨some d,.binOp .mul T x y T2,ty,pos,af,g⟩ ⟨bl x (RV.int i)++bl y (RV.int j),[],[(d,some (RV.int (JR i j)))],[],none⟩:=
 ir hd hx hy rfl fun w=>by simp [eqGuard,binOp,Op.intArith,JR]
def JT(hd:d < n)(hx:bG x (RV.int i))(hy:bG y (RV.int j)):Loc P n ⟨some d,.binOp .add T x y T2,ty,pos,af,g⟩ ⟨bl x (RV.int i)++bl y (RV.int j),[],[(d,some (RV.int (zg i j)))],[],none⟩:=
 ir hd hx hy rfl fun w=>by simp [eqGuard,binOp,Op.intArith,zg]
def Rv(hd:d < n)(hx:bG x (RV.int i))(hy:bG y (RV.int j)):Loc P n ⟨some d,.binOp .and T x y T2,ty,pos,af,g⟩ ⟨bl x (RV.int i)++bl y (RV.int j),[],[(d,some (RV.int (uP i j)))],[],none⟩:=
 ir hd hx hy rfl fun w=>by simp [eqGuard,binOp,Op.intBits,IntKind.bits];unfold uP;rw [BitVec.toNat_and,BitVec.toNat_ofInt,BitVec.toNat_ofInt];rfl
def adw(hd:d < n)(hx:bG x (RV.int i))(hy:bG y (RV.int j)):Loc P n ⟨some d,.binOp .xor T x y T2,ty,pos,af,g⟩ ⟨bl x (RV.int i)++bl y (RV.int j),[],[(d,some (RV.int (JS i j)))],[],none⟩:=
 ir hd hx hy rfl fun w=>by simp [eqGuard,binOp,Op.intBits,IntKind.bits];unfold JS;rw [BitVec.toNat_xor,BitVec.toNat_ofInt,BitVec.toNat_ofInt];rfl
end
end
section
abbrev am:=List UInt8
abbrev B(l:am):ByteArray:=⟨l.toArray⟩
abbrev RV.str(l:am):RV:=RV.sc (.string (B l))
section
variable{P:Program}{n:Nat}{T T2:TypeId}{x y:Operand}{d:Nat}{ty:TypeId}{pos:String}{af:Array Edge}{g:Option (Nat×Bool)}{s t:am}
def avZ(h:s.length+t.length≤9223372036854775807):Sem.run P (do eqGuard .add T x y (.string (B s)) (.string (B t));binOp .add T (.string (B s)) (.string (B t)):Sem Value) w = .ok (.string (B (s++t))) w:=by have e:=run_string_add_sum (P:=P) w (B s) (B t) h;rw [ByteArray.mk_append_mk] at e;simp [eqGuard,binOp,e]
def cP(hx:bG x (RV.str s):=by first|exact True.intro|exact aY rfl)(hy:bG y (RV.str t):=by first|exact True.intro|exact aY rfl)(h:s.length+t.length≤9223372036854775807:=by (try simp only [bv,List.length_cons,List.length_nil]);omega)(hd:d < n:=by decide):Loc P n ⟨some d,.binOp .add T x y T2,ty,pos,af,g⟩ ⟨bl x (RV.str s)++bl y (RV.str t),[],[(d,some (RV.str (s++t)))],[],none⟩:=
 ir hd hx hy rfl fun w=>avZ h
def pA(hx:bG x (RV.str s):=by first|exact True.intro|exact aY rfl)(hy:bG y (RV.str t):=by first|exact True.intro|exact aY rfl)(hd:d < n:=by decide):Loc P n ⟨some d,.binOp .eql T x y T2,ty,pos,af,g⟩ ⟨bl x (RV.str s)++bl y (RV.str t),[],[(d,some (RV.bool (s==t)))],[],none⟩:=
 ir hd hx hy rfl fun w=>by simp [eqGuard,binOp,Op.stringOp,ByteArray.toList_mk]
def uQ(hx:bG x (RV.str s):=by first|exact True.intro|exact aY rfl)(hy:bG y (RV.str t):=by first|exact True.intro|exact aY rfl)(hd:d < n:=by decide):Loc P n ⟨some d,.binOp .neq T x y T2,ty,pos,af,g⟩ ⟨bl x (RV.str s)++bl y (RV.str t),[],[(d,some (RV.bool (!(s==t))))],[],none⟩:=
 ir hd hx hy rfl fun w=>by simp [eqGuard,binOp,Op.stringOp,ByteArray.toList_mk]
def jh(hT:P.underlying T=some .string)(hd:d < n:=by decide):Loc P n ⟨some d,.call { callee:=.builtin .len,args := #[.tmp k],argTypes := #[T] },ty,pos,af,g⟩ ⟨[(k,RV.str s)],[],[(d,some (RV.int (s.length:Int)))],[],none⟩:=
 ave (b:=B s) hd hT
def JU{s:ByteArray}{lo hi:Option Value}(w:World)(hT:P.underlying T=some .string):Sem.run P (Instr.sliceAt T (.string s) lo hi none) w=Sem.run P (Instr.slice T (.string s) lo hi none) w:=by simp only [Instr.sliceAt,Sem.run_bind,run_underlying hT,Result.andThen_ok]
def JV{lo hi:Option Operand}{i j:Nat}{q r:Int}(hT:P.underlying T=some .string)(hlo:yZ lo (i=0) (RV.int q))(hhi:yZ hi (j=s.length) (RV.int r))(hq:q=(i:Int))(hr:r=(j:Int))(hij:i≤j)(hj:j≤s.length){u:am}(hu:(s.take j).drop i=u)(hd:d < n:=by decide) :
  Loc P n ⟨some d,.slice T (.tmp k) lo hi none,ty,pos,af,g⟩ ⟨(k,RV.str s)::(Bj lo (RV.int q)++Bj hi (RV.int r)),[],[(d,some (RV.str u))],[],none⟩:=by
 subst hq hr hu;have e:∀a b:Nat,(B s).extract a b=B ((s.drop a).take (b - a)):=ByteArray.extract_mk s;have hsz:(B s).size=s.length:=rfl;intro h0 w0 Fz0 σ a w K Q hc hr _ _ h5;obtain ⟨φ,Fz,Fp,hc⟩:=hc;have ev:a.eval (.tmp k) = .string (B s):=(hc.one_ hr.1).1;have hres:(s.take j).drop i=(s.drop i).take (j - i):=by rw [List.take_drop,Nat.add_sub_cancel' hij]
 refine eH (v:=.string (B ((s.take j).drop i))) (w':=w) ?_ (h5 _ _ (hc.put0 hd (bY.of_sc rfl)));rw [hres];unfold execOp;cases lo with
 | none=>
  have hi0:i=0:=hlo;subst hi0;cases hi with
  | none=>
   have hj0:j=s.length:=hhi;subst hj0;simp only [Option.map_none,ev,JU _ hT,run_slice_string_all _ _ _ hT,e,hsz,Sem.run_bind,Result.andThen_ok,Sem.run_pure]
  | some y=>
   have ey:=hc.sc hr.2 hhi;have hc2:(0:Int)≤(j:Int)∧(j:Int)≤((B s).size:Int):=by rw [hsz];omega
   simp only [Option.map_none,Option.map_some,JU _ hT,ev,ey,run_slice_string_to_if _ _ _ _ _ hT,if_pos hc2,e,Sem.run_bind,Result.andThen_ok,Sem.run_pure,Int.toNat_natCast]
 | some x=>
  have ex:=hc.sc hr.2.left hlo;cases hi with
  | none=>
   have hj0:j=s.length:=hhi;subst hj0;have hc2:(0:Int)≤(i:Int)∧(i:Int)≤((B s).size:Int):=by rw [hsz];omega
   simp only [Option.map_none,Option.map_some,JU _ hT,ev,ex,run_slice_string_from_if _ _ _ _ _ hT,if_pos hc2,e,Sem.run_bind,Result.andThen_ok,Sem.run_pure,Int.toNat_natCast];rfl
  | some y=>
   have ey:=hc.sc hr.2.right hhi;simp only [Option.map_none,Option.map_some,JU _ hT,ev,ex,ey,run_slice_string _ _ _ _ _ _ _ hT (by omega:(0:Int)≤(i:Int)) (by omega:(i:Int)≤(j:Int)) (by rw [hsz];omega:(j:Int)≤((B s).size:Int)),e,Sem.run_bind,Result.andThen_ok,Sem.run_pure,Int.toNat_natCast]
def kr(xs:List Int):am:=xs.map fun n=>UInt8.ofNat n.toNat
def adx:∀(ns:List Int) (s:am),ns.foldl (fun r n=>r.push (UInt8.ofNat n.toNat)) (B s)=B (s++kr ns)
 | [],s=>by simp [kr]
 | n::ns,s=>by rw [List.foldl_cons,show (B s).push (UInt8.ofNat n.toNat)=B (s++[UInt8.ofNat n.toNat]) from by apply ByteArray.ext;simp [ByteArray.push],adx ns];simp [kr]
def av0{T D:Nat}{xs:List Int}{f:Int→List PV}(hS:P.underlying T=some (.slice e))(he:P.underlying e=some (.int .u8))(hD:P.underlying D=some .string)(hf:∀x,f x=[PV.val (.int .u8 x)])(hd:d < n:=by decide) :
  Loc P n ⟨some d,.convert T D (.tmp k),ty,pos,af,g⟩ ⟨[(k,RV.slc o (xs.map f))],[],[(d,some (RV.str (kr xs)))],[],none⟩:=by
 intro h0 w0 Fz0 σ a w K Q hc hr _ _ h5;obtain ⟨φ,Fz,Fp,hc⟩:=hc;obtain ⟨ad,c,e',u,ev,h1,h2,h3,h4,h6⟩:=hc.slrel hr.1;have es':a.eval (.tmp k) = .slice ad xs.length c:=by rw [←aU (f:=f)];exact ev
 refine eH (v:=.string (B (kr xs))) (w':=w) ?_ (h5 _ _ (hc.put0 hd (bY.of_sc rfl)));unfold execOp;simp only [es',Sem.run_bind,run_convert_bytes_string _ _ _ _ _ _ _ hS he hD];rcases h4 with h4|⟨b,off,rfl,h4⟩
 ·have hx:xs=[]:=by simpa using h4
  subst hx;cases ad with
  | none=>simp [Conv.bytesToString,kr];rfl
  | some ad=>
   rw [run_bytesToString w ad _ c [] (by simp [loadCells,loadCellsFrom])];simp [kr];rfl
 ·have hcells:∀(j:Nat) v,(xs.map (Value.int .u8))[j]?=some v→w.cell? ((⟨b,off,none⟩:Addr).add j)=some v:=by
   intro j v hv;rw [List.getElem?_map,Option.map_eq_some_iff] at hv;obtain ⟨x,hx,rfl⟩:=hv;have hj:j < xs.length:=(List.getElem?_eq_some_iff.1 hx).1;have hm:(xs.map f)[j]?=some [PV.val (.int .u8 x)]:=by rw [List.getElem?_map,hx,←hf];rfl
   have he1:e'=1:=(h3 _ (List.mem_of_getElem? hm)).symm;subst he1;have hu:=(h6 j _ 0 _ hm rfl).1;have:=(h4 j 0 (by simpa using hj) ai).2;rw [hu] at this;rw [qo];simpa using this
  have hl:=run_loadCells_list (P:=P) (w:=w) ⟨b,off,none⟩ (xs.map (Value.int .u8)) hcells;rw [aU] at hl;rw [run_bytesToString w _ _ c xs hl];have:=adx xs [];rw [show (B []:ByteArray)=ByteArray.empty from rfl,List.nil_append] at this;simp [this]
def Rw{T D:Nat}{z:Int}(hS:P.underlying T=some (.slice e))(he:P.underlying e=some (.int .u8))(hD:P.underlying D=some .string)(hd:d < n:=by decide) :
  Loc P n ⟨some d,.convert T D (.tmp k),ty,pos,af,g⟩ ⟨[(k,RV.slc o [[PV.val (.int .u8 z)]])],[],[(d,some (RV.str (kr [z])))],[],none⟩:=
 av0 (xs:=[z]) (f:=fun x=>[PV.val (.int .u8 x)]) hS he hD (fun _=>rfl) hd
def Rx{j:Int}(hx:bG x (RV.int i):=by first|exact True.intro|exact aY rfl)(hy:bG y (RV.int j):=by first|exact True.intro|exact aY rfl)(hj:j≠0:=by omega)(h:dN (i.tdiv j):=by unfold dN;omega)(hd:d < n:=by decide):Loc P n ⟨some d,.binOp .quo T x y T2,ty,pos,af,g⟩ ⟨bl x (RV.int i)++bl y (RV.int j),[],[(d,some (RV.int (i.tdiv j)))],[],none⟩:=
 ir hd hx hy rfl fun w=>by have e:IntKind.i64.wrap (i.tdiv j)=i.tdiv j:=IntWalk.i64_in _ h;simp [eqGuard,binOp,Op.intDiv,hj,e]
def Ry(h:dN (-i):=by unfold dN;omega)(hd:d < n:=by decide):Loc P n ⟨some d,.unOp .neg T (.tmp k),ty,pos,af,g⟩ ⟨[(k,RV.int i)],[],[(d,some (RV.int (-i)))],[],none⟩:=by intro h0 w0 Fz0 σ a w K Q hc hr _ _ h5;obtain ⟨φ,Fz,Fp,hc⟩:=hc;have es':a.eval (.tmp k) = .int .i64 i:=(hc.one_ hr.1).1;have e:IntKind.i64.wrap (-i) = -i:=IntWalk.i64_in _ h;refine eH (v:=.int .i64 (-i)) (w':=w) ?_ (h5 _ _ (hc.put0 hd (bY.of_sc rfl)));unfold execOp;simp [es',Op.unary,Op.intArith,e]
end
structure rt where
 rel:aC→World→Prop
 mono:∀{Fz Fz':aC} {w w':World},rel Fz w→jt Fz w Fz' w'→rel Fz' w'
def RV.glob(G:rt):RV where
 holds _ Fz w _ F:=G.rel Fz w∧F=[]
 men _:=false
 mono h k _ _:=⟨G.mono h.1 k,h.2⟩
 lt h:=qk
def eJ(P:Program)(G:rt)(f:FuncId)(args:List (Bool×List PV))(r:RV):Prop:=
 ∀(w:World) (vs:List Value) (Fz:aC),(∀b o,Fz b o→b < w.heap.size)→G.rel Fz w→hJ args Fz w vs→Calls P f vs.toArray w fun e w'=>∃v Fz' F,e = .returned v∧Below w.heap.size w w' ∧
  (∀b o,b < w.heap.size→(Fz' b o↔Fz b o))∧(∀b o,Fz' b o→b < w'.heap.size)∧(∀φ,r.holds φ Fz' w' v F)∧F.Nodup∧∀b,b∈F→w.heap.size≤b∧b < w'.heap.size
section
variable{P:Program}{n:Nat}{G:rt}
def av1(hd:d < n)(hf:aB P f=true)(hok:mI args.toList qs)(hto:pp qs as_)(hs:eJ P G f as_ r) :
  Loc P n ⟨some d,.call { callee:=.value (.func f),args:=args,argTypes:=tys },ty,pos,af,g⟩ ⟨(7000,RV.glob G)::kL args.toList qs,[],[(d,some r)],[],none⟩:=by
 intro h0 w0 Fz0 σ a w K Q hc hr _ _ h5;obtain ⟨φ,Fz,Fp,hc⟩:=hc;have hG:G.rel Fz w:=(hc.slot 7000 _ hr.1).1;have hrel:=hto.rel (hc.relT hr.2 hok);unfold Oper.wp;rw [Rn hf,Oper.upon_enter];refine (hs w _ Fz hc.fzl hG hrel).mono ?_;rintro e w' ⟨v,Fz',F,rfl,hb,hz1,hz2,hv,hn,hF⟩;refine h5 _ _ ?_
 have k:=hc.world (w':=w') (Fz':=Fz') (X:=F) hb.os hb.tape hb.output hb.size (fun b hb' _=>⟨hb.block b hb',fun o ho=>(hz1 b o hb').1 ho⟩)
  (fun b o ho=>⟨(hz1 b o (hc.fzl b o ho)).2 ho,World.cell?_of_block (hb.block b (hc.fzl b o ho))⟩) hz2 (fun b hb'=>.inr (hF b hb')) hn
 exact ⟨φ,Fz',_,k.push (i:=d) (rv:=r) (v:=v) (F:=F) (X:=[]) hd (hv φ) (fun b hb=>by simpa using hb) Ba⟩
def iT{f:FuncId}{fn:Func}{c:Code}{args rs:List (Bool×List PV)}(hf:P.funcs[f]?=some fn)(hb:fn.body=some c)(hn:args.length≤fn.ntmps)(hbor:∀q,q∈args→aS q.2)
  (h:∀(h0:Nat→Prop) (w0:World) (Fz0:aC),SW P fn.ntmps h0 w0 Fz0 c (St.of ((7000,RV.glob G)::jv 0 args) []) (Bf P fn.results.toList rs)):eJ P G f args (ay rs):=by
 intro w vs Fz hz hG hrel;refine QH hf hb hn hbor w Fz ?_ vs hz hrel;intro a w' hc;obtain ⟨φ,Fz',Fp,hc⟩:=hc;have hG':G.rel Fz' w':=G.mono hG fun b o hb=>⟨(hc.fz0 b o (hz b o hb)).2 hb,World.cell?_of_block (hc.bel.block b (hz b o hb))⟩;have k:=hc.pull 7000;refine h _ w Fz a w' ⟨φ,Fz',_,{ k with slot:=fun i rv hi=>?_ }⟩;by_cases h7:i=7000
 ·subst h7
  have e:(St.of ((7000,RV.glob G)::jv 0 args) []).s 7000=some (RV.glob G):=rfl;rw [e] at hi;injection hi with hi;subst hi;exact ⟨hG',hI⟩
 ·have e:(St.of ((7000,RV.glob G)::jv 0 args) []).s i=(St.of (jv 0 args) []).s i:=by simp [St.of,lk,beq_eq,h7]
  rw [e] at hi;exact k.slot i rv (by rw [St.set_s,if_neg h7];exact hi)
end
section
variable{P:Program}{G:rt}{f:FuncId}
def av2(h:∃k os,w'=Sort.grow (w.drewN k) os):Below w.heap.size w w':=by obtain ⟨k,os,rfl⟩:=h;exact ⟨rfl,rfl,rfl,by simp [Sort.grow,World.drewN],fun b hb=>by simp [Sort.grow,World.drewN,Array.getElem?_append_left hb]⟩
def EA{s:am}(hz:∀b o,Fz b o→b < w.heap.size)(hb:Below w.heap.size w w'):∃v Fz' F,Ending.returned (.string (B s)) = .returned v∧Below w.heap.size w w' ∧
  (∀b o,b < w.heap.size→(Fz' b o↔Fz b o))∧(∀b o,Fz' b o→b < w'.heap.size)∧(∀φ,(RV.str s).holds φ Fz' w' v F)∧F.Nodup∧∀b,b∈F→w.heap.size≤b∧b < w'.heap.size:=
 ⟨_,Fz,[],rfl,hb,fun _ _ _=>Iff.rfl,fun b o h=>Nat.lt_of_lt_of_le (hz b o h) hb.size,fun _=>bY.of_sc rfl,List.nodup_nil,fun b hb=>by simp at hb⟩
def kK.sc{x:Value}(h:kK false [PV.val x] Fz w v):v=x:=(bY.sc ⟨h.1,(aS.cons (PV.bor_val _) aS.nil).own h.2⟩).1
def kK.sl(h:kK false [PV.sl .v es] Fz w v):tg es Fz w v:=
 (bY.atom (p:=PV.sl .v es) ⟨h.1,(aS.cons (PV.bor_sl _) aS.nil).own h.2⟩).1
def av3(tab:∀{Fz w},G.rel Fz w→Lib.TabIs P w "internal/strconv.uint64pow10" .u64 Lib.pow10Tab)
  (c:∀(n:Int),-9223372036854775808≤n→n≤9223372036854775807→∀(w:World),Lib.TabIs P w "internal/strconv.uint64pow10" .u64 Lib.pow10Tab→Calls P f #[.int .i64 n] w fun e w'=>e = .returned (.string ⟨(Lib.itoa n).toArray⟩)∧∃k os,w'=Sort.grow (w.drewN k) os)
  {n:Int} (hn:dN n):eJ P G f [(false,[PV.val (vI n)])] (ay [(false,[PV.val (.string (B (Lib.itoa n)))])]):=by
 intro w vs Fz hz hG hr;obtain ⟨v,vs',rfl,h1,rfl⟩:=hr;have e:v=vI n:=kK.sc h1;subst e;refine (c n hn.1 hn.2 w (tab hG)).mono ?_;rintro e w' ⟨rfl,hw⟩;exact EA hz (av2 hw)
def cQ(xs:List am)(sep:am):am:=Lib.join xs sep
def av4{e:am→List PV}(he:∀x,e x=[PV.val (.string (B x))])
  (c0:∀(a:Option Addr) (c:Nat) (sep:ByteArray) (w:World),Calls P f #[.slice a 0 c,.string sep] w fun e w'=>e = .returned (.string ⟨#[]⟩)∧w'=w)
  (c:∀(bk o c:Nat) (xs:List ByteArray) (sep:ByteArray) (w:World),(∀(j:Nat) x,xs[j]?=some x→w.cell? ⟨bk,o+j,none⟩=some (.string x))→bk < w.heap.size→xs.length≤140737488355328→xs.length≤c→(Lib.join (xs.map (·.data.toList)) sep.data.toList).length≤140737488355328 →
   Calls P f #[.slice (some ⟨bk,o,none⟩) xs.length c,.string sep] w fun e w'=>e = .returned (.string ⟨(Lib.join (xs.map (·.data.toList)) sep.data.toList).toArray⟩)∧Below w.heap.size w w')
  {xs:List am} {sep:am} (hx:xs.length≤140737488355328) (hl:(cQ xs sep).length≤140737488355328):aD P f [(false,[PV.sl .v (xs.map e)]),(false,[PV.val (.string (B sep))])] (ay [(false,[PV.val (.string (B (cQ xs sep)))])]):=by
 intro w vs Fz hz hr;obtain ⟨v,vs',rfl,h1,v2,vs2,rfl,h2,rfl⟩:=hr;have e2:v2 = .string (B sep):=kK.sc h2;subst e2;obtain ⟨ad,cp,e',u,rfl,k1,k2,k3,k4,k5⟩:=kK.sl h1;have em:(xs.map B).map (·.data.toList)=xs:=by rw [List.map_map];exact List.map_id _
 rw [aU] at k1 k4 ⊢;rcases k4 with k4|⟨b,off,rfl,k4⟩
 ·have hx:xs=[]:=by simpa using k4
  subst hx;refine (c0 ad cp (B sep) w).mono ?_;rintro e w' ⟨rfl,rfl⟩;exact EA (s:=[]) hz (Below.refl _ _)
 ·have hc:∀(j:Nat) x,(xs.map B)[j]?=some x→w.cell? ⟨b,off+j,none⟩=some (.string x)∧Fz b (off+j):=by
   intro j x hj;rw [List.getElem?_map,Option.map_eq_some_iff] at hj;obtain ⟨y,hy,rfl⟩:=hj;have hlt:j < xs.length:=(List.getElem?_eq_some_iff.1 hy).1;have hm:(xs.map e)[j]?=some [PV.val (.string (B y))]:=by rw [List.getElem?_map,hy,←he];rfl
   have he1:e'=1:=(k3 _ (List.mem_of_getElem? hm)).symm;subst he1;have hu:=(k5 j _ 0 _ hm rfl).1;have:=k4 j 0 hlt ai;rw [hu] at this;simpa using this.symm
  by_cases h0:xs=[]
  ·subst h0
   refine (c0 (some ⟨b,off,none⟩) cp (B sep) w).mono ?_;rintro e w' ⟨rfl,rfl⟩;exact EA (s:=[]) hz (Below.refl _ _)
  ·have hlt:0 < xs.length:=List.length_pos_iff.2 h0
   have hb:b < w.heap.size:=hz b _ (hc 0 (B (xs[0])) (by simp [hlt])).2;have:=c b off cp (xs.map B) (B sep) w (fun j x hj=>(hc j x hj).1) hb Bb (by simpa using k1) (by rw [em];exact hl);rw [em,aU] at this;refine this.mono ?_;rintro e w' ⟨rfl,hw⟩;exact EA hz hw
def av5{Fz':aC}{g:Nat}{nm:String}{k:IntKind}{zs:List Int}(hg:P.globalNamed nm=some g)(hz:0 < zs.length)(h:(∀o,Fz g o)∧Lib.TabIs P w nm k zs)(hk:jt Fz w Fz' w'):(∀o,Fz' g o)∧Lib.TabIs P w' nm k zs:=by
 refine ⟨fun o=>(hk g o (h.1 o)).1,?_⟩;have hc:∀o,w'.cell? ⟨g,o,none⟩=w.cell? ⟨g,o,none⟩:=fun o=>(hk g o (h.1 o)).2;have h2:=h.2;unfold Lib.TabIs World.var? at h2 ⊢;rw [hg] at h2 ⊢;simp only [Option.bind_some] at h2 ⊢;cases hw:w.heap[g]? with
 | none=>rw [hw] at h2;cases h2
 | some o=>
  cases o with
  | cells cs t fr=>
   rw [hw] at h2;injection h2 with h2;have hc1:∀o,w.cell? ⟨g,o,none⟩=cs[o]?:=fun o=>by simp [World.cell?,hw]
   have h0:(w'.cell? ⟨g,0,none⟩).isSome=true:=by rw [hc,hc1,h2];simp [hz]
   cases hw':w'.heap[g]? with
   | none=>simp [World.cell?,hw'] at h0
   | some o'=>
    cases o' with
    | cells cs' t' fr'=>
     have hc2:∀o,w'.cell? ⟨g,o,none⟩=cs'[o]?:=fun o=>by simp [World.cell?,hw']
     rw [←h2];show some cs'=some cs;congr 1
     apply Array.ext_getElem?;intro i;rw [←hc2,hc,hc1]
    | _=>simp [World.cell?,hw'] at h0
  | _=>rw [hw] at h2;cases h2
def ady(P:Program)(g:Nat)(hg:P.globalNamed "internal/strconv.uint64pow10" = some g):rt where
 rel Fz w:=(∀o,Fz g o)∧Lib.TabIs P w "internal/strconv.uint64pow10" .u64 Lib.pow10Tab
 mono h k:=av5 hg ai h k
end
end
end Go.Proofs.YtmekkgdboplbjaaGreatDoor.M
namespace Go.Proofs.YtmekkgdboplbjaaGreatDoor.M
open Go Go.RowKit Go.ChangeShapes Go.WideShapes
variable{α:Type}
section
section
variable{H:Type}{enc:TypeId×Value→H}{P:Program}{W W':World}
def adz{sp:Nat→Bool}(hl:laidOutB P=true)(hsame:∀p:MemPlace,p.block < W.heap.size→W.sameAt W' p):∀{ts:List TypeId} {vs:List Value} {ds:List (DataW H)} {ps:List MemPlace},(ts.all fun t=>P.readableRec t&&Nat.blt t P.types.size)=true →
  DataW.TrodAll enc P W 0 (fun _=>true) true ts vs ds ps→(∀p∈ps,p.block < W.heap.size)→(∀p∈ps,sp p.block=true)→DataW.TrodAll enc P W' 0 sp true ts vs ds ps
 | [],vs,ds,ps,_,h,_,_=>by obtain ⟨rfl,rfl,rfl⟩:=trodAll_nil h;exact trodAll_mk0
 | t::ts,vs,ds,ps,ht,h,hlt,hs=>by
  obtain ⟨v,vs',d,ds',p,q,rfl,rfl,rfl,h1,h2⟩:=trodAll_cons h;rw [List.all_cons,aR,aR,Nat.blt_eq] at ht
  exact trodAll_cons_mk (WideElems.Trod_stays hl ht.1.1 ht.1.2 h1 (fun x hx=>hsame x (hlt x ib)) (fun x hx=>hs x ib))
   (adz hl hsame ht.2 h2 (fun x hx=>hlt x ib) (fun x hx=>hs x ib))
def av6{f:Func}{s:ChangeSpec}{args:Array Value}{ds gs:List (DataW H)}{before:List MemPlace}{k:FuncId}{bt:TypeId}(hl:laidOutB P=true)(hr:(f.params.toList.all fun t=>P.readableRec t&&Nat.blt t P.types.size)=true)
  (hW:DataW.Whole enc P f.params.toList s.vars false W args.toList ds gs before) (hv:s.vars=[]) (hrt:f.resultTypes = #[bt]) (hbt:P.underlying bt=some .bool) (hfn:s.fn H (ds++gs)={ results:=[.lit (.bool true)],args:=ds })
  (hcall:Calls P k args W fun e w'=>e = .returned (.bool true)∧Below W.heap.size W w') :
  Calls P k args W fun e W'=>∃v,e = .returned v∧s.post enc P f false true false false W args v W':=by
 refine hcall.mono fun e W' ⟨he,hb⟩=>⟨_,he,?_⟩;have hlt:∀p∈before,p.block < W.heap.size:=fun p hp=>hW.lt p hp;have hW':=hW;obtain ⟨pa,q,hA,hV,rfl,hz,hn⟩:=hW;rw [hv] at hV;obtain ⟨rfl,rfl⟩:=trodVars_none hV;have hres:∀(b:Nat) (sp:Nat→Bool) (hd:Bool),DataW.TrodAll enc P W' b sp hd f.resultTypes.toList ((Value.bool true).resultList f.resultTypes.size) (s.fn H (ds++[])).results []:=by intro b sp hd;rw [hfn,hrt];exact trodAll_cons_mk (p':=[]) (shut_bool hbt _) trodAll_mk0
 have hargs:∀sp:Nat→Bool,(∀p∈pa++[],sp p.block=true)→DataW.TrodAll enc P W' 0 sp true f.params.toList args.toList (s.fn H (ds++[])).args pa:=by intro sp hs;rw [hfn];exact adz hl (fun p hp=>hb.same hp) hr hA (fun p hp=>hlt p DZ) (fun p hp=>hs p DZ)
 have hvars:∀sp:Nat→Bool,DataW.TrodVars enc P W' sp s.vars (s.fn H (ds++[])).vars []:=by intro sp;rw [hfn,hv];exact rfl
 have hold:∀p∈pa++[],(fun b=>decide (b < W.heap.size)) p.block=true:=fun p hp=>by simpa using hlt p hp
 have hok:∀(j:Nat) (t:TypeId) (r:Value),f.resultTypes[j]?=some t→((Value.bool true).resultList f.resultTypes.size)[j]?=some r→Value.okWide P W' .any 0 t r:=ok_one hrt rfl (okWide_bool_mk hbt _);refine ⟨ds,[],pa++[],[],pa,[],hW',hres _ _ _,hargs _ hold,hvars _,World.keptBut_mono (fun p hp=>⟨hp,?_⟩) (hb.frame (· ∈ pa++[])),fun h=>by cases h⟩;simpa using hp
def zh(w:World):aC:=fun b _=>b < w.heap.size
def Bs(P:Program)(T:TypeId)(f:α→List PV)(g:α→Prop):Prop:=
 ∀{H:Type} (enc:TypeId×Value→H) (w:World) (sp:Nat→Bool) (held:Bool) (n:Nat) (cs:List Value) (x:DataW H×List MemPlace),DataW.trod enc P w 0 sp held n T cs=some x→∃a,cC (f a) (zh w) w cs∧g a
def av7{T E e:TypeId}{f:α→List PV}(hu:P.underlying T=some (.slice E))(hc:P.cellsOf E=e)(he:0 < e){g:α→Prop}(hf:Bs P E f g)(hlen:∀a,(f a).length=e):Bs P T (fun xs:List α=>[PV.sl .v (xs.map f)]) fun xs=>∀x∈xs,g x:=by
 intro H enc w sp held n cs x hx;subst hc;rcases Deep.open_slice hu hx with ⟨rfl,_⟩|⟨a,len,cap,m,n',D,Pl,rfl,_,hlc,hcm,hm,_,hel⟩;·exact ⟨[],⟨_,[],rfl,⟨⟨none,0,0,fun _ _=>undef,rfl,Nat.le_refl _,Nat.zero_le _,aL,.inl rfl,aL⟩,True.intro⟩,rfl⟩,aL⟩
 ·have hlm:len≤m:=by rw [hm];split<;>omega
  have key:∀i,i < len→∃(y:α×List Value),w.cells? 0 (a.add (i * P.cellsOf E)) (P.cellsOf E)=some y.2∧cC (f y.1) (zh w) w y.2∧g y.1:=by intro i hi;obtain ⟨cs',h1,h2⟩:=hel i ab;obtain ⟨y,hy⟩:=hf enc w sp held n' cs' _ h2;exact ⟨(y,cs'),h1,hy⟩
  by_cases hl0:len=0
  ·subst hl0
   exact ⟨[],⟨_,[],rfl,⟨⟨some a,cap,0,fun _ _=>undef,rfl,Nat.zero_le _,hcm,aL,.inl rfl,aL⟩,True.intro⟩,rfl⟩,aL⟩
  ·obtain ⟨y0,_,_⟩:=key 0 ab
   have:Inhabited (α×List Value):=⟨y0⟩;obtain ⟨F,hF⟩:=Deep.choose_lt key;obtain ⟨b,off,spt⟩:=a;have hspt:spt=none:=by
    obtain ⟨_,h2,h3⟩:=World.cells?_some (hF 0 ab).1;have h4:=h3 0 he;rw [List.getElem?_eq_getElem (by rw [h2];exact he),Nat.zero_mul] at h4;cases spt with
    | none=>rfl
    | some s=>simp [Addr.add,World.cell?] at h4;split at h4<;>simp at h4
   subst hspt;have hcell:∀i j,i < len→j < P.cellsOf E→w.cell? ⟨b,off+(i * P.cellsOf E+j),none⟩=some ((F i).2.getD j undef):=by intro i j hi hj;obtain ⟨_,h2,h3⟩:=World.cells?_some (hF i hi).1;have h4:=h3 j hj;rw [qo,qo,Nat.add_assoc] at h4;rw [h4,List.getD_eq_getElem?_getD,List.getElem?_eq_getElem (by rw [h2];exact hj)];rfl
   refine ⟨(List.range len).map fun i=>(F i).1,⟨_,[],rfl,⟨⟨some ⟨b,off,none⟩,cap,P.cellsOf E,fun i j=>(F i).2.getD j undef,aL,by simpa using hlc,hcm,?_,.inr ⟨b,off,rfl,?_⟩,?_⟩,True.intro⟩,rfl⟩,?_⟩
   ·intro cs hcs
    obtain ⟨y,_,rfl⟩:=List.mem_map.1 hcs;exact hlen y
   ·intro i j hi hj
    have hi':i < len:=yT;have h:=hcell i j hi' hj;exact ⟨World.block_lt_of_cell? w _ h,h⟩
   ·intro i cs j p hi hj
    have hi':i < len:=by have:=(List.getElem?_eq_some_iff.1 hi).1;simpa using this
    simp [hi'] at hi;subst hi;obtain ⟨v,hv,hr⟩:=(hF i hi').2.1.at_ hj;show p.rel _ _ ((F i).2.getD j undef);rw [List.getD_eq_getElem?_getD,hv];exact hr
   ·intro y hy
    obtain ⟨i,hi,rfl⟩:=List.mem_map.1 hy;exact (hF i (List.mem_range.1 hi)).2.2
def av8{T:TypeId}{ag:Bool}{k:Nat}{f:α→List PV}{g:α→Prop}(hT:dr P T=some (ag,k))(hs:Bs P T f g){w:World}{r:Reach}{b0:Nat}{v:Value}{d:DataW H}{ps:List MemPlace}(hval:Value.okWide P w r b0 T v)(h:DataW.Trod enc P w 0 (fun _=>true) true T v d ps) :
  ∃a,kK ag (f a) (zh w) w v∧g a:=by
 obtain ⟨n,hn⟩:=h;obtain ⟨a,ha,hg⟩:=hs enc w _ _ n _ _ hn;refine ⟨a,⟨?_,ha⟩,hg⟩;unfold dr at hT;cases hu:P.underlying T with
 | none=>rw [hu] at hT;cases hT
 | some dd=>
  cases hi:P.info? T with
  | none=>rw [hu,hi] at hT;cases hT
  | some i=>
   rw [hu,hi] at hT;simp only [Option.some.injEq,Prod.mk.injEq] at hT;obtain ⟨hT,_⟩:=hT;unfold Value.okWide at hval;rw [hu] at hval;cases dd<;>simp only at hT hval<;>subst hT<;>first
    | (obtain ⟨cs,rfl,_⟩:=hval;rfl)
    | (cases v<;>first|rfl|(simp [Cell.okWide,Cell.ok,hu] at hval))
end
end
end Go.Proofs.YtmekkgdboplbjaaGreatDoor.M
namespace Go.Proofs.YtmekkgdboplbjaaGreatDoor.M
open Go Go.RowKit
section
section
variable{P:Program}{n d:Nat}{ty:TypeId}{pos:String}{af:Array Edge}{g:Option (Nat×Bool)}{G:rt}
def gL{f:Nat}{args:Array Operand}{tys:Array TypeId}{r:RV}(qs as_:List (Bool×List PV))(hf:aB P f=true)(hok:mI args.toList qs:=by repeat' (first|exact True.intro|exact aY rfl|exact ack|apply And.intro))
  (hto:pp qs as_:=by repeat' (first|exact True.intro|exact rfl|exact PV.To.refl _|exact PV.to_none|apply And.intro)) (hs:eJ P G f as_ r) (hd:d < n:=by decide):Loc P n ⟨some d,.call { callee:=.value (.func f),args:=args,argTypes:=tys },ty,pos,af,g⟩ ⟨(7000,RV.glob G)::kL args.toList qs,[],[(d,some r)],[],none⟩:=av1 hd hf hok hto hs
end
def av9{P:Program}{G:rt}{W:World}{f:FuncId}{vs:List Value}{qs:List (Bool×List PV)}(hs:eJ P G f qs (ay [(false,[PV.val (.bool true)])]))(hG:G.rel (zh W) W)(hr:hJ qs (zh W) W vs):Calls P f vs.toArray W fun e w'=>e = .returned (.bool true)∧Below W.heap.size W w':=
 (hs W vs (zh W) (fun _ _ h=>h) hG hr).mono fun e w' ⟨v,Fz',F,he,hb,_,_,hv,_⟩=>⟨by rw [he,(bY.sc (hv fun _=>0)).1],hb⟩
end
section
section
variable{h0:Nat→Prop}{n:Nat}{w0 w:World}{Fz0 Fz:aC}{σ:St}{a:Act}{φ:Nat→Nat}{Fp:Nat→List Nat}{P:Program}{c:Code}{Q:Exit→St→Prop}
end
end
end Go.Proofs.YtmekkgdboplbjaaGreatDoor.M
namespace Go.Proofs.YtmekkgdboplbjaaGreatDoor.M
open Go
variable{l:List (Nat×RV)}{b:List (Nat×(Nat×List PV))}{id:Nat}{ops:Array Oper}{v:Value}
section
inductive eR(s:Nat→Option RV):List Nat→List (Nat×RV)→Prop
 | nil:eR s [] []
 | cons {k:Nat} {v:RV} {ks:List Nat} {l:List (Nat×RV)} (h:s k=some v) (t:eR s ks l):eR s (k::ks) ((k,v)::l)
def eR.rd{s:Nat→Option RV}{ks:List Nat}(h:eR s ks l):bh l s:=by
 induction h with
 | nil=>exact True.intro
 | cons h _ ih=>exact And.intro h ih
inductive gU(b:Nat→Option (Nat×List PV)):List Nat→List (Nat×(Nat×List PV))→Prop
 | nil:gU b [] []
 | cons {k:Nat} {v:Nat×List PV} {ks:List Nat} {l:List (Nat×(Nat×List PV))} (h:b k=some v) (t:gU b ks l):gU b (k::ks) ((k,v)::l)
def gU.rd{b:Nat→Option (Nat×List PV)}{ks:List Nat}{l:List (Nat×(Nat×List PV))}(h:gU b ks l):bh l b:=by
 induction h with
 | nil=>exact True.intro
 | cons h _ ih=>exact And.intro h ih
def qq:(∀{p:Prop} [Decidable p],(decide p=true)=p)∧(∀{p:Prop} [Decidable p],decide p=false↔¬p)∧(∀{α:Type} [BEq α] [LawfulBEq α] {a b:α},(a != b)=true↔a≠b)∧(∀{α:Type} [BEq α] [LawfulBEq α] {a b:α},(a==b)=true↔a=b)∧(∀{b:Bool},((!b)=true)=(b=false))∧(∀{b:Bool},((!b)=false)=(b=true))∧(∀{α:Type} {a b:α},(a≠b)=¬a=b)∧(∀{α:Type} [BEq α] [LawfulBEq α] {a b:α},(a != b)=false↔a=b)∧(∀{α:Type} [BEq α] [LawfulBEq α] {a b:α},(a==b)=false↔a≠b):=
 ⟨q1,q2,q3,q4,q5,q6,q7,q8,q9⟩
def lcA{L:Nat→Prop}{a b:List PV}(h:aw L a)(k:aw L b):aw L (List.append a b):=aw.app h k
def lc{G:Prop}(h:G:=by repeat' (first|with_reducible (first|exact tn.nil|exact aw.nil|exact aw.vals|exact PV.lcl_val|exact PV.lcl_any|exact RV.lcl_hdr|exact RV.lcl_ptr|exact RV.lcl_gat|exact RV.lcl_phi|apply tn.cons|apply aw.cons|apply RV.lcl_nm|apply RV.lcl_sv|apply RV.lcl_gh|apply PV.lcl_nv|apply PV.lcl_own|apply aw.flat|apply aw.app|apply lcA|refine aw.map fun _=>?_)|apply aw.cons|apply tn.cons|exact aw.nil|refine aw.map fun _=>?_)):G:=h
def aI{a b:Prop}(x:a)(y:b):a∧b:=⟨x,y⟩
def tI:True:=True.intro
def nl{a b:Nat}(h:Nat.ble a b=true):a≤b:=Nat.le_of_ble_eq_true h
section
variable{P:Program}{n:Nat}{h0:Nat→Prop}{w0:World}{Fz0:aC}{c x y:Code}{σ:St}{Q:Exit→St→Prop}
def sP(ks bs:List Nat)(h:SW P n h0 w0 Fz0 c (St.of l b) Q)(hl:eR σ.s ks l:=by repeat (first|exact eR.nil|apply eR.cons rfl))(hb:gU σ.b bs b:=by repeat (first|exact gU.nil|apply gU.cons rfl)):SW P n h0 w0 Fz0 c σ Q:=sO l b h hl.rd hb.rd
def sS(ks bs:List Nat)(h:bR P n ops (fun τ=>wV (fun τ=>SW P n h0 w0 Fz0 y τ Q) Q .normal τ) ops.toList (St.of l b))(hl:eR σ.s ks l:=by repeat (first|exact eR.nil|apply eR.cons rfl))(hb:gU σ.b bs b:=by repeat (first|exact gU.nil|apply gU.cons rfl)):SW P n h0 w0 Fz0 (.seq (.region id ops false) y) σ Q:=Ej (sO l b (fV h) hl.rd hb.rd)
def sG(ks bs:List Nat)(h:bR P n ops (fun τ=>Q .normal τ) ops.toList (St.of l b))(hl:eR σ.s ks l:=by repeat (first|exact eR.nil|apply eR.cons rfl))(hb:gU σ.b bs b:=by repeat (first|exact gU.nil|apply gU.cons rfl)):SW P n h0 w0 Fz0 (.region id ops false) σ Q:=sO l b (fV h) hl.rd hb.rd
def sL{ι:Type}(ks bs:List Nat)(I:ι→Prop){l0:List (Nat×RV)}{b0:List (Nat×(Nat×List PV))}(l:ι→List (Nat×RV))(b:ι→List (Nat×(Nat×List PV)))(m:ι→Nat)(i0:ι)(h0':I i0)(hl:bh (l i0) σ.s)(hb:bh (b i0) σ.b)
  (round:∀i,I i→SW P n h0 w0 Fz0 c (St.of (l0++l i) (b0++b i)) (wV (fun τ=>∃j,I j∧m j < m i∧(bh l0 τ.s∧bh b0 τ.b)∧bh (l j) τ.s∧bh (b j) τ.b) Q)) (hl0:eR σ.s ks l0:=by repeat (first|exact eR.nil|apply eR.cons rfl)) (hb0:gU σ.b bs b0:=by repeat (first|exact gU.nil|apply gU.cons rfl)):SW P n h0 w0 Fz0 (.loop c) σ Q:=acx I l b m i0 h0' hl0.rd hb0.rd hl hb round
def aX(ks bs:List Nat)(I:Nat→Prop){l0:List (Nat×RV)}{b0:List (Nat×(Nat×List PV))}(l:Nat→List (Nat×RV))(X:Nat)(h0':I 0)(hl:bh (l 0) σ.s)
  (round:∀i,I i→SW P n h0 w0 Fz0 c (St.of (l0++l i) (b0++[])) (wV (fun τ=>∃j,I j∧X - j < X - i∧(bh l0 τ.s∧bh b0 τ.b)∧bh (l j) τ.s∧bh [] τ.b) Q)) (hl0:eR σ.s ks l0:=by repeat (first|exact eR.nil|apply eR.cons rfl)) (hb0:gU σ.b bs b0:=by repeat (first|exact gU.nil|apply gU.cons rfl)):SW P n h0 w0 Fz0 (.loop c) σ Q:=acx I l (fun _=>[]) (fun k=>X - k) 0 h0' hl0.rd hb0.rd hl True.intro round
def sR(h:bR P n ops (fun τ=>wV (fun τ=>SW P n h0 w0 Fz0 y τ Q) Q .normal τ) ops.toList σ):SW P n h0 w0 Fz0 (.seq (.region id ops false) y) σ Q:=Ej (fV h)
end
section
variable{P:Program}{n:Nat}{ops:Array Oper}{σ:St}{QS:St→Prop}{l:List Oper}{d x:Nat}{ty:TypeId}{pos:String}{af:Array Edge}
def rM(y:bR P n ops QS l (σ.app ⟨[(x,RV.sc v)],[],[(d,some (RV.sc v))],[],none⟩))(h1:bh [(x,RV.sc v)] σ.s:=by repeat (first|exact True.intro|refine And.intro rfl ?_))(hd:d < n:=by decide):bR P n ops QS (⟨some d,.move (.tmp x),ty,pos,af,none⟩::l) σ:=rA y h1 True.intro (sM hd) rfl rfl
def rS(y:bR P n ops QS l (σ.app ⟨[(x,RV.sc v)],[],[(d,some (RV.sc v))],[],none⟩))(h1:bh [(x,RV.sc v)] σ.s:=by repeat (first|exact True.intro|refine And.intro rfl ?_))(hd:d < n:=by decide):bR P n ops QS (⟨some d,.assign (.tmp x),ty,pos,af,none⟩::l) σ:=rA y h1 True.intro (sA hd) rfl rfl
def rK(y:bR P n ops QS l (σ.app ⟨[],[],[(d,some (RV.sc v))],[],none⟩))(h:v.oneCell'=true:=by exact rfl)(hd:d < n:=by decide):bR P n ops QS (⟨some d,.assign (.const v),ty,pos,af,none⟩::l) σ:=rA y True.intro True.intro (kA h hd) rfl rfl
end
end
end Go.Proofs.YtmekkgdboplbjaaGreatDoor.M
namespace Go.Proofs.YtmekkgdboplbjaaGreatDoor.M
open Go Go.RowKit
variable{l:List (Nat×RV)}{b:List (Nat×(Nat×List PV))}{id:Nat}{ops:Array Oper}{d:List (Nat×(Nat×List PV))}{ι:Type}{cs:List PV}{es:List (List PV)}{t:Nat}{A B:List PV}{H:Prop}{G:Nat}{c:Bool}{e:Nat}{α:Type}{ps:List PV}{T:Nat}{Fz:aC}{w:World}{v:Value}{F:List Nat}{jk:List Value}{p:PV}{us:List Value}{gs:List PV}{u:Value}{qs:List PV}{us':List Value}{f:α→List PV}{fN:α×(Nat→Value)→List PV}{xs:List α}{ys:List (α×(Nat→Value))}{zs:List (α×(Nat→Value))}
section
inductive ru:List PV→List PV→Prop
 | nil:ru [] []
 | val {v:Value} {l m:List PV} (h:ru l m):ru (PV.val v::l) (PV.val v::m)
 | sl {o:Fl} {es:List (List PV)} {l m:List PV} (h:ru l m):ru (PV.sl o es::l) (PV.sl o es::m)
def ru.eq{l m:List PV}(h:ru l m):l=m:=by
 induction h with
 | nil=>rfl
 | val _ ih=>rw [ih]
 | sl _ ih=>rw [ih]
inductive gv(b:Nat→Option (Nat×List PV)):List Nat→List (Nat×(Nat×List PV))→Prop
 | nil:gv b [] []
 | cons {k T:Nat} {cs ds:List PV} {ks:List Nat} {l:List (Nat×(Nat×List PV))} (h:b k=some (T,cs)) (e:ru cs ds) (t:gv b ks l):gv b (k::ks) ((k,(T,ds))::l)
 | any {k T:Nat} {cs:List PV} {ks:List Nat} {l:List (Nat×(Nat×List PV))} (h:b k=some (T,cs)) (t:gv b ks l):gv b (k::ks) ((k,(T,cs))::l)
def gv.rd{b:Nat→Option (Nat×List PV)}{ks:List Nat}{l:List (Nat×(Nat×List PV))}(h:gv b ks l):bh l b:=by
 induction h with
 | nil=>exact True.intro
 | cons h e _ ih=>exact And.intro (e.eq▸h) ih
 | any h _ ih=>exact And.intro h ih
section
variable{P:Program}{n:Nat}{h0:Nat→Prop}{w0:World}{Fz0:aC}{c x y:Code}{σ:St}{Q:Exit→St→Prop}
def sQ(ks bs:List Nat)(h:SW P n h0 w0 Fz0 c (St.of l b) Q)(hl:eR σ.s ks l:=by repeat (first|exact eR.nil|apply eR.cons rfl))(hb:gv σ.b bs b:=by repeat (first|exact gv.nil|refine gv.cons rfl AQ ?_|apply gv.any rfl)):SW P n h0 w0 Fz0 c σ Q:=sO l b h hl.rd hb.rd
def sT(ks bs:List Nat)(h:bR P n ops (fun τ=>wV (fun τ=>SW P n h0 w0 Fz0 y τ Q) Q .normal τ) ops.toList (St.of l b))(hl:eR σ.s ks l:=by repeat (first|exact eR.nil|apply eR.cons rfl))(hb:gv σ.b bs b:=by repeat (first|exact gv.nil|refine gv.cons rfl AQ ?_|apply gv.any rfl)):SW P n h0 w0 Fz0 (.seq (.region id ops false) y) σ Q:=Ej (sO l b (fV h) hl.rd hb.rd)
def sH(ks bs:List Nat)(h:bR P n ops (fun τ=>Q .normal τ) ops.toList (St.of l b))(hl:eR σ.s ks l:=by repeat (first|exact eR.nil|apply eR.cons rfl))(hb:gv σ.b bs b:=by repeat (first|exact gv.nil|refine gv.cons rfl AQ ?_|apply gv.any rfl)):SW P n h0 w0 Fz0 (.region id ops false) σ Q:=sO l b (fV h) hl.rd hb.rd
def sU(ks bs cs:List Nat)(h:SW P n h0 w0 Fz0 c (St.of l (b++d)) Q)(hl:eR σ.s ks l:=by repeat (first|exact eR.nil|apply eR.cons rfl))(hb:gU σ.b bs b:=by repeat (first|exact gU.nil|apply gU.cons rfl))(hc:gv σ.b cs d:=by repeat (first|exact gv.nil|refine gv.cons rfl AQ ?_|apply gv.any rfl)):SW P n h0 w0 Fz0 c σ Q:=sO l (b++d) h hl.rd (hb.rd.app hc.rd)
def sV(ks bs cs:List Nat)(h:bR P n ops (fun τ=>wV (fun τ=>SW P n h0 w0 Fz0 y τ Q) Q .normal τ) ops.toList (St.of l (b++d)))(hl:eR σ.s ks l:=by repeat (first|exact eR.nil|apply eR.cons rfl))(hb:gU σ.b bs b:=by repeat (first|exact gU.nil|apply gU.cons rfl))(hc:gv σ.b cs d:=by repeat (first|exact gv.nil|refine gv.cons rfl AQ ?_|apply gv.any rfl)):SW P n h0 w0 Fz0 (.seq (.region id ops false) y) σ Q:=Ej (sO l (b++d) (fV h) hl.rd (hb.rd.app hc.rd))
def sW(ks bs cs:List Nat)(h:bR P n ops (fun τ=>Q .normal τ) ops.toList (St.of l (b++d)))(hl:eR σ.s ks l:=by repeat (first|exact eR.nil|apply eR.cons rfl))(hb:gU σ.b bs b:=by repeat (first|exact gU.nil|apply gU.cons rfl))(hc:gv σ.b cs d:=by repeat (first|exact gv.nil|refine gv.cons rfl AQ ?_|apply gv.any rfl)):SW P n h0 w0 Fz0 (.region id ops false) σ Q:=sO l (b++d) (fV h) hl.rd (hb.rd.app hc.rd)
def nx{I:ι→Prop}{m:ι→Nat}{M:Nat}{C D:Prop}{E F:ι→Prop}(j:ι)(a:I j)(b:m j < M:=by first|omega|(dsimp only;omega))(c:C:=by repeat (first|exact True.intro|refine And.intro rfl ?_))(d:D:=by repeat (first|exact True.intro|refine And.intro rfl ?_))(e:E j:=by repeat (first|exact True.intro|refine And.intro rfl ?_))(f:F j:=by repeat (first|exact True.intro|refine And.intro rfl ?_)):∃j,I j∧m j < M∧(C∧D)∧E j∧F j:=⟨j,a,b,⟨c,d⟩,e,f⟩
def sF{f:FuncId}{fn:Func}{c:Code}{args rs:List (Bool×List PV)}(hf:P.funcs[f]?=some fn)(h:∀(h0:Nat→Prop) (w0:World) (Fz0:aC),SW P fn.ntmps h0 w0 Fz0 c (St.of (jv 0 args) []) (Bf P fn.results.toList rs))(hb:fn.body=some c:=by exact rfl)(hn:args.length≤fn.ntmps:=by exact Nat.le_of_ble_eq_true rfl)
  (hbor:Jz args:=by repeat (first|with_reducible exact jJ|with_reducible refine kl (by repeat (first|with_reducible exact aS.nil|with_reducible refine aS.cons (PV.bor_val _) ?_|with_reducible refine aS.cons (PV.bor_sl _) ?_|with_reducible refine aS.cons (PV.bor_lo _ _) ?_)) ?_)):aD P f args (ay rs):=QI hf hb hn hbor h
def sn(s j:Nat){ag:Bool}{o:Fl}{m:Nat}(h:m≤9223372036854775807→SW P n h0 w0 Fz0 c σ Q)(hs:σ.s s=some (RV.sv ag cs):=by exact rfl)(hj:cs[j]?=some (PV.sl o es):=by exact rfl)(hm:es.length=m:=by first|exact aU _|exact rfl):SW P n h0 w0 Fz0 c σ Q:=avt hs hj fun k=>h (hm▸k)
def dy{ag:Bool}{o0:Fl}{es0:List (List PV)}{m0:Nat}{o3:Fl}{es3:List (List PV)}{m3:Nat}{o4:Fl}{es4:List (List PV)}{m4:Nat}{o5:Fl}{es5:List (List PV)}{m5:Nat}{o6:Fl}{es6:List (List PV)}{m6:Nat}(h:m0≤9223372036854775807→m3≤9223372036854775807→m4≤9223372036854775807→m5≤9223372036854775807→m6≤9223372036854775807→SW P n h0 w0 Fz0 c σ Q)(hs:σ.s 0=some (RV.sv ag cs):=by exact rfl)(j0:cs[0]?=some (PV.sl o0 es0):=by exact rfl)(e0:es0.length=m0:=by first|exact aU _|exact rfl)(j3:cs[3]?=some (PV.sl o3 es3):=by exact rfl)(e3:es3.length=m3:=by first|exact aU _|exact rfl)(j4:cs[4]?=some (PV.sl o4 es4):=by exact rfl)(e4:es4.length=m4:=by first|exact aU _|exact rfl)(j5:cs[5]?=some (PV.sl o5 es5):=by exact rfl)(e5:es5.length=m5:=by first|exact aU _|exact rfl)(j6:cs[6]?=some (PV.sl o6 es6):=by exact rfl)(e6:es6.length=m6:=by first|exact aU _|exact rfl):SW P n h0 w0 Fz0 c σ Q:=sn 0 0 (fun a0=>sn 0 3 (fun a3=>sn 0 4 (fun a4=>sn 0 5 (fun a5=>sn 0 6 (fun a6=>h a0 a3 a4 a5 a6) hs j6 e6) hs j5 e5) hs j4 e4) hs j3 e3) hs j0 e0
def sj(s:Nat){o:Fl}{m:Nat}(h:m≤9223372036854775807→SW P n h0 w0 Fz0 c σ Q)(hs:σ.s s=some (RV.slc o es):=by exact rfl)(hm:es.length=m:=by first|exact aU _|exact rfl):SW P n h0 w0 Fz0 c σ Q:=avq hs fun k=>h (hm▸k)
def sc{b:Bool}{A B:Prop}(h1:A→SW P n h0 w0 Fz0 x σ Q)(h2:B→SW P n h0 w0 Fz0 y σ Q)(ht:σ.s t=some (RV.bool b):=by exact rfl)(u1:b=true→A:=by first|(intro h;simp only [qq] at h;exact h)|exact fun h=>h)(u2:b=false→B:=by first|(intro h;simp only [qq] at h;exact h)|exact fun h=>h):SW P n h0 w0 Fz0 (.cond (.tmp t) x y) σ Q:=QF ht (fun k=>h1 (u1 k)) (fun k=>h2 (u2 k))
def gw(h1:SW P n h0 w0 Fz0 x σ Q)(ht:σ.s t=some (RV.bool true):=by exact rfl):SW P n h0 w0 Fz0 (.cond (.tmp t) x y) σ Q:=QF ht (fun _=>h1) (fun k=>nomatch k)
def fY(h1:SW P n h0 w0 Fz0 y σ Q)(ht:σ.s t=some (RV.bool false):=by exact rfl):SW P n h0 w0 Fz0 (.cond (.tmp t) x y) σ Q:=QF ht (fun k=>nomatch k) (fun _=>h1)
end
section
variable{P:Program}{n:Nat}{ops:Array Oper}{σ σ0:St}{QS:St→Prop}{l:List Oper}{o:Oper}{acc:List (Nat×aM)}{C:Nat→aM→Prop}
def rY(s:Nat)(y:bR P n ops QS l σ)(hs:σ.s s=some (RV.bool true):=by exact rfl):bR P n ops QS l σ:=bR.cases hs (fun _=>y) (fun h=>nomatch h)
def rN(s:Nat)(y:bR P n ops QS l σ)(hs:σ.s s=some (RV.bool false):=by exact rfl):bR P n ops QS l σ:=bR.cases hs (fun h=>nomatch h) (fun _=>y)
def dY(s:Nat)(y:cj P n ops σ0 C QS l acc σ)(hs:σ.s s=some (RV.bool true):=by exact rfl):cj P n ops σ0 C QS l acc σ:=cj.cases hs (fun _=>y) (fun h=>nomatch h)
def cx(s:Nat){b:Bool}{A B:Prop}(h1:b=true→A→bR P n ops QS l σ)(h2:b=false→B→bR P n ops QS l σ)(ht:σ.s s=some (RV.bool b):=by exact rfl)(u1:b=true→A:=by first|(intro h;simp only [qq] at h;exact h)|exact fun h=>h)(u2:b=false→B:=by first|(intro h;simp only [qq] at h;exact h)|exact fun h=>h):bR P n ops QS l σ:=bR.cases ht (fun k=>h1 k (u1 k)) (fun k=>h2 k (u2 k))
def dx(s:Nat){b:Bool}{A B:Prop}(h1:b=true→A→cj P n ops σ0 C QS l acc σ)(h2:b=false→B→cj P n ops σ0 C QS l acc σ)(ht:σ.s s=some (RV.bool b):=by exact rfl)(u1:b=true→A:=by first|(intro h;simp only [qq] at h;exact h)|exact fun h=>h)(u2:b=false→B:=by first|(intro h;simp only [qq] at h;exact h)|exact fun h=>h):cj P n ops σ0 C QS l acc σ:=cj.cases ht (fun k=>h1 k (u1 k)) (fun k=>h2 k (u2 k))
inductive Hd(H:Prop):Prop
 | mk (h:H):Hd H
def Hd.g:Hd H→H:=fun x=>by cases x with|mk h=>exact h
abbrev ae(G H:Prop):=Hd H→G
def ah{G:Prop}(w:ae G H)(h:H):G:=w ⟨h⟩
def zt{G:Prop}(g:c=true)(h:H)(w:c=true→Hd H→G:=by intro g_ h_;(repeat (first|refine bR.s0t g_ ?_|refine bR.su ?_));exact h_.g):G:=w g ⟨h⟩
def zf{G:Prop}(g:c=false)(h:H)(w:c=false→Hd H→G:=by intro g_ h_;(repeat (first|refine bR.s0f g_ ?_|refine bR.su ?_));exact h_.g):G:=w g ⟨h⟩
def rX{L:aM}(y:bR P n ops QS l (σ.app L))(h1:bh L.rs σ.s:=by repeat (first|exact True.intro|refine And.intro rfl ?_))(h2:bh L.rb σ.b:=by repeat (first|exact True.intro|refine And.intro rfl ?_))(x:Loc P n o L)(hg:o.guard=none:=by exact rfl)(ha:∀d,L.al=some d→dv d σ:=by refine uI ?_;repeat (first|exact dv.of_ rfl|refine dv.app ?_ rfl)):bR P n ops QS (o::l) σ:=bR.step h1 h2 (db.of hg x) ha y
def dX{L:aM}(m:Nat)(y:cj P n ops σ0 C QS l (acc++[(m,L)]) (σ.app L))(h1:bh L.rs σ.s:=by repeat (first|exact True.intro|refine And.intro rfl ?_))(h2:bh L.rb σ.b:=by repeat (first|exact True.intro|refine And.intro rfl ?_))(x:Loc P n o L)(hg:o.guard=none:=by exact rfl)(ha:∀d,L.al=some d→dv d σ0:=by exact ki)(h4:tj m o L acc=true:=by kernel_rfl)(hC:C acc.length L:=by show (List.all _ _)=true;kernel_rfl):cj P n ops σ0 C QS (o::l) acc σ:=cj.stepC m h1 h2 (db.of hg x) ha h4 hC y
end
def rb{b:Bool}(h:b=c):some (RV.bool b)=some (RV.bool c)∧True:=⟨er h,True.intro⟩
def lcE{L:Nat→Prop}:∀cs,cs∈([]:List (List PV))→aw L cs:=fun _ h=>nomatch h
def lcF{L:Nat→Prop}:∀cs,cs∈([]:List (List PV))→mJ L cs:=fun _ h=>nomatch h
def lq{G:Prop}(h:G:=by repeat' (first|with_reducible (first|exact aw.nil|exact aw.vals|exact mJ.nil|exact PV.lcl_val|exact PV.lclr_val|exact PV.lcl_any|exact RV.lcl_hdr|exact RV.lcl_ptr|exact RV.lcl_gat|exact RV.lcl_phi|exact aS.nil|exact PV.bor_val _|exact PV.bor_sl _|exact PV.bor_lo _ _|exact PV.bor_any|exact PV.bor_clo _ _|exact PV.bor_ep _|apply PV.bor_nv|exact jJ|exact jK.nil|exact PV.tob_refl|exact uJ.nil|exact OTo.refl|exact OTo.lo|apply aw.cons|apply mJ.cons|apply aS.cons|apply kl|apply jK.cons|apply uJ.cons|apply RV.lcl_nm|apply RV.lcl_sv|apply RV.lcl_gh|apply PV.lcl_nv|apply PV.lcl_own|apply PV.lcl_lo|apply PV.lclr_lo|apply aw.flat|apply aw.app|apply lcA|refine aw.map fun _=>?_|refine mJ.map fun _=>?_|refine PV.tob_map (fun _=>Nat.le_of_ble_eq_true rfl) (fun _=>?_)|exact True.intro|exact tn.nil|apply tn.cons)|apply aw.cons|apply mJ.cons|apply jK.cons|apply aS.cons|apply kl|exact aw.nil|exact mJ.nil|exact jK.nil|exact aS.nil|exact jJ|exact lcE|exact lcF|apply uJ.cons|apply RV.lcl_sv|exact RV.lcl_ptr|exact True.intro|exact Or.inl rfl|(refine Or.inl ?_;simp [nz];done)|refine Or.inr ?_|refine And.intro rfl ?_|refine And.intro ?_ ?_|exact rfl|refine aw.map fun _=>?_)):G:=h
end
section
def JW{α:Type}{f g:α→List PV}{fN:α×(Nat→Value)→List PV}{e:Nat}(hN:∀x h,fN (x,h)=fX h 0 (g x))(hg:∀x,(g x).length=e)(hq:∀x,az (f x) (g x))(hb:∀x,aS (g x)){Fz:aC}{w:World}:∀{xs:List α} {css:List Value} {F:List Nat},cX e (xs.map f) Fz w css F →
  ∃zs:List (α×(Nat→Value)),zs.map Prod.fst=xs∧css=bz e zs∧cX e (zs.map fN) Fz w css []∧aN (cb f zs) Fz w (bz e zs) F
 | [],css,F,h=>by obtain ⟨rfl,rfl⟩:=h;exact ⟨[],rfl,rfl,⟨rfl,rfl⟩,⟨rfl,rfl⟩⟩
 | x::xs,css,F,h=>by
  obtain ⟨c,d,F1,F2,rfl,rfl,hl,h1,h2⟩:=h;obtain ⟨zs,e1,e2,e3,e4⟩:=JW hN hg hq hb h2;obtain ⟨k,hk⟩:=Rr hl;refine ⟨(x,k)::zs,PJ,?_,?_,?_⟩;·rw [hk,e2];rfl
  ·refine ⟨c,d,[],[],rfl,rfl,hl,?_,e3⟩
   rw [hN,JP,hg,←List.range_eq_range',←hk];exact JO (hb x) ((hq x).rel h1.rel)
  ·have:aN (f x++cb f zs) Fz w (c++bz e zs) (F1++F2):=h1.append e4
   rw [hk] at this;exact this
section
variable{P:Program}{n:Nat}{h0:Nat→Prop}{w0:World}{Fz0:aC}{σ:St}{Q:Exit→St→Prop}{c:Code}
def adB{s:Nat}{g:α→List PV}(hs:σ.s s=some (RV.sv false [PV.sl (.own t e) (xs.map f)]))(hsG:Nat.beq s G=false)(hG:σ.s G=none)(hN:∀x h,fN (x,h)=fX h 0 (g x))(hg:∀x,(g x).length=e)(hq:∀x,az (f x) (g x))(hb:∀x,aS (g x))
  (h:∀zs:List (α×(Nat→Value)),zs.map Prod.fst=xs→SW P n h0 w0 Fz0 c ((σ.set s (some (RV.sv false [PV.sl .v (zs.map fN)]))).set G (some (RV.gh (bz e zs) (cb f zs)))) Q):SW P n h0 w0 Fz0 c σ Q:=fun a w hc=>by
 rw [beq_eq,decide_eq_false_iff_not] at hsG;obtain ⟨φ,Fz,Fp,hc⟩:=hc;have hv:bY false [PV.sl (.own t e) (xs.map f)] Fz w (a.tmps.getD s undef) (Fp (2 * s+1)):=hc.slot s _ hs;obtain ⟨hag,v,vs',F1,F2,hv1,hF,ho,hnil,rfl⟩:=hv;subst hnil;have ho:eG t e (xs.map f) Fz w v F1:=ho;obtain ⟨css,F',hrow,hll,hfz,rfl,hone⟩:=ho;obtain ⟨zs,e1,e2,e3,e4⟩:=JW hN hg hq hb hll;have hlen:(zs.map fN).length=(xs.map f).length:=Ip;have hsl:eG t e (zs.map fN) Fz w v (v.ownBlock.toList++[]):=⟨css,[],yN,e3,fun g hg o=>by rw [hlen];exact hfz g hg o,rfl,hone⟩;have c1:=hc.pull s;have e0:mv Fp (2 * s+1) 0=Fp (2 * s+1)++Fp 0:=hI;have es:mv Fp (2 * s+1) (2 * s+1)=[]:=hI;have hnd:=c1.nod 0;rw [e0,hF,fS] at hnd;rw [hF,fS] at e0;have c2:=c1.reslot (s:=s) (rv:=RV.sv false [PV.sl .v (zs.map fN)]) (by rw [es];exact ⟨hag,v,[],[],[],hv1,rfl,⟨hsl.rel,rfl⟩,rfl,rfl⟩)
 have c3:=c2.pushG (G:=G) (us:=bz e zs) (cs:=cb f zs) (F:=F') (X:=Fp 0) e4 (fun b hb=>by
   rw [e0];rcases List.mem_append.1 hb with hb|hb;·simp [hb]
   ·simp [hb])
  (by rw [bn] at hnd;exact (List.nodup_append.1 hnd).2.1)
 exact h zs e1 a w (bB.eqv ⟨_,_,_,c3⟩ (fun i=>by
  simp only [St.set_s];split;·rfl
  ·split<;>rfl) (fun d=>rfl))
def awc{H:Nat}(hG:σ.s G=some (RV.gh (bz e ys) (cb f ys)))(hH:σ.s H=some (RV.gh (bz e zs) (cb f zs)))(hGH:Nat.beq G H=false)(h:SW P n h0 w0 Fz0 c ((σ.set H none).set G (some (RV.gh (bz e (ys++zs)) (cb f (ys++zs))))) Q):SW P n h0 w0 Fz0 c σ Q:=fun a w hc=>by
 rw [beq_eq,decide_eq_false_iff_not] at hGH;obtain ⟨φ,Fz,Fp,hc⟩:=hc;have h1:aN (cb f ys) Fz w (bz e ys) (Fp (2 * G+1)):=hc.slot G _ hG;have h2:aN (cb f zs) Fz w (bz e zs) (Fp (2 * H+1)):=hc.slot H _ hH;have ho:aN (cb f (ys++zs)) Fz w (bz e (ys++zs)) (Fp (2 * G+1)++Fp (2 * H+1)):=by
  have e1:cb f (ys++zs)=cb f ys++cb f zs:=by simp [cb]
  have e2:bz e (ys++zs)=bz e ys++bz e zs:=by simp [bz]
  rw [e1,e2];exact h1.append h2
 have c1:=hc.pull H;have c2:=c1.pull G;have e1:mv Fp (2 * H+1) (2 * G+1)=Fp (2 * G+1):=abJ;have e2:mv (mv Fp (2 * H+1)) (2 * G+1) 0=Fp (2 * G+1)++(Fp (2 * H+1)++Fp 0):=by rw [←e1];simp [mv]
 have hnd:=c2.nod 0;rw [e2] at hnd;have c3:=c2.pushG (G:=G) (F:=Fp (2 * G+1)++Fp (2 * H+1)) (X:=Fp 0) ho (fun b hb=>by rw [e2,←bn];exact hb) (by rw [bn];exact hnd);exact h a w (bB.eqv ⟨_,_,_,c3⟩ (fun i=>by
  simp only [St.set_s];split;·rfl
  ·rfl) (fun d=>rfl))
def Rz{d:Nat}{z:α×(Nat→Value)}(hd:σ.b d=some (t,ps))(hn:Nm ps ((List.range e).map z.2))(hf:∀x,(f x).length=e)(hG:σ.s G=some (RV.gh (bz e (z::zs)) (cb f (z::zs))))
  (h:SW P n h0 w0 Fz0 c ((σ.setB d (some (t,f z.1))).set G (some (RV.gh (bz e zs) (cb f zs)))) Q):SW P n h0 w0 Fz0 c σ Q:=fun a w hc=>by
 obtain ⟨φ,Fz,Fp,hc⟩:=hc;have hg0:aN (f z.1++cb f zs) Fz w ((List.range e).map z.2++bz e zs) (Fp (2 * G+1)):=hc.slot G _ hG;obtain ⟨v1,v2,F1,F2,k1,k2,k3,k4⟩:=hg0.split;obtain ⟨rfl,rfl⟩:=List.append_inj k1 (by rw [k3.len,hf];simp);have c1:=hc.pull G;have e0:mv Fp (2 * G+1) 0=Fp (2 * G+1)++Fp 0:=hI;obtain ⟨cur,h1,h2⟩:=c1.box d (t,ps) hd;obtain ⟨g1,g2,g3⟩:=c1.bxb d (t,ps) hd;have hu:cur.toList=(List.range e).map z.2:=hn h2.rel;have c2:=c1.pullB (d:=d) (cs:=(t,ps)) hd;generalize hFp1:mv Fp (2 * G+1)=Fp1 at c1 c2 e0 h2 g3;have hnd:=c2.nod 0;simp only [if_true] at hnd;have em:mv Fp1 (2 * d+2) 0=Fp1 (2 * d+2)++Fp1 0:=hI;rw [em,e0,k2] at hnd;rw [k2] at e0
 have c3:=c2.pushB (d:=d) (g:=φ d) (t:=t) (cs:=f z.1) (F:=F1) (X:=F2++Fp 0) mF h1 (by rw [hu];exact k3) g2
  (fun x hx=>by
   simp only [if_true];rw [em,e0];rcases List.mem_append.1 hx with hx|hx;·simp [hx]
   ·rcases List.mem_cons.1 hx with rfl|hx
    ·simp
    ·rcases List.mem_append.1 hx with hx|hx<;>simp [hx])
  (by
   simp only [kg,fm] at hnd;obtain ⟨m0,m1⟩:=hnd;have m2:=(List.nodup_append.1 m1).2.1;rw [bn,dD] at m2;rw [dD];refine ⟨m2.1,List.nodup_cons.2 ⟨fun hh=>?_,m2.2.1⟩,fun x hx y hy e=>?_⟩
   ·rcases List.mem_append.1 hh with hh|hh
    ·exact m0 (.inr (.inl (.inr hh)))
    ·exact m0 (.inr (.inr hh))
   ·rcases List.mem_cons.1 hy with rfl|hy
    ·exact m0 (.inr (.inl (.inl (e▸hx))))
    ·exact m2.2.2 x hx y hy e)
  (.inl rfl)
 have hn3:=c3.nod 0;have c4:=c3.pushG (G:=G) (F:=F2) (X:=Fp 0) k4 (fun b hb=>by simp only [eQ];rw [if_neg ab];simpa using hb) (by simp only [eQ] at hn3;rw [if_neg ab] at hn3;simpa using hn3)
 exact h a w (bB.eqv ⟨_,_,_,c4⟩ (fun i=>by
  simp only [St.set_s,St.setB_s];split<;>rfl) (fun e=>by
  simp only [St.setB_b,St.set_b];split<;>rfl))
def Bu{d:Nat}{g:α→List PV}(hd:σ.b d=some (T,A++(PV.sl (.own t e) (xs.map f)::B)))(hG:σ.s G=none)(hN:∀x h,fN (x,h)=fX h 0 (g x))(hg:∀x,(g x).length=e)(hq:∀x,az (f x) (g x))(hb:∀x,aS (g x))
  (h:∀zs:List (α×(Nat→Value)),zs.map Prod.fst=xs→SW P n h0 w0 Fz0 c ((σ.setB d (some (T,A++(PV.sl .v (zs.map fN)::B)))).set G (some (RV.gh (bz e zs) (cb f zs)))) Q):SW P n h0 w0 Fz0 c σ Q:=fun a w hc=>by
 obtain ⟨φ,Fz,Fp,hc⟩:=hc;obtain ⟨cur,h1,h2⟩:=hc.box d _ hd;obtain ⟨g1,g2,g3⟩:=hc.bxb d _ hd;obtain ⟨v1,v2,F1,F2,k1,k2,k3,v,vs',E1,E2,rfl,rfl,ho,kB⟩:=h2.split;have ho:eG t e (xs.map f) Fz w v E1:=ho;obtain ⟨css,F',hrow,hll,hfz,rfl,hone⟩:=ho;obtain ⟨zs,e1,e2,e3,e4⟩:=JW hN hg hq hb hll;have hlen:(zs.map fN).length=(xs.map f).length:=Ip;have hsl:eG t e (zs.map fN) Fz w v (v.ownBlock.toList++[]):=⟨css,[],yN,e3,fun g hg o=>by rw [hlen];exact hfz g hg o,rfl,hone⟩;have hnew:aN (A++(PV.sl .v (zs.map fN)::B)) Fz w cur.toList (F1++([]++E2)):=by rw [k1];exact k3.append ⟨v,vs',[],E2,rfl,rfl,⟨hsl.rel,rfl⟩,kB⟩
 rw [List.nil_append] at hnew;have c2:=hc.pullB hd;have hnd:=c2.nod 0;simp only [if_true] at hnd;have em:mv Fp (2 * d+2) 0=Fp (2 * d+2)++Fp 0:=hI;have k2':Fp (2 * d+2)=F1++(v.ownBlock.toList++F'++E2):=k2;rw [em,k2'] at hnd;rw [k2'] at em;have hperm:(φ d::(F1++(v.ownBlock.toList++F'++E2)++Fp 0)).Perm ((F1++E2)++φ d::(F'++(v.ownBlock.toList++Fp 0))):=by
  refine (List.Perm.trans ?_ List.perm_middle.symm);refine List.Perm.cons _ ?_;simp only [bn];refine jr _ ?_;show (v.ownBlock.toList++(F'++(E2++Fp 0))).Perm (E2++(F'++(v.ownBlock.toList++Fp 0)));have p1:((v.ownBlock.toList++F')++(E2++Fp 0)).Perm ((F'++v.ownBlock.toList)++(E2++Fp 0)):=lU _ ny;have p2:((F'++v.ownBlock.toList)++(E2++Fp 0)).Perm (E2++((F'++v.ownBlock.toList)++Fp 0)):=by rw [←bn,←bn];exact lU _ ny
  have p3:=p1.trans p2;simpa using p3
 have c3:=c2.pushB (d:=d) (g:=φ d) (t:=T) (cs:=A++(PV.sl .v (zs.map fN)::B)) (F:=F1++E2) (X:=F'++(v.ownBlock.toList++Fp 0)) mF h1 hnew g2
  (fun x hx=>by simp only [if_true];rw [em];exact hperm.mem_iff.2 hx) (hperm.nodup_iff.1 hnd) (.inl rfl)
 have hn3:=c3.nod 0;have c4:=c3.pushG (G:=G) (F:=F') (X:=v.ownBlock.toList++Fp 0) e4 (fun b hb=>by simp only [eQ];rw [if_neg ab];simpa using hb) (by simp only [eQ] at hn3;rw [if_neg ab] at hn3;simpa using hn3)
 exact h zs e1 a w (bB.eqv ⟨_,_,_,c4⟩ (fun i=>by
  simp only [St.set_s,St.setB_s]) (fun e=>by
  simp only [St.setB_b,St.set_b];split<;>rfl))
end
end
section
def awd{g:α→List PV}(hN:∀x h,fN (x,h)=fX h 0 (g x))(hg:∀x,(g x).length=e)(hq:∀x,az (f x) (g x))(hb:∀x,aS (g x))(h:eG t e (xs.map f) Fz w v F) :
  ∃zs:List (α×(Nat→Value)),∃F1 F2,zs.map Prod.fst=xs∧eG t e (zs.map fN) Fz w v F1∧aN (cb f zs) Fz w (bz e zs) F2∧F=F1++F2:=by
 obtain ⟨css,F',hrow,hll,hfz,rfl,hone⟩:=h;obtain ⟨zs,e1,e2,e3,e4⟩:=JW hN hg hq hb hll;have hlen:(zs.map fN).length=(xs.map f).length:=Ip;exact ⟨zs,v.ownBlock.toList++[],F',e1,⟨css,[],yN,e3,fun g hg o=>by rw [hlen];exact hfz g hg o,rfl,hone⟩,e4,aL⟩
def adC:cb f (ys++zs)=cb f ys++cb f zs:=by simp [cb]
def Bv:bz e (ys++zs)=bz e ys++bz e zs:=by simp [bz]
def JX{a b c d:List α}:(a++b++(c++d)).Perm (a++c++(b++d)):=by simp only [bn];refine jr _ ?_;rw [←bn,←bn];exact lU _ ny
def adD{α:Type}{f g:α→List PV}{fN:α×(Nat→Value)→List PV}{e:Nat}(hN:∀x h,fN (x,h)=fX h 0 (g x))(hg:∀x,(g x).length=e)(hf:∀x,(f x).length=e){Fz:aC}{w:World}:∀{zs:List (α×(Nat→Value))} {css:List Value} {F1 F2:List Nat},cX e (zs.map fN) Fz w css F1→aN (cb f zs) Fz w (bz e zs) F2→cX e ((zs.map Prod.fst).map f) Fz w css F2
 | [],css,F1,F2,h,k=>by obtain ⟨rfl,rfl⟩:=h;obtain ⟨_,rfl⟩:=k;exact ⟨rfl,rfl⟩
 | z::zs,css,F1,F2,h,k=>by
  obtain ⟨c,d,Fa,Fb,rfl,rfl,hl,h1,h2⟩:=h;have k:aN (f z.1++cb f zs) Fz w ((List.range e).map z.2++bz e zs) F2:=k;obtain ⟨v1,v2,G1,G2,k1,k2,k3,k4⟩:=k.split;obtain ⟨rfl,rfl⟩:=List.append_inj k1 (by rw [k3.len,hf];simp);have hc:c=(List.range e).map z.2:=by
   have hr:=h1.rel;rw [show fN z=fX z.2 0 (g z.1) from hN z.1 z.2] at hr;have hk:∀(ps:List PV) (i:Nat) (vs:List Value),cC (fX z.2 i ps) Fz w vs→vs=(List.range' i ps.length).map z.2:=by
    intro ps;induction ps with
    | nil=>intro i vs h;exact h
    | cons p ps ih=>
     intro i vs h;obtain ⟨v,vs',rfl,h1,h2⟩:=h;rw [ih _ _ h2,h1.1];rfl
   rw [hk _ _ _ hr,hg,←List.range_eq_range']
  subst hc;exact ⟨_,d,G1,G2,rfl,k2,hl,k3,adD hN hg hf h2 k4⟩
def adE(hf:∀x,(f x).length=e){z:α×(Nat→Value)}{l:List (α×(Nat→Value))}(h:aN (cb f (z::l)) Fz w (bz e (z::l)) F):∃F1 F2,F=F1++F2∧aN (f z.1) Fz w ((List.range e).map z.2) F1∧aN (cb f l) Fz w (bz e l) F2:=by have h:aN (f z.1++cb f l) Fz w ((List.range e).map z.2++bz e l) F:=h;obtain ⟨v1,v2,F1,F2,e1,rfl,h1,h2⟩:=h.split;obtain ⟨rfl,rfl⟩:=List.append_inj e1 (by rw [h1.len,hf];simp);exact ⟨F1,F2,rfl,h1,h2⟩
def adF(hf:∀x,(f x).length=e)(hs:ys.Sublist zs):∀{F:List Nat},aN (cb f zs) Fz w (bz e zs) F→∃F' R,F.Perm (F'++R)∧aN (cb f ys) Fz w (bz e ys) F':=by
 induction hs with
 | slnil=>exact fun h=>⟨_,[],by rw [fS],h⟩
 | cons z hs ih=>
  intro F h;obtain ⟨F1,F2,rfl,h1,h2⟩:=adE hf h;obtain ⟨F',R,hp,ho⟩:=ih h2;exact ⟨F',F1++R,(jr _ hp).trans (by rw [←bn,←bn];exact lU _ ny),ho⟩
 | cons_cons z hs ih=>
  intro F h;obtain ⟨F1,F2,rfl,h1,h2⟩:=adE hf h;obtain ⟨F',R,hp,ho⟩:=ih h2;refine ⟨F1++F',R,(jr _ hp).trans (by rw [bn]),?_⟩;exact h1.append ho
def adG{g:α→List PV}(hN:∀x h,fN (x,h)=fX h 0 (g x))(hg:∀x,(g x).length=e)(hf:∀x,(f x).length=e){F1 F2:List Nat}(h:eG t e (zs.map fN) Fz w v F1)(k:aN (cb f zs) Fz w (bz e zs) F2):eG t e ((zs.map Prod.fst).map f) Fz w v (v.ownBlock.toList++F2):=by obtain ⟨css,F',hrow,hll,hfz,rfl,hone⟩:=h;have hlen:((zs.map Prod.fst).map f).length=(zs.map fN).length:=aL;exact ⟨css,F2,yN,adD hN hg hf hll k,fun g hg o=>by rw [hlen];exact hfz g hg o,rfl,hone⟩
def adH(h:eG t e es Fz w v F):∃F',F=v.ownBlock.toList++F':=by obtain ⟨css,F',hrow,hll,hfz,rfl,hone⟩:=h;exact ⟨F',rfl⟩
def JY{x:α}:bX f (x::xs) jk=f x++bX f xs jk:=by unfold bX;rw [List.map_cons,List.flatten_cons,bn]
def adI{α:Type}{f g:α→List PV}{fN:α×(Nat→Value)→List PV}{t e:Nat}(hN:∀x h,fN (x,h)=fX h 0 (g x))(hg:∀x,(g x).length=e)(hq:∀x,az (f x) (g x))(hb:∀x,aS (g x)){jk:List Value}{Fz:aC}{w:World}:∀{xss:List (List α)} {vs:List Value} {F:List Nat},aN (bX (fun xs=>[PV.sl (.own t e) (xs.map f)]) xss jk) Fz w vs F →
  ∃zss:List (List (α×(Nat→Value))),∃F1 F2,zss.map (List.map Prod.fst)=xss∧aN (bX (fun zs=>[PV.sl (.own t e) (zs.map fN)]) zss jk) Fz w vs F1∧aN (cb f zss.flatten) Fz w (bz e zss.flatten) F2∧F.Perm (F1++F2)
 | [],vs,F,h=>⟨[],F,[],rfl,h,⟨rfl,rfl⟩,by rw [fS]⟩
 | xs::xss,vs,F,h=>by
  rw [JY] at h;obtain ⟨v,vs',Fa,Fb,rfl,rfl,ho,h2⟩:=h;obtain ⟨zs,A1,A2,e1,e2,e3,rfl⟩:=awd hN hg hq hb (show eG t e (xs.map f) Fz w v Fa from ho);obtain ⟨zss,B1,B2,e4,e5,e6,hp⟩:=adI hN hg hq hb h2;refine ⟨zs::zss,A1++B1,A2++B2,by rw [List.map_cons,e1,e4],?_,?_,?_⟩;·rw [JY];exact ⟨v,vs',A1,B1,rfl,rfl,e2,e5⟩
  ·rw [List.flatten_cons,adC,Bv];exact e3.append e6
  ·exact (jr _ hp).trans JX
def awe(hf:∀x,(f x).length=e):∀l:List (α×(Nat→Value)),(bz e l).length=(cb f l).length:=by
 intro l;induction l with
 | nil=>rfl
 | cons z l ih=>
  show ((List.range e).map z.2++bz e l).length=(f z.1++cb f l).length;simp [hf,ih]
def adJ{α:Type}{f g:α→List PV}{fN:α×(Nat→Value)→List PV}{t e:Nat}(hN:∀x h,fN (x,h)=fX h 0 (g x))(hg:∀x,(g x).length=e)(hf:∀x,(f x).length=e){jk:List Value}{Fz:aC}{w:World}:∀{zss:List (List (α×(Nat→Value)))} {vs:List Value} {F1 F2:List Nat},aN (bX (fun zs=>[PV.sl (.own t e) (zs.map fN)]) zss jk) Fz w vs F1→aN (cb f zss.flatten) Fz w (bz e zss.flatten) F2 →
  ∃F R,aN (bX (fun xs=>[PV.sl (.own t e) (xs.map f)]) (zss.map (List.map Prod.fst)) jk) Fz w vs F∧(F1++F2).Perm (F++R)
 | [],vs,F1,F2,h,k=>⟨F1,F2,h,List.Perm.refl _⟩
 | zs::zss,vs,F1,F2,h,k=>by
  rw [JY] at h;obtain ⟨v,vs',G1,Fb,rfl,rfl,ho,h2⟩:=h;rw [List.flatten_cons,adC,Bv] at k;obtain ⟨v1,v2,K1,K2,k1,rfl,k3,k4⟩:=k.split;obtain ⟨rfl,rfl⟩:=List.append_inj k1 (by rw [k3.len];exact awe hf zs);have ho:eG t e (zs.map fN) Fz w v G1:=ho;obtain ⟨G',rfl⟩:=adH ho;have hb:=adG hN hg hf ho k3;obtain ⟨F,R,e1,hp⟩:=adJ hN hg hf h2 k4;refine ⟨(v.ownBlock.toList++K1)++F,G'++R,?_,?_⟩;·rw [List.map_cons,JY];exact ⟨v,vs',_,F,rfl,rfl,hb,e1⟩
  refine JX.trans ?_;refine (jr _ hp).trans ?_;simp only [bn];refine jr _ ?_;have p1:(G'++(K1++(F++R))).Perm ((K1++F)++(G'++R)):=by have:=(ny (l₁:=G') (l₂:=K1++F)).append_right R;simpa only [bn] using this
  simpa only [bn] using p1
section
variable{P:Program}{n:Nat}{h0:Nat→Prop}{w0:World}{Fz0:aC}{σ:St}{Q:Exit→St→Prop}{c:Code}
def awf{d:Nat}{q:ι→PV}{us:ι→List Value}{gs:ι→List PV}(hd:σ.b d=some (T,A++(p::B)))(hG:σ.s G=none)(hp:∀{Fz:aC} {w:World} {v:Value} {F:List Nat},p.own Fz w v F→∃i,∃F1 F2,(q i).own Fz w v F1∧aN (gs i) Fz w (us i) F2∧F.Perm (F1++F2))
  (h:∀i,SW P n h0 w0 Fz0 c ((σ.setB d (some (T,A++(q i::B)))).set G (some (RV.gh (us i) (gs i)))) Q):SW P n h0 w0 Fz0 c σ Q:=fun a w hc=>by
 obtain ⟨φ,Fz,Fp,hc⟩:=hc;obtain ⟨cur,h1,h2⟩:=hc.box d _ hd;obtain ⟨g1,g2,g3⟩:=hc.bxb d _ hd;obtain ⟨v1,v2,F1,F2,k1,k2,k3,v,vs',E1,E2,rfl,rfl,ho,kB⟩:=h2.split;obtain ⟨i,P1,P2,m1,m2,m3⟩:=hp ho;have hnew:aN (A++(q i::B)) Fz w cur.toList (F1++(P1++E2)):=by rw [k1];exact k3.append ⟨v,vs',P1,E2,rfl,rfl,m1,kB⟩
 have c2:=hc.pullB hd;have hnd:=c2.nod 0;simp only [if_true] at hnd;have em:mv Fp (2 * d+2) 0=Fp (2 * d+2)++Fp 0:=hI;have k2':Fp (2 * d+2)=F1++(E1++E2):=k2;rw [em,k2'] at hnd;rw [k2'] at em;have hperm:(φ d::(F1++(E1++E2)++Fp 0)).Perm ((F1++(P1++E2))++φ d::(P2++Fp 0)):=by refine (List.Perm.trans ?_ List.perm_middle.symm);refine List.Perm.cons _ ?_;simp only [bn];refine jr _ ?_;refine (lU _ m3).trans ?_;simp only [bn];refine jr _ ?_;rw [←bn,←bn];exact lU _ ny
 have c3:=c2.pushB (d:=d) (g:=φ d) (t:=T) (cs:=A++(q i::B)) (F:=F1++(P1++E2)) (X:=P2++Fp 0) mF h1 hnew g2
  (fun x hx=>by simp only [if_true];rw [em];exact hperm.mem_iff.2 hx) (hperm.nodup_iff.1 hnd) (.inl rfl)
 have hn3:=c3.nod 0;have c4:=c3.pushG (G:=G) (F:=P2) (X:=Fp 0) m2 (fun b hb=>by simp only [eQ];rw [if_neg ab];simpa using hb) (by simp only [eQ] at hn3;rw [if_neg ab] at hn3;simpa using hn3)
 exact h i a w (bB.eqv ⟨_,_,_,c4⟩ (fun i=>by
  simp only [St.set_s,St.setB_s]) (fun e=>by
  simp only [St.setB_b,St.set_b];split<;>rfl))
def adK{d:Nat}{q:PV}(hd:σ.b d=some (T,A++(q::B)))(hG:σ.s G=some (RV.gh us gs))(hp:∀{Fz:aC} {w:World} {v:Value} {F1 F2:List Nat},q.own Fz w v F1→aN gs Fz w us F2→∃F R,p.own Fz w v F∧(F1++F2).Perm (F++R))
  (h:SW P n h0 w0 Fz0 c ((σ.set G none).setB d (some (T,A++(p::B)))) Q):SW P n h0 w0 Fz0 c σ Q:=fun a w hc=>by
 obtain ⟨φ,Fz,Fp,hc⟩:=hc;have hg0:aN gs Fz w us (Fp (2 * G+1)):=hc.slot G _ hG;have c1:=hc.pull G;have e0:mv Fp (2 * G+1) 0=Fp (2 * G+1)++Fp 0:=hI;obtain ⟨cur,h1,h2⟩:=c1.box d _ hd;obtain ⟨g1,g2,g3⟩:=c1.bxb d _ hd;obtain ⟨v1,v2,F1,F2,k1,k2,k3,v,vs',E1,E2,rfl,rfl,ho,kB⟩:=h2.split;obtain ⟨F,R,m1,m2⟩:=hp ho hg0;have hnew:aN (A++(p::B)) Fz w cur.toList (F1++(F++E2)):=by rw [k1];exact k3.append ⟨v,vs',F,E2,rfl,rfl,m1,kB⟩
 have c2:=c1.pullB (d:=d) hd;generalize hFp1:mv Fp (2 * G+1)=Fp1 at c1 c2 e0 h2 g3 k2;have hnd:=c2.nod 0;simp only [if_true] at hnd;have em:mv Fp1 (2 * d+2) 0=Fp1 (2 * d+2)++Fp1 0:=hI;have k2':Fp1 (2 * d+2)=F1++(E1++E2):=k2;rw [em,k2',e0] at hnd;rw [k2',e0] at em;have hperm:(φ d::(F1++(E1++E2)++(Fp (2 * G+1)++Fp 0))).Perm ((F1++(F++E2))++φ d::(R++Fp 0)):=by
  refine (List.Perm.trans ?_ List.perm_middle.symm);refine List.Perm.cons _ ?_;simp only [bn];refine jr _ ?_;have p1:(E1++(E2++(Fp (2 * G+1)++Fp 0))).Perm ((E1++Fp (2 * G+1))++(E2++Fp 0)):=by have:=JX (a:=E1) (b:=E2) (c:=Fp (2 * G+1)) (d:=Fp 0);simpa only [bn] using this
  refine p1.trans ((lU _ m2).trans ?_);have:=JX (a:=F) (b:=R) (c:=E2) (d:=Fp 0);simpa only [bn] using this
 have c3:=c2.pushB (d:=d) (g:=φ d) (t:=T) (cs:=A++(p::B)) (F:=F1++(F++E2)) (X:=R++Fp 0) mF h1 hnew g2
  (fun x hx=>by simp only [if_true];rw [em];exact hperm.mem_iff.2 hx) (hperm.nodup_iff.1 hnd) (.inl rfl)
 exact h a w (bB.eqv ⟨_,_,_,c3⟩ (fun i=>rfl) (fun e=>by simp only [St.setB_b,St.set_b];split<;>rfl))
def adL{d:Nat}{q:ι→List PV}{us:ι→List Value}{gs:ι→List PV}(hd:σ.b d=some (T,cs))(hG:σ.s G=none)(hp:∀{Fz:aC} {w:World} {vs:List Value} {F:List Nat},aN cs Fz w vs F→∃i,∃F1 F2,aN (q i) Fz w vs F1∧aN (gs i) Fz w (us i) F2∧F.Perm (F1++F2))
  (h:∀i,SW P n h0 w0 Fz0 c ((σ.setB d (some (T,q i))).set G (some (RV.gh (us i) (gs i)))) Q):SW P n h0 w0 Fz0 c σ Q:=fun a w hc=>by
 obtain ⟨φ,Fz,Fp,hc⟩:=hc;obtain ⟨cur,h1,h2⟩:=hc.box d _ hd;obtain ⟨g1,g2,g3⟩:=hc.bxb d _ hd;obtain ⟨i,P1,P2,m1,m2,m3⟩:=hp h2;have c2:=hc.pullB hd;have hnd:=c2.nod 0;simp only [if_true] at hnd;have em:mv Fp (2 * d+2) 0=Fp (2 * d+2)++Fp 0:=hI;rw [em] at hnd;have hperm:(φ d::(Fp (2 * d+2)++Fp 0)).Perm (P1++φ d::(P2++Fp 0)):=by refine (List.Perm.trans ?_ List.perm_middle.symm);refine List.Perm.cons _ ?_;rw [←bn];exact lU _ m3
 have c3:=c2.pushB (d:=d) (g:=φ d) (t:=T) (cs:=q i) (F:=P1) (X:=P2++Fp 0) mF h1 m1 g2
  (fun x hx=>by simp only [if_true];rw [em];exact hperm.mem_iff.2 hx) (hperm.nodup_iff.1 hnd) (.inl rfl)
 have hn3:=c3.nod 0;have c4:=c3.pushG (G:=G) (F:=P2) (X:=Fp 0) m2 (fun b hb=>by simp only [eQ];rw [if_neg ab];simpa using hb) (by simp only [eQ] at hn3;rw [if_neg ab] at hn3;simpa using hn3)
 exact h i a w (bB.eqv ⟨_,_,_,c4⟩ (fun i=>by
  simp only [St.set_s,St.setB_s]) (fun e=>by
  simp only [St.setB_b,St.set_b];split<;>rfl))
def adM{d:Nat}(hd:σ.b d=some (T,cs))(hG:σ.s G=some (RV.gh us gs))(hp:∀{Fz:aC} {w:World} {vs:List Value} {F1 F2:List Nat},aN cs Fz w vs F1→aN gs Fz w us F2→∃F R,aN ps Fz w vs F∧(F1++F2).Perm (F++R))
  (h:SW P n h0 w0 Fz0 c ((σ.set G none).setB d (some (T,ps))) Q):SW P n h0 w0 Fz0 c σ Q:=fun a w hc=>by
 obtain ⟨φ,Fz,Fp,hc⟩:=hc;have hg0:aN gs Fz w us (Fp (2 * G+1)):=hc.slot G _ hG;have c1:=hc.pull G;have e0:mv Fp (2 * G+1) 0=Fp (2 * G+1)++Fp 0:=hI;obtain ⟨cur,h1,h2⟩:=c1.box d _ hd;obtain ⟨g1,g2,g3⟩:=c1.bxb d _ hd;obtain ⟨F,R,m1,m2⟩:=hp h2 hg0;have c2:=c1.pullB (d:=d) hd;generalize hFp1:mv Fp (2 * G+1)=Fp1 at c1 c2 e0 h2 g3 m2;have hnd:=c2.nod 0;simp only [if_true] at hnd;have em:mv Fp1 (2 * d+2) 0=Fp1 (2 * d+2)++Fp1 0:=hI;rw [em,e0] at hnd;rw [e0] at em;have hperm:(φ d::(Fp1 (2 * d+2)++(Fp (2 * G+1)++Fp 0))).Perm (F++φ d::(R++Fp 0)):=by refine (List.Perm.trans ?_ List.perm_middle.symm);refine List.Perm.cons _ ?_;rw [←bn,←bn];exact lU _ m2
 have c3:=c2.pushB (d:=d) (g:=φ d) (t:=T) (cs:=ps) (F:=F) (X:=R++Fp 0) mF h1 m1 g2
  (fun x hx=>by simp only [if_true];rw [em];exact hperm.mem_iff.2 hx) (hperm.nodup_iff.1 hnd) (.inl rfl)
 exact h a w (bB.eqv ⟨_,_,_,c3⟩ (fun i=>rfl) (fun e=>by simp only [St.setB_b,St.set_b];split<;>rfl))
def adN{d:Nat}{g:α→List PV}{xss:List (List α)}(hd:σ.b d=some (T,bX (fun xs=>[PV.sl (.own t e) (xs.map f)]) xss jk))(hG:σ.s G=none)(hN:∀x h,fN (x,h)=fX h 0 (g x))(hg:∀x,(g x).length=e)(hq:∀x,az (f x) (g x))(hb:∀x,aS (g x))
  (h:∀zss:List (List (α×(Nat→Value))),zss.map (List.map Prod.fst)=xss→SW P n h0 w0 Fz0 c ((σ.setB d (some (T,bX (fun zs=>[PV.sl (.own t e) (zs.map fN)]) zss jk))).set G (some (RV.gh (bz e zss.flatten) (cb f zss.flatten)))) Q):SW P n h0 w0 Fz0 c σ Q:=
 adL (ι:={zss:List (List (α×(Nat→Value))) // zss.map (List.map Prod.fst)=xss}) (q:=fun i=>bX (fun zs=>[PV.sl (.own t e) (zs.map fN)]) i.1 jk) (us:=fun i=>bz e i.1.flatten) (gs:=fun i=>cb f i.1.flatten) hd hG
  (fun hh=>by obtain ⟨zss,F1,F2,e1,e2,e3,e4⟩:=adI hN hg hq hb hh;exact ⟨⟨zss,e1⟩,F1,F2,e2,e3,e4⟩) (fun i=>h i.1 i.2)
def awg{d:Nat}{g:α→List PV}{zss:List (List (α×(Nat→Value)))}{ws:List (α×(Nat→Value))}(hd:σ.b d=some (T,bX (fun zs=>[PV.sl (.own t e) (zs.map fN)]) zss jk))(hG:σ.s G=some (RV.gh (bz e ws) (cb f ws)))(hN:∀x h,fN (x,h)=fX h 0 (g x))(hg:∀x,(g x).length=e)(hf:∀x,(f x).length=e)(hs:zss.flatten.Sublist ws)
  (h:SW P n h0 w0 Fz0 c ((σ.set G none).setB d (some (T,bX (fun xs=>[PV.sl (.own t e) (xs.map f)]) (zss.map (List.map Prod.fst)) jk))) Q):SW P n h0 w0 Fz0 c σ Q:=
 adM hd hG (fun {Fz w vs F1 F2} h1 h2=>by obtain ⟨K,R0,hp0,k⟩:=adF hf hs h2;obtain ⟨F,R,e1,hp⟩:=adJ hN hg hf h1 k;refine ⟨F,R++R0,e1,?_⟩;refine (jr _ hp0).trans ?_;rw [←bn,←bn];exact lU _ hp) h
end
end
section
def ox(f:α→PV)(z:α×Value):List PV:=[PV.nv z.2 (f z.1)]
def adO{α:Type}{f:α→PV}{Fz:aC}{w:World}:∀{xs:List α} {css:List Value} {F:List Nat},cX 1 (xs.map fun x=>[f x]) Fz w css F→∃zs:List (α×Value),zs.map Prod.fst=xs∧cX 1 (zs.map (ox f)) Fz w css F
 | [],css,F,h=>⟨[],rfl,h⟩
 | x::xs,css,F,h=>by obtain ⟨c,d,F1,F2,rfl,rfl,hl,h1,h2⟩:=h;obtain ⟨zs,e1,e2⟩:=adO h2;obtain ⟨v,vs',A,B,rfl,rfl,ho,hn⟩:=h1;exact ⟨(x,v)::zs,PJ,v::vs',d,A++B,F2,rfl,rfl,hl,⟨v,vs',A,B,rfl,rfl,⟨rfl,ho⟩,hn⟩,e2⟩
def adP{α:Type}{f:α→PV}{Fz:aC}{w:World}:∀{zs:List (α×Value)} {css:List Value} {F:List Nat},cX 1 (zs.map (ox f)) Fz w css F→cX 1 ((zs.map Prod.fst).map fun x=>[f x]) Fz w css F
 | [],css,F,h=>h
 | z::zs,css,F,h=>by obtain ⟨c,d,F1,F2,rfl,rfl,hl,h1,h2⟩:=h;obtain ⟨v,vs',A,B,rfl,rfl,ho,hn⟩:=h1;exact ⟨v::vs',d,A++B,F2,rfl,rfl,hl,⟨v,vs',A,B,rfl,rfl,ho.2,hn⟩,adP h2⟩
def adQ{e:Nat}{Fz:aC}{w:World}:∀{es:List (List PV)} {css:List Value} {F:List Nat},cX e es Fz w css F→∀{k:Nat} {ps:List PV},es[k]?=some ps→∃vs,cC ps Fz w vs
 | [],css,F,h,k,ps,hk=>by simp at hk
 | cs::es,css,F,h,k,ps,hk=>by
  obtain ⟨c,d,F1,F2,rfl,rfl,hl,h1,h2⟩:=h;cases k with
  | zero=>simp at hk;subst hk;exact ⟨c,h1.rel⟩
  | succ k=>exact adQ h2 (by simpa using hk)
def awh{f:α→PV}(h:eG t 1 (xs.map fun x=>[f x]) Fz w v F):∃zs:List (α×Value),zs.map Prod.fst=xs∧eG t 1 (zs.map (ox f)) Fz w v F:=by obtain ⟨css,F',hrow,hll,hfz,rfl,hone⟩:=h;obtain ⟨zs,e1,e2⟩:=adO hll;have hlen:(zs.map (ox f)).length=(xs.map fun x=>[f x]).length:=Ip;exact ⟨zs,e1,css,F',yN,e2,fun g hg o=>by rw [hlen];exact hfz g hg o,rfl,hone⟩
def awi{f:α→PV}{zs:List (α×Value)}(h:eG t 1 (zs.map (ox f)) Fz w v F):eG t 1 ((zs.map Prod.fst).map fun x=>[f x]) Fz w v F:=by obtain ⟨css,F',hrow,hll,hfz,rfl,hone⟩:=h;have hlen:((zs.map Prod.fst).map fun x=>[f x]).length=(zs.map (ox f)).length:=aL;exact ⟨css,F',yN,adP hll,fun g hg o=>by rw [hlen];exact hfz g hg o,rfl,hone⟩
def az.nv1(h:az [p] qs):az [PV.nv u p] qs:=by
 cases qs with
 | nil=>exact h
 | cons q l=>exact ⟨PV.nv_to h.1,h.2⟩
def awj{f:α→PV}{g:α→List PV}{fl:Fl}{zs:List (α×Value)}(hz:zs.map Prod.fst=xs)(h:∀x,az [f x] (g x)):(PV.sl fl (zs.map (ox f))).To (PV.sl .v (xs.map g)):=by subst hz;rw [List.map_map];refine PV.to_map fun z=>?_;exact az.nv1 (h z.1)
def awk{zs:List (α×Value)}{k:Nat}(hz:zs.map Prod.fst=xs)(hk:k < xs.length):∃z,zs[k]?=some z∧z.1=xs[k]:=by subst hz;rw [aU] at hk;exact ⟨zs[k],List.getElem?_eq_getElem hk,by rw [List.getElem_map]⟩
section
variable{P:Program}{n:Nat}{h0:Nat→Prop}{w0:World}{Fz0:aC}{σ:St}{Q:Exit→St→Prop}{c:Code}
def JZ{d:Nat}{q:ι→PV}(hd:σ.b d=some (T,A++(p::B)))(hp:∀{Fz:aC} {w:World} {v:Value} {F:List Nat},p.own Fz w v F→∃i,(q i).own Fz w v F)
  (h:∀i,SW P n h0 w0 Fz0 c (σ.setB d (some (T,A++(q i::B)))) Q):SW P n h0 w0 Fz0 c σ Q:=fun a w hc=>by
 obtain ⟨φ,Fz,Fp,hc⟩:=hc;obtain ⟨cur,h1,h2⟩:=hc.box d _ hd;obtain ⟨v1,v2,F1,F2,k1,k2,k3,v,vs',E1,E2,rfl,rfl,ho,kB⟩:=h2.split;obtain ⟨i,hi⟩:=hp ho;refine h i a w ⟨φ,Fz,Fp,hc.rebox hd fun cur' _ hh=>?_⟩;have:cur'=cur:=by rw [h1] at hh;injection hh with hh;injection hh with hh;exact hh.symm
 subst this;rw [k1,k2];exact k3.append ⟨v,vs',E1,E2,rfl,rfl,hi,kB⟩
def awl{d:Nat}{f:α→PV}(hd:σ.b d=some (T,A++(PV.sl (.own t 1) (xs.map fun x=>[f x])::B)))
  (h:∀zs:List (α×Value),zs.map Prod.fst=xs→SW P n h0 w0 Fz0 c (σ.setB d (some (T,A++(PV.sl (.own t 1) (zs.map (ox f))::B)))) Q):SW P n h0 w0 Fz0 c σ Q:=
 JZ (ι:={zs:List (α×Value) // zs.map Prod.fst=xs}) (q:=fun z=>PV.sl (.own t 1) (z.1.map (ox f))) hd (fun ho=>by obtain ⟨zs,e1,e2⟩:=awh ho;exact ⟨⟨zs,e1⟩,e2⟩) fun z=>h z.1 z.2
def awm{d:Nat}{f:α→PV}{zs:List (α×Value)}(hz:zs.map Prod.fst=xs)(hd:σ.b d=some (T,A++(PV.sl (.own t 1) (zs.map (ox f))::B)))
  (h:SW P n h0 w0 Fz0 c (σ.setB d (some (T,A++(PV.sl (.own t 1) (xs.map fun x=>[f x])::B)))) Q):SW P n h0 w0 Fz0 c σ Q:=
 JZ (ι:=Unit) (q:=fun _=>PV.sl (.own t 1) (xs.map fun x=>[f x])) hd (fun ho=>⟨(),by subst hz;exact awi ho⟩) fun _=>h
def awn{s d k:Nat}{f:α→PV}{q:α→PV}{zs:List (α×Value)}{z:α×Value}(hs:σ.s s=some (RV.sv false [PV.val z.2]))(hd:σ.b d=some (T,A++(PV.sl (.own t 1) (zs.map (ox f))::B)))(hk:zs[k]?=some z)(hq:∀{x},(f x).To (q x))(hb:∀{x},(q x).Bor)
  (h:SW P n h0 w0 Fz0 c (σ.set s (some (RV.sv false [PV.nv z.2 (q z.1)]))) Q):SW P n h0 w0 Fz0 c σ Q:=fun a w hc=>by
 obtain ⟨x,v⟩:=z;obtain ⟨φ,Fz,Fp,hc⟩:=hc;obtain ⟨cur,h1,h2⟩:=hc.box d _ hd;obtain ⟨v1,v2,F1,F2,k1,k2,k3,u,vs',E1,E2,rfl,rfl,ho,kB⟩:=h2.split;have ho:eG t 1 (zs.map (ox f)) Fz w u E1:=ho;obtain ⟨css,F',hrow,hll,hfz,rfl,hone⟩:=ho;obtain ⟨us,hu⟩:=adQ hll (k:=k) (ps:=ox f (x,v)) (by rw [List.getElem?_map,hk];rfl);obtain ⟨u',_,rfl,hu,_⟩:=hu;obtain ⟨rfl,hu⟩:=hu;have hv:bY false [PV.val u'] Fz w (a.tmps.getD s undef) (Fp (2 * s+1)):=hc.slot s _ hs;obtain ⟨hag,y,ys,G1,G2,hy1,hF,hy,hnil,rfl⟩:=hv;subst hnil;have c1:=(hc.pull s).reslot (s:=s) (rv:=RV.sv false [PV.nv u' (q x)]) (by have:mv Fp (2 * s+1) (2 * s+1)=[]:=hI;rw [this];obtain ⟨⟨rfl,hone'⟩,rfl⟩:=hy;exact ⟨hag,y,[],[],[],hy1,rfl,⟨rfl,hb (hq hu)⟩,rfl,rfl⟩)
 exact h a w (bB.eqv ⟨φ,Fz,_,c1⟩ (fun i=>by simp only [St.set_s];split<;>rfl) (fun d=>rfl))
def iB(gs:List PV)(us:List Value)(qs:List PV)(us':List Value):Prop:=∀{Fz:aC} {w:World} {F:List Nat},aN gs Fz w us F→∃F' R,aN qs Fz w us' F'∧F.Perm (F'++R)
def iB.nil:iB gs us [] []:=fun {_ _ F} _=>⟨[],F,⟨rfl,rfl⟩,List.Perm.refl _⟩
def iB.keep(h:iB gs us qs us'):iB (p::gs) (u::us) (p::qs) (u::us'):=fun {Fz w F} k=>by obtain ⟨v,vs,F1,F2,e1,rfl,h1,h2⟩:=k;injection e1 with e1 e2;subst e1 e2;obtain ⟨F',R,h3,h4⟩:=h h2;exact ⟨F1++F',R,⟨u,us',F1,F',rfl,rfl,h1,h3⟩,by rw [bn];exact jr _ h4⟩
def iB.drop(h:iB gs us qs us'):iB (p::gs) (u::us) qs us':=fun {Fz w F} k=>by obtain ⟨v,vs,F1,F2,e1,rfl,h1,h2⟩:=k;injection e1 with e1 e2;subst e1 e2;obtain ⟨F',R,h3,h4⟩:=h h2;refine ⟨F',F1++R,h3,?_⟩;refine (jr F1 h4).trans ?_;rw [←bn,←bn];exact lU _ ny
def iB.lit{x:Value}(hx:x.oneCell'=true)(h:iB gs us qs us'):iB gs us (PV.val x::qs) (x::us'):=fun {Fz w F} k=>by obtain ⟨F',R,h3,h4⟩:=h k;exact ⟨F',R,⟨x,us',[],F',rfl,rfl,⟨⟨rfl,hx⟩,rfl⟩,h3⟩,h4⟩
def adR{e:Nat}{ps:List PV}{Fz:aC}{w:World}:∀{es:List (List PV)} {css:List Value} {F:List Nat},cX e (es++[ps]) Fz w css F→∃c1 c2 Fa Fb,css=c1++c2∧F=Fa++Fb∧c2.length=e∧cX e es Fz w c1 Fa∧aN ps Fz w c2 Fb
 | [],css,F,h=>by obtain ⟨c,d,F1,F2,rfl,rfl,hl,h1,rfl,rfl⟩:=h;exact ⟨[],c,[],F1,aL,aL,hl,⟨rfl,rfl⟩,h1⟩
 | x::es,css,F,h=>by obtain ⟨c,d,F1,F2,rfl,rfl,hl,h1,h2⟩:=h;obtain ⟨c1,c2,Fa,Fb,rfl,rfl,h3,h4,h5⟩:=adR h2;exact ⟨c++c1,c2,F1++Fa,Fb,aL,aL,h3,⟨c,c1,F1,Fa,rfl,rfl,hl,h1,h4⟩,h5⟩
def adS{e:Nat}{ps:List PV}{Fz:aC}{w:World}{c2:List Value}{Fb:List Nat}(hl:c2.length=e)(h5:aN ps Fz w c2 Fb):∀{es:List (List PV)} {c1:List Value} {Fa:List Nat},cX e es Fz w c1 Fa→cX e (es++[ps]) Fz w (c1++c2) (Fa++Fb)
 | [],c1,Fa,h=>by obtain ⟨rfl,rfl⟩:=h;exact ⟨c2,[],Fb,[],aL,aL,hl,h5,rfl,rfl⟩
 | x::es,c1,Fa,h=>by obtain ⟨c,d,F1,F2,rfl,rfl,hl',h1,h2⟩:=h;exact ⟨c,d++c2,F1,F2++Fb,aL,aL,hl',h1,adS hl h5 h2⟩
def awo(hn:Nm ps us')(hs:iB gs us qs us'){F1 F2:List Nat}(h:(PV.sl (.own t e) (es++[ps])).own Fz w v F1)(k:aN gs Fz w us F2):∃F R,(PV.sl (.own t e) (es++[qs])).own Fz w v F∧(F1++F2).Perm (F++R):=by have h:eG t e (es++[ps]) Fz w v F1:=h;obtain ⟨css,F',hrow,hll,hfz,rfl,hone⟩:=h;obtain ⟨c1,c2,Fa,Fb,rfl,rfl,hl,h4,h5⟩:=adR hll;obtain rfl:c2=us':=hn h5.rel;obtain ⟨F'',R,h6,h7⟩:=hs k;have hlen:(es++[qs]).length=(es++[ps]).length:=aL;refine ⟨v.ownBlock.toList++(Fa++F''),Fb++R,⟨c1++c2,Fa++F'',yN,adS hl h6 h4,fun g hg o=>by rw [hlen];exact hfz g hg o,rfl,hone⟩,?_⟩;simp only [bn];refine jr _ (jr _ ?_);refine (jr Fb h7).trans ?_;rw [←bn,←bn];exact lU _ ny
end
end
end Go.Proofs.YtmekkgdboplbjaaGreatDoor.M
