/- The logic. No condition. -/
import Derived.Test.YtmekkgdboplbjaaGreatDoorPA0
import Derived.Deep.LoopGhost
import Derived.Laws.StructEq
set_option linter.all false
namespace Go.Proofs.YtmekkgdboplbjaaGreatDoor.M
open Go Go.RowKit
variable{t d:Nat}{ty:TypeId}{pos:String}{af:Array Edge}{g:Option (Nat×Bool)}{cs:List PV}{e s:Nat}{o:Fl}{es:List (List PV)}{f:FuncId}{id:Nat}{α:Type}
section
section
variable{P:Program}{n:Nat}{ops:Array Oper}{h0:Nat→Prop}{w0:World}{Fz0:aC}{σ τ:St}{a:Act}{w:World}{φ:Nat→Nat}{Fz:aC}{Fp:Nat→List Nat}
def fz.take:∀{l:List (Bool×List PV)} {vs:List Value} {F:List Nat} {i:Nat} {ag:Bool} {cs qs:List PV},fz l Fz w vs F→l[i]?=some (ag,cs)→az cs qs→aS qs→F.Nodup →
  ∃v F1 F2,vs[i]?=some v∧bY ag cs Fz w v F1∧fz (l.set i (ag,qs)) Fz w vs F2∧(∀b,b∈F1++F2→b∈F)∧(F1++F2).Nodup
 | [],_,_,i,_,_,_,_,hi,_,_,_=>by simp at hi
 | p::l,vs,F,0,ag,cs,qs,h,hi,ht,hb,hn=>by obtain ⟨v,vs',F1,F2,rfl,rfl,h1,h2⟩:=h;simp at hi;subst hi;exact ⟨v,F1,F2,rfl,h1,⟨v,vs',[],F2,rfl,rfl,⟨h1.1,hb.own (ht.rel h1.2.rel)⟩,h2⟩,fun b hb=>hb,hn⟩
 | p::l,vs,F,i+1,ag,cs,qs,h,hi,ht,hb,hn=>by
  obtain ⟨v,vs',F1,F2,rfl,rfl,h1,h2⟩:=h;rw [dD] at hn;obtain ⟨u,G1,G2,e1,e2,e3,e4,e5⟩:=fz.take h2 yT ht hb hn.2.1;rw [dD] at e5;refine ⟨u,G1,F1++G2,by simpa using e1,e2,⟨v,vs',F1,G2,rfl,rfl,h1,e3⟩,fun b hb=>?_,?_⟩
  ·simp only [fm] at hb ⊢
   rcases hb with hb|hb|hb;·exact .inr (e4 b yV)
   ·exact .inl hb
   ·exact .inr (e4 b yV)
  ·rw [dD,dD]
   refine ⟨e5.1,⟨hn.1,e5.2.1,fun x hx y hy=>hn.2.2 x hx y (e4 y (by simp [hy]))⟩,fun x hx y hy e=>?_⟩;rcases List.mem_append.1 hy with hy|hy;·exact hn.2.2 y hy x (e4 x ib) e.symm
   ·exact e5.2.2 x hx y hy e
def tm{i:Nat}{l:List (Bool×List PV)}{ag:Bool}{qs:List PV}(hd:d < n)(hi:l[i]?=some (ag,cs))(ht:az cs qs)(hb:aS qs) :
  Loc P n ⟨some d,.extract (.tmp t) i,ty,pos,af,g⟩ ⟨[(t,RV.tup l)],[],[(t,some (RV.tup (l.set i (ag,qs)))),(d,some (RV.sv ag cs))],[],none⟩:=by
 intro h0 w0 Fz0 σ a w K Q hc hr _ _ h5;obtain ⟨φ,Fz,Fp,hc⟩:=hc;obtain ⟨vs,hv,hT⟩:=hc.slot t _ hr.1;have ht':t < n:=by
  rcases Nat.lt_or_ge t n with h|h;·exact h
  ·rw [Array.getD_eq_getD_getElem?,Array.getElem?_eq_none (by rw [hc.siz];exact h)] at hv
   cases hv;have:=hT.len;cases l with
   | nil=>simp at hi
   | cons p l=>simp at this
 have c1:=hc.pull t;have e0:mv Fp (2 * t+1) 0=Fp (2 * t+1)++Fp 0:=hI;have hnd:=c1.nod 0;rw [e0,dD] at hnd;obtain ⟨v,F1,F2,e1,e2,e3,e4,e5⟩:=hT.take hi ht hb hnd.1
 have c2:=c1.push (i:=t) (rv:=RV.tup (l.set i (ag,qs))) (v:=.tuple vs) (F:=F2) (X:=F1) ht' ⟨vs,rfl,e3⟩
  (fun b hb=>by rw [e0];refine List.mem_append_left _ (e4 b ?_);simp only [fm] at hb ⊢;exact hb.symm)
  ((ny).nodup_iff.2 e5)
 have c3:=c2.push (i:=d) (rv:=RV.sv ag cs) (v:=v) (F:=F1) (X:=[]) hd e2
  (fun b hb=>by simp [eQ] at hb ⊢;exact hb) (by rw [fS];exact (List.nodup_append.1 e5).1)
 have hput:(a.put (some t) (.tuple vs))=a:=by
  have:a.tmps.setIfInBounds t (.tuple vs)=a.tmps:=by
   apply Array.ext aL;intro j hj1 hj2;rw [Array.getElem_setIfInBounds (by simpa using hj1)];split
   ·rename_i hjt
    subst hjt;rw [←hv,Array.getD_eq_getD_getElem?,Array.getElem?_eq_getElem hj2];rfl
   ·rfl
  show ({ tmps:=a.tmps.setIfInBounds t (.tuple vs),defers:=a.defers }:Act)=a;rw [this]
 rw [hput] at c3;refine eH (v:=v) (w':=w) ?_ (h5 _ _ (bB.eqv ⟨_,_,_,c3⟩ (fun j=>?_) (fun e=>rfl)))
 ·unfold execOp
  have hv':a.eval (.tmp t) = .tuple vs:=hv;have e1':vs[i]?=some v:=by simpa using e1
  simp [hv',Instr.extract,e1']
 ·show bK [(t,_),(d,_)] σ.s j=_
  simp only [bK,St.set];cases hjd:Nat.beq j d<;>cases hjt:Nat.beq j t<;>rfl
def Jy{T E bs:Nat}{lo hi:Option Operand}{i j:Nat}(hd:d < n)(hT:gu P T=some (E,e,bs))
  (hlo:match lo with|none=>i=0|some x=>bG x (RV.int (i:Int))) (hhi:match hi with|none=>j=es.length|some x=>bG x (RV.int (j:Int))) (hij:i≤j) (hj:j≤es.length) (he:∀cs,cs∈es→cs.length=e) :
  Loc P n ⟨some d,.slice T (.tmp s) lo hi none,ty,pos,af,g⟩ ⟨(s,RV.slc o es)::((match lo with|none=>[]|some x=>bl x (RV.int (i:Int)))++(match hi with|none=>[]|some x=>bl x (RV.int (j:Int)))),[],[(d,some (RV.slc .v ((es.take j).drop i)))],[],none⟩:=by
 intro h0 w0 Fz0 σ a w K Q hc hr _ _ h5;obtain ⟨φ,Fz,Fp,hc⟩:=hc;obtain ⟨ad,c,e',u,ev,h1,h2,h3,h4,h6⟩:=hc.slrel hr.1;obtain ⟨hu,inf,hinf,hsz,_⟩:=tk hT;have es':a.eval (.tmp s) = .slice ad es.length c:=ev;have hlo':lo.map a.eval=(lo.map fun _=>(.int .i64 (i:Int):Value)):=by
  cases lo with
  | none=>rfl
  | some x=>exact congrArg some (hc.sc hr.2.left hlo)
 have hhi':hi.map a.eval=(hi.map fun _=>(.int .i64 (j:Int):Value)):=by
  cases hi with
  | none=>rfl
  | some x=>exact congrArg some (hc.sc hr.2.right hhi)
 have hlen:((es.take j).drop i).length=j - i:=by rw [ll,cc];omega
 refine eH (v:=.slice (if c=i then ad else ad.map (·.add (i * e))) (j - i) (c - i)) (w':=w) ?_ (h5 _ _ (hc.put0 hd (bY.of_atom (p:=PV.sl .v ((es.take j).drop i)) ⟨⟨_,c - i,e',fun p q=>u (i+p) q,by rw [hlen],by rw [hlen];omega,ab,?_,?_,?_⟩,rfl⟩)))
 ·unfold execOp
  have hb:(Instr.sliceBounds true es.length c (lo.map a.eval) (hi.map a.eval) none).run P w = .ok (i,j,c) w:=by rw [hlo',hhi'];have b1:(0:Int)≤(j:Int)∧(j:Int)≤(c:Int):=ab;have b2:(0:Int)≤(i:Int)∧(i:Int)≤(j:Int):=ab;cases lo<;>cases hi<;>simp only at hlo hhi<;>simp [Instr.sliceBounds,Instr.sliceBound,asIntOf,b1,b2, *]<;>omega
  simp only [Instr.sliceAt,Instr.slice,es',Sem.run_bind,run_underlying hu,Result.andThen_ok,Option.map_none,hb,sizeOf,typeInfo,run_program,hinf,hsz,Sem.run_pure]
 ·intro cs hcs
  exact h3 cs (List.mem_of_mem_take (List.mem_of_mem_drop hcs))
 ·rcases h4 with h4|⟨b,off,rfl,h4⟩
  ·left;subst h4;simp
  ·by_cases hci:c=i
   ·left
    exact jd (by rw [hlen];omega)
   ·by_cases hlt:i < j
    ·right
     have hee:e'=e:=by have hi0:es[i]?=some es[i]:=List.getElem?_eq_getElem ab;rw [←h3 _ (List.mem_of_getElem? hi0)];exact he _ (List.mem_of_getElem? hi0)
     subst hee;refine ⟨b,off+i * e',by rw [if_neg hci];simp [qo],fun p q hp hq=>?_⟩;rw [hlen] at hp;have:=h4 (i+p) q ab hq;rw [Nat.add_mul] at this;rw [show off+i * e'+(p * e'+q)=off+(i * e'+p * e'+q) by omega];exact this
    ·left
     exact jd (by rw [hlen];omega)
 ·intro p cs q x hp hq
  refine h6 (i+p) cs q x ?_ hq;rw [List.getElem?_drop] at hp;have hpj:i+p < j:=by have:=(List.getElem?_eq_some_iff.1 hp).1;rw [cc] at this;omega
  rw [List.getElem?_take_of_lt hpj] at hp;exact hp
def QE{T T':Nat}{x y:Operand}{i j:Int}(hd:d < n)(hx:bG x (RV.int i))(hy:bG y (RV.int j)) :
  Loc P n ⟨some d,.call { callee:=.builtin .min,args := #[x,y],argTypes := #[T,T'] },ty,pos,af,g⟩ ⟨bl x (RV.int i)++bl y (RV.int j),[],[(d,some (RV.int (min i j)))],[],none⟩:=by
 intro h0 w0 Fz0 σ a w K Q hc hr _ _ h5;obtain ⟨φ,Fz,Fp,hc⟩:=hc;have ex:=hc.sc hr.left hx;have ey:=hc.sc hr.right hy;refine eH (v:=.int .i64 (min i j)) (w':=w) ?_ (h5 _ _ (hc.put0 hd (bY.of_sc rfl)));unfold execOp;have e:(if j < i then j else i)=min i j:=by split<;>omega
 simp [resolve,invoke,builtin,ex,ey,Builtin.min_,Builtin.min2,e]
def hJ:List (Bool×List PV)→aC→World→List Value→Prop
 | [],_,_,vs=>vs=[]
 | p::ps,Fz,w,vs=>∃v vs',vs=v::vs'∧kK p.1 p.2 Fz w v∧hJ ps Fz w vs'
def aD(P:Program)(f:FuncId)(args:List (Bool×List PV))(r:RV):Prop:=
 ∀(w:World) (vs:List Value) (Fz:aC),(∀b o,Fz b o→b < w.heap.size)→hJ args Fz w vs→Calls P f vs.toArray w fun e w'=>∃v Fz' F,e = .returned v∧Below w.heap.size w w' ∧
  (∀b o,b < w.heap.size→(Fz' b o↔Fz b o))∧(∀b o,Fz' b o→b < w'.heap.size)∧(∀φ,r.holds φ Fz' w' v F)∧F.Nodup∧∀b,b∈F→w.heap.size≤b∧b < w'.heap.size
def aB(P:Program)(f:FuncId):Bool:=match P.funcs[f]? with
 | some fn=>!(fn.name == "runtime.NumGoroutine")&&fn.body.isSome
 | none=>false
def Ei(h:aB P f=true)(args:Array Value)(w:World):(callFunc f args).run P w = .ok (.enter f args) w:=by
 unfold aB at h;split at h
 ·rename_i fn hf
  rw [aR,Bool.not_eq_true'] at h;simp only [callFunc,Sem.run_bind,run_program,Result.andThen_ok,hf];rw [if_neg (by rw [h.1];simp),if_neg (by cases hb:fn.body<;>simp_all)];rfl
 ·cases h
def bU.relT(h:bU h0 w0 Fz0 n σ a w φ Fz Fp):∀{xs:List Operand} {qs:List (Bool×List PV)},bh (kL xs qs) σ.s→mI xs qs→hJ qs Fz w (xs.map a.eval)
 | [],[],_,_=>rfl
 | [],_::_,_,hk=>hk.elim
 | _::_,[],_,hk=>hk.elim
 | x::xs,q::qs,hr,hk=>by obtain ⟨F,hF⟩:=h.op hr.left hk.1;exact ⟨_,_,rfl,⟨hF.1,hF.2.rel⟩,h.relT hr.right hk.2⟩
def pp:List (Bool×List PV)→List (Bool×List PV)→Prop
 | [],[]=>True
 | p::ps,q::qs=>(p.1=q.1∧az p.2 q.2)∧pp ps qs
 | _,_=>False
def pp.rel:∀{ps qs:List (Bool×List PV)} {vs:List Value},pp ps qs→hJ ps Fz w vs→hJ qs Fz w vs
 | [],[],_,_,h=>h
 | p::ps,q::qs,_,k,h=>by obtain ⟨v,vs',rfl,h1,h2⟩:=h;exact ⟨v,vs',rfl,⟨by rw [←k.1.1];exact h1.1,k.1.2.rel h1.2⟩,pp.rel k.2 h2⟩
def uG{f:Nat}{args:Array Operand}{tys:Array TypeId}{qs as_:List (Bool×List PV)}{r:RV}(hd:d < n)(hf:aB P f=true)(hok:mI args.toList qs)(hto:pp qs as_)(hs:aD P f as_ r) :
  Loc P n ⟨some d,.call { callee:=.value (.func f),args:=args,argTypes:=tys },ty,pos,af,g⟩ ⟨kL args.toList qs,[],[(d,some r)],[],none⟩:=by
 intro h0 w0 Fz0 σ a w K Q hc hr _ _ h5;obtain ⟨φ,Fz,Fp,hc⟩:=hc;have hrel:=hto.rel (hc.relT hr hok);have hrun:(execOp a.eval ⟨some d,.call { callee:=.value (.func f),args:=args,argTypes:=tys },ty,pos,af,g⟩).run P w = .ok (.enter f (args.toList.map a.eval).toArray) w:=by unfold execOp;have e:(#[]++args.map a.eval ++ #[]:Array Value)=(args.toList.map a.eval).toArray:=DW;simp only [resolve,Act.eval,Deferred.ofValue,Sem.run_bind,Sem.run_pure,Result.andThen_ok,invoke];rw [Ei hf,e]
 unfold Oper.wp;rw [hrun,Oper.upon_enter];refine (hs w _ Fz hc.fzl hrel).mono ?_;rintro e w' ⟨v,Fz',F,rfl,hb,hz1,hz2,hv,hn,hF⟩;refine h5 _ _ ?_
 have k:=hc.world (w':=w') (Fz':=Fz') (X:=F) hb.os hb.tape hb.output hb.size (fun b hb' _=>⟨hb.block b hb',fun o ho=>(hz1 b o hb').1 ho⟩)
  (fun b o ho=>⟨(hz1 b o (hc.fzl b o ho)).2 ho,World.cell?_of_block (hb.block b (hc.fzl b o ho))⟩) hz2 (fun b hb'=>.inr (hF b hb')) hn
 exact ⟨φ,Fz',_,k.push (i:=d) (rv:=r) (v:=v) (F:=F) (X:=[]) hd (hv φ) (fun b hb=>by simpa using hb) Ba⟩
def SW(P:Program)(n:Nat)(h0:Nat→Prop)(w0:World)(Fz0:aC)(c:Code)(σ:St)(Q:Exit→St→Prop):Prop:=
 ∀a w,bB h0 w0 Fz0 n σ a w→c.wp P (fun e a' w'=>∃τ,Q e τ∧bB h0 w0 Fz0 n τ a' w') a w
def wV(N:St→Prop)(Q:Exit→St→Prop):Exit→St→Prop
 | .normal,τ=>N τ
 | e,τ=>Q e τ
def acw(id:Nat)(Q:Exit→St→Prop):Exit→St→Prop
 | .exit id',τ=>if id'=id then Q .normal τ else Q (.exit id') τ
 | e,τ=>Q e τ
variable{Q:Exit→St→Prop}{x y c:Code}
def fV{ops:Array Oper}(h:bR P n ops (fun τ=>Q .normal τ) ops.toList σ):SW P n h0 w0 Fz0 (.region id ops false) σ Q:=
 fun _ _ hc=>auS hc h fun τ _ _ hq hc'=>⟨τ,hq,hc'⟩
def avk{ops:Array Oper}(hm:P.follows .mixedOrders=true)(h:cj P n ops σ (fun _ _=>True) (fun τ=>Q .normal τ) ops.toList [] σ):SW P n h0 w0 Fz0 (.region id ops true) σ Q:=
 fun _ _ hc=>auT hm hc h fun τ _ _ hq hc'=>⟨τ,hq,hc'⟩
def Ej(h:SW P n h0 w0 Fz0 x σ (wV (fun τ=>SW P n h0 w0 Fz0 y τ Q) Q)):SW P n h0 w0 Fz0 (.seq x y) σ Q:=fun a w hc=>
 wp_seq (wp_mono (h a w hc) fun e a' w' ⟨τ,hq,hc'⟩=>by
  cases e with
  | normal=>exact hq a' w' hc'
  | _=>exact ⟨τ,hq,hc'⟩)
def QF{b:Bool}(ht:σ.s t=some (RV.bool b))(h1:b=true→SW P n h0 w0 Fz0 x σ Q)(h2:b=false→SW P n h0 w0 Fz0 y σ Q):SW P n h0 w0 Fz0 (.cond (.tmp t) x y) σ Q:=fun a w hc=>by
 obtain ⟨φ,Fz,Fp,h⟩:=hc;refine wp_cond (t:=b) (h.one_ ht).1 ?_;cases b;·exact h2 rfl a w ⟨φ,Fz,Fp,h⟩
 ·exact h1 rfl a w ⟨φ,Fz,Fp,h⟩
def avl(h:SW P n h0 w0 Fz0 c σ (acw id Q)):SW P n h0 w0 Fz0 (.block id c) σ Q:=fun a w hc=>
 wp_block (wp_mono (h a w hc) fun e a' w' ⟨τ,hq,hc'⟩=>by
  cases e with
  | exit i=>
   simp only [Exit.inBlock,acw] at hq ⊢;split;·rename_i hi;rw [if_pos hi] at hq;exact ⟨τ,hq,hc'⟩
   ·rename_i hi;rw [if_neg hi] at hq;exact ⟨τ,hq,hc'⟩
  | _=>exact ⟨τ,hq,hc'⟩)
def avm(h:Q .normal σ):SW P n h0 w0 Fz0 .skip σ Q:=fun _ _ hc=>wp_skip ⟨σ,h,hc⟩
def avn(h:Q (.exit id) σ):SW P n h0 w0 Fz0 (.exit id) σ Q:=fun _ _ hc=>wp_exit ⟨σ,h,hc⟩
def avo(h:Q .ret σ):SW P n h0 w0 Fz0 .ret σ Q:=fun _ _ hc=>wp_ret ⟨σ,h,hc⟩
def bB.of{l:List (Nat×RV)}{b:List (Nat×(Nat×List PV))}(h:bB h0 w0 Fz0 n σ a w)(hl:bh l σ.s)(hb:bh b σ.b):bB h0 w0 Fz0 n (St.of l b) a w:=
 h.less (fun i rv hi=>hl.mem (i,rv) (lV hi)) (fun d cs hd=>hb.mem (d,cs) (lV hd))
def avp{l:List (Nat×RV)}{b:List (Nat×(Nat×List PV))}(hl:bh l σ.s)(hb:bh b σ.b)(h:SW P n h0 w0 Fz0 c (St.of l b) Q):SW P n h0 w0 Fz0 c σ Q:=fun a w hc=>h a w (hc.of hl hb)
def bh.app{β:Type}{l m:List (Nat×β)}{f:Nat→Option β}(h:bh l f)(k:bh m f):bh (l++m) f:=bh.of_mem fun p hp=>by
 rcases List.mem_append.1 hp with hp|hp;·exact h.mem p hp
 ·exact k.mem p hp
def acx{ι:Type}(I:ι→Prop){l0:List (Nat×RV)}{b0:List (Nat×(Nat×List PV))}(l:ι→List (Nat×RV))(b:ι→List (Nat×(Nat×List PV)))(m:ι→Nat)(i0:ι)(h0':I i0)(hl0:bh l0 σ.s)(hb0:bh b0 σ.b)(hl:bh (l i0) σ.s)(hb:bh (b i0) σ.b)
  (round:∀i,I i→SW P n h0 w0 Fz0 c (St.of (l0++l i) (b0++b i)) (wV (fun τ=>∃j,I j∧m j < m i∧(bh l0 τ.s∧bh b0 τ.b)∧bh (l j) τ.s∧bh (b j) τ.b) Q)):SW P n h0 w0 Fz0 (.loop c) σ Q:=fun a w hc=>by
 refine wp_loop_ghost (fun k a w=>∃i,I i∧m i=k∧bB h0 w0 Fz0 n (St.of (l0++l i) (b0++b i)) a w) (m i0) ⟨i0,h0',rfl,hc.of (hl0.app hl) (hb0.app hb)⟩ ?_;rintro k a w ⟨i,hi,rfl,hc⟩;refine wp_mono (round i hi a w hc) fun e a' w' ⟨τ,hq,hc'⟩=>?_;cases e with
 | normal=>
  obtain ⟨j,h1,h2,h3,h4,h5⟩:=hq;exact ⟨m j,h2,j,h1,rfl,hc'.of (h3.1.app h4) (h3.2.app h5)⟩
 | _=>exact ⟨τ,hq,hc'⟩
def avq(hs:σ.s s=some (RV.slc o es))(h:es.length≤9223372036854775807→SW P n h0 w0 Fz0 c σ Q):SW P n h0 w0 Fz0 c σ Q:=fun a w hc=>h (hc.lenle hs) a w hc
def wW(P:Program):List ResultVar→List (Bool×List PV)→St→Prop
 | [],[],_=>True
 | .tmp t::rs,q::qs,τ=>τ.s t=some (RV.sv q.1 q.2)∧wW P rs qs (τ.set t none)
 | .cell t T::rs,q::qs,τ=>(∃d ty,τ.s t=some (RV.ptr d 0)∧τ.b d=some (ty,q.2)∧dr P T=some (q.1,q.2.length)∧(q.1=false→q.2.length=1)∧wW P rs qs (τ.setB d none))
 | _,_,_=>False
def uH(t:Array Value):ResultVar→Sem Value
 | .tmp x=>pure (t.getD x undef)
 | .cell x T=>do loadVar T (←asAddr (t.getD x undef))
def QG(fn:Func)(t:Array Value):results fn t=(do let vs ←fn.results.mapM (uH t);pure (if h:vs.size=1 then vs[0] else .tuple vs)):=by unfold results;congr 1
def Ek:∀(rs:List ResultVar) (qs:List (Bool×List PV)) {σ:St} {Fp:Nat→List Nat},bU h0 w0 Fz0 n σ a w φ Fz Fp→wW P rs qs σ →
  ∃vs F,Sem.run P (rs.mapM (uH a.tmps)) w = .ok vs w∧fz qs Fz w vs F∧F.Nodup ∧
   (∀b,b∈F→∃r,r≠0∧b∈Fp r)
 | [],[],σ,Fp,_,_=>⟨[],[],aL,⟨rfl,rfl⟩,List.nodup_nil,aL⟩
 | .tmp t::rs,q::qs,σ,Fp,h,hr=>by
  obtain ⟨h1,h2⟩:=hr;have hv:=h.slot t _ h1;obtain ⟨vs,F,e1,e2,e3,e4⟩:=Ek rs qs (h.pull t) h2;refine ⟨a.tmps.getD t undef::vs,Fp (2 * t+1)++F,?_,⟨_,_,_,_,rfl,rfl,hv,e2⟩,?_,fun b hb=>?_⟩
  ·rw [List.mapM_cons]
   simp only [uH,Sem.run_bind,Sem.run_pure,Result.andThen_ok,e1]
  ·rw [dD]
   refine ⟨h.nod _,e3,fun u hu y hy e=>?_⟩;subst e;obtain ⟨r,hr0,hr⟩:=e4 u hy;rcases ti hr with ⟨e,_⟩|⟨hne,hr⟩;·exact hr0 e
   ·exact h.dis _ _ (fun e=>hne e.symm) u hu hr
  ·rcases List.mem_append.1 hb with hb|hb
   ·exact ⟨_,ab,hb⟩
   ·obtain ⟨r,hr0,hr⟩:=e4 b hb
    rcases ti hr with ⟨e,_⟩|⟨_,hr⟩;·exact absurd e hr0
    ·exact ⟨r,hr0,hr⟩
 | .cell t T::rs,q::qs,σ,Fp,h,hr=>by
  obtain ⟨d,ty,h1,h2,h3,h4,h5⟩:=hr;obtain ⟨ep,_⟩:=h.slot t _ h1;obtain ⟨cur,hg,ho⟩:=h.box d _ h2;have hlen:=ho.len;obtain ⟨v,k1,k2,k3⟩:=Jv h3 w (φ d) 0 cur.toList hlen h4 (fun j u hu=>by rw [cell_of_row w (φ d) _ cur ty (0,0) hg,Nat.zero_add];simpa using hu) ho.one
  obtain ⟨vs,F,e1,e2,e3,e4⟩:=Ek rs qs (h.pullB h2) h5;have e4':∀b,b∈F→∃r,r≠0∧r≠2 * d+2∧b∈Fp r:=by
   intro b hb;obtain ⟨r,hr0,hr⟩:=e4 b hb;rw [if_neg hr0] at hr;rcases ti hr with ⟨e,_⟩|⟨hne,hr⟩;·exact absurd e hr0
   ·exact ⟨r,hr0,hne,hr⟩
  refine ⟨v::vs,Fp (2 * d+2)++F,?_,⟨_,_,_,_,rfl,rfl,⟨k2,by rw [k3];exact ho⟩,e2⟩,?_,fun b hb=>?_⟩
  ·rw [List.mapM_cons]
   simp only [uH,Sem.run_bind,ep,asAddr,Sem.run_pure,Result.andThen_ok,k1,e1]
  ·rw [dD]
   refine ⟨h.nod _,e3,fun u hu y hy e=>?_⟩;subst e;obtain ⟨r,hr0,hne,hr⟩:=e4' u hy;exact h.dis _ _ (fun e=>hne e.symm) u hu hr
  ·rcases List.mem_append.1 hb with hb|hb
   ·exact ⟨_,ab,hb⟩
   ·obtain ⟨r,hr0,_,hr⟩:=e4' b hb
    exact ⟨r,hr0,hr⟩
 | [],_::_,_,_,_,hr=>hr.elim
 | .tmp _::_,[],_,_,_,hr=>hr.elim
 | .cell _ _::_,[],_,_,_,hr=>hr.elim
def jv:Nat→List (Bool×List PV)→List (Nat×RV)
 | _,[]=>[]
 | k,q::qs=>(k,RV.sv q.1 q.2)::jv (k+1) qs
def ay:List (Bool×List PV)→RV
 | [q]=>RV.sv q.1 q.2
 | qs=>RV.tup qs
def Bf(P:Program)(rs:List ResultVar)(qs:List (Bool×List PV)):Exit→St→Prop
 | .normal,τ=>wW P rs qs τ
 | .ret,τ=>wW P rs qs τ
 | _,_=>False
def BorT.own:∀{qs:List (Bool×List PV)} {k:Nat} {vs:List Value} {i:Nat} {rv:RV},(∀q,q∈qs→aS q.2)→hJ qs Fz w vs→lk (jv k qs) i=some rv→∃j v,i=k+j∧j < vs.length∧vs[j]?=some v∧rv.holds φ Fz w v []
 | [],_,_,_,_,_,_,h=>by cases h
 | q::qs,k,vs,i,rv,hb,hr,h=>by
  obtain ⟨v,vs',rfl,h1,h2⟩:=hr;rw [jv,lk,beq_eq] at h;by_cases hi:i=k
  ·rw [decide_eq_true hi] at h
   simp only [cond_true,Option.some.injEq] at h;subst h;exact ⟨0,v,ab,aL,rfl,⟨h1.1,(hb q aL).own h1.2⟩⟩
  ·rw [decide_eq_false hi] at h
   obtain ⟨j,u,e1,e2,e3,e4⟩:=BorT.own (k:=k+1) (fun x hx=>hb x ib) h2 h;exact ⟨j+1,u,ab,jq,by simpa using e3,e4⟩
def hJ.len:∀{qs:List (Bool×List PV)} {vs:List Value},hJ qs Fz w vs→vs.length=qs.length
 | [],vs,h=>by rw [show vs=[] from h];rfl
 | q::qs,vs,h=>by obtain ⟨v,vs',rfl,_,h2⟩:=h;simp [hJ.len h2]
def QH{fn:Func}{c:Code}{args rs:List (Bool×List PV)}(hf:P.funcs[f]?=some fn)(hb:fn.body=some c)(hn:args.length≤fn.ntmps)(hbor:∀q,q∈args→aS q.2)(w:World)(Fz:aC)
  (h:SW P fn.ntmps (fun b=>b < w.heap.size) w Fz c (St.of (jv 0 args) []) (Bf P fn.results.toList rs)) (vs:List Value) (hz:∀b o,Fz b o→b < w.heap.size) (hrel:hJ args Fz w vs):Calls P f vs.toArray w fun e w'=>∃v Fz' F,e = .returned v∧Below w.heap.size w w' ∧
  (∀b o,b < w.heap.size→(Fz' b o↔Fz b o))∧(∀b o,Fz' b o→b < w'.heap.size)∧(∀φ,(ay rs).holds φ Fz' w' v F)∧F.Nodup∧∀b,b∈F→w.heap.size≤b∧b < w'.heap.size:=by
 have hvl:=hrel.len;refine calls_of_wp hf hb ?_;have hc:bB (fun b=>b < w.heap.size) w Fz fn.ntmps (St.of (jv 0 args) []) { tmps:=vs.toArray++Array.replicate (fn.ntmps - vs.toArray.size) undef,defers:=[] } w:=by
  refine ⟨fun _=>0,Fz,fun _=>[],⟨re.refl _ _,rfl,jq,fun _ hb=>hb,fun _ _ _=>Iff.rfl,hz,fun i rv hi=>?_,fun d cs hd=>uz,fun d cs hd=>uz,fun d d' cs cs' hd=>uz,fun _ _ _ b hb=>Jk,fun _=>List.nodup_nil,fun _ b hb=>Jk⟩⟩;obtain ⟨j,v,e1,e2,e3,e4⟩:=BorT.own (φ:=fun _=>0) hbor hrel hi;rw [Nat.zero_add] at e1;subst e1;have:(vs.toArray++Array.replicate (fn.ntmps - vs.toArray.size) undef).getD i undef=v:=by rw [Array.getD_eq_getD_getElem?,Array.getElem?_append_left Jh];simp [e3]
  rw [this];exact e4
 refine wp_mono (h _ w hc) fun e a' w' ⟨τ,hq,hc'⟩=>?_;obtain ⟨φ,Fz',Fp,hc'⟩:=hc'
 have hres:wW P fn.results.toList rs τ→a'.defers=[]∧∃v,(results fn a'.tmps).run P w' = .ok v w'∧∃v' Fz' F,Ending.returned v = .returned v'∧Below w.heap.size w w' ∧
   (∀b o,b < w.heap.size→(Fz' b o↔Fz b o))∧(∀b o,Fz' b o→b < w'.heap.size)∧(∀φ,(ay rs).holds φ Fz' w' v' F)∧F.Nodup∧∀b,b∈F→w.heap.size≤b∧b < w'.heap.size:=by
  intro hr;obtain ⟨vs',F,e1,e2,e3,e4⟩:=Ek _ rs hc' hr;have hF:∀b,b∈F→w.heap.size≤b∧b < w'.heap.size:=fun b hb=>by obtain ⟨r,_,hr⟩:=e4 b hb;exact ⟨Nat.le_of_not_lt (hc'.low r b hr).1,(hc'.low r b hr).2⟩
  have hl:=e2.len;have erun:Sem.run P (fn.results.mapM (uH a'.tmps)) w' = .ok vs'.toArray w':=by rw [Array.mapM_eq_mapM_toList];simp only [map_eq_pure_bind,Sem.run_bind,e1,Result.andThen_ok,Sem.run_pure]
  refine ⟨hc'.dfr,?_⟩;rw [QG];simp only [Sem.run_bind,erun,Result.andThen_ok,Sem.run_pure];refine ⟨_,rfl,_,Fz',F,rfl,⟨hc'.bel.os,hc'.bel.tape,hc'.bel.output,hc'.bel.size,hc'.bel.block⟩,hc'.fz0,hc'.fzl,fun φ=>?_,e3,hF⟩;by_cases h1:vs'.toArray.size=1
  ·rw [dif_pos h1]
   have hl1:rs.length=1:=by rw [←hl];simpa using h1
   obtain ⟨q,rfl⟩:=List.length_eq_one_iff.1 hl1;obtain ⟨v,vs2,F1,F2,rfl,rfl,k1,k2,rfl⟩:=e2;rw [fS];exact k1
  ·rw [dif_neg h1]
   have hne:rs.length≠1:=fun e=>h1 (by simp [hl,e]);have:ay rs=RV.tup rs:=by
    cases rs with
    | nil=>rfl
    | cons q rs=>cases rs with
     | nil=>simp at hne
     | cons _ _=>rfl
   rw [this];exact ⟨vs'.toArray,rfl,Jh⟩
 cases e with
 | normal=>exact hres hq
 | ret=>exact hres hq
 | _=>exact hq.elim
def QI{fn:Func}{c:Code}{args rs:List (Bool×List PV)}(hf:P.funcs[f]?=some fn)(hb:fn.body=some c)(hn:args.length≤fn.ntmps)(hbor:∀q,q∈args→aS q.2)
  (h:∀(h0:Nat→Prop) (w0:World) (Fz0:aC),SW P fn.ntmps h0 w0 Fz0 c (St.of (jv 0 args) []) (Bf P fn.results.toList rs)):aD P f args (ay rs):=
 fun w vs Fz hz hrel=>QH hf hb hn hbor w Fz (h _ w Fz) vs hz hrel
def er{b c:Bool}(h:b=c):some (RV.bool b)=some (RV.bool c):=by rw [h]
def cy{b c:Int}(h:b=c):some (RV.int b)=some (RV.int c):=by rw [h]
def bC{ds:List (List PV)}(h:es=ds):some (RV.slc o es)=some (RV.slc o ds):=by rw [h]
def ff{ag:Bool}{ds:List PV}(h:cs=ds):some (RV.sv ag cs)=some (RV.sv ag ds):=by rw [h]
def PV.to_none{o:Fl}{es:List (List PV)}:(PV.sl o es).To (PV.sl .v es):=fun h=>⟨h.1,True.intro⟩
def avr{xs:List α}{f:α→List PV}{k:Nat}(h:k < xs.length):(xs.map f)[k]?=some (f xs[k]):=ql
def eI{xs:List α}{f:α→List PV}{k:Nat}(h:k < xs.length)(hc:f xs[k]=cs):(xs.map f)[k]?=some cs:=by rw [←hc];exact avr h
def ki{p:Nat→Prop}:∀d,(none:Option Nat)=some d→p d:=fun _ h=>nomatch h
def uI{p:Nat→Prop}(h:p e):∀d,some e=some d→p d:=fun d hd=>by injection hd with hd;exact hd▸h
def Jz(args:List (Bool×List PV)):Prop:=∀q,q∈args→aS q.2
def jJ:Jz []:=fun q hq=>by simp at hq
def kl{p:Bool×List PV}{l:List (Bool×List PV)}(h:aS p.2)(k:Jz l):Jz (p::l):=fun q hq=>by
 rcases List.mem_cons.1 hq with rfl|hq;·exact h
 ·exact k q hq
def nB{Fz:aC}{w:World}:aN [] Fz w [] []:=⟨rfl,rfl⟩
def dV{Fz:aC}{w:World}{v:Value}{ps:List PV}{vs:List Value}(h:v.oneCell'=true)(k:aN ps Fz w vs []):aN (PV.val v::ps) Fz w (v::vs) []:=⟨v,vs,[],[],rfl,rfl,⟨⟨rfl,h⟩,rfl⟩,k⟩
def gR{Fz:aC}{w:World}{ps:List PV}{vs:List Value}(k:aN ps Fz w vs []):aN (PV.sl (.own t e) []::ps) Fz w (.slice none 0 0::vs) []:=
 ⟨_,vs,[],[],rfl,rfl,⟨[],[],World.ownsRow_nil w 0 t e,⟨rfl,rfl⟩,fun g hg=>by simp [Value.ownBlock] at hg,AY,fun g hg=>by simp [Value.ownBlock] at hg⟩,k⟩
end
end
section
section
variable{P:Program}{n:Nat}{ops:Array Oper}{h0:Nat→Prop}{w0:World}{Fz0:aC}{σ τ:St}{a:Act}{w:World}{φ:Nat→Nat}{Fz:aC}{Fp:Nat→List Nat}
def RV.hdr(d m:Nat)(c:Nat:=m):RV where
 holds φ _ _ v F:=(v = .slice (some ⟨φ d,0,none⟩) m c∧m≤c∧c≤maxLen)∧F=[]
 men x:=Nat.beq x d
 mono h _ _ hφ:=⟨⟨by rw [hφ d aL];exact h.1.1,h.1.2⟩,h.2⟩
 lt h:=qk
def aJk(xs:List α)(f:α→List PV)(z:List PV)(k:Nat):List (List PV):=(xs.take k).map f++List.replicate (xs.length - k) z
def Bg{e:Nat}:∀{es:List (List PV)},(∀cs,cs∈es→cs.length=e)→es.flatten.length=es.length * e
 | [],_=>by simp
 | c::es,h=>by rw [List.flatten_cons,bv,Bg fun x hx=>h x ib,h c aL,List.length_cons,Nat.succ_mul];omega
def acy(z:Array Value):∀(m:Nat),(madeCells z (m * z.size)).toList=(List.replicate m z.toList).flatten
 | 0=>by simp [madeCells]
 | m+1=>by
  have ih:=acy z m;rw [List.replicate_succ',List.flatten_append,←ih];apply List.ext_getElem?;intro j;by_cases hz:z.size=0;·simp [madeCells,hz]
  ·by_cases h1:j < m * z.size
   ·rw [List.getElem?_append_left (by simp [madeCells];exact h1)]
    have h2:j < (m+1) * z.size:=by rw [Nat.succ_mul];omega
    simp [madeCells,h1,h2]
   ·rw [List.getElem?_append_right (by simp [madeCells];omega)]
    have hl:(madeCells z (m * z.size)).toList.length=m * z.size:=by simp [madeCells]
    rw [hl];by_cases h2:j < (m+1) * z.size
    ·have h2':=h2
     rw [Nat.succ_mul] at h2';have hm:j%z.size=j - m * z.size:=by
      have:j=z.size * m+(j - m * z.size):=by rw [Nat.mul_comm z.size m];omega
      rw [this,Nat.mul_add_mod,Nat.mod_eq_of_lt ab];rw [Nat.mul_comm z.size m];omega
     have h3:j - m * z.size < z.size:=ab;simp [madeCells,h2,hm,h3]
    ·have h2':=h2
     rw [Nat.succ_mul] at h2';rw [List.getElem?_eq_none (by simp [madeCells];omega),List.getElem?_eq_none jq]
def acz{zs:List PV}{vs:List Value}(h:aN zs Fz w vs []):∀m:Nat,aN (List.replicate m zs).flatten Fz w (List.replicate m vs).flatten []
 | 0=>⟨rfl,rfl⟩
 | m+1=>by rw [List.replicate_succ,List.replicate_succ,List.flatten_cons,List.flatten_cons];exact h.append (acz h m)
def bU.freeze{h0:Nat→Prop}{w0:World}{Fz0:aC}{σ:St}{a:Act}{w:World}{φ:Nat→Nat}{Fz:aC}{Fp:Nat→List Nat}{b m c E:Nat}{jk:List Value}(hc:bU h0 w0 Fz0 n σ a w φ Fz Fp)
  (hb:σ.b b=some (E,es.flatten++jk.map PV.val)) (hmc:m≤c) (hmx:c≤maxLen) (hl:es.length=m) (he:∀c,c∈es→c.length=e) (hj:m * e+jk.length=c * e) :
  ∃Fz' Fp',bU h0 w0 Fz0 n ((σ.setB b none).set s none) a w φ Fz' Fp'∧eG E e es Fz' w (.slice (some ⟨φ b,0,none⟩) m c) (φ b::Fp (2 * b+2))∧(∀x,x∈φ b::Fp (2 * b+2)→x∈Fp' 0)∧(φ b::Fp (2 * b+2)).Nodup∧Fp' (2 * s+1)=[]:=by
 obtain ⟨cur,hg,ho⟩:=hc.box b _ hb;obtain ⟨k1,k2,k3⟩:=hc.bxb b _ hb;have hlt:φ b < w.heap.size:=(Array.getElem?_eq_some_iff.1 hg).1;have c1:=hc.pullB hb;have c2:=c1.pull s;have hol:cur.size=c * e:=by have:cur.toList.length=(es.flatten++jk.map PV.val).length:=ho.len;rw [bv,Bg he,aU,hl,hj] at this;simpa using this
 have hone:=ho.one;obtain ⟨v1,v2,G1,G2,hv12,hG12,o1,o2⟩:=ho.split;have hl1:v1.length=es.length * e:=by rw [o1.len,Bg he]
 have hG2:G2=[]:=by
  have:∀(jk:List Value) (v2:List Value) (G2:List Nat),aN (jk.map PV.val) Fz w v2 G2→G2=[]:=by
   intro jk;induction jk with
   | nil=>intro v2 G2 h;exact h.2
   | cons j jk ih=>
    intro v2 G2 h;obtain ⟨v,vs',F1,F2,_,rfl,h1,h2⟩:=h;rw [ih _ _ h2,h1.2];rfl
  exact this _ _ _ o2
 subst hG2;rw [fS] at hG12;generalize hF0:(fun x=>if x=0 then φ b::mv Fp (2 * b+2) 0 else mv Fp (2 * b+2) x)=Fp1 at c1 c2;have e1:Fp1 0=φ b::(Fp (2 * b+2)++Fp 0):=by rw [←hF0];simp [mv]
 have e2:mv Fp1 (2 * s+1) 0=Fp1 (2 * s+1)++Fp1 0:=hI;have hnd:=c1.nod 0;rw [e1] at hnd;have hX:∀x,x∈φ b::Fp (2 * b+2)→x∈mv Fp1 (2 * s+1) 0:=by
  intro x hx;rw [e2,e1];rcases List.mem_cons.1 hx with rfl|hx;·simp
  ·simp [hx]
 have hndX:(φ b::Fp (2 * b+2)).Nodup:=by rw [←List.cons_append] at hnd;exact (List.nodup_append.1 hnd).1
 have hFin:∀x o,(Fz x o∨(x=φ b∧o < es.length * e))→x < w.heap.size:=by
  rintro x o (h|⟨rfl,_⟩);·exact hc.fzl x o h
  ·exact hlt
 have c3:=c2.world (w':=w) (Fz':=fun x o=>Fz x o∨(x=φ b∧o < es.length * e)) (X:=φ b::Fp (2 * b+2)) rfl rfl rfl (Nat.le_refl _)
  (fun x hx h0=>⟨rfl,fun o ho=>by
   rcases ho with ho|⟨rfl,_⟩;·exact ho
   ·exact absurd (hX _ aL) h0⟩) (fun x o hxo=>⟨.inl hxo,rfl⟩) (fun x o h=>hFin x o h) (fun x hx=>.inl (hX x hx)) hndX
 have hsl:eG E e es (fun x o=>Fz x o∨(x=φ b∧o < es.length * e)) w (.slice (some ⟨φ b,0,none⟩) m c) (φ b::Fp (2 * b+2)):=by
  refine ⟨v1,Fp (2 * b+2),⟨hl1,.inr ⟨φ b,c,cur,by rw [hl],Nat.zero_le _,hg,ab,hmx,hol,by rw [hv12,←hl1];exact List.take_left⟩⟩,
   (aN.chunk he (by rw [hG12];exact o1)).mono (fun x o h=>⟨.inl h,rfl⟩) (fun x hx=>⟨rfl,fun o ho=>by
    rcases ho with ho|⟨rfl,_⟩;·exact ho
    ·exact absurd hx (k3 _)⟩),?_,by simp [Value.ownBlock],?_⟩
  ·intro g hg' o
   simp [Value.ownBlock] at hg';subst hg';constructor
   ·rintro (h|⟨_,h⟩)
    ·exact absurd h (k2 o)
    ·exact h
   ·intro h;exact .inr ⟨rfl,h⟩
  ·intro g hg' cur' t' o' hc' x hx
   simp [Value.ownBlock] at hg';subst hg';rw [hg] at hc';simp only [Option.some.injEq,Obj.cells.injEq] at hc';rw [←hc'.1] at hx;exact hone x hx
 exact ⟨_,_,c3,hsl,fun x hx=>by simpa using hx,hndX,hI⟩
end
end
end Go.Proofs.YtmekkgdboplbjaaGreatDoor.M
namespace Go.Proofs.YtmekkgdboplbjaaGreatDoor.M
open Go Go.RowKit
variable{u:Value}{p:PV}{ps:List PV}{L:Nat→Prop}{Fz:aC}{w:World}{α:Type}{es:List (List PV)}{xs:List α}{f:α→List PV}
def PV.nv(u:Value)(p:PV):PV where
 rel Fz w v:=v=u∧p.rel Fz w v
 own Fz w v F:=v=u∧p.own Fz w v F
 one h:=p.one h.2
 toRel h:=⟨h.1,p.toRel h.2⟩
 relMono h k:=⟨h.1,p.relMono h.2 k⟩
 ownMono h k hh:=⟨h.1,p.ownMono h.2 k hh⟩
 lt h:=p.lt h.2
def PV.nv_val:(PV.nv u p).To (PV.val u):=fun h=>⟨h.1,by have:=p.one h.2;rwa [h.1] at this⟩
def PV.nv_to{q:PV}(h:p.To q):(PV.nv u p).To q:=fun k=>h k.2
def PV.bor_nv(h:p.Bor):(PV.nv u p).Bor:=fun k=>⟨k.1,h k.2⟩
def Nm(ps:List PV)(us:List Value):Prop:=∀{Fz:aC} {w:World} {vs:List Value},cC ps Fz w vs→vs=us
def Nm.nil:Nm [] []:=fun h=>h
def Nm.nv{us:List Value}(h:Nm ps us):Nm (PV.nv u p::ps) (u::us):=fun hh=>by obtain ⟨v,vs',rfl,h1,h2⟩:=hh;rw [h1.1,h h2]
def Nm.val{us:List Value}(h:Nm ps us):Nm (PV.val u::ps) (u::us):=fun hh=>by obtain ⟨v,vs',rfl,h1,h2⟩:=hh;rw [h1.1,h h2]
def uJ(ps qs:List PV):Prop:=∀{Fz:aC} {w:World} {vs:List Value} {F:List Nat},aN ps Fz w vs F→aN qs Fz w vs F
def uJ.nil:uJ [] []:=fun h=>h
def PV.ToB(L:Nat→Prop)(p q:PV):Prop:=∀{Fz:aC} {w:World} {v:Value},(∀b o,Fz b o→L b)→p.rel Fz w v→q.rel Fz w v
def jK(L:Nat→Prop):List PV→List PV→Prop
 | [],[]=>True
 | p::ps,q::qs=>p.ToB L q∧jK L ps qs
 | _,_=>False
def PV.tob_refl:p.ToB L p:=fun _ h=>h
def jK.nil:jK L [] []:=True.intro
def jK.cons{q:PV}{qs:List PV}(h:p.ToB L q)(k:jK L ps qs):jK L (p::ps) (q::qs):=⟨h,k⟩
def jK.len:∀{ps qs:List PV},jK L ps qs→ps.length=qs.length
 | [],[],_=>rfl
 | _::_,_::_,h=>by simp [jK.len h.2]
def jK.rel(hz:∀b o,Fz b o→L b):∀{ps qs:List PV} {vs:List Value},jK L ps qs→cC ps Fz w vs→cC qs Fz w vs
 | [],[],_,_,h=>h
 | p::ps,q::qs,_,k,h=>by obtain ⟨v,vs',rfl,h1,h2⟩:=h;exact ⟨v,vs',rfl,k.1 hz h1,jK.rel hz k.2 h2⟩
def jK.at_:∀{ps qs:List PV} {j:Nat} {q:PV},jK L ps qs→qs[j]?=some q→∃p,ps[j]?=some p∧p.ToB L q
 | [],[],_,_,_,h=>by simp at h
 | p::ps,q'::qs,0,q,k,h=>by simp at h;subst h;exact ⟨p,rfl,k.1⟩
 | p::ps,q'::qs,j+1,q,k,h=>by simp at h;simpa using jK.at_ k.2 h
def PV.tob_map{o:Fl}{g:α→List PV}(hne:∀x,0 < (f x).length)(h:∀x,jK L (f x) (g x)):(PV.sl o (xs.map f)).ToB L (PV.sl (.lo L) (xs.map g)):=by
 intro Fz w v hz hr;obtain ⟨⟨a,c,e,u,rfl,h1,h2,h3,h4,h5⟩,_⟩:=hr;rw [aU] at *;refine ⟨⟨a,c,e,u,by rw [aU],by rw [aU];exact h1,h2,?_,?_,?_⟩,?_⟩
 ·intro cs hcs
  obtain ⟨x,hx,rfl⟩:=List.mem_map.1 hcs;rw [←(h x).len];exact h3 _ (List.mem_map.2 ⟨x,hx,rfl⟩)
 ·rcases h4 with h4|⟨b,off,ha,h4⟩
  ·left
   simpa using h4
  ·exact .inr ⟨b,off,ha,fun i j hi hj=>h4 i j yT hj⟩
 ·intro i cs' j q hi hj
  rw [List.getElem?_map] at hi;cases hx:xs[i]? with
  | none=>rw [hx] at hi;simp at hi
  | some x=>
   rw [hx] at hi;simp at hi;subst hi;obtain ⟨p,hp,hto⟩:=(h x).at_ hj;exact hto hz (h5 i (f x) j p (by rw [List.getElem?_map,hx];rfl) hp)
 ·show _∨_
  rw [aU];cases xs with
  | nil=>exact .inl rfl
  | cons x xs=>
   right;intro g hg;rcases h4 with h4|⟨b,off,rfl,h4⟩;·simp at h4
   ·simp [Value.ownBlock] at hg
    subst hg;have he:0 < e:=by rw [←h3 (f x) aL];exact hne x
    exact hz _ _ (h4 0 0 aL he).1
def wX(L:Nat→Prop):List (Bool×List PV)→List (Bool×List PV)→Prop
 | [],[]=>True
 | p::ps,q::qs=>(p.1=q.1∧jK L p.2 q.2)∧wX L ps qs
 | _,_=>False
def wX.rel(hz:∀b o,Fz b o→L b):∀{ps qs:List (Bool×List PV)} {vs:List Value},wX L ps qs→hJ ps Fz w vs→hJ qs Fz w vs
 | [],[],_,_,h=>h
 | p::ps,q::qs,_,k,h=>by obtain ⟨v,vs',rfl,h1,h2⟩:=h;exact ⟨v,vs',rfl,⟨h1.1.trans k.1.1,k.1.2.rel hz h1.2⟩,wX.rel hz k.2 h2⟩
def wX.len:∀{ps qs:List (Bool×List PV)},wX L ps qs→ps.length=qs.length
 | [],[],_=>rfl
 | _::_,_::_,h=>by simp [wX.len h.2]
def PV.Lcl(L:Nat→Prop)(p:PV):Prop:=∀{Fz Fz':aC} {w w':World} {v:Value} {F:List Nat},p.own Fz w v F→(∀b,L b∨b∈F→w'.heap[b]?=w.heap[b]?∧∀o,Fz' b o↔Fz b o)→p.own Fz' w' v F
def PV.LclR(L:Nat→Prop)(p:PV):Prop:=∀{Fz Fz':aC} {w w':World} {v:Value},p.rel Fz w v→(∀b,L b→w'.heap[b]?=w.heap[b]?∧∀o,Fz' b o↔Fz b o)→p.rel Fz' w' v
def aw(L:Nat→Prop)(ps:List PV):Prop:=∀p,p∈ps→p.Lcl L
def mJ(L:Nat→Prop)(ps:List PV):Prop:=∀p,p∈ps→p.LclR L
def RV.Lcl(L:Nat→Prop)(r:RV):Prop:=∀{φ:Nat→Nat} {Fz Fz':aC} {w w':World} {v:Value} {F:List Nat},r.holds φ Fz w v F→(∀b,L b∨b∈F→w'.heap[b]?=w.heap[b]?∧∀o,Fz' b o↔Fz b o)→r.holds φ Fz' w' v F
def PV.lcl_val{L:Nat→Prop}{x:Value}:(PV.val x).Lcl L:=fun h _=>h
def PV.lclr_val{x:Value}:(PV.val x).LclR L:=fun h _=>h
def PV.lcl_nv(h:p.Lcl L):(PV.nv u p).Lcl L:=fun k hk=>⟨k.1,h k.2 hk⟩
def aw.nil:aw L []:=fun p hp=>by simp at hp
def aw.cons(h:p.Lcl L)(k:aw L ps):aw L (p::ps):=fun q hq=>by
 rcases List.mem_cons.1 hq with rfl|hq;·exact h
 ·exact k q hq
def aw.app{qs:List PV}(h:aw L ps)(k:aw L qs):aw L (ps++qs):=fun q hq=>by
 rcases List.mem_append.1 hq with hq|hq;·exact h q hq
 ·exact k q hq
def aw.flat(h:∀cs,cs∈es→aw L cs):aw L es.flatten:=fun q hq=>by obtain ⟨cs,h1,h2⟩:=List.mem_flatten.1 hq;exact h cs h1 q h2
def aw.map(h:∀x,aw L (f x)):∀cs,cs∈xs.map f→aw L cs:=fun cs hcs=>by obtain ⟨x,_,rfl⟩:=List.mem_map.1 hcs;exact h x
def aw.vals{xs:List Value}:aw L (xs.map PV.val):=fun p hp=>by obtain ⟨x,_,rfl⟩:=List.mem_map.1 hp;exact PV.lcl_val
def mJ.nil:mJ L []:=fun p hp=>by simp at hp
def mJ.cons(h:p.LclR L)(k:mJ L ps):mJ L (p::ps):=fun q hq=>by
 rcases List.mem_cons.1 hq with rfl|hq;·exact h
 ·exact k q hq
def mJ.map(h:∀x,mJ L (f x)):∀cs,cs∈xs.map f→mJ L cs:=fun cs hcs=>by obtain ⟨x,_,rfl⟩:=List.mem_map.1 hcs;exact h x
def aw.own{Fz':aC}{w':World}:∀{ps:List PV} {vs:List Value} {F:List Nat},aw L ps→aN ps Fz w vs F→(∀b,L b∨b∈F→w'.heap[b]?=w.heap[b]?∧∀o,Fz' b o↔Fz b o)→aN ps Fz' w' vs F
 | [],_,_,_,h,_=>h
 | p::ps,vs,F,hl,h,hk=>by
  obtain ⟨v,vs',F1,F2,rfl,rfl,h1,h2⟩:=h
  exact ⟨v,vs',F1,F2,rfl,rfl,hl p aL h1 (fun b hb=>hk b DV),
   aw.own (fun q hq=>hl q (by simp [hq])) h2 fun b hb=>hk b DV⟩
def QJ{L:Nat→Prop}{e:Nat}{Fz Fz':aC}{w w':World}:∀{es:List (List PV)} {vs:List Value} {F:List Nat},(∀cs,cs∈es→aw L cs)→cX e es Fz w vs F→(∀b,L b∨b∈F→w'.heap[b]?=w.heap[b]?∧∀o,Fz' b o↔Fz b o)→cX e es Fz' w' vs F
 | [],_,_,_,h,_=>h
 | cs::es,vs,F,hl,h,hk=>by
  obtain ⟨c,d,F1,F2,rfl,rfl,h0,h1,h2⟩:=h
  exact ⟨c,d,F1,F2,rfl,rfl,h0,(hl cs aL).own h1 (fun b hb=>hk b DV),
   QJ (fun q hq=>hl q (by simp [hq])) h2 fun b hb=>hk b DV⟩
def PV.lcl_own{t e:Nat}(h:∀cs,cs∈es→aw L cs):(PV.sl (.own t e) es).Lcl L:=by
 intro Fz Fz' w w' v F hh hk;obtain ⟨css,F',ho,hl,hf,rfl,h1⟩:=hh;refine ⟨css,F',⟨ho.1,?_⟩,QJ h hl (fun b hb=>hk b DV),?_,rfl,?_⟩
 ·rcases ho.2 with hn|⟨g,cap,cur,rfl,hb,hg,rest⟩
  ·exact .inl hn
  ·exact .inr ⟨g,cap,cur,rfl,hb,(hk g AY).1.trans hg,rest⟩
 ·intro g hg o
  rw [(hk g (by simp [hg])).2 o];exact hf g hg o
 ·intro g hg cur t' o hc
  rw [(hk g (by simp [hg])).1] at hc;exact h1 g hg cur t' o hc
def PV.lclr_lo(h:∀cs,cs∈es→mJ L cs):(PV.sl (.lo L) es).LclR L:=by
 intro Fz Fz' w w' v hh hk;obtain ⟨⟨a,c,e,u,rfl,h1,h2,h3,h4,h5⟩,hlo⟩:=hh;refine ⟨⟨a,c,e,u,rfl,h1,h2,h3,?_,fun i cs j p hi hj=>h cs (List.mem_of_getElem? hi) p (List.mem_of_getElem? hj) (h5 i cs j p hi hj) hk⟩,hlo⟩;rcases h4 with h4|⟨b,off,rfl,h4⟩;·exact .inl h4
 ·rcases hlo with hlo|hlo
  ·exact .inl (jd hlo)
  ·refine .inr ⟨b,off,rfl,fun i j hi hj=>?_⟩
   have hbl:=hk b (hlo b rfl);exact ⟨(hbl.2 _).2 (h4 i j hi hj).1,(World.cell?_of_block hbl.1).trans (h4 i j hi hj).2⟩
def PV.lcl_lo(h:∀cs,cs∈es→mJ L cs):(PV.sl (.lo L) es).Lcl L:=fun hh hk=>⟨PV.lclr_lo h hh.1 fun b hb=>hk b (.inl hb),hh.2⟩
def RV.lcl_sv{ag:Bool}{cs:List PV}(h:aw L cs):(RV.sv ag cs).Lcl L:=fun hh hk=>⟨hh.1,h.own hh.2 hk⟩
def RV.lcl_ptr{d off:Nat}:(RV.ptr d off).Lcl L:=fun hh _=>hh
def RV.lcl_hdr{d m c:Nat}:(RV.hdr d m c).Lcl L:=fun hh _=>hh
end Go.Proofs.YtmekkgdboplbjaaGreatDoor.M
namespace Go.Proofs.YtmekkgdboplbjaaGreatDoor.M
open Go Go.RowKit
section
section
variable{P:Program}{n:Nat}{h0:Nat→Prop}{w0:World}{Fz0:aC}{σ:St}{Q:Exit→St→Prop}{c:Code}
def avs{o:Fl}{es:List (List PV)}{Fz:aC}{w:World}{v:Value}(h:(PV.sl o es).rel Fz w v):es.length≤9223372036854775807:=by obtain ⟨⟨a,c,e,u,_,h1,h2,_⟩,_⟩:=h;unfold maxLen at h2;omega
def avt{s j:Nat}{ag:Bool}{cs:List PV}{o:Fl}{es:List (List PV)}(hs:σ.s s=some (RV.sv ag cs))(hj:cs[j]?=some (PV.sl o es))(h:es.length≤9223372036854775807→SW P n h0 w0 Fz0 c σ Q):SW P n h0 w0 Fz0 c σ Q:=fun a w hc=>by have hc':=hc;obtain ⟨φ,Fz,Fp,k⟩:=hc';obtain ⟨v,_,hr⟩:=(k.slot s _ hs).2.rel.at_ hj;exact h (avs hr) a w hc
end
end
end Go.Proofs.YtmekkgdboplbjaaGreatDoor.M
namespace Go.Proofs.YtmekkgdboplbjaaGreatDoor.M
open Go Go.RowKit
variable{s:Nat}{L:Nat→Prop}
section
section
variable{P:Program}{n:Nat}{h0:Nat→Prop}{w0:World}{Fz0:aC}
section
variable{σ:St}{a:Act}{w w':World}{φ:Nat→Nat}{Fz Fz':aC}{Fp:Nat→List Nat}{L:Nat→Prop}
def bU.uworld(h:bU h0 w0 Fz0 n σ a w φ Fz Fp)(hos:w'.os=w.os)(htape:w'.tape=w.tape)(hout:w'.output=w.output)(hsz:w.heap.size≤w'.heap.size)
  (hb:∀b,b < w.heap.size→b∉Fp 0→w'.heap[b]?=w.heap[b]?∧∀o,Fz' b o↔Fz b o) (hL:∀b,L b→h0 b) (hls:∀i rv,σ.s i=some rv→rv.Lcl L) (hlb:∀d bx,σ.b d=some bx→aw L bx.2)
  (hl:∀b o,Fz' b o→b < w'.heap.size) {X:List Nat} (hX:∀b,b∈X→b∈Fp 0∨(w.heap.size≤b∧b < w'.heap.size)) (hn:X.Nodup) :
  bU h0 w0 Fz0 n σ a w' φ Fz' (fun x=>if x=0 then X else Fp x):=by
 have key:∀r,r≠0→∀b,L b∨b∈Fp r→w'.heap[b]?=w.heap[b]?∧∀o,Fz' b o↔Fz b o:=fun r hr b hbr=>by
  rcases hbr with hbr|hbr;·exact hb b (h.hlt b (hL b hbr)) fun hm=>(h.low 0 b hm).1 (hL b hbr)
  ·exact hb b (h.low r b hbr).2 (h.dis r 0 hr b hbr)
 have hmem:∀x b,b∈(if x=0 then X else Fp x)→(x=0∧b∈X)∨(x≠0∧b∈Fp x):=by
  intro x b hb;split at hb;·rename_i hx;exact .inl ⟨hx,hb⟩
  ·rename_i hx;exact .inr ⟨hx,hb⟩
 refine ⟨h.bel.trans ⟨hos,htape,hout,hsz,fun k hk'=>(hb k (h.hlt k hk') fun hm=>(h.low 0 k hm).1 hk').1⟩,h.dfr,h.siz,fun b hb'=>Nat.lt_of_lt_of_le (h.hlt b hb') hsz,?_,hl,?_,?_,?_,h.inj,?_,?_,?_⟩
 ·intro b o hbl
  rw [←h.fz0 b o hbl];exact (hb b (h.hlt b hbl) fun hm=>(h.low 0 b hm).1 hbl).2 o
 ·intro i rv hi
  rw [if_neg ab];exact hls i rv hi (h.slot i rv hi) (key _ ab)
 ·intro d cs hd
  obtain ⟨cur,h1,h2⟩:=h.box d cs hd;obtain ⟨k1,k2,k3⟩:=h.bxb d cs hd;have hlt:φ d < w.heap.size:=(Array.getElem?_eq_some_iff.1 h1).1;rw [if_neg ab];exact ⟨cur,(hb _ hlt (k3 0)).1.trans h1,(hlb d cs hd).own h2 (key _ ab)⟩
 ·intro d cs hd
  obtain ⟨cur,h1,h2⟩:=h.box d cs hd;obtain ⟨k1,k2,k3⟩:=h.bxb d cs hd;have hlt:φ d < w.heap.size:=(Array.getElem?_eq_some_iff.1 h1).1;refine ⟨k1,fun o ho=>k2 o (((hb _ hlt (k3 0)).2 o).1 ho),fun r hr=>?_⟩;rcases hmem _ _ hr with ⟨rfl,hr⟩|⟨_,hr⟩
  ·rcases hX _ hr with hr|hr
   ·exact k3 0 hr
   ·omega
  ·exact k3 r hr
 ·intro r r' hne b hr hr'
  rcases hmem _ _ hr with ⟨rfl,hr⟩|⟨e1,hr⟩<;>rcases hmem _ _ hr' with ⟨rfl,hr'⟩|⟨e2,hr'⟩;·exact hne rfl
  ·rcases hX _ hr with hr|hr
   ·exact h.dis 0 r' hne b hr hr'
   ·have:=(h.low r' b hr').2;omega
  ·rcases hX _ hr' with hr'|hr'
   ·exact h.dis r 0 hne b hr hr'
   ·have:=(h.low r b hr).2;omega
  ·exact h.dis r r' hne b hr hr'
 ·intro r
  split;·exact hn
  ·exact h.nod r
 ·intro r b hr
  rcases hmem _ _ hr with ⟨rfl,hr⟩|⟨e1,hr⟩
  ·rcases hX _ hr with hr|hr
   ·exact ⟨(h.low 0 b hr).1,by have:=(h.low 0 b hr).2;omega⟩
   ·exact ⟨fun hh=>by have:=h.hlt b hh;omega,hr.2⟩
  ·exact ⟨(h.low r b hr).1,by have:=(h.low r b hr).2;omega⟩
def bU.reslot(h:bU h0 w0 Fz0 n σ a w φ Fz Fp){rv:RV}(hv:rv.holds φ Fz w (a.tmps.getD s undef) (Fp (2 * s+1))):bU h0 w0 Fz0 n (σ.set s (some rv)) a w φ Fz Fp:=
 { h with
  slot:=fun i r hi=>by
   rw [St.set_s] at hi;split at hi;·rename_i hs;subst hs;injection hi with hi;subst hi;exact hv
   ·exact h.slot i r hi
  box:=fun d bx hd=>h.box d bx hd
  bxb:=fun d bx hd=>h.bxb d bx hd
  inj:=fun d d' cs cs' h1 h2=>h.inj d d' cs cs' h1 h2 }
def bU.rebox(h:bU h0 w0 Fz0 n σ a w φ Fz Fp){d t:Nat}{cs cs':List PV}(hd:σ.b d=some (t,cs))(hv:∀(cur:Array Value),aN cs Fz w cur.toList (Fp (2 * d+2))→w.heap[φ d]?=some (.cells cur t (0,0))→aN cs' Fz w cur.toList (Fp (2 * d+2))) :
  bU h0 w0 Fz0 n (σ.setB d (some (t,cs'))) a w φ Fz Fp:=
 { h with
  slot:=fun i r hi=>h.slot i r hi
  box:=fun e bx he=>by
   rw [St.setB_b] at he;split at he
   ·rename_i hs;subst hs;injection he with he;subst he
    obtain ⟨cur,h1,h2⟩:=h.box _ _ hd;exact ⟨cur,h1,hv cur h2 h1⟩
   ·exact h.box e bx he
  bxb:=fun e bx he=>by
   rw [St.setB_b] at he;split at he;·rename_i hs;subst hs;exact h.bxb _ _ hd
   ·exact h.bxb e bx he
  inj:=fun e e' cs1 cs2 h1 h2=>by
   rw [St.setB_b] at h1 h2;have f:∀x y,(if x=d then some (t,cs') else σ.b x)=some y→∃z,σ.b x=some z:=by
    intro x y hx;split at hx;·rename_i hs;subst hs;exact ⟨_,hd⟩
    ·exact ⟨y,hx⟩
   obtain ⟨z1,f1⟩:=f _ _ h1;obtain ⟨z2,f2⟩:=f _ _ h2;exact h.inj e e' z1 z2 f1 f2 }
end
section
variable{σ:St}{Q:Exit→St→Prop}{c:Code}
def acA{Fz:aC}{w:World}{A ms B:List PV}{vs:List Value}{F:List Nat}(h:aN (A++(ms++B)) Fz w vs F):∃vA vM vB FA FM FB,vs=vA++(vM++vB)∧F=FA++(FM++FB)∧aN A Fz w vA FA∧aN ms Fz w vM FM∧aN B Fz w vB FB:=by obtain ⟨v1,v2,F1,F2,rfl,rfl,k1,k2⟩:=aN.split h;obtain ⟨v3,v4,F3,F4,rfl,rfl,k3,k4⟩:=aN.split k2;exact ⟨_,_,_,_,_,_,rfl,rfl,k1,k3,k4⟩
def eX{d t:Nat}{cs cs':List PV}(hd:σ.b d=some (t,cs))(he:cs=cs')(h:SW P n h0 w0 Fz0 c (σ.setB d (some (t,cs'))) Q):SW P n h0 w0 Fz0 c σ Q:=fun a w hc=>by obtain ⟨φ,Fz,Fp,hc⟩:=hc;exact h a w ⟨φ,Fz,Fp,hc.rebox hd fun _ k _=>he▸k⟩
def El(L:Nat→Prop)(s:Nat):List (Nat×RV)→Prop
 | []=>True
 | p::l=>(p.1=s∨p.2.Lcl L)∧El L s l
def Bh(L:Nat→Prop)(d:Nat):List (Nat×(Nat×List PV))→Prop
 | []=>True
 | p::l=>(p.1=d∨aw L p.2.2)∧Bh L d l
def El.mem:∀{l:List (Nat×RV)},El L s l→∀p,p∈l→p.1=s∨p.2.Lcl L
 | [],_,p,hp=>by simp at hp
 | q::l,h,p,hp=>by
  rcases List.mem_cons.1 hp with rfl|hp;·exact h.1
  ·exact El.mem h.2 p hp
def Bh.mem:∀{l:List (Nat×(Nat×List PV))},Bh L s l→∀p,p∈l→p.1=s∨aw L p.2.2
 | [],_,p,hp=>by simp at hp
 | q::l,h,p,hp=>by
  rcases List.mem_cons.1 hp with rfl|hp;·exact h.1
  ·exact Bh.mem h.2 p hp
def RV.nm(u:Value)(r:RV):RV where
 holds φ Fz w v F:=v=u∧r.holds φ Fz w v F
 men:=r.men
 mono h k hh hφ:=⟨h.1,r.mono h.2 k hh hφ⟩
 lt h:=r.lt h.2
def RV.lcl_nm{u:Value}{r:RV}(h:r.Lcl L):(RV.nm u r).Lcl L:=fun hh hk=>⟨hh.1,h hh.2 hk⟩
def cX.flat{e:Nat}{Fz:aC}{w:World}:∀{es:List (List PV)} {vs:List Value} {F:List Nat},cX e es Fz w vs F→aN es.flatten Fz w vs F
 | [],_,_,h=>h
 | cs::es,vs,F,h=>by obtain ⟨c,d,F1,F2,rfl,rfl,h0,h1,h2⟩:=h;exact h1.append (cX.flat h2)
end
end
end
section
section
variable{P:Program}{n:Nat}{h0:Nat→Prop}{w0:World}{Fz0:aC}{ops:Array Oper}{σ:St}{Q:Exit→St→Prop}
def oq(P:Program)(n:Nat)(h0:Nat→Prop)(w0:World)(Fz0:aC)(ops:Array Oper)(l:List Oper)(σ:St)(Q:Exit→St→Prop):Prop:=
 ∀a w,bB h0 w0 Fz0 n σ a w→wpList P ops (fun e a' w'=>∃τ,Q e τ∧bB h0 w0 Fz0 n τ a' w') l a w
def wY(h:Q .normal σ):oq P n h0 w0 Fz0 ops [] σ Q:=fun a w hc=>⟨σ,h,hc⟩
def avu{o:Oper}{l:List Oper}{L:aM}(h1:bh L.rs σ.s)(h2:bh L.rb σ.b)(hl:db P n ops o L)(h3:∀d,L.al=some d→dv d σ)(h5:oq P n h0 w0 Fz0 ops l (σ.app L) Q):oq P n h0 w0 Fz0 ops (o::l) σ Q:=fun a w hc=>by
 have k:=hl (K:=wpList P ops (fun e a' w'=>∃τ,Q e τ∧bB h0 w0 Fz0 n τ a' w') l) (Q:=fun e a' w'=>∃τ,Q e τ∧bB h0 w0 Fz0 n τ a' w') hc h1 h2 h3 (fun a' w' hc'=>h5 a' w' hc');unfold wpList;split;·rename_i hw;rw [if_pos hw] at k;exact .inl k
 ·rename_i hw;rw [if_neg hw] at k;exact k
def wZ{id:Nat}(h:oq P n h0 w0 Fz0 ops ops.toList σ Q):SW P n h0 w0 Fz0 (.region id ops false) σ Q:=fun a w hc=>wp_region_list (h a w hc)
def avv{l:List (Nat×RV)}{b:List (Nat×(Nat×List PV))}{ol:List Oper}(hl:bh l σ.s)(hb:bh b σ.b)(h:oq P n h0 w0 Fz0 ops ol (St.of l b) Q):oq P n h0 w0 Fz0 ops ol σ Q:=fun a w hc=>h a w (hc.of hl hb)
def acB{a:Act}:a.put (some s) (a.tmps.getD s undef)=a:=by
 have:a.tmps.setIfInBounds s (a.tmps.getD s undef)=a.tmps:=by
  apply Array.ext_getElem?;intro i;by_cases hi:s=i
  ·subst hi
   by_cases hlt:s < a.tmps.size;·rw [Array.getElem?_setIfInBounds_self_of_lt hlt,Array.getD_eq_getD_getElem?,Array.getElem?_eq_getElem hlt];rfl
   ·rw [Array.setIfInBounds_eq_of_size_le ab]
  ·rw [Array.getElem?_setIfInBounds_ne hi]
 show Act.mk (a.tmps.setIfInBounds s (a.tmps.getD s undef)) a.defers=a;rw [this]
def Bi(L:Nat→Prop):List (Nat×(Nat×List PV))→Prop
 | []=>True
 | p::l=>aw L p.2.2∧Bi L l
def Bi.mem:∀{l:List (Nat×(Nat×List PV))},Bi L l→∀p,p∈l→aw L p.2.2
 | [],_,p,hp=>by simp at hp
 | q::l,h,p,hp=>by
  rcases List.mem_cons.1 hp with rfl|hp;·exact h.1
  ·exact Bi.mem h.2 p hp
def tn(L:Nat→Prop)(l:List (Nat×RV)):Prop:=∀p,p∈l→p.2.Lcl L
def tn.nil:tn L []:=fun p hp=>by simp at hp
def tn.cons{p:Nat×RV}{l:List (Nat×RV)}(h:p.2.Lcl L)(k:tn L l):tn L (p::l):=fun q hq=>by
 rcases List.mem_cons.1 hq with rfl|hq;·exact h
 ·exact k q hq
def qp{f:FuncId}{fn:Func}{c:Code}{args:List (Bool×List PV)}{largs:(Nat→Prop)→List (Bool×List PV)}{rs:List (Bool×List PV)}(hf:P.funcs[f]?=some fn)(hb:fn.body=some c)(hn:args.length≤fn.ntmps)(hto:∀L,wX L args (largs L))(hbor:∀L q,q∈largs L→aS q.2)
  (h:∀(w0:World) (Fz0:aC),SW P fn.ntmps (Lw w0.heap.size) w0 Fz0 c (St.of (jv 0 (largs (Lw w0.heap.size))) []) (Bf P fn.results.toList rs)):aD P f args (ay rs):=by
 intro w vs Fz hz hrel;exact QH hf hb (by rw [←(hto (Lw w.heap.size)).len];exact hn) (hbor _) w Fz (h w Fz) vs hz ((hto (Lw w.heap.size)).rel hz hrel)
end
end
end Go.Proofs.YtmekkgdboplbjaaGreatDoor.M
namespace Go.Proofs.YtmekkgdboplbjaaGreatDoor.M
open Go Go.RowKit
section
section
variable{P:Program}{n:Nat}
variable{T T2:TypeId}{x y:Operand}{d:Nat}{ty:TypeId}{pos:String}{af:Array Edge}{g:Option (Nat×Bool)}{i j:Bool}(hd:d < n)(hT:P.underlying T=some .bool)(hx:bG x (RV.bool i))(hy:bG y (RV.bool j))
include hd hT hx hy
def avw:Loc P n ⟨some d,.binOp .eql T x y T2,ty,pos,af,g⟩ ⟨bl x (RV.bool i)++bl y (RV.bool j),[],[(d,some (RV.bool (i==j)))],[],none⟩:=
 ir hd hx hy rfl fun w=>by simp [eqGuard,run_eql_bool w T i j hT]
def avx:Loc P n ⟨some d,.binOp .neq T x y T2,ty,pos,af,g⟩ ⟨bl x (RV.bool i)++bl y (RV.bool j),[],[(d,some (RV.bool (!(i==j))))],[],none⟩:=
 ir hd hx hy rfl fun w=>by simp [eqGuard,run_neq_bool w T i j hT]
end
section
variable{P:Program}{n:Nat}
end
end
end Go.Proofs.YtmekkgdboplbjaaGreatDoor.M
namespace Go.Proofs.YtmekkgdboplbjaaGreatDoor.M
open Go Go.RowKit
variable{α:Type}{o T p b t:Nat}{ty:TypeId}{pos:String}{af:Array Edge}{g:Option (Nat×Bool)}{ag:Bool}{k d:Nat}{qs:List (Bool×List PV)}{cs:List PV}{us:List Value}{Fz:aC}{w:World}{Fp:Nat→List Nat}{r q G s:Nat}{σ:St}{AI:List (Nat×aM)}{γ:Type}
section
section
variable{P:Program}{n:Nat}{h0:Nat→Prop}{w0:World}{Fz0:aC}{σ:St}{Q:Exit→St→Prop}{c:Code}
def acC{A m B:List α}(ho:o≤m.length):(A++(m++B)).take (A.length+o)=A++m.take o:=by rw [List.take_append,tf ab,show A.length+o - A.length=o by omega,List.take_append_of_le_length ho]
def JA{A m B:List α}(ho:o≤m.length):(A++(m++B)).drop (A.length+o)=m.drop o++B:=by rw [List.drop_append,List.drop_of_length_le ab,show A.length+o - A.length=o by omega,List.drop_append_of_le_length ho,List.nil_append]
def to{off:Nat}{x:Operand}{A m B vs:List PV}(hoff:off=A.length+o)(hT:dr P T=some (ag,k))(hx:bG x (RV.sv ag vs))(hv:vs.length=k)(hk:o+k≤m.length) :
  Loc P n ⟨none,.store T (.tmp p) x,ty,pos,af,g⟩ ⟨(p,RV.ptr b off)::bl x (RV.sv ag vs),[(b,(t,A++(m++B)))],wS x,[(b,some (t,A++((m.take o++(vs++m.drop (o+k)))++B)))],none⟩:=by
 have h:Loc P n ⟨none,.store T (.tmp p) x,ty,pos,af,g⟩ ⟨(p,RV.ptr b off)::bl x (RV.sv ag vs),[(b,(t,A++(m++B)))],wS x,[(b,some (t,(A++(m++B)).take off++(vs++(A++(m++B)).drop (off+k))))],none⟩:=
  bO hT hx hv PX
 have e:(A++(m++B)).take off++(vs++(A++(m++B)).drop (off+k))=A++((m.take o++(vs++m.drop (o+k)))++B):=by rw [hoff,acC ab,show A.length+o+k=A.length+(o+k) by omega,JA hk];simp only [bn]
 rw [e] at h;exact @h
def yX{off:Nat}{A m B qs:List PV}(hoff:off=A.length+o)(hd:d < n)(hT:dr P T=some (ag,k))(h1:ag=false→k=1)(hk:o+k≤m.length)
  (ht:az ((m.drop o).take k) qs) (hb:aS qs) :
  Loc P n ⟨some d,.load T (.tmp p),ty,pos,af,g⟩ ⟨[(p,RV.ptr b off)],[(b,(t,A++(m++B)))],[(d,some (RV.sv ag qs))],[],none⟩:=
 mH hd hT h1 PX (by rw [hoff,JA ab,List.take_append_of_le_length uB];exact ht) hb
end
section
variable{α:Type}{f:α→Int→α×Int}
variable{c:α→List PV}
def dp{ds:List PV}(h:cs=ds):some (t,cs)=some (t,ds):=by rw [h]
end
end
section
def RV.gh(us:List Value)(cs:List PV):RV where
 holds _ Fz w _ F:=aN cs Fz w us F
 men _:=false
 mono h k hh _:=h.mono k hh
 lt h:=h.lt
def RV.lcl_gh{L:Nat→Prop}(h:aw L cs):(RV.gh us cs).Lcl L:=fun hh hk=>h.own hh hk
def acD(us:List Value):List PV:=us.map PV.val
def avy(h:∀u,u∈us→u.oneCell'=true):aN (acD us) Fz w us []:=Eh h
section
variable{P:Program}{n:Nat}{h0:Nat→Prop}{w0:World}{Fz0:aC}{σ:St}{Q:Exit→St→Prop}{c:Code}
def pq(Fp:Nat→List Nat)(r q:Nat):Nat→List Nat:=fun x=>if x=q then Fp r else if x=r then [] else Fp x
def QK{x:Nat}(h:b∈pq Fp r q x):(x=q∧b∈Fp r)∨(x≠q∧x≠r∧b∈Fp x):=by
 unfold pq at h;split at h;·rename_i e;exact .inl ⟨e,h⟩
 ·split at h
  ·simp at h
  ·rename_i e1 e2;exact .inr ⟨e1,e2,h⟩
def avz(dis:∀r r',r≠r'→∀b,b∈Fp r→b∉Fp r'):∀x y,x≠y→∀b,b∈pq Fp r q x→b∉pq Fp r q y:=by
 intro x y hxy b hb hb';rcases QK hb with ⟨e1,h1⟩|⟨e1,e2,h1⟩<;>rcases QK hb' with ⟨f1,h2⟩|⟨f1,f2,h2⟩;·omega
 ·exact dis _ _ (fun e=>f2 e.symm) b h1 h2
 ·exact dis _ _ e2 b h1 h2
 ·exact dis _ _ hxy b h1 h2
def avA(nod:∀r,(Fp r).Nodup):∀x,(pq Fp r q x).Nodup:=by
 intro x;unfold pq;split;·exact nod r
 ·split
  ·exact List.nodup_nil
  ·exact nod x
def xb{j:Nat}{x u:Value}(h:∃Fz w,cC cs Fz w us)(hc:cs[j]?=some (PV.val x))(hu:us[j]?=some u):u=x:=by obtain ⟨Fz,w,h⟩:=h;obtain ⟨v,h1,h2⟩:=h.at_ hc;rw [hu] at h1;injection h1 with h1;rw [h1];exact h2.1
def QL{ps:List PV}(hd:σ.b d=some (t,ps))(hn:Nm ps us)(hG:σ.s G=some (RV.gh us cs))(h:SW P n h0 w0 Fz0 c ((σ.set G none).setB d (some (t,cs))) Q):SW P n h0 w0 Fz0 c σ Q:=fun a w hc=>by
 obtain ⟨φ,Fz,Fp,hc⟩:=hc;have hg:aN cs Fz w us (Fp (2 * G+1)):=hc.slot G _ hG;have c1:=hc.pull G;have e0:mv Fp (2 * G+1) 0=Fp (2 * G+1)++Fp 0:=hI;obtain ⟨cur,h1,h2⟩:=c1.box d (t,ps) hd;obtain ⟨g1,g2,g3⟩:=c1.bxb d (t,ps) hd;have hu:cur.toList=us:=hn h2.rel;have c2:=c1.pullB (d:=d) (cs:=(t,ps)) hd;generalize hFp1:mv Fp (2 * G+1)=Fp1 at c1 c2 e0 h2 g3;have hnd:=c2.nod 0;simp only [if_true] at hnd;have em:mv Fp1 (2 * d+2) 0=Fp1 (2 * d+2)++Fp1 0:=hI;rw [em,e0] at hnd
 have c3:=c2.pushB (d:=d) (g:=φ d) (t:=t) (cs:=cs) (F:=Fp (2 * G+1)) (X:=Fp 0) mF h1 (by rw [hu];exact hg) g2
  (fun x hx=>by
   simp only [if_true];rw [em,e0];rcases List.mem_append.1 hx with hx|hx;·simp [hx]
   ·rcases List.mem_cons.1 hx with rfl|hx
    ·simp
    ·simp [hx])
  (by
   simp only [kg,fm] at hnd;obtain ⟨m0,m1⟩:=hnd;have m2:=(List.nodup_append.1 m1).2.1;rw [dD] at m2 ⊢;refine ⟨m2.1,List.nodup_cons.2 ⟨fun hh=>m0 (.inr (.inr hh)),m2.2.1⟩,fun x hx y hy e=>?_⟩;rcases List.mem_cons.1 hy with rfl|hy;·exact m0 (.inr (.inl (e▸hx)))
   ·exact m2.2.2 x hx y hy e)
  (.inl rfl)
 exact h a w (bB.eqv ⟨_,_,_,c3⟩ (fun i=>rfl) (fun e=>by simp only [St.setB_b,St.set_b];split<;>rfl))
def yY{ps:List PV}(hs:σ.s s=some (RV.sv ag ps))(hn:Nm ps us)(hsG:Nat.beq s G=false)(hsn:s < n)(hG:σ.s G=some (RV.gh us cs))(h:SW P n h0 w0 Fz0 c ((σ.set G none).set s (some (RV.sv ag cs))) Q):SW P n h0 w0 Fz0 c σ Q:=fun a w hc=>by
 rw [beq_eq,decide_eq_false_iff_not] at hsG;obtain ⟨φ,Fz,Fp,hc⟩:=hc;have hg:aN cs Fz w us (Fp (2 * G+1)):=hc.slot G _ hG;have hv:=hc.slot s _ hs;have hu:(a.tmps.getD s undef).cells.toList=us:=hn hv.2.rel;have c1:=hc.pull s;have c2:=c1.pull G;have e1:mv Fp (2 * s+1) (2 * G+1)=Fp (2 * G+1):=abJ;have e2:mv (mv Fp (2 * s+1)) (2 * G+1) 0=Fp (2 * G+1)++mv Fp (2 * s+1) 0:=by rw [←e1];simp [mv]
 have hnd:=c2.nod 0;rw [e2] at hnd;have c3:=c2.push (i:=s) (rv:=RV.sv ag cs) (v:=a.tmps.getD s undef) (F:=Fp (2 * G+1)) (X:=mv Fp (2 * s+1) 0) hsn ⟨hv.1,by rw [hu];exact hg⟩ (fun x hx=>by rw [e2];exact hx) hnd;rw [acB] at c3;exact h a w (bB.eqv ⟨_,_,_,c3⟩ (fun i=>by
  simp only [St.set_s];split;·rfl
  ·split
   ·rfl
   ·rfl) (fun e=>rfl))
end
section
variable{P:Program}{n:Nat}
def Bj:Option Operand→RV→List (Nat×RV)
 | none,_=>[]
 | some x,r=>bl x r
def yZ:Option Operand→Prop→RV→Prop
 | none,p,_=>p
 | some x,_,r=>bG x r
def Bk{E e bs:Nat}{lo hi:Option Operand}{o:Fl}{xs ys:List α}{f:α→List PV}{i j:Nat}{q r:Int}(hd:d < n)(hT:gu P T=some (E,e,bs))
  (hlo:yZ lo (i=0) (RV.int q)) (hhi:yZ hi (j=xs.length) (RV.int r)) (hq:q=(i:Int)) (hr:r=(j:Int)) (hij:i≤j) (hj:j≤xs.length) (he:∀x,(f x).length=e) (hy:(xs.take j).drop i=ys) :
  Loc P n ⟨some d,.slice T (.tmp s) lo hi none,ty,pos,af,g⟩ ⟨(s,RV.slc o (xs.map f))::(Bj lo (RV.int q)++Bj hi (RV.int r)),[],[(d,some (RV.slc .v (ys.map f)))],[],none⟩:=by
 subst hq hr hy;rw [List.map_drop,List.map_take];have hj':j≤(xs.map f).length:=by simpa using hj
 have he':∀cs,cs∈xs.map f→cs.length=e:=fun cs hcs=>by obtain ⟨x,_,rfl⟩:=List.mem_map.1 hcs;exact he x
 intro h0 w0 Fz0 σ a w K Q hc hr hb hf hk;cases lo with
 | none=>cases hi with
  | none=>exact Jy (lo:=none) (hi:=none) (o:=o) (es:=xs.map f) (i:=i) (j:=j) hd hT hlo aa1 hij hj' he' hc hr hb hf hk
  | some y=>exact Jy (lo:=none) (hi:=some y) (o:=o) (es:=xs.map f) (i:=i) (j:=j) hd hT hlo hhi hij hj' he' hc hr hb hf hk
 | some x=>cases hi with
  | none=>exact Jy (lo:=some x) (hi:=none) (o:=o) (es:=xs.map f) (i:=i) (j:=j) hd hT hlo aa1 hij hj' he' hc hr hb hf hk
  | some y=>exact Jy (lo:=some x) (hi:=some y) (o:=o) (es:=xs.map f) (i:=i) (j:=j) hd hT hlo hhi hij hj' he' hc hr hb hf hk
end
end
section
section
variable{P:Program}{n:Nat}{h0:Nat→Prop}{w0:World}{Fz0:aC}{ops:Array Oper}
def e0:aM:=⟨[],[],[],[],none⟩
def jf:List Oper→List (Nat×aM)→List (Nat×aM)
 | [],acc=>acc
 | o::l,acc=>jf l (acc++[(eW o.after.toList acc,e0)])
def pt:List Oper→Nat→Bool
 | [],_=>true
 | o::l,k=>Ed o.after.toList k&&pt l (k+1)
def acE:∀(l:List Oper) (acc:List (Nat×aM)),(jf l acc).length=acc.length+l.length
 | [],acc=>rfl
 | o::l,acc=>by rw [jf,acE l];simp;omega
def acF:∀(l:List Oper) (acc:List (Nat×aM)),(jf l acc).take acc.length=acc
 | [],acc=>bF
 | o::l,acc=>by have:=acF l (acc++[(eW o.after.toList acc,e0)]);rw [jf];have e:=congrArg (List.take acc.length) this;rw [List.take_take,List.take_left] at e;have e4:min acc.length (acc++[(eW o.after.toList acc,e0)]).length=acc.length:=aL;rw [e4] at e;exact e
def JB:∀(l:List Oper) (acc:List (Nat×aM)) (i:Nat) (o:Oper) (p:Nat×aM),l[i]?=some o→(jf l acc)[acc.length+i]?=some p→p.2=e0∧p.1=eW o.after.toList ((jf l acc).take (acc.length+i))
 | [],acc,i,o,p,h,_=>by simp at h
 | x::l,acc,0,o,p,h,hp=>by
  simp at h;subst h;rw [jf] at hp ⊢;have e:=acF l (acc++[(eW x.after.toList acc,e0)]);have e2:(jf l (acc++[(eW x.after.toList acc,e0)]))[acc.length]?=some (eW x.after.toList acc,e0):=by have:((jf l (acc++[(eW x.after.toList acc,e0)])).take (acc++[(eW x.after.toList acc,e0)]).length)[acc.length]?=some (eW x.after.toList acc,e0):=Bc;rw [List.getElem?_take_of_lt aL] at this;exact this
  rw [Nat.add_zero,e2] at hp;injection hp with hp;subst hp;refine ⟨rfl,?_⟩;have e3:=congrArg (List.take acc.length) e;rw [List.take_take,List.take_left] at e3;have e4:min acc.length (acc++[(eW x.after.toList acc,e0)]).length=acc.length:=aL;rw [e4] at e3;rw [Nat.add_zero,e3]
 | x::l,acc,i+1,o,p,h,hp=>by rw [jf] at hp ⊢;have:=JB l (acc++[(eW x.after.toList acc,e0)]) i o p qn abS;rw [show (acc++[(eW x.after.toList acc,e0)]).length+i=acc.length+(i+1) by simp;omega] at this;exact this
def QM:∀(l:List Oper) (k i:Nat) (o:Oper),pt l k=true→l[i]?=some o→Ed o.after.toList (k+i)=true
 | [],_,_,_,_,h=>by simp at h
 | x::l,k,0,o,he,h=>by simp at h;subst h;unfold pt at he;rw [aR] at he;exact he.1
 | x::l,k,i+1,o,he,h=>by unfold pt at he;rw [aR] at he;have:=QM l (k+1) i o he.2 qn;rw [show k+1+i=k+(i+1) by omega] at this;exact this
def JC{β:Type}(pr:aM→List (Nat×β))(hpr:pr e0=[])(S:Nat→Bool):∀(B:List (Nat×aM)) (k:Nat) (f:Nat→β),(∀j q,B[j]?=some q→S (k+j)=true→q.2=e0)→lw pr S B k f=f
 | [],_,_,_=>rfl
 | q::B,k,f,h=>by
  rw [lw];have h1:(bif S k then bK (pr q.2) f else f)=f:=by
   cases hs:S k;·rfl
   ·rw [h 0 q rfl Je,hpr];rfl
  rw [h1];exact JC pr hpr S B (k+1) f fun j r hr hs=>h (j+1) r Jd (by rw [←hs];congr 1;omega)
def Em(x:aM):jI x e0=true∧jI e0 x=true∧je x e0=true∧je e0 x=true:=by
 have h1:∀{β γ:Type} (l:List (Nat×β)),ju l ([]:List (Nat×γ))=false:=by
  intro β γ l;induction l with
  | nil=>rfl
  | cons p l ih=>unfold ju at ih ⊢;rw [List.any_cons,ih];rfl
 have h2:∀{β γ:Type} (l:List (Nat×γ)),ju ([]:List (Nat×β)) l=false:=fun _=>rfl;have hf:je e0 x=true:=by unfold je;cases x.al<;>rfl
 refine ⟨?_,?_,rfl,hf⟩
 ·unfold jI
  simp only [e0] at hf ⊢;simp [h1,h2,hf]
 ·unfold jI
  simp only [e0];simp [h1,h2];rfl
def tq(AI:List (Nat×aM))(j:Nat):aM:=(lk AI j).getD e0
def uK(F:Nat→aM):List Oper→List (Nat×aM)→List (Nat×aM)
 | [],acc=>acc
 | o::l,acc=>uK F l (acc++[(eW o.after.toList acc,F acc.length)])
def QN(F:Nat→aM):∀(l:List Oper) (acc:List (Nat×aM)),∃B,uK F l acc=acc++B∧B.length=l.length
 | [],acc=>⟨[],by simp [uK]⟩
 | o::l,acc=>by obtain ⟨B,h1,h2⟩:=QN F l (acc++[(eW o.after.toList acc,F acc.length)]);exact ⟨(eW o.after.toList acc,F acc.length)::B,by rw [uK,h1];simp,by simp [h2]⟩
def acG(F:Nat→aM):∀(l:List Oper) (acc:List (Nat×aM)) (i:Nat) (o:Oper) (p:Nat×aM),l[i]?=some o→(uK F l acc)[acc.length+i]?=some p→p.2=F (acc.length+i)∧p.1=eW o.after.toList ((uK F l acc).take (acc.length+i))
 | [],acc,i,o,p,h,_=>by simp at h
 | x::l,acc,0,o,p,h,hp=>by simp at h;subst h;rw [uK] at hp ⊢;obtain ⟨B,e,_⟩:=QN F l (acc++[(eW x.after.toList acc,F acc.length)]);rw [e] at hp ⊢;rw [Nat.add_zero] at hp ⊢;rw [bn,List.getElem?_append_right (Nat.le_refl _),Nat.sub_self] at hp;simp at hp;subst hp;refine ⟨rfl,?_⟩;rw [bn,List.take_left]
 | x::l,acc,i+1,o,p,h,hp=>by rw [uK] at hp ⊢;have:=acG F l (acc++[(eW x.after.toList acc,F acc.length)]) i o p qn abS;rw [show (acc++[(eW x.after.toList acc,F acc.length)]).length+i=acc.length+(i+1) by simp;omega] at this;exact this
def JD{β:Type}(pr:aM→List (Nat×β))(S:Nat→Bool):∀(A B:List (Nat×aM)) (k:Nat) (f:Nat→β),lw pr S (A++B) k f=lw pr S B (k+A.length) (lw pr S A k f)
 | [],B,k,f=>rfl
 | p::A,B,k,f=>by show lw pr S (A++B) (k+1) _=_;rw [JD pr S A B (k+1)];rw [show k+1+A.length=k+(p::A).length by simp;omega];rfl
def QO{β:Type}(pr:aM→List (Nat×β)){S S':Nat→Bool}:∀(A B:List (Nat×aM)) (k:Nat) (f:Nat→β),A.length=B.length→(∀i,i < A.length→S (k+i)=S' (k+i))→(∀(i:Nat) (p q:Nat×aM),A[i]?=some p→B[i]?=some q→S (k+i)=true→p.2=q.2)→lw pr S A k f=lw pr S' B k f
 | [],[],_,_,_,_,_=>rfl
 | [],_::_,_,_,h,_,_=>by simp at h
 | _::_,[],_,_,h,_,_=>by simp at h
 | p::A,q::B,k,f,hl,hS,h=>by
  rw [lw,lw];have h0:=hS 0 aL;rw [Nat.add_zero] at h0;have e:(bif S k then bK (pr p.2) f else f)=(bif S' k then bK (pr q.2) f else f):=by
   rw [←h0];cases hs:S k;·rfl
   ·rw [h 0 p q rfl rfl Je]
  rw [e];exact QO pr A B (k+1) _ AZ (fun i hi=>by have:=hS (i+1) jq;rw [show k+1+i=k+(i+1) by omega];exact this) fun i p' q' h1 h2 hs=>h (i+1) p' q' Jj (by simpa using h2) abv
def avB{β:Type}{u v:List (Nat×β)}(h:∀x,dM u x=true→dM v x=false)(f:Nat→β):bK u (bK v f)=bK v (bK u f):=by
 funext x;cases hu:dM u x
 ·rw [uE hu]
  cases hv:dM v x;·rw [uE hv,uE hv,uE hu]
  ·exact Ec (.inl hv)
 ·have hv:=h x hu
  rw [uE (l:=v) hv];exact Ec (.inl hu)
def acH{β:Type}(pr:aM→List (Nat×β))(S:Nat→Bool){u:List (Nat×β)}:∀(A:List (Nat×aM)) (k:Nat) (f:Nat→β),(∀(i:Nat) (p:Nat×aM),A[i]?=some p→S (k+i)=true→∀x,dM u x=true→dM (pr p.2) x=false)→bK u (lw pr S A k f)=lw pr S A k (bK u f)
 | [],_,_,_=>rfl
 | p::A,k,f,h=>by
  rw [lw,lw,acH pr S A (k+1) _ fun i q hq hs=>h (i+1) q rc abv];congr 1
  cases hs:S k;·rfl
  ·exact avB (h 0 p rfl Je) f
def St.wr(σ:St)(u:List (Nat×Option RV)):St:=⟨bK u σ.s,σ.b⟩
def avC(AI:List (Nat×aM))(ks:List Nat):Bool:=AI.all fun q=>ks.all fun k=>!dM q.2.ws k
def QP(AI:List (Nat×aM))(σ τ:St):Prop:=∀x,(∀q,q∈AI→dM q.2.ws x=false)→τ.s x=σ.s x
def Mid(P:Program)(n:Nat)(h0:Nat→Prop)(w0:World)(Fz0:aC)(ops:Array Oper)(AI:List (Nat×aM))(oc:Oper)(post:List Oper)(acc:List (Nat×aM))(QS:St→Prop)(σ:St):Prop:=
 ∀(τ:St) (a:Act) (w:World) (K:Act→World→Prop) (Q:Exit→Act→World→Prop),bB h0 w0 Fz0 n τ a w→QP AI σ τ →
  (∀(u:List (Nat×Option RV)) a' w',bB h0 w0 Fz0 n (τ.wr u) a' w'→(∀q,q∈AI→∀x,dM u x=true→dM q.2.ws x=false)→cj P n ops (σ.wr u) (fun j L=>∀L',lk AI j=some L'→L=L') QS post acc (σ.wr u)→K a' w')→oc.wp P a w K Q
def C1(AI:List (Nat×aM))(_:Nat)(L:aM):Prop:=(AI.all fun q=>je L q.2&&jI L q.2)=true
def QQ:∀(l:List Oper) (k c:Nat),pt l k=true→pt (l.take c) k=true
 | [],_,_,_=>by simp [pt]
 | o::l,k,0,_=>by simp [pt]
 | o::l,k,c+1,h=>by unfold pt at h;rw [aR] at h;show (Ed o.after.toList k&&pt (l.take c) (k+1))=true;rw [aR];exact ⟨h.1,QQ l (k+1) c h.2⟩
def acJ{σ0:St}{c:Nat}(hc:c≤ops.size)(he:pt (ops.toList.take c) 0=true):∀i o p,ops[i]?=some o→(jf (ops.toList.take c) [])[i]?=some p→Be P n ops σ0 (fun i=>Nat.blt (c - 1) i&&Nat.blt 0 c) (jf (ops.toList.take c) []) i o p:=by
 intro i o p ho hp;have hl:(jf (ops.toList.take c) []).length=c:=Qa;have hi:i < c:=by rw [←hl];exact (List.getElem?_eq_some_iff.1 hp).1
 have ho':(ops.toList.take c)[i]?=some o:=by rw [List.getElem?_take_of_lt hi];simpa using ho
 have k:=JB _ [] i o p ho' (by simpa using hp);simp only [List.length_nil,Nat.zero_add] at k;have ke:=QM _ 0 i o he ho';rw [Nat.zero_add] at ke;have hno:(Nat.blt (c - 1) i&&Nat.blt 0 c)=true→False:=fun h=>by rw [aR,blt_eq,decide_eq_true_iff] at h;omega
 refine ⟨fun h=>(hno h).elim,fun h=>(hno h).elim,fun h=>(hno h).elim,fun h=>(hno h).elim,k.2,ke,fun j q hj hq=>?_⟩;have hjc:j < c:=ab;have hoj:(ops.toList.take c)[j]?=some ops[j]:=by rw [List.getElem?_take_of_lt hjc];simp
 have kj:=JB _ [] j _ q hoj rc;rw [kj.1,k.1];exact ⟨rfl,.inr (Em e0).1⟩
def JE(m:Nat):Nat→Bool
 | 0=>true
 | k+1=>m.testBit k&&JE m k
def acK{m:Nat}:∀{k j:Nat},JE m k=true→j < k→m.testBit j=true
 | 0,_,_,h=>by omega
 | k+1,j,h,hj=>by
  unfold JE at h;rw [aR] at h;rcases Nat.lt_or_ge j k with hk|hk;·exact acK h.2 hk
  ·rw [show j=k by omega];exact h.1
def En(AI:List (Nat×aM))(c:Nat):List Oper→Nat→Bool
 | [],_=>true
 | o::l,i=>(dM AI i||o.after.toList.any (fun e=>Region.binds .any e&&(Nat.blt c (e.on+1)&&!dM AI e.on)))&&En AI c l (i+1)
def acL{AI:List (Nat×aM)}{c:Nat}:∀(l:List Oper) (k i:Nat) (o:Oper),En AI c l k=true→l[i]?=some o→dM AI (k+i)=false→∃e,e∈o.after.toList∧Region.binds .any e=true∧c≤e.on∧dM AI e.on=false
 | [],_,_,_,_,h,_=>by simp at h
 | x::l,k,0,o,he,h,hin=>by simp at h;subst h;unfold En at he;rw [Nat.add_zero] at hin;rw [aR,hin,Bool.false_or,List.any_eq_true] at he;obtain ⟨⟨e,h1,h2⟩,_⟩:=he;rw [aR,aR,blt_eq,decide_eq_true_iff,Bool.not_eq_true'] at h2;exact ⟨e,h1,h2.1,ab,h2.2.2⟩
 | x::l,k,i+1,o,he,h,hin=>by unfold En at he;rw [aR] at he;exact acL l (k+1) i o he.2 qn (by rw [show k+1+i=k+(i+1) by omega];exact hin)
def acM(ops:Array Oper)(AI:List (Nat×aM))(c:Nat)(oc:Oper)(post:List Oper):Bool:=
 pt ops.toList 0&&(JE (eW oc.after.toList (jf (ops.toList.take c) [])) c&&(En AI c post (c+1)&&((AI.all fun q=>Nat.blt c q.1&&(q.2.rs.isEmpty&&q.2.rb.isEmpty))&&AI.all fun x=>AI.all fun y=>Nat.beq x.1 y.1||(je x.2 y.2&&jI x.2 y.2))))
def QR:∀(l:List Edge) (A B:List (Nat×aM)),A.map (·.1)=B.map (·.1)→eW l A=eW l B
 | [],_,_,_=>rfl
 | e::l,A,B,h=>by
  have h1:(A[e.on]?).map (·.1)=(B[e.on]?).map (·.1):=by rw [←List.getElem?_map,←List.getElem?_map,h]
  rw [eW,eW,QR l A B h,h1]
def avD{A B:List (Nat×aM)}(hl:A.length=B.length)(hA:∀(i:Nat) (p:Nat×aM),A[i]?=some p→∃o:Oper,ops[i]?=some o∧p.1=eW o.after.toList (A.take i))(hB:∀(i:Nat) (p:Nat×aM),B[i]?=some p→∃o:Oper,ops[i]?=some o∧p.1=eW o.after.toList (B.take i)):A.map (·.1)=B.map (·.1):=by
 have key:∀k,k≤A.length→(A.take k).map (·.1)=(B.take k).map (·.1):=by
  intro k;induction k with
  | zero=>intro _;simp
  | succ k ih=>
   intro hk;have ihk:=ih ab;have h1:k < A.length:=ab;have h2:k < B.length:=ab;obtain ⟨o1,e1,f1⟩:=hA k _ (List.getElem?_eq_getElem h1);obtain ⟨o2,e2,f2⟩:=hB k _ (List.getElem?_eq_getElem h2);rw [e1] at e2;injection e2 with e2;subst e2;rw [cI h1,cI h2,bj,bj,ihk];simp only [List.map_cons,List.map_nil];rw [f1,f2,QR _ _ _ ihk]
 have:=key A.length (Nat.le_refl _);rw [bF,hl,bF] at this;exact this
def QT{id c:Nat}{oc:Oper}{Q:Exit→St→Prop}{pre post:List Oper}(hm:P.follows .mixedOrders=true)(hpre:ops.toList.take c=pre)(hops:ops.toList=pre++([oc]++post))(hc:pre.length=c)(hg:oc.guard=none)(hmid:acM ops AI c oc post=true)
  (hAI:∀j L,lk AI j=some L→∀o,ops[j]?=some o→db P n ops o L) (hAF:∀j L,lk AI j=some L→∀d,L.al=some d→dv d σ)
  (h:cj P n ops σ (C1 AI) (fun τ=>Mid P n h0 w0 Fz0 ops AI oc post (jf (ops.toList.take (c+1)) []) (fun τ=>Q .normal τ) τ) pre [] σ):SW P n h0 w0 Fz0 (.region id ops true) σ Q:=fun a w hcon=>by
 unfold acM at hmid;simp only [aR] at hmid;obtain ⟨m1,m3,m5,m6,m7⟩:=hmid;have hsz:ops.size=c+(1+post.length):=by have:=congrArg List.length hops;simp at this;omega
 have hoc:ops[c]?=some oc:=by
  have:ops.toList[c]?=some oc:=by rw [hops,List.getElem?_append_right ab,hc];simp
  simpa using this
 have hpost:∀i o,ops[i]?=some o→c+1≤i→post[i - (c+1)]?=some o:=by
  intro i o ho hi;have:ops.toList[i]?=some o:=by simpa using ho
  rw [hops,List.getElem?_append_right ab,List.getElem?_append_right jq] at this;rw [←this];congr 1;simp;omega
 have hAIm:∀{j L},lk AI j=some L→(j,L)∈AI:=fun h=>lV h;have hAIc:∀q,q∈AI→c < q.1∧q.2.rs=[]∧q.2.rb=[]:=fun q hq=>by have:=List.all_eq_true.1 m6 q hq;rw [aR,aR,blt_eq,decide_eq_true_iff] at this;exact ⟨this.1,List.isEmpty_iff.1 this.2.1,List.isEmpty_iff.1 this.2.2⟩
 have hlkn:∀j,dM AI j=false→lk AI j=none:=by
  intro j hj;cases hl:lk AI j with
  | none=>rfl
  | some L=>have:=Qu (hAIm hl);rw [hj] at this;cases this
 have hlks:∀j,dM AI j=true→∃L,lk AI j=some L:=by
  have:∀(l:List (Nat×aM)) j,dM l j=true→∃L,lk l j=some L:=by
   intro l j;induction l with
   | nil=>intro h;cases h
   | cons q l ih=>
    intro h;rw [Eb,Bool.or_eq_true] at h;show ∃L,(bif Nat.beq j q.1 then some q.2 else lk l j)=some L;cases hb:Nat.beq j q.1
    ·rcases h with h|h
     ·rw [Nat.beq_eq] at h
      rw [h,show Nat.beq j j=true from by rw [Nat.beq_eq]] at hb;cases hb
     ·exact ih h
    ·exact ⟨_,rfl⟩
  exact this AI
 obtain ⟨A1,hA1,_,hqs,hC1,hG1⟩:=Qx (P:=P) (n:=n) (ex:=fun _=>true) pre ([oc]++post) [] [] σ (by rw [hops];simp) rfl rfl (fun i o p _ hp=>by simp at hp) h;have hAl:A1.length=c:=by simp at hA1;omega
 obtain ⟨B,hAB,hBl⟩:=QN (tq AI) ([oc]++post) A1;generalize hA':uK (tq AI) ([oc]++post) A1=A at hAB;have hAlen:A.length=ops.size:=by rw [hAB];simp [hBl];omega
 have hAlt:∀i,i < c→A[i]?=A1[i]?:=fun i hi=>by rw [hAB,List.getElem?_append_left ab]
 have hAge:∀i o p,c≤i→ops[i]?=some o→A[i]?=some p→p.2=tq AI i∧p.1=eW o.after.toList (A.take i):=by
  intro i o p hi ho hp;have ho':([oc]++post)[i - c]?=some o:=by
   have:ops.toList[i]?=some o:=by simpa using ho
   rw [hops,List.getElem?_append_right ab,hc] at this;exact this
  have:=acG (tq AI) ([oc]++post) A1 (i - c) o p ho' (by rw [hA',hAl,show c+(i - c)=i by omega];exact hp);rw [hA',hAl,show c+(i - c)=i by omega] at this;exact this
 have hstA:∀i,i≤c→fT A (fun j=>Nat.blt j i) σ=fT A1 (fun j=>Nat.blt j i) σ:=by
  intro i hi;have e:∀{β:Type} (pr:aM→List (Nat×β)) (f:Nat→β),lw pr (fun j=>Nat.blt j i) A 0 f=lw pr (fun j=>Nat.blt j i) A1 0 f:=by
   intro β pr f;rw [hAB,JD];have:∀(B:List (Nat×aM)) (k:Nat) (g:Nat→β),i≤k→lw pr (fun j=>Nat.blt j i) B k g=g:=by
    intro B;induction B with
    | nil=>intro k g _;rfl
    | cons q B ihB=>
     intro k g hk;rw [lw,blt_eq,decide_eq_false ab,cond_false];exact ihB (k+1) g ab
   exact this B _ _ ab
  unfold fT;rw [e,e]
 have hE0:∀q:Nat×aM,q∈AI→∀j p,j < c→A1[j]?=some p→je p.2 q.2=true∧jI p.2 q.2=true:=by intro q hq j p hj hp;have:=List.all_eq_true.1 (hC1 j p (Nat.zero_le _) hp) q hq;rwa [aR] at this
 have hG:∀i o p,ops[i]?=some o→A[i]?=some p→Be P n ops σ (fun i=>Nat.blt i c||dM AI i) A i o p:=by
  intro i o p ho hp;rcases Nat.lt_or_ge i c with hi|hi
  ·have g:=hG1 i o p ho (by rw [←hAlt i hi];exact hp)
   refine ⟨fun _=>g.loc rfl,fun _=>by rw [hstA i ab];exact g.rs rfl,fun _=>by rw [hstA i ab];exact g.rb rfl,fun _=>g.fr rfl,?_,g.edges,fun j q hj hq=>g.ch j q hj (by rw [←hAlt j ab];exact hq)⟩;rw [g.mask,hAB,List.take_append_of_le_length ab]
  ·obtain ⟨k1,k2⟩:=hAge i o p hi ho hp
   have ke:=QM ops.toList 0 i o m1 (by simpa using ho);rw [Nat.zero_add] at ke;have hex:(Nat.blt i c||dM AI i)=true→∃L,lk AI i=some L∧p.2=L:=by intro hx;rw [blt_eq,decide_eq_false ab,Bool.false_or] at hx;obtain ⟨L,hL⟩:=hlks i hx;exact ⟨L,hL,by rw [k1];unfold tq;rw [hL];rfl⟩
   refine ⟨fun hx=>?_,fun hx=>?_,fun hx=>?_,fun hx=>?_,k2,ke,fun j q hj hq=>?_⟩
   ·obtain ⟨L,h1,h2⟩:=hex hx
    rw [h2];exact hAI i L h1 o ho
   ·obtain ⟨L,h1,h2⟩:=hex hx
    rw [h2,(hAIc _ (hAIm h1)).2.1];exact True.intro
   ·obtain ⟨L,h1,h2⟩:=hex hx
    rw [h2,(hAIc _ (hAIm h1)).2.2];exact True.intro
   ·obtain ⟨L,h1,h2⟩:=hex hx
    rw [h2];exact hAF i L h1
   ·cases hli:lk AI i with
    | none=>
     have:p.2=e0:=by rw [k1];unfold tq;rw [hli];rfl
     rw [this];exact ⟨(Em _).2.2.1,.inr (Em _).1⟩
    | some L=>
     have hpL:p.2=L:=by rw [k1];unfold tq;rw [hli];rfl
     rw [hpL];rcases Nat.lt_or_ge j c with hjc|hjc
     ·obtain ⟨h1,h2⟩:=hE0 _ (hAIm hli) j q hjc (by rw [←hAlt j hjc];exact hq)
      exact ⟨h1,.inr h2⟩
     ·have hjo:j < ops.size:=by have:=(Array.getElem?_eq_some_iff.1 ho).1;omega
      obtain ⟨j1,_⟩:=hAge j _ q hjc (Array.getElem?_eq_getElem hjo) hq;cases hlj:lk AI j with
      | none=>
       have:q.2=e0:=by rw [j1];unfold tq;rw [hlj];rfl
       rw [this];exact ⟨(Em _).2.2.2,.inr (Em _).2.1⟩
      | some L'=>
       have hqL:q.2=L':=by rw [j1];unfold tq;rw [hlj];rfl
       rw [hqL];have:=List.all_eq_true.1 (List.all_eq_true.1 m7 _ (hAIm hlj)) _ (hAIm hli);simp only [Bool.or_eq_true,Nat.beq_eq,aR] at this;rcases this with h|h;·omega
       ·exact ⟨h.1,.inr h.2⟩
 have hpl:(jf (ops.toList.take c) []).length=c:=Qa;have m2:pt (ops.toList.take c) 0=true:=QQ _ _ _ m1;have hmk:(A.take c).map (·.1)=(jf (ops.toList.take c) []).map (·.1):=by
  refine avD (ops:=ops) (by rw [cc,hpl];omega) (fun i p hp=>?_) (fun i p hp=>?_)
  ·have hi:i < c:=by have:=(List.getElem?_eq_some_iff.1 hp).1;rw [cc] at this;omega
   have hio:i < ops.size:=ab;rw [List.getElem?_take_of_lt hi] at hp;refine ⟨_,Array.getElem?_eq_getElem hio,?_⟩;rw [(hG i _ p (Array.getElem?_eq_getElem hio) hp).mask,List.take_take,Nat.min_eq_left ab]
  ·have hi:i < c:=by rw [←hpl];exact (List.getElem?_eq_some_iff.1 hp).1
   have hio:i < ops.size:=ab;exact ⟨_,Array.getElem?_eq_getElem hio,(acJ (P:=P) (n:=n) (σ0:=σ) ab m2 i _ p (Array.getElem?_eq_getElem hio) hp).mask⟩
 have hmoc:eW oc.after.toList (A.take c)=eW oc.after.toList (jf (ops.toList.take c) []):=QR _ _ _ hmk;have hrepl:∀i,(Array.replicate ops.size false).getD i false=false:=fun i=>by rw [Array.getD_eq_getD_getElem?,Array.getElem?_replicate];split<;>rfl
 refine wp_region_any hm (Qy (h0:=h0) (w0:=w0) (Fz0:=Fz0) (ini:=fun _=>false) (Q:=fun e a' w'=>∃τ,Q e τ∧bB h0 w0 Fz0 n τ a' w') hAlen hG ?_ ?_ ops.size _ a _ aL ?_ ?_ (fun i _=>hrepl i) ?_)
 ·intro fuel listed a' w' hsz' hcnt hini hcl hc' i hi hli hex he
  rw [Bool.or_eq_false_iff,blt_eq,decide_eq_false_iff_not] at hex;obtain ⟨hic,hin⟩:=hex;have hunl:∀j,c≤j→dM AI j=false→listed.getD j false=false:=fun j hj hjn=>hini j (by rw [Bool.or_eq_false_iff,blt_eq,decide_eq_false_iff_not];exact ⟨ab,hjn⟩);by_cases hic':i=c
  ·subst hic'
   unfold wpOp;rw [hoc];have hall:∀j,j < i→listed.getD j false=true:=by intro j hj;have hp:=List.getElem?_eq_getElem (show i < A.length by omega);have g:=hG i oc _ hoc hp;refine Ee (Nat.le_of_eq hAlen) hG (S:=fun i=>listed.getD i false) hcl i oc _ hoc hp (he oc hoc) j ?_;rw [g.mask,hmoc];exact acK m3 hj
   have hset:∀j,(listed.setIfInBounds i true).getD j false=(if j=i then true else listed.getD j false):=by
    intro j;by_cases hj:j=i
    ·subst hj
     rw [if_pos rfl,Array.getD_eq_getD_getElem?,Array.getElem?_setIfInBounds_self];rw [if_pos ab];rfl
    ·rw [if_neg hj,Array.getD_eq_getD_getElem?,Array.getD_eq_getD_getElem?,Array.getElem?_setIfInBounds_ne ab]
   have hlwA:∀{β:Type} (pr:aM→List (Nat×β)) (f:Nat→β),lw pr (fun j=>listed.getD j false) A 0 f=lw pr (fun j=>listed.getD j false) B i (lw pr (fun _=>true) A1 0 f):=by
    intro β pr f;rw [hAB,JD,Nat.zero_add,hAl];congr 1
    exact QO pr A1 A1 0 f rfl (fun j hj=>by rw [Nat.zero_add];exact hall j ab) (fun j p q hp hq _=>by rw [hp] at hq;injection hq with hq;rw [hq])
   have hBe:∀k p,B[k]?=some p→listed.getD (i+k) false=true→(i+k,p.2)∈AI∧lk AI (i+k)=some p.2:=by
    intro k p hp hs;have hik:i+k < ops.size:=by have:=(List.getElem?_eq_some_iff.1 hp).1;simp [hBl] at this;omega
    have hpA:A[i+k]?=some p:=by rw [hAB,List.getElem?_append_right ab,hAl,show i+k - i=k by omega];exact hp
    obtain ⟨k1,_⟩:=hAge (i+k) _ p ab (Array.getElem?_eq_getElem hik) hpA;cases hin':dM AI (i+k);·rw [hunl (i+k) ab hin'] at hs;cases hs
    ·obtain ⟨L,hL⟩:=hlks _ hin'
     have:p.2=L:=by rw [k1];unfold tq;rw [hL];rfl
     rw [this];exact ⟨hAIm hL,hL⟩
   have hExt:QP AI (fT A1 (fun _=>true) σ) (fT A (fun j=>listed.getD j false) σ):=by
    intro x hx;show lw aM.ws (fun j=>listed.getD j false) A 0 σ.s x=lw aM.ws (fun _=>true) A1 0 σ.s x;rw [hlwA];have:∀(B:List (Nat×aM)) (k:Nat) (g:Nat→Option RV),(∀(j:Nat) (p:Nat×aM),B[j]?=some p→listed.getD (k+j) false=true→dM p.2.ws x=false)→lw aM.ws (fun j=>listed.getD j false) B k g x=g x:=by
     intro B;induction B with
     | nil=>intro k g _;rfl
     | cons q B ihB=>
      intro k g hB;rw [lw,ihB (k+1) _ fun j p hp hs=>hB (j+1) p (by simpa using hp) abu];cases hs:listed.getD k false;·rfl
      ·exact uE (hB 0 q rfl Je)
    exact this B i _ fun j p hp hs=>hx (i+j,p.2) (hBe j p hp hs).1
   have hmidK:=hqs (fT A (fun j=>listed.getD j false) σ) a' w' (wpAny P .any ops (fun e a' w'=>∃τ,Q e τ∧bB h0 w0 Fz0 n τ a' w') fuel (listed.setIfInBounds i true)) (fun e a' w'=>∃τ,Q e τ∧bB h0 w0 Fz0 n τ a' w') hc' hExt (fun u a2 w2 hc2 hu hrun=>by
    have hp1:(jf (ops.toList.take (i+1)) []).length=i+1:=Qa;have hall0:∀(j:Nat) (q:Nat×aM),(jf (ops.toList.take (i+1)) [])[j]?=some q→q.2=e0:=by
     intro j q hq;have hj:j < i+1:=by rw [←hp1];exact (List.getElem?_eq_some_iff.1 hq).1
     have hoj:(ops.toList.take (i+1))[j]?=some ops[j]:=by rw [List.getElem?_take_of_lt hj];simp
     exact (JB _ [] j _ q hoj rc).1
    obtain ⟨A2,hA2,htk2,hqs2,hC2,hG2⟩:=Qx (P:=P) (n:=n) (ex:=fun j=>Nat.blt (i+1 - 1) j&&Nat.blt 0 (i+1)) post [] (pre++[oc]) (jf (ops.toList.take (i+1)) []) _ (by rw [hops];simp) (by rw [hp1];simp [hc]) (by unfold fT;rw [JC aM.ws rfl _ _ _ _ fun j q hq _=>hall0 j q hq,JC aM.wb rfl _ _ _ _ fun j q hq _=>hall0 j q hq]) (acJ ab (QQ _ _ _ m1)) hrun
    have hA2:A2.length=ops.size:=by simpa using hA2
    have hA2B:A2=jf (ops.toList.take (i+1)) []++A2.drop (i+1):=by rw [←htk2,hp1,iq]
    have hex2:∀j,(Nat.blt (i+1 - 1) j&&Nat.blt 0 (i+1))=false→j < i+1:=by intro j hj;rw [blt_eq,blt_eq,decide_eq_true (show 0 < i+1 by omega),Bool.and_true,decide_eq_false_iff_not] at hj;omega
    refine Qy (ini:=fun _=>true) hA2 hG2 (fun fuel listed2 a w _ _ hini2 _ _ j hj hlj hexj _=>by rw [hini2 j hexj] at hlj;cases hlj) (fun listed a w _ _ hc'=>⟨_,hqs2,hc'⟩) fuel _ a2 w2 (by simpa using hsz') ?_ ?_ ?_ ?_
    ·have hc1:(List.range ops.size).countP (fun j=>!(listed.setIfInBounds i true).getD j false)+1≤(List.range ops.size).countP (fun j=>!listed.getD j false):=by
      have key:∀(l:List Nat),l.Nodup→i∈l→l.countP (fun j=>!(listed.setIfInBounds i true).getD j false)+1≤l.countP (fun j=>!listed.getD j false):=by
       have mono:∀(l:List Nat),l.countP (fun j=>!(listed.setIfInBounds i true).getD j false)≤l.countP (fun j=>!listed.getD j false):=by
        intro l;refine List.countP_mono_left fun j _ hj=>?_;rw [hset] at hj;split at hj;·simp at hj
        ·exact hj
       intro l;induction l with
       | nil=>intro _ h;simp at h
       | cons x l ihl=>
        intro hnd hmm;rw [List.countP_cons,List.countP_cons];rcases List.mem_cons.1 hmm with rfl|hmm
        ·have:=mono l
         rw [hset i,if_pos rfl,hli];exact Nat.add_le_add_right this 1
        ·have:=ihl (List.nodup_cons.1 hnd).2 hmm
         have hxi:x≠i:=fun e=>(List.nodup_cons.1 hnd).1 (e▸hmm);rw [hset x,if_neg hxi];omega
      exact key _ List.nodup_range (List.mem_range.2 hi)
     omega
    ·intro j o ho hs e he' hb
     rw [hset] at hs ⊢;by_cases hji:j=i
     ·subst hji
      have:=he o ho e he' hb;split;·rfl
      ·exact this
     ·rw [if_neg hji] at hs
      have:=hcl j o ho hs e he' hb;split;·rfl
      ·exact this
    ·intro j hj
     have:=hex2 j hj;rw [hset];split;·rfl
     ·exact hall j ab
    ·have hB1:B.length=1+post.length:=by simp [hBl];omega
     have hB0:∃b0 Bt,B=b0::Bt:=by
      cases B with
      | nil=>simp at hB1;omega
      | cons b0 Bt=>exact ⟨b0,Bt,rfl⟩
     obtain ⟨b0,Bt,rfl⟩:=hB0;have hBt:Bt.length=post.length:=by simp at hB1;omega
     have heq:∀{β:Type} (pr:aM→List (Nat×β)) (hpr:pr e0=[]) (g:Nat→β),lw pr (fun j=>(listed.setIfInBounds i true).getD j false) A2 0 g=lw pr (fun j=>listed.getD j false) Bt (i+1) g:=by
      intro β pr hpr g;rw [hA2B,JD,JC pr hpr _ _ _ _ (fun j q hq _=>hall0 j q hq),Nat.zero_add,hp1]
      ·refine QO pr _ _ (i+1) g ?_ (fun j _=>?_) (fun j p q hp hq hs=>?_)
       ·rw [ll,hA2,hBt];omega
       ·rw [hset,if_neg ab]
       ·rw [hset,if_neg ab] at hs
        obtain ⟨_,h2⟩:=hBe (j+1) q rc abw;rw [List.getElem?_drop] at hp;exact hC2 (i+1+j) p (by rw [hp1];omega) hp q.2 (by rw [show i+1+j=i+(j+1) by omega];exact h2)
     have hskip:∀{β:Type} (pr:aM→List (Nat×β)) (g:Nat→β),lw pr (fun j=>listed.getD j false) (b0::Bt) i g=lw pr (fun j=>listed.getD j false) Bt (i+1) g:=by intro β pr g;rw [lw,hunl i ab hin,cond_false]
     refine bB.eqv hc2 (fun x=>?_) (fun x=>?_)
     ·show lw aM.ws _ A2 0 (bK u (lw aM.ws (fun _=>true) A1 0 σ.s)) x=bK u (lw aM.ws (fun j=>listed.getD j false) A 0 σ.s) x
      rw [heq aM.ws rfl,hlwA,hskip,acH aM.ws _ Bt (i+1) _ (fun j p hp hs y hy=>?_)];exact hu _ (hBe (j+1) p (by simpa using hp) abw).1 y hy
     ·show lw aM.wb _ A2 0 (lw aM.wb (fun _=>true) A1 0 σ.b) x=lw aM.wb (fun j=>listed.getD j false) A 0 σ.b x
      rw [heq aM.wb rfl,hlwA,hskip])
   show if _ then _ else _
   have hw:Region.wanted oc (yielded ops a'.tmps)=true:=by simp [Region.wanted,hg]
   rw [if_pos hw];exact .inl hmidK
  ·exfalso
   have hio:=Array.getElem?_eq_getElem hi;obtain ⟨e,g1,g2,g3,g4⟩:=acL post (c+1) (i - (c+1)) _ m5 (hpost i _ hio ab) (by rw [show c+1+(i - (c+1))=i by omega];exact hin);have:=he _ hio e g1 g2;rw [hunl _ g3 g4] at this;cases this
 ·intro listed a' w' hall hini _
  have hin:dM AI c=false:=by
   cases h:dM AI c;·rfl
   ·obtain ⟨L,hL⟩:=hlks c h
    have:=(hAIc _ (hAIm hL)).1;simp at this
  have h1:=hini c (by rw [Bool.or_eq_false_iff,blt_eq,decide_eq_false_iff_not];exact ⟨ab,hin⟩);rw [hall c ab] at h1;cases h1
 ·exact Nat.le_trans List.countP_le_length aL
 ·intro i o _ hs
  rw [hrepl] at hs;cases hs
 ·have e:∀{β:Type} (pr:aM→List (Nat×β)) (f:Nat→β),lw pr (fun i=>(Array.replicate ops.size false).getD i false) A 0 f=f:=by
   intro β pr f;have:(fun i=>(Array.replicate ops.size false).getD i false)=fun _=>false:=by funext i;exact hrepl i
   rw [this];have e:∀(A:List (Nat×aM)) (k:Nat) (h:Nat→β),lw pr (fun _=>false) A k h=h:=by
    intro A;induction A with
    | nil=>intro k h;rfl
    | cons r A ih=>intro k h;rw [lw];exact ih _ _
   exact e A 0 f
  unfold fT;rw [e,e];exact hcon.drew
end
section
variable{P:Program}{n:Nat}{h0:Nat→Prop}{w0:World}{Fz0:aC}{ops:Array Oper}
def bU.pushG{a:Act}{φ:Nat→Nat}(h:bU h0 w0 Fz0 n σ a w φ Fz Fp){F X:List Nat}(ho:aN cs Fz w us F)(hX:∀b,b∈F++X→b∈Fp 0)(hn:(F++X).Nodup) :
  bU h0 w0 Fz0 n (σ.set G (some (RV.gh us cs))) a w φ Fz (eQ Fp (2 * G+1) F X):=
 { h with
  slot:=fun i rv hi=>by
   rw [St.set_s] at hi;split at hi
   ·rename_i e
    subst e;injection hi with hi;subst hi;simp only [eQ,if_true];exact ho
   ·rename_i e
    simp only [eQ];rw [if_neg ab,if_neg ab];exact h.slot i rv hi
  box:=fun d bx hd=>by obtain ⟨cur,h1,h2⟩:=h.box d bx hd;refine ⟨cur,h1,?_⟩;simp only [eQ];rw [if_neg ab,if_neg ab];exact h2
  bxb:=fun d bx hd=>by
   obtain ⟨g1,g2,g3⟩:=h.bxb d bx hd;refine ⟨g1,g2,fun r hr=>?_⟩;rcases uD hr with ⟨_,k⟩|⟨_,_,k⟩|⟨_,_,k⟩;·exact g3 0 (hX _ wQ)
   ·exact g3 0 (hX _ wQ)
   ·exact g3 _ k
  inj:=fun d d' cs cs' h1 h2=>h.inj d d' cs cs' h1 h2
  dis:=Qs ab hX hn h.dis
  nod:=Qt hn h.nod
  low:=fun r b hb=>by
   rcases uD hb with ⟨_,k⟩|⟨_,_,k⟩|⟨_,_,k⟩;·exact h.low 0 b (hX _ wQ)
   ·exact h.low 0 b (hX _ wQ)
   ·exact h.low r b k }
def zb:List (List Value)→List (Bool×List PV)→List (Bool×List PV)
 | us::uss,q::l=>(q.1,acD us)::zb uss l
 | _,_=>[]
def ri:Nat→List (List Value)→List (Bool×List PV)→List (Nat×Option RV)
 | G,us::uss,q::l=>(G,some (RV.gh us q.2))::ri (G+1) uss l
 | _,_,_=>[]
def jL(Fz:aC)(w:World):List (List Value)→List (Bool×List PV)→Prop
 | [],[]=>True
 | us::uss,q::l=>cC q.2 Fz w us∧jL Fz w uss l
 | _,_=>False
def jL.cons{uss:List (List Value)}{q:Bool×List PV}{l:List (Bool×List PV)}(h:∃Fz w,jL Fz w uss (q::l)):∃us rest,uss=us::rest∧us.length=q.2.length∧(∃Fz w,cC q.2 Fz w us)∧∃Fz w,jL Fz w rest l:=by
 obtain ⟨Fz,w,h⟩:=h;cases uss with
 | nil=>exact h.elim
 | cons us rest=>exact ⟨us,rest,rfl,h.1.len,⟨Fz,w,h.1⟩,⟨Fz,w,h.2⟩⟩
def jL.nil{uss:List (List Value)}(h:∃Fz w,jL Fz w uss []):uss=[]:=by
 obtain ⟨Fz,w,h⟩:=h;cases uss with
 | nil=>rfl
 | cons _ _=>exact h.elim
def acN{Fz:aC}{w:World}:∀{l:List (Bool×List PV)} {vs:List Value} {F:List Nat},fz l Fz w vs F→∃(uss:List (List Value)) (Fs:List (List Nat)),jL Fz w uss l∧fz (zb uss l) Fz w vs []∧F=Fs.flatten∧(∀(i:Nat) (us:List Value) (q:Bool×List PV),uss[i]?=some us→l[i]?=some q→∃Fi,Fs[i]?=some Fi∧aN q.2 Fz w us Fi)∧Fs.length=l.length
 | [],vs,F,h=>⟨[],[],True.intro,by obtain ⟨rfl,rfl⟩:=h;exact ⟨rfl,rfl⟩,h.2,aL,rfl⟩
 | q::l,vs,F,h=>by
  obtain ⟨v,vs',F1,F2,rfl,rfl,h1,h2⟩:=h;obtain ⟨uss,Fs,k1,k2,rfl,k4,k5⟩:=acN h2;refine ⟨v.cells.toList::uss,F1::Fs,⟨h1.2.rel,k1⟩,⟨v,vs',[],[],rfl,rfl,⟨h1.1,avy h1.2.one⟩,k2⟩,aL,?_,by simp [k5]⟩;intro i us q' hu hq;cases i with
  | zero=>simp at hu hq;subst hu hq;exact ⟨F1,rfl,h1.2⟩
  | succ i=>simpa using k4 i us q' DX rc
def acO:∀{l:List (Bool×List PV)} {uss:List (List Value)} {Fs:List (List Nat)} {X:List Nat} {G:Nat} {σ:St} {a:Act} {w:World} {φ:Nat→Nat} {Fz:aC} {Fp:Nat→List Nat},bU h0 w0 Fz0 n σ a w φ Fz Fp→jL Fz w uss l →
  (∀(i:Nat) (us:List Value) (q:Bool×List PV),uss[i]?=some us→l[i]?=some q→∃Fi,Fs[i]?=some Fi∧aN q.2 Fz w us Fi)→Fs.length=l.length→(∀b,b∈Fs.flatten++X→b∈Fp 0)→(Fs.flatten++X).Nodup→bB h0 w0 Fz0 n (σ.wr (ri G uss l)) a w
 | [],[],_,_,_,_,_,_,_,_,_,h,_,_,_,_,_=>⟨_,_,_,h⟩
 | q::l,us::uss,[],X,G,σ,a,w,φ,Fz,Fp,h,hr,ho,hl,hX,hn=>by simp at hl
 | q::l,us::uss,F1::Fs,X,G,σ,a,w,φ,Fz,Fp,h,hr,ho,hl,hX,hn=>by
  obtain ⟨Fi,e1,e2⟩:=ho 0 us q rfl rfl;simp at e1;subst e1;rw [List.flatten_cons,bn] at hX hn;have k:=h.pushG (G:=G) (us:=us) (cs:=q.2) (F:=F1) (X:=Fs.flatten++X) e2 hX hn;show bB h0 w0 Fz0 n ((σ.set G (some (RV.gh us q.2))).wr (ri (G+1) uss l)) a w;refine acO (X:=X) k hr.2 (fun i us' q' hu hq=>by simpa using ho (i+1) us' q' DX rc) AZ ?_ ?_
  ·intro b hb
   have:eQ Fp (2 * G+1) F1 (Fs.flatten++X) 0=Fs.flatten++X:=by simp [eQ]
   rw [this];exact hb
  ·rw [dD] at hn;exact hn.2.1
def acP:∀{uss:List (List Value)} {l:List (Bool×List PV)} {G x:Nat},dM (ri G uss l) x=true→x∈List.range' G l.length
 | [],l,G,x,h=>by cases l<;>simp [ri,dM] at h
 | us::uss,[],G,x,h=>by simp [ri,dM] at h
 | us::uss,q::l,G,x,h=>by
  rw [ri,Eb,Bool.or_eq_true,Nat.beq_eq] at h;rw [List.length_cons,List.range'_succ,ip];rcases h with h|h;·exact .inl h.symm
  ·exact .inr (acP h)
def bh.ext{τ:St}(h:QP AI σ τ):∀{l:List (Nat×RV)},(AI.all fun q=>!ju q.2.ws l)=true→bh l σ.s→bh l τ.s:=by
 intro l hm hr;refine bh.of_mem fun p hp=>?_;rw [h p.1 fun q hq=>?_];·exact hr.mem p hp
 ·have:=List.all_eq_true.1 hm q hq
  rw [Bool.not_eq_true'] at this;cases hx:dM q.2.ws p.1;·rfl
  ·have h2:=Jq this p.1 hx
   rw [Qu hp] at h2;cases h2
def Eo{f:Nat}{args:Array Operand}{tys:Array TypeId}{post:List Oper}{acc:List (Nat×aM)}{QS:St→Prop}{as_ l:List (Bool×List PV)}(hd:d < n)(hf:aB P f=true)(hr:bh (kL args.toList qs) σ.s)(hok:mI args.toList qs)(hto:pp qs as_)(hs:aD P f as_ (RV.tup l))
  (hk1:(AI.all fun q=>!ju q.2.ws (kL args.toList qs))=true) (hk2:avC AI (d::List.range' G l.length)=true)
  (h:∀uss,(∃Fz w,jL Fz w uss l)→cj P n ops (σ.wr ((d,some (RV.tup (zb uss l)))::ri G uss l)) (fun j L=>∀L',lk AI j=some L'→L=L') QS post acc (σ.wr ((d,some (RV.tup (zb uss l)))::ri G uss l))) :
  Mid P n h0 w0 Fz0 ops AI ⟨some d,.call { callee:=.value (.func f),args:=args,argTypes:=tys },ty,pos,af,none⟩ post acc QS σ:=by
 intro τ a w K Q hc hExt h5;obtain ⟨φ,Fz,Fp,hc⟩:=hc;have hrel:=hto.rel (hc.relT (hr.ext hExt hk1) hok);have hrun:(execOp a.eval ⟨some d,.call { callee:=.value (.func f),args:=args,argTypes:=tys },ty,pos,af,none⟩).run P w = .ok (.enter f (args.toList.map a.eval).toArray) w:=by unfold execOp;have e:(#[]++args.map a.eval ++ #[]:Array Value)=(args.toList.map a.eval).toArray:=DW;simp only [resolve,Act.eval,Deferred.ofValue,Sem.run_bind,Sem.run_pure,Result.andThen_ok,invoke];rw [Ei hf,e]
 unfold Oper.wp;rw [hrun,Oper.upon_enter];refine (hs w _ Fz hc.fzl hrel).mono ?_;rintro e w' ⟨v,Fz',F,rfl,hb,hz1,hz2,hv,hn,hF⟩;obtain ⟨vs,rfl,hvs⟩:=hv φ;obtain ⟨uss,Fs,k1,k2,rfl,k4,k5⟩:=acN hvs
 have k:=hc.world (w':=w') (Fz':=Fz') (X:=Fs.flatten) hb.os hb.tape hb.output hb.size (fun b hb' _=>⟨hb.block b hb',fun o ho=>(hz1 b o hb').1 ho⟩)
  (fun b o ho=>⟨(hz1 b o (hc.fzl b o ho)).2 ho,World.cell?_of_block (hb.block b (hc.fzl b o ho))⟩) hz2 (fun b hb'=>.inr (hF b hb')) hn
 have c1:=k.push (i:=d) (rv:=RV.tup (zb uss l)) (v:=.tuple vs) (F:=[]) (X:=Fs.flatten) hd ⟨vs,rfl,k2⟩ (fun b hb=>by simpa using hb) Ba;have c2:bB h0 w0 Fz0 n ((τ.set d (some (RV.tup (zb uss l)))).wr (ri G uss l)) (a.put (some d) (.tuple vs)) w':=acO (G:=G) (X:=[]) c1 k1 k4 k5 (fun b hb=>by simpa [eQ] using hb) Ba;refine h5 ((d,some (RV.tup (zb uss l)))::ri G uss l) _ _ c2 (fun q hq x hx=>?_) (h uss ⟨Fz',w',k1⟩);have hk:=List.all_eq_true.1 (List.all_eq_true.1 hk2 q hq) x (by
  rw [Eb,Bool.or_eq_true,Nat.beq_eq] at hx;rcases hx with hx|hx;·simp [←hx]
  ·exact List.mem_cons_of_mem _ (acP hx))
 simpa using hk
def dv.wr{u:List (Nat×Option RV)}(h:dv d σ)(hu:Qv d u=true):dv d (σ.wr u):=dv.app (L:=⟨[],[],u,[],none⟩) h hu
def qr{i:Nat}{l:List (Bool×List PV)}(hd:d < n)(hi:l[i]?=some (ag,cs))(hb:aS cs) :
  Loc P n ⟨some d,.extract (.tmp t) i,ty,pos,af,g⟩ ⟨[(t,RV.tup l)],[],[(d,some (RV.sv ag cs))],[],none⟩:=by
 intro h0 w0 Fz0 σ a w K Q hc hr _ _ h5;obtain ⟨φ,Fz,Fp,hc⟩:=hc;obtain ⟨vs,ev,hvs⟩:=hc.slot t _ hr.1;obtain ⟨v,F1,F2,hv,h1,_⟩:=hvs.take hi (az.refl cs) hb (hc.nod _);have hown:bY ag cs Fz w v []:=⟨h1.1,hb.own h1.2.rel⟩;refine eH (v:=v) (w':=w) ?_ (h5 _ _ (hc.put0 hd hown));have ev':a.eval (.tmp t) = .tuple vs:=ev;unfold execOp;have hv':vs[i]?=some v:=by simpa using hv
 simp [ev',Instr.extract,hv']
end
end
section
def hJ.mono{Fz':aC}{w':World}(k:jt Fz w Fz' w'):∀{l:List (Bool×List PV)} {vs:List Value},hJ l Fz w vs→hJ l Fz' w' vs
 | [],_,h=>h
 | p::l,vs,h=>by obtain ⟨v,vs',rfl,h1,h2⟩:=h;exact ⟨v,vs',rfl,⟨h1.1,h1.2.mono k⟩,h2.mono k⟩
def hJ.app:∀{l m:List (Bool×List PV)} {vs us:List Value},hJ l Fz w vs→hJ m Fz w us→hJ (l++m) Fz w (vs++us)
 | [],m,vs,us,h,k=>by rw [show vs=[] from h];exact k
 | p::l,m,vs,us,h,k=>by obtain ⟨v,vs',rfl,h1,h2⟩:=h;exact ⟨v,vs'++us,rfl,h1,h2.app k⟩
def PV.clo(P:Program)(as_:γ→List (Bool×List PV))(r:γ→RV):PV where
 rel Fz w v:=∃(f:FuncId) (cap:Array Value) (caps:List (Bool×List PV)),v = .func (.func f) #[] cap∧aB P f=true∧hJ caps Fz w cap.toList∧∀x,aD P f (as_ x++caps) (r x)
 own Fz w v F:=(∃(f:FuncId) (cap:Array Value) (caps:List (Bool×List PV)),v = .func (.func f) #[] cap∧aB P f=true∧hJ caps Fz w cap.toList∧∀x,aD P f (as_ x++caps) (r x))∧F=[]
 one h:=by obtain ⟨f,cap,caps,rfl,_⟩:=h;rfl
 toRel h:=h.1
 relMono h k:=by obtain ⟨f,cap,caps,h1,h2,h3,h4⟩:=h;exact ⟨f,cap,caps,h1,h2,h3.mono k,h4⟩
 ownMono h k _:=by obtain ⟨⟨f,cap,caps,h1,h2,h3,h4⟩,h5⟩:=h;exact ⟨⟨f,cap,caps,h1,h2,h3.mono k,h4⟩,h5⟩
 lt h:=qk
def PV.bor_clo{P:Program}(as_:γ→List (Bool×List PV))(r:γ→RV):(PV.clo P as_ r).Bor:=fun h=>⟨h,rfl⟩
def PV.ep(cs:List PV):PV where
 rel Fz w v:=∃b off vs,v = .pointer (some ⟨b,off,none⟩)∧cC cs Fz w vs∧∀(j:Nat) u,vs[j]?=some u→Fz b (off+j)∧w.cell? ⟨b,off+j,none⟩=some u
 own Fz w v F:=(∃b off vs,v = .pointer (some ⟨b,off,none⟩)∧cC cs Fz w vs∧∀(j:Nat) u,vs[j]?=some u→Fz b (off+j)∧w.cell? ⟨b,off+j,none⟩=some u)∧F=[]
 one h:=by obtain ⟨b,off,vs,rfl,_⟩:=h;rfl
 toRel h:=h.1
 relMono h k:=by obtain ⟨b,off,vs,hv,hr,hc⟩:=h;exact ⟨b,off,vs,hv,hr.mono k,fun j u hu=>⟨(k _ _ (hc j u hu).1).1,(k _ _ (hc j u hu).1).2.trans (hc j u hu).2⟩⟩
 ownMono h k _:=by obtain ⟨⟨b,off,vs,hv,hr,hc⟩,hF⟩:=h;exact ⟨⟨b,off,vs,hv,hr.mono k,fun j u hu=>⟨(k _ _ (hc j u hu).1).1,(k _ _ (hc j u hu).1).2.trans (hc j u hu).2⟩⟩,hF⟩
 lt h:=qk
def PV.bor_ep(cs:List PV):(PV.ep cs).Bor:=fun h=>⟨h,rfl⟩
section
variable{P:Program}{n:Nat}
def avE{asf:γ→List (Bool×List PV)}{rf:γ→RV}(x:γ){args:Array Operand}{tys:Array TypeId}{r:RV}(hd:d < n)(hok:mI args.toList qs)(hto:pp qs (asf x))(hr:rf x=r) :
  Loc P n ⟨some d,.call { callee:=.value (.tmp t),args:=args,argTypes:=tys },ty,pos,af,g⟩ ⟨(t,RV.sv false [PV.clo P asf rf])::kL args.toList qs,[],[(d,some r)],[],none⟩:=by
 subst hr;intro h0 w0 Fz0 σ a w K Q hc hr _ _ h5;obtain ⟨φ,Fz,Fp,hc⟩:=hc;obtain ⟨⟨f,cap,caps,ht,hf,hcap,hs⟩,_⟩:=bY.atom (hc.slot t _ hr.1);have hrel:=(hto.rel (hc.relT hr.2 hok)).app hcap;have hrun:(execOp a.eval ⟨some d,.call { callee:=.value (.tmp t),args:=args,argTypes:=tys },ty,pos,af,g⟩).run P w = .ok (.enter f (args.toList.map a.eval++cap.toList).toArray) w:=by unfold execOp;have e:(#[]++args.map a.eval++cap:Array Value)=(args.toList.map a.eval++cap.toList).toArray:=DW;have ht':a.eval (.tmp t) = .func (.func f) #[] cap:=ht;simp only [resolve,ht',Deferred.ofValue,Sem.run_bind,Sem.run_pure,Result.andThen_ok,invoke];rw [Ei hf,e]
 unfold Oper.wp;rw [hrun,Oper.upon_enter];refine (hs x w _ Fz hc.fzl hrel).mono ?_;rintro e w' ⟨v,Fz',F,rfl,hb,hz1,hz2,hv,hn,hF⟩;refine h5 _ _ ?_
 have k:=hc.world (w':=w') (Fz':=Fz') (X:=F) hb.os hb.tape hb.output hb.size (fun b hb' _=>⟨hb.block b hb',fun o ho=>(hz1 b o hb').1 ho⟩)
  (fun b o ho=>⟨(hz1 b o (hc.fzl b o ho)).2 ho,World.cell?_of_block (hb.block b (hc.fzl b o ho))⟩) hz2 (fun b hb'=>.inr (hF b hb')) hn
 exact ⟨φ,Fz',_,k.push (i:=d) (rv:=rf x) (v:=v) (F:=F) (X:=[]) hd (hv φ) (fun b hb=>by simpa using hb) Ba⟩
def avF{f:Nat}{asf:γ→List (Bool×List PV)}{rf:γ→RV}{cap:Array Operand}{caps:List (Bool×List PV)}(hd:d < n)(hf:aB P f=true)(hok:mI cap.toList qs)(hto:pp qs caps)(hs:∀x,aD P f (asf x++caps) (rf x)) :
  Loc P n ⟨some d,.makeFunc (.func f) #[] cap,ty,pos,af,g⟩ ⟨kL cap.toList qs,[],[(d,some (RV.sv false [PV.clo P asf rf]))],[],none⟩:=by
 intro h0 w0 Fz0 σ a w K Q hc hr _ _ h5;obtain ⟨φ,Fz,Fp,hc⟩:=hc;have hrel:=hto.rel (hc.relT hr hok);refine eH (v:=.func (.func f) #[] (cap.map a.eval)) (w':=w) ?_ (h5 _ _ (hc.put0 hd (bY.of_atom (p:=PV.clo P asf rf) ⟨⟨f,_,caps,rfl,hf,by simpa using hrel,hs⟩,rfl⟩)));unfold execOp;simp [Instr.makeFunc]
def acQ{qs:List PV}(hd:d < n)(hT:dr P T=some (ag,k))(h1:ag=false→k=1)(hk:k≤cs.length)
  (ht:az (cs.take k) qs) (hb:aS qs) :
  Loc P n ⟨some d,.load T (.tmp p),ty,pos,af,g⟩ ⟨[(p,RV.sv false [PV.ep cs])],[],[(d,some (RV.sv ag qs))],[],none⟩:=by
 intro h0 w0 Fz0 σ a w K Q hc hr hrb h3 h5;obtain ⟨φ,Fz,Fp,hc⟩:=hc;obtain ⟨hep,hF⟩:=bY.atom (hc.slot p _ hr.1);have c1:=hc.reslot (s:=p) (rv:=RV.eptr cs) ⟨hep,hF⟩;refine tl hd hT h1 hk ht hb (h0:=h0) (w0:=w0) (Fz0:=Fz0) (σ:=σ.set p (some (RV.eptr cs))) (K:=K) (Q:=Q) ⟨φ,Fz,Fp,c1⟩ ⟨by rw [St.set_s,if_pos rfl],True.intro⟩ True.intro (fun _ h=>nomatch h) ?_;intro a' w' hc';by_cases hpd:p=d
 ·subst hpd
  refine h5 _ _ (bB.eqv hc' (fun i=>?_) (fun _=>rfl));show bK [(p,_)] σ.s i=bK [(p,_)] (σ.set p _).s i;simp only [bK,St.set,beq_eq];by_cases hi:i=p<;>simp [hi]
 ·obtain ⟨φ',Fz',Fp',c2⟩:=hc'
  have hs2:((σ.set p (some (RV.eptr cs))).app ⟨[(p,RV.eptr cs)],[],[(d,some (RV.sv ag qs))],[],none⟩).s p=some (RV.eptr cs):=by show bK [(d,_)] (σ.set p _).s p=_;simp only [bK,St.set,beq_eq];simp [hpd]
  obtain ⟨hep',hF'⟩:=c2.slot p _ hs2;have c3:=c2.reslot (s:=p) (rv:=RV.sv false [PV.ep cs]) (by rw [hF'];exact bY.of_atom (p:=PV.ep cs) ⟨hep',rfl⟩);refine h5 _ _ (bB.eqv ⟨_,_,_,c3⟩ (fun i=>?_) (fun _=>rfl));show bK [(d,_)] σ.s i=((σ.set p _).app _ |>.set p _).s i;rw [St.set_s];show _=if i=p then _ else bK [(d,_)] (σ.set p _).s i
  simp only [bK,St.set,beq_eq];by_cases hi:i=p;·subst hi;simp [hpd,hr.1]
  ·simp [hi]
end
section
variable{P:Program}{n:Nat}{h0:Nat→Prop}{w0:World}{Fz0:aC}{σ:St}{Q:Exit→St→Prop}{c:Code}
def acR(hs:σ.s s=some (RV.ptr b 0))(hb:σ.b b=some (t,cs))(h:SW P n h0 w0 Fz0 c ((σ.setB b none).set s (some (RV.sv false [PV.ep cs]))) Q):SW P n h0 w0 Fz0 c σ Q:=fun a w hc=>by
 obtain ⟨φ,Fz,Fp,hc⟩:=hc;obtain ⟨hv,hF⟩:=hc.slot s _ hs;obtain ⟨cur,h1,h2⟩:=hc.box b _ hb;obtain ⟨g1,g2,g3⟩:=hc.bxb b _ hb;have hlt:φ b < w.heap.size:=(Array.getElem?_eq_some_iff.1 h1).1;have c1:=hc.pullB hb;have e1:(if (0:Nat)=0 then φ b::mv Fp (2 * b+2) 0 else mv Fp (2 * b+2) 0)=φ b::mv Fp (2 * b+2) 0:=aL;have hnd:=c1.nod 0;rw [e1] at hnd;have hk:jt Fz w (fun x o=>Fz x o∨x=φ b) w:=fun x o hx=>⟨.inl hx,rfl⟩
 have c2:=c1.world (w':=w) (Fz':=fun x o=>Fz x o∨x=φ b) (X:=mv Fp (2 * b+2) 0) rfl rfl rfl (Nat.le_refl _)
  (fun x hx hx0=>⟨rfl,fun o ho=>by
   rcases ho with ho|ho;·exact ho
   ·rw [e1] at hx0;exact absurd (by rw [ho];simp) hx0⟩) hk (fun x o hx=>by
   rcases hx with hx|hx;·exact hc.fzl x o hx
   ·rw [hx];exact hlt) (fun x hx=>.inl (by rw [e1];simp [hx])) (List.nodup_cons.1 hnd).2
 have c3:=c2.reslot (s:=s) (rv:=RV.sv false [PV.ep cs]) (by
  have hf:mv Fp (2 * b+2) (2 * s+1)=[]:=by simp only [mv];rw [if_neg ab,if_neg ab];exact hF
  show bY false [PV.ep cs] _ w _ (if 2 * s+1=0 then _ else if 2 * s+1=0 then _ else mv Fp (2 * b+2) (2 * s+1));rw [if_neg ab,if_neg ab,hf];refine bY.of_atom (p:=PV.ep cs) ⟨⟨φ b,0,cur.toList,hv,h2.rel.mono hk,fun j u hu=>⟨.inr rfl,?_⟩⟩,rfl⟩;rw [Nat.zero_add,cell_of_row w (φ b) j cur t (0,0) h1];simpa using hu)
 exact h a w (bB.eqv ⟨_,_,_,c3⟩ (fun i=>rfl) (fun d=>rfl))
end
end
end Go.Proofs.YtmekkgdboplbjaaGreatDoor.M
namespace Go.Proofs.YtmekkgdboplbjaaGreatDoor.M
open Go Go.RowKit
variable{T:TypeId}{d s:Nat}{b:Bool}{α:Type}{a:α}
section
section
variable{P:Program}{n:Nat}
def acS{Fz:aC}{w:World}:∀{xs:List Value} {l:List Value} {F:List Nat},aN (xs.map PV.val) Fz w l F→l=xs
 | [],l,F,h=>h.1
 | x::xs,l,F,h=>by obtain ⟨v,vs',F1,F2,rfl,_,h1,h2⟩:=h;rw [acS h2,h1.1.1]
def acT{Fz:aC}{w:World}{xs:List Value}{v:Value}{F:List Nat}(h:bY true (xs.map PV.val) Fz w v F):v = .agg xs.toArray:=by obtain ⟨h1,h2⟩:=h;have h3:=acS h2;cases v<;>simp [th] at h1;rename_i c;have:c.toList=xs:=h3;rw [←this]
def avG{op:BinOp}{T2:TypeId}{x y:Nat}{ty:TypeId}{pos:String}{af:Array Edge}{g:Option (Nat×Bool)}(xs ys:List Value){r:Bool}(hd:d < n)
  (h:∀w:World,Sem.run P (do eqGuard op T (.tmp x) (.tmp y) (.agg xs.toArray) (.agg ys.toArray);binOp op T (.agg xs.toArray) (.agg ys.toArray):Sem Value) w = .ok (.bool r) w) :
  Loc P n ⟨some d,.binOp op T (.tmp x) (.tmp y) T2,ty,pos,af,g⟩ ⟨[(x,RV.sv true (xs.map PV.val)),(y,RV.sv true (ys.map PV.val))],[],[(d,some (RV.bool r))],[],none⟩:=by
 intro h0 w0 Fz0 σ a w K Q h1 h2 _ _ h5;obtain ⟨φ,Fz,Fp,hc⟩:=h1;have ex:a.eval (.tmp x) = .agg xs.toArray:=acT (hc.slot x _ h2.1);have ey:a.eval (.tmp y) = .agg ys.toArray:=acT (hc.slot y _ h2.2.1);refine eH (v:=.bool r) (w':=w) ?_ (h5 _ _ (hc.put0 hd (bY.of_sc rfl)));unfold execOp;simp only [ex,ey,Sem.run_bind,h,Result.andThen_ok,Sem.run_pure]
def avH{x y:Operand}{i j:Int}{w:World}(h:j≠0):Sem.run P (do eqGuard .rem T x y (vI i) (vI j);binOp .rem T (vI i) (vI j):Sem Value) w = .ok (vI (i.tmod j)) w:=by simp [eqGuard,binOp,Op.intDiv,h]
def QU{T2:TypeId}{x y:Operand}{ty:TypeId}{pos:String}{af:Array Edge}{g:Option (Nat×Bool)}{i j:Int}(hd:d < n)(hx:bG x (RV.int i))(hy:bG y (RV.int j))(h:j≠0) :
  Loc P n ⟨some d,.binOp .rem T x y T2,ty,pos,af,g⟩ ⟨bl x (RV.int i)++bl y (RV.int j),[],[(d,some (RV.int (i.tmod j)))],[],none⟩:=ir hd hx hy rfl fun _=>avH h
end
end
section
section
variable{P:Program}{n:Nat}{ops:Array Oper}{σ:St}{QS:St→Prop}{o:Oper}{l:List Oper}
def bR.s0f{g:Nat}{c:Bool}(hb:c=false)(h5:bR P n ops QS l (σ.app ⟨[(s,RV.bool c)],[],[(d,some RV.und)],[],none⟩))(hg:o.guard=some (g,true):=by exact rfl)(hs:(ops[g]?).bind (·.dst)=some s:=by exact rfl)(hlt:s < n:=by decide)(hd:o.dst=some d:=by exact rfl)
  (h1:σ.s s=some (RV.bool c):=by exact rfl):bR P n ops QS (o::l) σ:=
 bR.step (L:=⟨[(s,RV.bool c)],[],[(d,some RV.und)],[],none⟩) ⟨h1,True.intro⟩ True.intro (db.no hg hs hlt hb hd) ki h5
def bR.s0t{g:Nat}{c:Bool}(hb:c=true)(h5:bR P n ops QS l (σ.app ⟨[(s,RV.bool c)],[],[(d,some RV.und)],[],none⟩))(hg:o.guard=some (g,false):=by exact rfl)(hs:(ops[g]?).bind (·.dst)=some s:=by exact rfl)(hlt:s < n:=by decide)(hd:o.dst=some d:=by exact rfl)
  (h1:σ.s s=some (RV.bool c):=by exact rfl):bR P n ops QS (o::l) σ:=
 bR.step (L:=⟨[(s,RV.bool c)],[],[(d,some RV.und)],[],none⟩) ⟨h1,True.intro⟩ True.intro (db.no hg hs hlt hb hd) ki h5
def bR.su{g:Nat}(h5:bR P n ops QS l (σ.app ⟨[(s,RV.und)],[],[(d,some RV.und)],[],none⟩))(hg:o.guard=some (g,b):=by exact rfl)(hs:(ops[g]?).bind (·.dst)=some s:=by exact rfl)(hd:o.dst=some d:=by exact rfl)
  (h1:σ.s s=some RV.und:=by exact rfl):bR P n ops QS (o::l) σ:=
 bR.step (L:=⟨[(s,RV.und)],[],[(d,some RV.und)],[],none⟩) ⟨h1,True.intro⟩ True.intro (db.noU hg hs hd) ki h5
end
def q1{p:Prop}[Decidable p]:(decide p=true)=p:=decide_eq_true_eq
def q2{p:Prop}[Decidable p]:decide p=false↔¬p:=decide_eq_false_iff_not
def q3[BEq α][LawfulBEq α]{b:α}:(a != b)=true↔a≠b:=bne_iff_ne
def q4[BEq α][LawfulBEq α]{b:α}:(a==b)=true↔a=b:=beq_iff_eq
def q5:((!b)=true)=(b=false):=Bool.not_eq_true' b
def q6:((!b)=false)=(b=true):=Bool.not_eq_false' b
def q7{b:α}:(a≠b)=¬a=b:=ne_eq a b
def q8[BEq α][LawfulBEq α]{b:α}:(a != b)=false↔a=b:=bne_eq_false_iff_eq
def q9[BEq α][LawfulBEq α]{b:α}:(a==b)=false↔a≠b:=beq_eq_false_iff_ne
end
end Go.Proofs.YtmekkgdboplbjaaGreatDoor.M
namespace Go.Proofs.YtmekkgdboplbjaaGreatDoor.M
open Go Go.RowKit
variable{L:Nat→Prop}{u:Value}{D m cp G E e:Nat}{es:List (List PV)}{d t s:Nat}{α:Type}{k T:Nat}{ty:TypeId}{pos:String}{af:Array Edge}{g:Option (Nat×Bool)}{w:World}{ps:List (List Nat)}{rs:List (Bool×List PV)}{fn:Func}{xs:List α}{f:α→List PV}
section
section
variable{P:Program}{n:Nat}{h0:Nat→Prop}{w0:World}{Fz0:aC}
def RV.gat(u:Value)(D m cp:Nat):RV where
 holds φ _ _ _ F:=(u = .slice (some ⟨φ D,0,none⟩) m cp∧m≤cp∧cp≤maxLen)∧F=[]
 men x:=Nat.beq x D
 mono h _ _ hφ:=⟨⟨by rw [hφ D aL];exact h.1.1,h.1.2⟩,h.2⟩
 lt h:=qk
def RV.lcl_gat:(RV.gat u D m cp).Lcl L:=fun h _=>h
def PV.any:PV where
 rel _ _ v:=v.oneCell'=true
 own _ _ v F:=v.oneCell'=true∧F=[]
 one h:=h
 toRel h:=h.1
 relMono h _:=h
 ownMono h _ _:=h
 lt h:=qk
def PV.to_any{p:PV}:p.To PV.any:=fun h=>p.one h
def PV.bor_any:PV.any.Bor:=fun h=>⟨h,rfl⟩
def PV.lcl_any:PV.any.Lcl L:=fun h _=>h
section
variable{σ:St}{a:Act}{w:World}{φ:Nat→Nat}{Fz:aC}{Fp:Nat→List Nat}
def bU.thawF(hc:bU h0 w0 Fz0 n σ a w φ Fz Fp){F X:List Nat}(ho:eG E e es Fz w u F)(hne:es≠[])(hX:∀b,b∈F++X→b∈Fp 0)(hn:(F++X).Nodup)
  (hD:σ.b D=none) (hG:σ.s G=none) (hm:∀i rv,σ.s i=some rv→rv.men D=false) (hL:∀x,L x→h0 x) (hls:∀i rv,σ.s i=some rv→rv.Lcl L) (hlb:∀d bx,σ.b d=some bx→aw L bx.2) (hes:∀cs,cs∈es→aw L cs) :
  ∃(cp:Nat) (jk:List Value),es.length≤9223372036854775807∧es.length≤cp∧es.length * e+jk.length=cp * e∧bB h0 w0 Fz0 n ((σ.setB D (some (E,es.flatten++jk.map PV.val))).set G (some (RV.gat u D es.length cp))) a w:=by
 obtain ⟨css,F',ho,hl,hf,hF,h1⟩:=ho;rcases ho.2 with ⟨_,hn0⟩|⟨g,cap,cur,hval,_,hg,hnc,hcm,hcs,htake⟩;·exact absurd (jd hn0) hne
 have hob:u.ownBlock=some g:=by rw [hval];rfl
 rw [hob] at hF hf;have hF:F=g::F':=hF;subst hF;have hg0:g∈Fp 0:=hX g aL;have hgl:=hc.low 0 g hg0
 have c2:=hc.uworld (w':=w) (Fz':=fun x o=>Fz x o∧x≠g) (L:=L) rfl rfl rfl (Nat.le_refl _)
  (fun x hx h0'=>⟨rfl,fun o=>⟨fun k=>k.1,fun k=>⟨k,fun e=>h0' (by rw [e];exact hg0)⟩⟩⟩) hL hls hlb
  (fun x o k=>hc.fzl x o k.1) (X:=g::F'++X) (fun x hx=>.inl (hX x hx)) hn
 have hgF:g∉F':=by have:=(List.nodup_append.1 hn).1;exact (List.nodup_cons.1 this).1
 have hl2:cX e es (fun x o=>Fz x o∧x≠g) w css F':=QJ (L:=L) hes hl (fun x hx=>⟨rfl,fun o=>⟨fun k=>k.1,fun k=>⟨k,fun e=>by
   rcases hx with hx|hx;·exact hgl.1 (e▸hL x hx)
   ·rw [e] at hx;exact hgF hx⟩⟩⟩)
 have hone:=h1 g hob cur E (0,0) hg;have hjl:es.length * e+(cur.toList.drop (es.length * e)).length=cap * e:=by have hle:es.length * e≤cap * e:=Nat.mul_le_mul_right _ hnc;rw [ll,show cur.toList.length=cap * e from by rw [←hcs];simp];omega
 have hcur:aN (es.flatten++(cur.toList.drop (es.length * e)).map PV.val) (fun x o=>Fz x o∧x≠g) w cur.toList F':=by have k:=(cX.flat hl2).append (Eh (Fz:=fun x o=>Fz x o∧x≠g) (w:=w) (vs:=cur.toList.drop (es.length * e)) fun v hv=>hone v (List.mem_of_mem_drop hv));rw [←htake,iq,fS] at k;exact k
 have c3:=c2.pushB (d:=D) (g:=g) (t:=E) (cs:=es.flatten++(cur.toList.drop (es.length * e)).map PV.val) (F:=F') (X:=X) hD hg hcur (fun o k=>k.2 rfl)
  (fun x hx=>by
   simp only [if_true];rcases List.mem_append.1 hx with hx|hx;·simp [hx]
   ·rcases List.mem_cons.1 hx with rfl|hx
    ·simp
    ·simp [hx])
  (by
   simp only [List.cons_append,kg,fm] at hn;rw [dD] at hn ⊢;obtain ⟨k1,k2,k3,k4⟩:=hn;refine ⟨k2,List.nodup_cons.2 ⟨fun hh=>k1 (.inr hh),k3⟩,fun x hx y hy e=>?_⟩;rcases List.mem_cons.1 hy with rfl|hy;·exact k1 (.inl (e▸hx))
   ·exact k4 x hx y hy e)
  (.inr hm)
 have c4:=(c3.pull G).reslot (s:=G) (rv:=RV.gat u D es.length cap) ⟨⟨by rw [hval];simp,hnc,hcm⟩,hI⟩;refine ⟨cap,_,by unfold maxLen at hcm;omega,hnc,hjl,bB.eqv ⟨_,_,_,c4⟩ (fun i=>by simp only [St.set_s,St.setB_s];split<;>rfl) (fun d=>rfl)⟩
end
variable{Q:Exit→St→Prop}{c:Code}
def Bl(L:Nat→Prop):List (Nat×(Nat×List PV))→Prop
 | []=>True
 | p::l=>aw L p.2.2∧Bl L l
def Bl.mem:∀{l:List (Nat×(Nat×List PV))},Bl L l→∀p,p∈l→aw L p.2.2
 | [],_,p,hp=>by simp at hp
 | q::l,h,p,hp=>by
  rcases List.mem_cons.1 hp with rfl|hp;·exact h.1
  ·exact Bl.mem h.2 p hp
def Ep(L:Nat→Prop):List (Nat×RV)→Prop
 | []=>True
 | p::l=>p.2.Lcl L∧Ep L l
def Ep.mem:∀{l:List (Nat×RV)},Ep L l→∀p,p∈l→p.2.Lcl L
 | [],_,p,hp=>by simp at hp
 | q::l,h,p,hp=>by
  rcases List.mem_cons.1 hp with rfl|hp;·exact h.1
  ·exact Ep.mem h.2 p hp
def nC{l:List (Nat×RV)}{b:List (Nat×(Nat×List PV))}(d t D G E e:Nat)(L:Nat→Prop)(A B:List PV)(hd:lk b d=some (t,A++([PV.sl (.own E e) es]++B)))(hne:es≠[])(hD:lk b D=none)(hG:lk l G=none)(hdD:Nat.beq D d=false)(hfr:(l.all fun p=>!p.2.men D)=true)
  (hL:∀x,L x→h0 x) (hls:Ep L l) (hlb:Bh L d b) (hA:aw L A) (hB:aw L B) (hes:∀cs,cs∈es→aw L cs)
  (h:∀(u:Value) (cp:Nat) (jk:List Value),es.length≤9223372036854775807→es.length≤cp→es.length * e+jk.length=cp * e→SW P n h0 w0 Fz0 c ((((St.of l b).setB d (some (t,A++([PV.val u]++B)))).setB D (some (E,es.flatten++jk.map PV.val))).set G (some (RV.gat u D es.length cp))) Q):SW P n h0 w0 Fz0 c (St.of l b) Q:=fun a w hc=>by
 obtain ⟨φ,Fz,Fp,hc⟩:=hc;have hd':(St.of l b).b d=some (t,A++([PV.sl (.own E e) es]++B)):=hd;obtain ⟨cur,hg,ho⟩:=hc.box d _ hd';obtain ⟨k1,k2,k3⟩:=hc.bxb d _ hd';obtain ⟨vA,vM,vB,FA,FM,FB,e1,e2,kA,kM,kB⟩:=acA ho;obtain ⟨u,vs',F1,F2,rfl,rfl,hu,hu2,hu3⟩:=kM;subst hu2 hu3;have hu:eG E e es Fz w u F1:=hu;have c1:=hc.pullB hd';generalize hFp1:(fun x=>if x=0 then φ d::mv Fp (2 * d+2) 0 else mv Fp (2 * d+2) x)=Fp1 at c1;have e0:Fp1 0=φ d::((FA++((F1++[])++FB))++Fp 0):=abj;have hnd:=c1.nod 0;have hone:u.oneCell'=true:=(PV.sl (.own E e) es).one (Fz:=Fz) (w:=w) ⟨hu.rel,True.intro⟩
 have c2:=c1.pushB (d:=d) (g:=φ d) (t:=t) (cs:=A++([PV.val u]++B)) (cur:=cur) (F:=FA++([]++FB)) (X:=F1++Fp 0) Jb hg
  (by rw [e1];exact kA.append (aN.append (ps:=[PV.val u]) ⟨u,[],[],[],rfl,rfl,⟨⟨rfl,hone⟩,rfl⟩,rfl,rfl⟩ kB)) k2
  (fun x hx=>by rw [e0];simp only [fm,ip,fS,List.nil_append] at hx ⊢;rcases hx with (hx|hx)|hx|hx|hx<;>simp [hx])
  (by rw [e0] at hnd;refine (List.Perm.nodup_iff ?_).2 hnd;simp only [fS,List.nil_append,bn];rw [←bn];refine List.perm_middle.trans (List.Perm.cons _ ?_);simp only [bn];refine jr FA ?_;rw [←bn,←bn];exact lU _ ny) (.inl rfl)
 have hst:∀i rv,(((St.of l b).setB d none).setB d (some (t,A++([PV.val u]++B)))).s i=some rv→(i,rv)∈l:=fun i rv hi=>lV hi
 obtain ⟨cp,jk,q1,q2,q3,c5⟩:=c2.thawF (D:=D) (G:=G) (L:=L) (F:=F1) (X:=Fp 0) (es:=es) (u:=u) (E:=E) (e:=e) hu hne
  (fun x hx=>by simp only [eQ,if_true];rw [if_neg ab];exact hx)
  (by have:=c2.nod 0;simp only [eQ,if_true] at this;rw [if_neg ab] at this;exact this)
  (by rw [St.setB_b,if_neg (fun e=>by rw [e] at hdD;simp at hdD),St.setB_b,if_neg (fun e=>by rw [e] at hdD;simp at hdD)];exact hD)
  hG (fun i rv hi=>by have:=List.all_eq_true.1 hfr _ (hst i rv hi);simpa using this) hL (fun i rv hi=>hls.mem _ (hst i rv hi))
  (fun d' bx hb'=>by
   rw [St.setB_b] at hb';split at hb'
   ·injection hb' with hb';subst hb'
    exact aw.app hA (aw.app (aw.cons PV.lcl_val aw.nil) hB)
   ·rename_i hne'
    rw [St.setB_b,if_neg hne'] at hb';rcases hlb.mem _ (lV hb') with e|k;·exact absurd e hne'
    ·exact k) hes
 refine h u cp jk q1 q2 q3 a w (bB.eqv c5 (fun i=>rfl) (fun x=>by
  simp only [St.set_b,St.setB_b];split;·rfl
  ·split
   ·rfl
   ·rfl))
def uL{σ:St}{A B:List PV}{jk:List Value}(hd:σ.b d=some (t,A++([PV.val u]++B)))(hG:σ.s G=some (RV.gat u D m cp))(hb:σ.b D=some (E,es.flatten++jk.map PV.val))(hdD:Nat.beq D d=false)(hl:es.length=m)(he:∀c,c∈es→c.length=e)(hj:m * e+jk.length=cp * e)
  (h:SW P n h0 w0 Fz0 c (((σ.setB D none).set G none).setB d (some (t,A++([PV.sl (.own E e) es]++B)))) Q):SW P n h0 w0 Fz0 c σ Q:=fun a w hc=>by
 obtain ⟨φ,Fz,Fp,hc⟩:=hc;obtain ⟨⟨ev,hmc,hmx⟩,_⟩:=hc.slot G _ hG;have hne':¬d=D:=fun e=>by rw [e] at hdD;simp at hdD
 obtain ⟨Fz',Fp',c3,hsl,hX,hnd,hs0⟩:=hc.freeze (s:=G) hb hmc hmx hl he hj;have hd3:((σ.setB D none).set G none).b d=some (t,A++([PV.val u]++B)):=by rw [St.set_b,St.setB_b,if_neg hne'];exact hd
 obtain ⟨cur,hg,ho⟩:=c3.box d _ hd3;obtain ⟨k1,k2,k3⟩:=c3.bxb d _ hd3;obtain ⟨vA,vM,vB,FA,FM,FB,e1,e2,kA,kM,kB⟩:=acA ho;obtain ⟨u',vs',F1,F2,rfl,rfl,hu,hu2,hu3⟩:=kM;subst hu2 hu3;obtain ⟨⟨rfl,hone⟩,rfl⟩:=hu;have c4:=c3.pullB hd3;generalize hFp1:(fun x=>if x=0 then φ d::mv Fp' (2 * d+2) 0 else mv Fp' (2 * d+2) x)=Fp1 at c4;have e0:Fp1 0=φ d::((FA++(([]++[])++FB))++Fp' 0):=abj;have hnd0:=c4.nod 0;rw [e0] at hnd0;simp only [List.nil_append] at hnd0 e0;have hdis:∀x,x∈φ D::Fp (2 * D+2)→x≠φ d∧x∉FA++FB:=fun x hx=>by have hx':=hX x hx;rw [kg,dD] at hnd0;exact ⟨fun e=>hnd0.1 (by rw [←e];simp [hx']),fun hh=>hnd0.2.2.2 x hh x hx' rfl⟩
 have c5:=c4.pushB (d:=d) (g:=φ d) (t:=t) (cs:=A++([PV.sl (.own E e) es]++B)) (cur:=cur) (F:=FA++((φ D::Fp (2 * D+2))++FB)) (X:=[]) Jb hg
  (by rw [e1];exact kA.append (aN.append (ps:=[PV.sl (.own E e) es]) ⟨u',[],φ D::Fp (2 * D+2),[],rfl,aL,by rw [ev];exact hsl,rfl,rfl⟩ kB)) k2
  (fun x hx=>by
   rw [e0];simp only [fm,ip,List.not_mem_nil,or_false] at hx ⊢;rcases hx with (hx|(hx|hx)|hx)|hx;·simp [hx]
   ·exact .inr (.inr (hX x ib))
   ·exact .inr (.inr (hX x ib))
   ·simp [hx]
   ·simp [hx])
  (by
   have hn1:(FA++FB).Nodup:=by rw [kg,dD] at hnd0;exact hnd0.2.1
   have hn2:φ d∉FA++FB:=fun hh=>by rw [kg] at hnd0;exact hnd0.1 (List.mem_append.2 (.inl hh))
   have hp:(FA++((φ D::Fp (2 * D+2))++FB)++[φ d]).Perm ((φ D::Fp (2 * D+2))++(φ d::(FA++FB))):=by
    have p1:(FA++((φ D::Fp (2 * D+2))++FB)).Perm ((φ D::Fp (2 * D+2))++(FA++FB)):=by rw [←bn,←bn];exact lU _ ny
    refine (List.perm_append_singleton _ _).trans ?_;refine (List.Perm.cons _ p1).trans ?_;exact List.perm_middle.symm
   refine (List.Perm.nodup_iff hp).2 ?_;rw [dD];refine ⟨hnd,List.nodup_cons.2 ⟨hn2,hn1⟩,fun x hx y hy e=>?_⟩;subst e;rcases List.mem_cons.1 hy with hy|hy;·exact (hdis x hx).1 hy
   ·exact (hdis x hx).2 hy) (.inl rfl)
 refine h a w (bB.eqv ⟨_,_,_,c5⟩ (fun i=>rfl) (fun x=>by simp only [St.set_b,St.setB_b];split<;>rfl))
def QV{l:List (Nat×RV)}{b:List (Nat×(Nat×List PV))}(s D G E e:Nat)(L:Nat→Prop)(hs:lk l s=some (RV.sv false [PV.sl (.own E e) es]))(hne:es≠[])(hD:lk b D=none)(hG:lk l G=none)(hsG:Nat.beq G s=false)(hfr:(l.all fun p=>!p.2.men D)=true)
  (hL:∀x,L x→h0 x) (hls:El L s l) (hlb:Bl L b) (hes:∀cs,cs∈es→aw L cs)
  (h:∀(u:Value) (cp:Nat) (jk:List Value),es.length≤9223372036854775807→es.length≤cp→es.length * e+jk.length=cp * e→SW P n h0 w0 Fz0 c ((((St.of l b).set s (some (RV.sc u))).setB D (some (E,es.flatten++jk.map PV.val))).set G (some (RV.gat u D es.length cp))) Q):SW P n h0 w0 Fz0 c (St.of l b) Q:=fun a w hc=>by
 obtain ⟨φ,Fz,Fp,hc⟩:=hc;have hv:eG E e es Fz w (a.tmps.getD s undef) (Fp (2 * s+1)):=(bY.atom (hc.slot s _ hs));have hone:(a.tmps.getD s undef).oneCell'=true:=(PV.sl (.own E e) es).one (Fz:=Fz) (w:=w) ⟨hv.rel,True.intro⟩;have e0:mv Fp (2 * s+1) 0=Fp (2 * s+1)++Fp 0:=hI;have hGs:¬G=s:=fun e=>by rw [e] at hsG;simp at hsG
 have c1:=(hc.pull s).reslot (s:=s) (rv:=RV.sc (a.tmps.getD s undef)) (by have:mv Fp (2 * s+1) (2 * s+1)=[]:=hI;rw [this];exact bY.of_sc hone)
 have hst:∀i rv,i≠s→(((St.of l b).set s none).set s (some (RV.sc (a.tmps.getD s undef)))).s i=some rv→(i,rv)∈l:=fun i rv hi k=>by rw [St.set_s,if_neg hi,St.set_s,if_neg hi] at k;exact lV k
 have hss:∀rv,(((St.of l b).set s none).set s (some (RV.sc (a.tmps.getD s undef)))).s s=some rv→rv=RV.sc (a.tmps.getD s undef):=fun rv k=>by rw [St.set_s,if_pos rfl] at k;exact (Option.some.inj k).symm
 obtain ⟨cp,jk,q1,q2,q3,c5⟩:=c1.thawF (D:=D) (G:=G) (L:=L) (F:=Fp (2 * s+1)) (X:=Fp 0) (es:=es) (u:=a.tmps.getD s undef) (E:=E) (e:=e) hv hne
  (fun x hx=>by rw [e0];exact hx) (by have:=(hc.pull s).nod 0;rw [e0] at this;exact this) hD
  (by rw [St.set_s,if_neg hGs,St.set_s,if_neg hGs];exact hG)
  (fun i rv hi=>by
   by_cases k:i=s;·subst k;rw [hss rv hi];rfl
   ·have:=List.all_eq_true.1 hfr _ (hst i rv k hi)
    simpa using this) hL
  (fun i rv hi=>by
   by_cases k:i=s;·subst k;rw [hss rv hi];exact RV.lcl_sv (aw.cons PV.lcl_val aw.nil)
   ·rcases hls.mem _ (hst i rv k hi) with q|q
    ·exact absurd q k
    ·exact q)
  (fun d bx hb=>Bl.mem hlb _ (lV hb)) hes
 refine h _ cp jk q1 q2 q3 a w (bB.eqv c5 (fun i=>by
  simp only [St.set_s,St.setB_s];split;·rfl
  ·split
   ·rfl
   ·rfl) (fun x=>rfl))
def acU{σ:St}{jk:List Value}(hs:σ.s s=some (RV.sc u))(hG:σ.s G=some (RV.gat u D m cp))(hb:σ.b D=some (E,es.flatten++jk.map PV.val))(hsG:Nat.beq G s=false)(hsn:s < n)(hl:es.length=m)(he:∀c,c∈es→c.length=e)(hj:m * e+jk.length=cp * e)
  (h:SW P n h0 w0 Fz0 c (((σ.setB D none).set G none).set s (some (RV.sv false [PV.sl (.own E e) es]))) Q):SW P n h0 w0 Fz0 c σ Q:=fun a w hc=>by
 obtain ⟨φ,Fz,Fp,hc⟩:=hc;obtain ⟨⟨ev,hmc,hmx⟩,_⟩:=hc.slot G _ hG;have hu:=(hc.one_ hs).1;obtain ⟨Fz',Fp',c3,hsl,hX,hnd,hs0⟩:=hc.freeze (s:=G) hb hmc hmx hl he hj;have hself:a.put (some s) (a.tmps.getD s undef)=a:=acB;have c3':=c3.pull s
 have c4:=c3'.push (i:=s) (rv:=RV.sv false [PV.sl (.own E e) es]) (v:=a.tmps.getD s undef) (F:=φ D::Fp (2 * D+2)) (X:=[]) hsn
  (bY.of_atom (p:=PV.sl (.own E e) es) (by rw [hu,ev];exact hsl)) (fun x hx=>by have:=hX x Bb;simp only [mv,if_true];simp [this]) (by simpa using hnd)
 rw [hself] at c4;exact h a w (bB.eqv ⟨_,_,_,c4⟩ (fun i=>by simp only [St.set_s];split<;>rfl) (fun d=>rfl))
def qt{J:List PV}(hk:k < xs.length):(xs.map f).flatten++J=((xs.take k).map f).flatten++(f xs[k]++(((xs.drop (k+1)).map f).flatten++J)):=by
 conv=>lhs;rw [←iq k xs,List.drop_eq_getElem_cons hk]
 simp only [bj,List.map_cons,List.flatten_append,List.flatten_cons,bn]
def tt{J cs:List PV}(y:α)(hk:k < xs.length)(hy:cs=f y):((xs.take k).map f).flatten++(cs++(((xs.drop (k+1)).map f).flatten++J))=((xs.set k y).map f).flatten++J:=by subst hy;rw [List.set_eq_take_append_cons_drop,if_pos hk];simp only [bj,List.map_cons,List.flatten_append,List.flatten_cons,bn]
def lp{β:Type}{f:α→β}(hk:k < xs.length):xs.map f≠[]:=fun e=>by have:=congrArg List.length e;rw [aU,List.length_nil] at this;omega
def mK(hf:∀x,(f x).length=e)(hk:k≤xs.length):((xs.take k).map f).flatten.length=k * e:=by rw [Bg (e:=e) (fun cs hcs=>by obtain ⟨x,_,rfl⟩:=List.mem_map.1 hcs;exact hf x),aU,cc,Nat.min_eq_left hk]
section
variable{ops:Array Oper}
def mL{bs:Nat}{i:Operand}{q:Int}(hd:d < n)(hT:gu P T=some (E,e,bs))(hi:bG i (RV.int q))(hq:q=(k:Int))(hk:k < m) :
  Loc P n ⟨some d,.indexAddr T (.tmp s) i,ty,pos,af,g⟩ ⟨(s,RV.sc u)::(G,RV.gat u D m cp)::bl i (RV.int q),[],[(d,some (RV.ptr D (k * e)))],[],none⟩:=by
 intro h0 w0 Fz0 σ a w K Q hc hr _ _ h5;obtain ⟨φ,Fz,Fp,hc⟩:=hc;subst hq;have ei:=hc.sc hr.2.2 hi;obtain ⟨⟨eu,_⟩,_⟩:=hc.slot G _ hr.2.1;have ev:=(hc.one_ hr.1).1;obtain ⟨hu,inf,hinf,hsz,_⟩:=tk hT;refine eH (v:=.pointer (some ⟨φ D,k * e,none⟩)) (w':=w) ?_ (h5 _ _ (hc.put0 hd ⟨rfl,rfl⟩));unfold execOp;have es':a.eval (.tmp s) = .slice (some ⟨φ D,0,none⟩) m cp:=PL;have hlt':(0:Int)≤(k:Int)∧(k:Int) < (m:Int):=ab;simp only [es',ei,Instr.indexAt,asIntOf,Sem.run_bind,Sem.run_pure,Result.andThen_ok,run_underlying hu];simp [hlt',sizeOf,typeInfo,hinf,hsz,qo]
def acV{bs:Nat}(hd:d < n)(hT:gu P T=some (E,e,bs)) :
  Loc P n ⟨some d,.call { callee:=.builtin .len,args := #[.tmp s],argTypes := #[T] },ty,pos,af,g⟩ ⟨[(s,RV.sc u),(G,RV.gat u D m cp)],[],[(d,some (RV.int (m:Int)))],[],none⟩:=by
 intro h0 w0 Fz0 σ a w K Q hc hr _ _ h5;obtain ⟨φ,Fz,Fp,hc⟩:=hc;obtain ⟨⟨eu,_⟩,_⟩:=hc.slot G _ hr.2.1;have ev:=(hc.one_ hr.1).1;obtain ⟨hu,_⟩:=tk hT;refine eH (v:=.int .i64 (m:Int)) (w':=w) ?_ (h5 _ _ (hc.put0 hd (bY.of_sc rfl)));have es':a.eval (.tmp s) = .slice (some ⟨φ D,0,none⟩) m cp:=PL;unfold execOp;simp [resolve,invoke,builtin,es',Builtin.len_,run_underlying hu,goInt]
def QW{p b off o:Nat}{ag:Bool}{A m B ms qs:List PV}(hoff:off=A.length+o)(hd:d < n)(hT:dr P T=some (ag,k))(h1:ag=false→k=1)(hk:o+k≤m.length)
  (hm:(m.drop o).take k=ms) (ht:az ms qs) (hb:aS qs) :
  Loc P n ⟨some d,.load T (.tmp p),ty,pos,af,g⟩ ⟨[(p,RV.ptr b off)],[(b,(t,A++(m++B)))],[(d,some (RV.sv ag ms))],[(b,some (t,A++((m.take o++(qs++m.drop (o+k)))++B)))],none⟩:=by
 have h:Loc P n ⟨some d,.load T (.tmp p),ty,pos,af,g⟩ ⟨[(p,RV.ptr b off)],[(b,(t,A++(m++B)))],[(d,some (RV.sv ag ms))],[(b,some (t,(A++(m++B)).take off++(qs++(A++(m++B)).drop (off+k))))],none⟩:=
  fp hd hT h1 PX (by rw [hoff,JA ab,List.take_append_of_le_length uB];exact hm) ht hb
 have e:(A++(m++B)).take off++(qs++(A++(m++B)).drop (off+k))=A++((m.take o++(qs++m.drop (o+k)))++B):=by rw [hoff,acC ab,show A.length+o+k=A.length+(o+k) by omega,JA hk];simp only [bn]
 rw [e] at h;exact @h
end
end
end
section
section
variable{P:Program}{n:Nat}{h0:Nat→Prop}{w0:World}{Fz0:aC}
structure JF(F:List Nat)(g:Option Nat)(Fz:aC)(w:World)(Fz':aC)(w':World):Prop where
 os:w'.os=w.os
 tape:w'.tape=w.tape
 output:w'.output=w.output
 size:w.heap.size≤w'.heap.size
 same:∀b,b < w.heap.size→some b≠g→b∉F→w'.heap[b]?=w.heap[b]?∧∀o,Fz' b o↔Fz b o
 fzl:∀b o,Fz' b o→b < w'.heap.size
def QX(P:Program)(f:FuncId)(args:List (Bool×List PV))(r:RV):Prop:=
 ∀(w:World) (vs:List Value) (Fz:aC) (F:List Nat),(∀b o,Fz b o→b < w.heap.size)→fz args Fz w vs F→F.Nodup →
  Calls P f vs.toArray w fun e w'=>∃(v:Value) (Fz':aC) (G:List Nat),e = .returned v∧JF F none Fz w Fz' w'∧(∀φ,r.holds φ Fz' w' v G)∧G.Nodup∧∀b,b∈G→b∈F∨(w.heap.size≤b∧b < w'.heap.size)
def jM(P:Program)(f:FuncId)(t:Nat)(cs cs':List PV)(args:List (Bool×List PV))(r:RV):Prop:=
 ∀(w:World) (g:Nat) (cur:Array Value) (vs:List Value) (Fz:aC) (F1 F2:List Nat),(∀b o,Fz b o→b < w.heap.size)→w.heap[g]?=some (.cells cur t (0,0))→(∀o,¬Fz g o)→aN cs Fz w cur.toList F1→fz args Fz w vs F2→(g::(F1++F2)).Nodup →
  Calls P f (.pointer (some ⟨g,0,none⟩)::vs).toArray w fun e w'=>∃(v:Value) (Fz':aC) (cur':Array Value) (F1' G:List Nat),e = .returned v∧JF (F1++F2) (some g) Fz w Fz' w'∧w'.heap[g]?=some (.cells cur' t (0,0))∧(∀o,¬Fz' g o)∧aN cs' Fz' w' cur'.toList F1' ∧
   (∀φ,r.holds φ Fz' w' v G)∧(g::(F1'++G)).Nodup∧∀b,b∈F1'++G→b∈F1++F2∨(w.heap.size≤b∧b < w'.heap.size)
def fz.parts{Fz:aC}:∀{l:List (Bool×List PV)} {vs:List Value} {F:List Nat},fz l Fz w vs F→∃ps:List (List Nat),ps.length=l.length∧F=ps.flatten∧∀(j:Nat) (q:Bool×List PV),l[j]?=some q→∃v,vs[j]?=some v∧bY q.1 q.2 Fz w v (ps.getD j [])
 | [],vs,F,h=>⟨[],rfl,h.2,fun j q hq=>by simp at hq⟩
 | p::l,vs,F,h=>by
  obtain ⟨v,vs',F1,F2,rfl,rfl,h1,h2⟩:=h;obtain ⟨ps,e1,e2,e3⟩:=fz.parts h2;refine ⟨F1::ps,by simp [e1],by rw [e2];rfl,fun j q hq=>?_⟩;cases j with
  | zero=>simp at hq;subst hq;exact ⟨v,rfl,h1⟩
  | succ j=>simpa using e3 j q rc
def kO(k:Nat)(ps:List (List Nat))(x:Nat):List Nat:=if x%2=1∧k≤(x - 1) / 2 then ps.getD ((x - 1) / 2 - k) [] else []
def acW(k:Nat)(ps:List (List Nat))(j:Nat):kO k ps (2 * (k+j)+1)=ps.getD j []:=by unfold kO;rw [if_pos ⟨ab,ab⟩];congr 1;omega
def QY{j b:Nat}(h:b∈ps.getD j []):b∈ps.flatten:=by
 rw [List.getD_eq_getElem?_getD] at h;cases hp:ps[j]? with
 | none=>rw [hp] at h;simp at h
 | some p=>rw [hp] at h;exact List.mem_flatten.2 ⟨p,List.mem_of_getElem? hp,h⟩
def Er{x b:Nat}(h:b∈kO k ps x):b∈ps.flatten:=by
 unfold kO at h;split at h;·exact QY h
 ·simp at h
def QZ:∀{ps:List (List Nat)},ps.flatten.Nodup→(∀j,(ps.getD j []).Nodup)∧∀i j,i≠j→∀b,b∈ps.getD i []→b∉ps.getD j []
 | [],_=>⟨fun j=>by simp,fun i j _ b hb=>by simp at hb⟩
 | p::ps,h=>by
  rw [List.flatten_cons,dD] at h;obtain ⟨h1,h2,h3⟩:=h;obtain ⟨k1,k2⟩:=QZ h2;refine ⟨fun j=>?_,fun i j hij b hb hb'=>?_⟩
  ·cases j with
   | zero=>exact h1
   | succ j=>exact k1 j
  ·cases i with
   | zero=>
    cases j with
    | zero=>exact hij rfl
    | succ j=>exact h3 b hb b (QY hb') rfl
   | succ i=>
    cases j with
    | zero=>exact h3 b hb' b (QY hb) rfl
    | succ j=>exact k2 i j ab b hb hb'
def acX(h:ps.flatten.Nodup)(x:Nat):(kO k ps x).Nodup:=by
 unfold kO;split;·exact (QZ h).1 _
 ·exact List.nodup_nil
def acY(h:ps.flatten.Nodup){x y:Nat}(hxy:x≠y){b:Nat}(hb:b∈kO k ps x):b∉kO k ps y:=by
 unfold kO at hb ⊢;split at hb
 ·split
  ·exact (QZ h).2 _ _ ab b hb
  ·simp
 ·simp at hb
def Ra:∀{qs:List (Bool×List PV)} {k i:Nat} {rv:RV},lk (jv k qs) i=some rv→∃j q,i=k+j∧qs[j]?=some q∧rv=RV.sv q.1 q.2
 | [],k,i,rv,h=>by cases h
 | q::qs,k,i,rv,h=>by
  have h:(bif Nat.beq i k then some (RV.sv q.1 q.2) else lk (jv (k+1) qs) i)=some rv:=h;rw [beq_eq] at h;by_cases hi:i=k
  ·simp [hi] at h;subst h;subst hi
   exact ⟨0,q,rfl,rfl,rfl⟩
  ·simp [hi] at h
   obtain ⟨j,q',e1,e2,e3⟩:=Ra h;exact ⟨j+1,q',ab,Jh,e3⟩
def acZ{Fz:aC}{vs:List Value}{F:List Nat}(h:fz rs Fz w vs F)(φ:Nat→Nat):(ay rs).holds φ Fz w (if h:vs.toArray.size=1 then vs.toArray[0] else .tuple vs.toArray) F:=by
 have hl:=h.len;by_cases h1:vs.toArray.size=1
 ·rw [dif_pos h1]
  have hl1:rs.length=1:=by rw [←hl];simpa using h1
  obtain ⟨q,rfl⟩:=List.length_eq_one_iff.1 hl1;obtain ⟨v,vs2,F1,F2,rfl,rfl,k1,k2,rfl⟩:=h;rw [fS];exact k1
 ·rw [dif_neg h1]
  have hne:rs.length≠1:=fun e=>h1 (by simp [hl,e]);have:ay rs=RV.tup rs:=by
   match rs,hne with
   | [],_=>rfl
   | [_],hne=>exact absurd rfl hne
   | _::_::_,_=>rfl
  rw [this];exact ⟨vs.toArray,rfl,h⟩
def ac0{t:Array Value}{vs:List Value}(e1:Sem.run P (fn.results.toList.mapM (uH t)) w = .ok vs w):(results fn t).run P w = .ok (if h:vs.toArray.size=1 then vs.toArray[0] else .tuple vs.toArray) w:=by
 have erun:Sem.run P (fn.results.mapM (uH t)) w = .ok vs.toArray w:=by rw [Array.mapM_eq_mapM_toList];simp only [map_eq_pure_bind,Sem.run_bind,e1,Result.andThen_ok,Sem.run_pure]
 rw [QG];simp only [Sem.run_bind,erun,Result.andThen_ok,Sem.run_pure]
def avI{f:FuncId}{c:Code}{args:List (Bool×List PV)}(hf:P.funcs[f]?=some fn)(hb:fn.body=some c)(hn:args.length≤fn.ntmps)
  (h:∀(h0:Nat→Prop) (w0:World) (Fz0:aC),SW P fn.ntmps h0 w0 Fz0 c (St.of (jv 0 args) []) (Bf P fn.results.toList rs)):QX P f args (ay rs):=by
 intro w vs Fz F hz hown hnd;have hvl:=hown.len;have hFlt:∀b,b∈F→b < w.heap.size:=fun b hb=>hown.lt b hb;obtain ⟨ps,e1,e2,e3⟩:=hown.parts;refine calls_of_wp hf hb ?_;have hc:bB (fun b=>b < w.heap.size∧b∉F) w Fz fn.ntmps (St.of (jv 0 args) []) { tmps:=vs.toArray++Array.replicate (fn.ntmps - vs.toArray.size) undef,defers:=[] } w:=by
  refine ⟨fun _=>0,Fz,kO 0 ps,⟨re.refl _ _,rfl,jq,fun _ hb=>hb.1,fun _ _ _=>Iff.rfl,hz,fun i rv hi=>?_,fun d cs hd=>uz,fun d cs hd=>uz,fun d d' cs cs' hd=>uz,fun x y hxy b hx=>acY (by rw [←e2];exact hnd) hxy hx,fun x=>acX (by rw [←e2];exact hnd) x,fun x b hb=>?_⟩⟩
  ·obtain ⟨j,q,k1,k2,rfl⟩:=Ra hi
   rw [Nat.zero_add] at k1;subst k1;obtain ⟨v,k3,k4⟩:=e3 i q k2;have:(vs.toArray++Array.replicate (fn.ntmps - vs.toArray.size) undef).getD i undef=v:=by rw [Array.getD_eq_getD_getElem?,Array.getElem?_append_left (by have:=(List.getElem?_eq_some_iff.1 k3).1;simpa using this)];simp [k3]
   rw [this];have e:=acW 0 ps i;rw [Nat.zero_add] at e;rw [e];exact k4
  ·have:=Er hb
   rw [←e2] at this;exact ⟨fun k=>k.2 this,hFlt b this⟩
 refine wp_mono (h _ w Fz _ w hc) fun e a' w' ⟨τ,hq,hc'⟩=>?_;obtain ⟨φ,Fz',Fp,hc'⟩:=hc';have hres:wW P fn.results.toList rs τ→a'.defers=[]∧∃v,(results fn a'.tmps).run P w' = .ok v w'∧∃(v':Value) (Fz':aC) (G:List Nat),Ending.returned v = .returned v'∧JF F none Fz w Fz' w'∧(∀φ,(ay rs).holds φ Fz' w' v' G)∧G.Nodup∧∀b,b∈G→b∈F∨(w.heap.size≤b∧b < w'.heap.size):=by
  intro hr;obtain ⟨vs',G,r1,r2,r3,r4⟩:=Ek _ rs hc' hr;refine ⟨hc'.dfr,_,ac0 r1,_,Fz',G,rfl,⟨hc'.bel.os,hc'.bel.tape,hc'.bel.output,hc'.bel.size,fun b k1 _ k2=>⟨hc'.bel.block b ⟨k1,k2⟩,fun o=>hc'.fz0 b o ⟨k1,k2⟩⟩,hc'.fzl⟩,acZ r2,r3,fun b hb=>?_⟩;obtain ⟨r,_,hr⟩:=r4 b hb;have:=hc'.low r b hr;by_cases hbF:b∈F;·exact .inl hbF
  ·exact .inr ⟨Nat.le_of_not_lt fun hlt=>this.1 ⟨hlt,hbF⟩,this.2⟩
 cases e with
 | normal=>exact hres hq
 | ret=>exact hres hq
 | _=>exact hq.elim
def RV.phi(D g:Nat):RV where
 holds φ _ _ _ F:=φ D=g∧F=[]
 men x:=Nat.beq x D
 mono h _ _ hφ:=⟨by rw [hφ D aL];exact h.1,h.2⟩
 lt h:=qk
def RV.lcl_phi{g:Nat}:(RV.phi D g).Lcl L:=fun h _=>h
def Rb(P:Program)(rs:List ResultVar)(g t:Nat)(cs':List PV)(qs:List (Bool×List PV))(τ:St):Prop:=τ.b 0=some (t,cs')∧τ.s 5000=some (RV.phi 0 g)∧wW P rs qs (τ.setB 0 none)
def avJ(P:Program)(rs:List ResultVar)(g t:Nat)(cs':List PV)(qs:List (Bool×List PV)):Exit→St→Prop
 | .normal,τ=>Rb P rs g t cs' qs τ
 | .ret,τ=>Rb P rs g t cs' qs τ
 | _,_=>False
def lX{f:FuncId}{c:Code}{cs cs':List PV}{args:List (Bool×List PV)}(hf:P.funcs[f]?=some fn)(hb:fn.body=some c)(hn:args.length+1≤fn.ntmps)(hn2:args.length≤4000)
  (h:∀(g:Nat) (h0:Nat→Prop) (w0:World) (Fz0:aC),SW P fn.ntmps h0 w0 Fz0 c (St.of ((0,RV.ptr 0 0)::(5000,RV.phi 0 g)::jv 1 args) [(0,(t,cs))]) (avJ P fn.results.toList g t cs' rs)):jM P f t cs cs' args (ay rs):=by
 intro w g cur vs Fz F1 F2 hz hg hfg hcs hown hnd;have hvl:=hown.len;have hglt:g < w.heap.size:=(Array.getElem?_eq_some_iff.1 hg).1;have hFlt:∀b,b∈F2→b < w.heap.size:=fun b hb=>hown.lt b hb;have hFlt1:∀b,b∈F1→b < w.heap.size:=fun b hb=>hcs.lt b hb;obtain ⟨ps,e1,e2,e3⟩:=hown.parts;rw [kg,dD] at hnd;obtain ⟨n0,n1,n2,n12⟩:=hnd;have n0':g∉F1∧g∉F2:=⟨fun k=>n0 (List.mem_append.2 (.inl k)),fun k=>n0 (List.mem_append.2 (.inr k))⟩;refine calls_of_wp hf hb ?_;have hodd:∀x b,b∈kO 1 ps x→x≠2:=fun x b hb e=>by subst e;unfold kO at hb;rw [if_neg ab] at hb;simp at hb
 have hfp:∀x b,b∈(fun x=>if x=2 then F1 else kO 1 ps x) x→(x=2∧b∈F1)∨(x≠2∧b∈kO 1 ps x):=fun x b hb=>by
  simp only at hb;split at hb;·rename_i e;exact .inl ⟨e,hb⟩
  ·rename_i e;exact .inr ⟨e,hb⟩
 have hc:bB (fun b=>b < w.heap.size∧b≠g∧b∉F1++F2) w Fz fn.ntmps (St.of ((0,RV.ptr 0 0)::(5000,RV.phi 0 g)::jv 1 args) [(0,(t,cs))]) { tmps:=(.pointer (some ⟨g,0,none⟩)::vs).toArray++Array.replicate (fn.ntmps - (Value.pointer (some ⟨g,0,none⟩)::vs).toArray.size) undef,defers:=[] } w:=by
  refine ⟨fun _=>g,Fz,fun x=>if x=2 then F1 else kO 1 ps x,⟨re.refl _ _,rfl,jq,fun _ hb=>hb.1,fun _ _ _=>Iff.rfl,hz,fun i rv hi=>?_,fun d bx hd=>?_,fun d bx hd=>?_,fun d d' bx bx' hd hd' _=>?_,fun x y hxy b hx hy=>?_,fun x=>?_,fun x b hb=>?_⟩⟩
  ·by_cases hi0:i=0
   ·subst hi0
    have hi':RV.ptr 0 0=rv:=by injection hi
    subst hi';have:((.pointer (some ⟨g,0,none⟩)::vs).toArray++Array.replicate (fn.ntmps - (Value.pointer (some ⟨g,0,none⟩)::vs).toArray.size) undef).getD 0 undef = .pointer (some ⟨g,0,none⟩):=by rw [Array.getD_eq_getD_getElem?,Array.getElem?_append_left aL];simp
    rw [this];refine ⟨rfl,?_⟩;simp only [kO];rw [if_neg ab,if_neg ab]
   ·have hi2:(if i=5000 then some (RV.phi 0 g) else lk (jv 1 args) i)=some rv:=by
     have:(bif Nat.beq i 0 then some (RV.ptr 0 0) else bif Nat.beq i 5000 then some (RV.phi 0 g) else lk (jv 1 args) i)=some rv:=hi;rw [beq_eq,beq_eq] at this;by_cases h5:i=5000;·simpa [hi0,h5] using this
     ·simpa [hi0,h5] using this
    by_cases h5:i=5000
    ·subst h5
     rw [if_pos rfl] at hi2;injection hi2 with hi2;subst hi2;refine ⟨rfl,?_⟩;show (if 2 * 5000+1=2 then F1 else kO 1 ps (2 * 5000+1))=[];rw [if_neg ab];unfold kO;rw [if_pos ab,List.getD_eq_getElem?_getD,List.getElem?_eq_none ab];rfl
    rw [if_neg h5] at hi2;have hi':=hi2;obtain ⟨j,q,k1,k2,rfl⟩:=Ra hi';subst k1;obtain ⟨v,k3,k4⟩:=e3 j q k2;have hjl:=(List.getElem?_eq_some_iff.1 k3).1;have:((.pointer (some ⟨g,0,none⟩)::vs).toArray++Array.replicate (fn.ntmps - (Value.pointer (some ⟨g,0,none⟩)::vs).toArray.size) undef).getD (1+j) undef=v:=by rw [Array.getD_eq_getD_getElem?,Array.getElem?_append_left jq];rw [Nat.add_comm];simp [k3]
    rw [this];have k5:bY q.1 q.2 Fz w v (if 2 * (1+j)+1=2 then F1 else kO 1 ps (2 * (1+j)+1)):=by rw [if_neg ab,acW];exact k4
    exact k5
  ·have hd2:(bif Nat.beq d 0 then some (t,cs) else none)=some bx:=hd
   rw [beq_eq] at hd2;by_cases h0':d=0
   ·simp [h0'] at hd2;subst hd2;subst h0'
    exact ⟨cur,hg,by simpa using hcs⟩
   ·simp [h0'] at hd2
  ·have hd2:(bif Nat.beq d 0 then some (t,cs) else none)=some bx:=hd
   refine ⟨fun k=>k.2.1 rfl,hfg,fun r hr=>?_⟩;rcases hfp r _ hr with ⟨_,k⟩|⟨_,k⟩;·exact n0'.1 k
   ·have:=Er k
    rw [←e2] at this;exact n0'.2 this
  ·have hd2:(bif Nat.beq d 0 then some (t,cs) else none)=some bx:=hd
   have hd3:(bif Nat.beq d' 0 then some (t,cs) else none)=some bx':=hd';rw [beq_eq] at hd2 hd3;by_cases k1:d=0
   ·by_cases k2:d'=0
    ·omega
    ·simp [k2] at hd3
   ·simp [k1] at hd2
  ·rcases hfp x _ hx with ⟨k1,k2⟩|⟨k1,k2⟩<;>rcases hfp y _ hy with ⟨k3,k4⟩|⟨k3,k4⟩
   ·omega
   ·have:=Er k4
    rw [←e2] at this;exact n12 b k2 b this rfl
   ·have:=Er k2
    rw [←e2] at this;exact n12 b k4 b this rfl
   ·exact acY (by rw [←e2];exact n2) hxy k2 k4
  ·split
   ·exact n1
   ·exact acX (by rw [←e2];exact n2) x
  ·rcases hfp x _ hb with ⟨_,k⟩|⟨_,k⟩
   ·exact ⟨fun q=>q.2.2 (List.mem_append.2 (.inl k)),hFlt1 b k⟩
   ·have:=Er k
    rw [←e2] at this;exact ⟨fun q=>q.2.2 (List.mem_append.2 (.inr this)),hFlt b this⟩
 refine wp_mono (h g _ w Fz _ w hc) fun e a' w' ⟨τ,hq,hc'⟩=>?_;obtain ⟨φ,Fz',Fp,hc'⟩:=hc'
 have hres:Rb P fn.results.toList g t cs' rs τ→a'.defers=[]∧∃v,(results fn a'.tmps).run P w' = .ok v w'∧∃(v':Value) (Fz':aC) (cur':Array Value) (F1' G:List Nat),Ending.returned v = .returned v'∧JF (F1++F2) (some g) Fz w Fz' w'∧w'.heap[g]?=some (.cells cur' t (0,0))∧(∀o,¬Fz' g o)∧aN cs' Fz' w' cur'.toList F1' ∧
   (∀φ,(ay rs).holds φ Fz' w' v' G)∧(g::(F1'++G)).Nodup∧∀b,b∈F1'++G→b∈F1++F2∨(w.heap.size≤b∧b < w'.heap.size):=by
  rintro ⟨hb0,hG,hr⟩;have hφ:φ 0=g:=(hc'.slot 5000 _ hG).1;obtain ⟨cur',hg',ho'⟩:=hc'.box 0 _ hb0;obtain ⟨m1,m2,m3⟩:=hc'.bxb 0 _ hb0;rw [hφ] at hg' m1 m2 m3;have c1:=hc'.pullB hb0;obtain ⟨vs',G,r1,r2,r3,r4⟩:=Ek _ rs c1 hr;have hG2:∀b,b∈G→∃r,r≠2∧b∈Fp r:=fun b hb=>by
   obtain ⟨r,k1,k2⟩:=r4 b hb;have k2:b∈(if r=0 then φ 0::mv Fp (2 * 0+2) 0 else mv Fp (2 * 0+2) r):=k2;rw [if_neg k1] at k2;unfold mv at k2;rw [if_neg k1] at k2;split at k2;·simp at k2
   ·rename_i k3;exact ⟨r,ab,k2⟩
  have hlow:∀x b,b∈Fp x→b∈F1++F2∨(w.heap.size≤b∧b < w'.heap.size):=fun x b hb=>by
   have:=hc'.low x b hb;by_cases hbF:b∈F1++F2;·exact .inl hbF
   ·exact .inr ⟨Nat.le_of_not_lt fun hlt=>this.1 ⟨hlt,fun e=>m3 x (e▸hb),hbF⟩,this.2⟩
  refine ⟨hc'.dfr,_,ac0 r1,_,Fz',cur',Fp 2,G,rfl,⟨hc'.bel.os,hc'.bel.tape,hc'.bel.output,hc'.bel.size,fun b k1 k0 k2=>?_,hc'.fzl⟩,hg',m2,ho',acZ r2,?_,fun b hb=>?_⟩
  ·have hbg:b≠g:=fun e=>k0 (by rw [e])
   exact ⟨hc'.bel.block b ⟨k1,hbg,k2⟩,fun o=>hc'.fz0 b o ⟨k1,hbg,k2⟩⟩
  ·rw [kg,dD]
   refine ⟨fun hh=>?_,hc'.nod 2,r3,fun x hx y hy e=>?_⟩
   ·rcases List.mem_append.1 hh with hh|hh
    ·exact m3 2 hh
    ·obtain ⟨r,_,k⟩:=hG2 g hh
     exact m3 r k
   ·subst e
    obtain ⟨r,k1,k2⟩:=hG2 x hy;exact hc'.dis r 2 k1 x k2 hx
  ·rcases List.mem_append.1 hb with hb|hb
   ·exact hlow 2 b hb
   ·obtain ⟨r,_,k⟩:=hG2 b hb
    exact hlow r b k
 cases e with
 | normal=>exact hres hq
 | ret=>exact hres hq
 | _=>exact hq.elim
end
end
def xc:=@PV.to_none
def aJl:=@PV.lcl_val
def bg{o:Fl}{ps qs:List PV}(k:az ps qs):az (PV.sl o es::ps) (PV.sl .v es::qs):=az.cons PV.to_none k
section
variable{v_1 v_2 v_3 v_4 v_5 v_6 v_7 v_8 v_9 v_10 v_11 v_12 v_13 v_14 v_15 v_16:Value}{f_1 f_2 f_3 f_4 f_5 f_6 f_7 f_8:Fl}{l_1 l_2 l_3 l_4 l_5 l_6 l_7 l_8:List (List PV)}
abbrev gK:=[(false,[PV.sl f_1 l_1]),(false,[PV.val v_1])]
abbrev cJ:=[(false,[PV.val v_1]),(false,[PV.val v_2]),(false,[PV.val v_3])]
abbrev xd:=[(true,[PV.val v_1,PV.sl f_1 l_1,PV.val v_2,PV.val v_3])]
abbrev JG:=[(false,[PV.val v_1]),(false,[PV.val v_2]),(false,[PV.sl f_1 l_1])]
abbrev bV:=[(false,[PV.sl f_1 l_1])]
abbrev aH:=[(false,[PV.val v_1])]
abbrev Es:=[(false,[PV.val v_1]),(false,[PV.sl f_1 l_1]),(false,[PV.val v_2]),(false,[PV.val v_3])]
abbrev ac1:=[(false,[PV.val v_1]),(true,[PV.val v_2,PV.sl f_1 l_1]),(false,[PV.val v_3]),(false,[PV.val v_4])]
abbrev dh:=[(false,[PV.val v_1]),(false,[PV.val v_2])]
abbrev cd:=[(false,[PV.sl .v l_1])]
abbrev pu:=[(true,[PV.sl f_1 l_1,PV.val v_1])]
abbrev ko:=[(true,[PV.sl .v l_1,PV.val v_1])]
abbrev ac2:=[(false,[PV.val v_1]),(true,[PV.val v_2,PV.val v_3,PV.sl f_1 l_1,PV.val v_4,PV.val v_5])]
abbrev iR:=[(true,[PV.val v_1,PV.val v_2,PV.sl f_1 l_1,PV.sl f_2 l_2])]
abbrev kp:=[(true,[PV.val v_1,PV.val v_2,PV.sl .v l_1,PV.sl .v l_2])]
abbrev tu:=[(true,[PV.val v_1,PV.val v_2,PV.val v_3,PV.sl f_1 l_1,PV.sl f_2 l_2,PV.val v_4,PV.val v_5,PV.val v_6,PV.val v_7,PV.sl f_3 l_3,PV.val v_8,PV.val v_9,PV.val v_10])]
abbrev tv:=[(true,[PV.val v_1,PV.val v_2,PV.val v_3,PV.sl .v l_1,PV.sl .v l_2,PV.val v_4,PV.val v_5,PV.val v_6,PV.val v_7,PV.sl .v l_3,PV.val v_8,PV.val v_9,PV.val v_10])]
abbrev ac3:=[(true,[PV.nv v_1 (PV.val v_2),PV.nv v_3 (PV.val v_4),PV.nv v_5 (PV.sl f_1 l_1),PV.nv v_6 (PV.sl f_2 l_2),PV.nv v_7 (PV.val v_8),PV.nv v_9 (PV.sl f_3 l_3),PV.nv v_10 (PV.val v_11),PV.nv v_12 (PV.val v_13),PV.nv v_14 (PV.val v_15),PV.nv v_16 (PV.sl f_4 l_4)])]
abbrev fF:=[(true,[PV.sl f_1 l_1,PV.val v_1,PV.val v_2,PV.sl f_2 l_2,PV.sl f_3 l_3,PV.sl f_4 l_4,PV.sl f_5 l_5,PV.val v_3])]
abbrev Rc:=[(true,[PV.val v_1,PV.val v_2,PV.sl f_1 l_1,PV.sl f_2 l_2]),(true,[PV.val v_3,PV.sl f_3 l_3])]
abbrev Rd:=[(true,[PV.val v_1,PV.val v_2,PV.sl .v l_1,PV.sl .v l_2]),(true,[PV.val v_3,PV.sl .v l_3])]
abbrev xe:=[(false,[PV.val v_1]),(false,[PV.sl f_1 l_1])]
abbrev kP:=[(true,[PV.val v_1,PV.sl f_1 l_1])]
abbrev mM:=[(true,[PV.val v_1,PV.sl .v l_1])]
abbrev mN:=[(true,[PV.sl f_1 l_1,PV.val v_1,PV.val v_2,PV.sl f_2 l_2,PV.sl f_3 l_3,PV.sl f_4 l_4,PV.sl f_5 l_5,PV.val v_3]),(false,[PV.val v_4])]
abbrev lY:=[(true,[PV.sl .v l_1,PV.val v_1,PV.val v_2,PV.sl .v l_2,PV.sl .v l_3,PV.sl .v l_4,PV.sl .v l_5,PV.val v_3]),(false,[PV.val v_4])]
abbrev ac4:=[(true,[PV.sl f_1 l_1,PV.val v_1,PV.val v_2,PV.sl f_2 l_2,PV.sl f_3 l_3,PV.sl f_4 l_4,PV.sl f_5 l_5,PV.val v_3]),(false,[PV.val v_4]),(false,[PV.val v_5])]
abbrev ac5:=[(true,[PV.sl .v l_1,PV.val v_1,PV.val v_2,PV.sl .v l_2,PV.sl .v l_3,PV.sl .v l_4,PV.sl .v l_5,PV.val v_3]),(false,[PV.val v_4]),(false,[PV.val v_5])]
abbrev JH:=[(true,[PV.sl .v l_1,PV.val v_1]),(false,[PV.val v_2])]
abbrev Et:=[(true,[PV.sl f_1 l_1,PV.val v_1,PV.val v_2,PV.sl f_2 l_2,PV.sl f_3 l_3,PV.sl f_4 l_4,PV.sl f_5 l_5,PV.val v_3]),(false,[PV.sl f_6 l_6])]
abbrev Eu:=[(true,[PV.sl .v l_1,PV.val v_1,PV.val v_2,PV.sl .v l_2,PV.sl .v l_3,PV.sl .v l_4,PV.sl .v l_5,PV.val v_3]),(false,[PV.sl .v l_6])]
abbrev fW:=[(true,[PV.sl .v l_1,PV.val v_1,PV.val v_2,PV.sl .v l_2,PV.sl .v l_3,PV.sl .v l_4,PV.sl .v l_5,PV.val v_3])]
abbrev JI:=[(true,[PV.val v_1,PV.val v_2,PV.sl f_1 l_1,PV.sl f_2 l_2,PV.val v_3,PV.sl f_3 l_3,PV.val v_4,PV.val v_5,PV.val v_6,PV.sl f_4 l_4])]
abbrev Bm:=[(true,[PV.val v_1,PV.val v_2,PV.val v_3])]
abbrev uM:=[(true,[PV.val v_1,PV.val v_2,PV.sl f_1 l_1,PV.val v_3,PV.val v_4])]
abbrev rj:=[(true,[PV.val v_1,PV.val v_2,PV.sl .v l_1,PV.val v_3,PV.val v_4])]
abbrev ac6:=[(true,[PV.sl f_1 l_1,PV.val v_1,PV.val v_2,PV.sl f_2 l_2,PV.sl f_3 l_3,PV.sl f_4 l_4,PV.sl f_5 l_5,PV.val v_3]),(true,[PV.val v_4,PV.val v_5,PV.val v_6,PV.sl f_6 l_6,PV.sl f_7 l_7,PV.val v_7,PV.val v_8,PV.val v_9,PV.val v_10,PV.sl f_8 l_8,PV.val v_11,PV.val v_12,PV.val v_13])]
abbrev ac7:=[(true,[PV.sl .v l_1,PV.val v_1,PV.val v_2,PV.sl .v l_2,PV.sl .v l_3,PV.sl .v l_4,PV.sl .v l_5,PV.val v_3]),(true,[PV.val v_4,PV.val v_5,PV.val v_6,PV.sl .v l_6,PV.sl .v l_7,PV.val v_7,PV.val v_8,PV.val v_9,PV.val v_10,PV.sl .v l_8,PV.val v_11,PV.val v_12,PV.val v_13])]
abbrev Re:=[(true,[PV.val v_1,PV.val v_2,PV.sl f_1 l_1,PV.sl f_2 l_2]),(false,[PV.val v_3]),(false,[PV.val v_4])]
abbrev Bn:=[(true,[PV.val v_1,PV.val v_2,PV.sl f_1 l_1,PV.sl f_2 l_2,PV.val v_3,PV.val v_4,PV.sl f_3 l_3])]
abbrev pv:=[(true,[PV.val v_1,PV.val v_2,PV.sl f_1 l_1,PV.sl f_2 l_2,PV.sl f_3 l_3])]
abbrev uN:=[(true,[PV.val v_1,PV.val v_2,PV.sl .v l_1,PV.sl .v l_2,PV.sl .v l_3])]
abbrev ac8:=[(true,[PV.val v_1,PV.val v_2,PV.sl .v l_1,PV.sl .v l_2,PV.val v_3,PV.sl .v l_3,PV.val v_4,PV.val v_5,PV.val v_6,PV.sl .v l_4])]
abbrev ac9:=[(true,[PV.val v_1,PV.sl f_1 l_1,PV.val v_2,PV.val v_3]),(true,[PV.val v_4,PV.sl f_2 l_2,PV.val v_5,PV.val v_6])]
abbrev ada:=[(true,[PV.val v_1,PV.sl .v l_1,PV.val v_2,PV.val v_3]),(true,[PV.val v_4,PV.sl .v l_2,PV.val v_5,PV.val v_6])]
abbrev adb:=[(true,[PV.val v_1,PV.val v_2,PV.sl .v l_1,PV.sl .v l_2]),(false,[PV.val v_3]),(false,[PV.val v_4])]
abbrev gS:=[(false,[PV.sl .v l_1]),(false,[PV.val v_1])]
abbrev JJ:=[(true,[PV.val v_1,PV.sl f_1 l_1,PV.val v_2,PV.val v_3]),(false,[PV.val v_4])]
abbrev Ev:=[(true,[PV.val v_1,PV.sl .v l_1,PV.val v_2,PV.val v_3]),(false,[PV.val v_4])]
abbrev rm:=[(false,[PV.sl f_1 l_1]),(false,[PV.sl f_2 l_2])]
abbrev rn:=[(false,[PV.sl .v l_1]),(false,[PV.sl .v l_2])]
abbrev adc:=[(false,[PV.sl .v l_1]),(false,[PV.val v_1]),(false,[PV.val v_2])]
abbrev ade:=[(true,[PV.sl f_1 l_1,PV.val v_1]),(false,[PV.val v_2]),(false,[PV.sl f_2 l_2]),(false,[PV.val v_3])]
abbrev JK:=[(true,[PV.val v_1,PV.val v_2,PV.sl .v l_1,PV.sl .v l_2,PV.val v_3,PV.val v_4,PV.sl .v l_3])]
abbrev Rf:=[(true,[PV.sl .v l_1,PV.val v_1]),(true,[PV.val v_2,PV.val v_3,PV.sl .v l_2,PV.val v_4,PV.val v_5])]
abbrev JL:=[(true,[PV.sl f_1 l_1,PV.val v_1]),(false,[PV.sl f_2 l_2])]
abbrev Rg:=[(true,[PV.sl f_1 l_1,PV.sl f_2 l_2]),(true,[PV.val v_1,PV.sl f_3 l_3]),(false,[PV.sl f_4 l_4])]
abbrev Rh:=[(true,[PV.sl .v l_1,PV.sl .v l_2]),(true,[PV.val v_1,PV.sl .v l_3]),(false,[PV.sl .v l_4])]
abbrev adf:=[(true,[PV.sl f_1 l_1,PV.val v_1,PV.val v_2,PV.sl f_2 l_2,PV.sl f_3 l_3,PV.sl f_4 l_4,PV.sl f_5 l_5,PV.val v_3]),(true,[PV.val v_4,PV.val v_5,PV.sl f_6 l_6,PV.sl f_7 l_7]),(false,[PV.val v_6])]
abbrev adg:=[(true,[PV.sl .v l_1,PV.val v_1,PV.val v_2,PV.sl .v l_2,PV.sl .v l_3,PV.sl .v l_4,PV.sl .v l_5,PV.val v_3]),(true,[PV.val v_4,PV.val v_5,PV.sl .v l_6,PV.sl .v l_7]),(false,[PV.val v_6])]
abbrev adh:=[(true,[PV.sl f_1 l_1,PV.val v_1,PV.val v_2,PV.sl f_2 l_2,PV.sl f_3 l_3,PV.sl f_4 l_4,PV.sl f_5 l_5,PV.val v_3]),(true,[PV.val v_4,PV.val v_5,PV.sl f_6 l_6,PV.val v_6,PV.val v_7])]
abbrev adi:=[(true,[PV.sl .v l_1,PV.val v_1,PV.val v_2,PV.sl .v l_2,PV.sl .v l_3,PV.sl .v l_4,PV.sl .v l_5,PV.val v_3]),(true,[PV.val v_4,PV.val v_5,PV.sl .v l_6,PV.val v_6,PV.val v_7])]
abbrev Ri:=[(true,[PV.sl f_1 l_1,PV.sl f_2 l_2]),(false,[PV.sl f_3 l_3]),(false,[PV.sl f_4 l_4])]
abbrev Rj:=[(true,[PV.sl .v l_1,PV.sl .v l_2]),(false,[PV.sl .v l_3]),(false,[PV.sl .v l_4])]
abbrev adj:=[(true,[PV.sl .v l_1,PV.sl .v l_2]),(false,[PV.sl .v l_3])]
abbrev tw:=[PV.val v_1,PV.val v_2,PV.val v_3]
abbrev iA:=[PV.val v_1,PV.sl f_1 l_1]
abbrev Ew:=[PV.val v_1,PV.val v_2,PV.sl f_1 l_1]
abbrev px:=[PV.sl f_1 l_1,PV.sl f_2 l_2]
abbrev xf:=[PV.sl .v l_1,PV.sl .v l_2]
abbrev mO:=[PV.val v_1,PV.val v_2]
abbrev Ex:=[PV.nv v_1 (PV.sl .v l_1)]
abbrev ro:=[PV.val v_1,PV.sl f_1 l_1,PV.val v_2,PV.val v_3]
abbrev qu:=[PV.val v_1,PV.sl .v l_1,PV.val v_2,PV.val v_3]
abbrev ot:=[PV.val v_1,PV.val v_2,PV.sl f_1 l_1,PV.val v_3,PV.val v_4]
abbrev py:=[PV.val v_1,PV.val v_2,PV.val v_3,PV.sl f_1 l_1,PV.sl f_2 l_2,PV.val v_4,PV.val v_5,PV.val v_6,PV.val v_7,PV.sl f_3 l_3,PV.val v_8,PV.val v_9,PV.val v_10]
abbrev jN:=[PV.val v_1,PV.val v_2,PV.sl f_1 l_1,PV.sl f_2 l_2]
abbrev jg:=[PV.val v_1,PV.val v_2,PV.sl .v l_1,PV.sl .v l_2]
abbrev zc:=[PV.val v_1,PV.val v_2,PV.val v_3,PV.sl .v l_1,PV.sl .v l_2,PV.val v_4,PV.val v_5,PV.val v_6,PV.val v_7,PV.sl .v l_3,PV.val v_8,PV.val v_9,PV.val v_10]
abbrev Rk:=[PV.nv v_1 (PV.val v_2),PV.nv v_3 (PV.val v_4),PV.nv v_5 (PV.sl .v l_1),PV.nv v_6 (PV.sl .v l_2),PV.nv v_7 (PV.val v_8),PV.nv v_9 (PV.sl .v l_3),PV.nv v_10 (PV.val v_11),PV.nv v_12 (PV.val v_13),PV.nv v_14 (PV.val v_15),PV.nv v_16 (PV.sl .v l_4)]
abbrev xg:=[PV.val v_1,PV.val v_2,PV.sl f_1 l_1,PV.sl f_2 l_2,PV.val v_3,PV.val v_4,PV.sl f_3 l_3]
abbrev rp:=[PV.nv v_1 (PV.val v_2),PV.nv v_3 (PV.val v_4),PV.nv v_5 (PV.sl f_1 l_1),PV.nv v_6 (PV.sl f_2 l_2),PV.nv v_7 (PV.val v_8),PV.nv v_9 (PV.sl f_3 l_3),PV.nv v_10 (PV.val v_11),PV.nv v_12 (PV.val v_13),PV.nv v_14 (PV.val v_15),PV.nv v_16 (PV.sl f_4 l_4)]
abbrev et:=[PV.sl f_1 l_1,PV.val v_1,PV.val v_2,PV.sl f_2 l_2,PV.sl f_3 l_3,PV.sl f_4 l_4,PV.sl f_5 l_5,PV.val v_3]
abbrev Bo:=[PV.any,PV.val v_1,PV.val v_2,PV.any,PV.any,PV.any,PV.any,PV.val v_3]
abbrev nD:=[PV.val v_1,PV.sl .v l_1]
abbrev kq:=[PV.sl f_1 l_1,PV.val v_1]
abbrev mP:=[PV.sl .v l_1,PV.val v_1,PV.val v_2,PV.sl .v l_2,PV.sl .v l_3,PV.sl .v l_4,PV.sl .v l_5,PV.val v_3]
abbrev xh:=[PV.val v_1,PV.val v_2,PV.sl .v l_1,PV.sl .v l_2,PV.val v_3,PV.val v_4,PV.sl .v l_3]
abbrev uO:=[PV.val v_1,PV.val v_2,PV.sl .v l_1,PV.val v_3,PV.val v_4]
abbrev Bp:=[PV.val v_1,PV.val v_2,PV.sl .v l_1,PV.sl .v l_2,PV.sl .v l_3]
abbrev qv:=[PV.val v_1,PV.val v_2,PV.sl f_1 l_1,PV.sl f_2 l_2,PV.sl f_3 l_3]
abbrev adk:=[PV.nv v_1 (PV.val v_2),PV.nv v_3 (PV.val v_4),PV.nv v_5 (PV.sl f_1 l_1),PV.nv v_6 (PV.sl f_2 l_2),PV.val v_7,PV.val v_8,PV.nv v_9 (PV.sl f_3 l_3)]
abbrev Ey:=[PV.sl f_1 l_1,PV.val v_1,PV.val v_2,PV.sl f_2 l_2,PV.val v_3,PV.sl f_3 l_3,PV.sl f_4 l_4,PV.val v_4]
abbrev lr:=[PV.val v_1,PV.val v_2,PV.sl f_1 l_1,PV.sl f_2 l_2,PV.val v_3,PV.sl f_3 l_3,PV.val v_4,PV.val v_5,PV.val v_6,PV.sl f_4 l_4]
abbrev zd:=[PV.nv v_1 (PV.val v_2),PV.nv v_3 (PV.sl f_1 l_1),PV.nv v_4 (PV.val v_5),PV.nv v_6 (PV.val v_7)]
abbrev JM:=[PV.val v_1,PV.val v_2,PV.any,PV.any,PV.any]
abbrev Rl:=[PV.nv v_1 (PV.val v_2),PV.nv v_3 (PV.sl .v l_1),PV.nv v_4 (PV.val v_5),PV.nv v_6 (PV.val v_7)]
abbrev xi:=[PV.val v_1,PV.val v_2,PV.sl .v l_1,PV.sl .v l_2,PV.val v_3,PV.sl .v l_3,PV.val v_4,PV.val v_5,PV.val v_6,PV.sl .v l_4]
abbrev rq:=[PV.sl .v l_1,PV.val v_1]
abbrev ou:=[PV.sl f_1 l_1,PV.val v_1,PV.val v_2,PV.sl f_2 l_2]
abbrev ov:=[PV.sl f_1 l_1,PV.sl f_2 l_2,PV.val v_1]
abbrev Rm:=[PV.nv v_1 (PV.sl f_1 l_1),PV.nv v_2 (PV.val v_3)]
end
end Go.Proofs.YtmekkgdboplbjaaGreatDoor.M
