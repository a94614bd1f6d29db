/- The logic. No condition. -/
import Derived.Test.YtmekkgdboplbjaaGreatDoorDA0
import Derived.Deep.LoopGhost
import Derived.Laws.StructEq
import Derived.KernelRfl
set_option linter.all false
namespace Go.Proofs.YtmekkgdboplbjaaGreatDoor.M
open Go Go.RowKit
section
section
variable{P:Program}{n:Nat}{ops:Array Oper}{h0:Nat→Prop}{w0:World}{Fz0:ay}{σ τ:St}{a:Act}{w:World}{φ:Nat→Nat}{Fz:ay}{Fp:Nat→List Nat}
def dC.take:∀{l:List (Bool×List PV)} {vs:List Value} {F:List Nat} {i:Nat} {ag:Bool} {cs qs:List PV},dC l Fz w vs F→l[i]?=some (ag,cs)→aA cs qs→aB qs→F.Nodup →
  ∃v F1 F2,vs[i]?=some v∧bH ag cs Fz w v F1∧dC (l.set i (ag,qs)) Fz w vs F2∧(∀b,b∈F1++F2→b∈F)∧(F1++F2).Nodup
 | [],_,_,i,_,_,_,_,hi,_,_,_=>by simp at hi
 | p::l,vs,F,0,ag,cs,qs,h,hi,ht,hb,hn=>by
  obtain ⟨v,vs',F1,F2,rfl,rfl,h1,h2⟩:=h
  simp at hi
  subst hi
  exact ⟨v,F1,F2,rfl,h1,⟨v,vs',[],F2,rfl,rfl,⟨h1.1,hb.own (ht.rel h1.2.rel)⟩,h2⟩,fun b hb=>hb,hn⟩
 | p::l,vs,F,i+1,ag,cs,qs,h,hi,ht,hb,hn=>by
  obtain ⟨v,vs',F1,F2,rfl,rfl,h1,h2⟩:=h
  rw [cS] at hn
  obtain ⟨u,G1,G2,e1,e2,e3,e4,e5⟩:=dC.take h2 nj ht hb hn.2.1
  rw [cS] at e5
  refine ⟨u,G1,F1++G2,by simpa using e1,e2,⟨v,vs',F1,G2,rfl,rfl,h1,e3⟩,fun b hb=>?_,?_⟩
  ·simp only [cB] at hb ⊢
   rcases hb with hb|hb|hb
   ·exact .inr (e4 b pM)
   ·exact .inl hb
   ·exact .inr (e4 b pM)
  ·rw [cS,cS]
   refine ⟨e5.1,⟨hn.1,e5.2.1,fun x hx y hy=>hn.2.2 x hx y (e4 y (by simp [hy]))⟩,fun x hx y hy e=>?_⟩
   rcases List.mem_append.1 hy with hy|hy
   ·exact hn.2.2 y hy x (e4 x fS) e.symm
   ·exact e5.2.2 x hx y hy e
def np{t d i:Nat}{ty:TypeId}{pos:String}{af:Array Edge}{g:Option (Nat×Bool)}{l:List (Bool×List PV)}{ag:Bool}{cs qs:List PV}(hd:d < n)(hi:l[i]?=some (ag,cs))(ht:aA cs qs)(hb:aB qs) :
  Loc P n ⟨some d,.extract (.tmp t) i,ty,pos,af,g⟩ ⟨[(t,RV.tup l)],[],[(t,some (RV.tup (l.set i (ag,qs)))),(d,some (RV.sv ag cs))],[],none⟩:=by
 intro h0 w0 Fz0 σ a w K Q hc hr _ _ h5
 obtain ⟨φ,Fz,Fp,hc⟩:=hc
 obtain ⟨vs,hv,hT⟩:=hc.slot t _ hr.1
 have ht':t < n:=by
  rcases Nat.lt_or_ge t n with h|h
  ·exact h
  ·rw [Array.getD_eq_getD_getElem?,Array.getElem?_eq_none (by rw [hc.siz];exact h)] at hv
   cases hv
   have:=hT.len
   cases l with
   | nil=>simp at hi
   | cons p l=>simp at this
 have c1:=hc.pull t
 have e0:mv Fp (2 * t+1) 0=Fp (2 * t+1)++Fp 0:=et
 have hnd:=c1.nod 0
 rw [e0,cS] at hnd
 obtain ⟨v,F1,F2,e1,e2,e3,e4,e5⟩:=hT.take hi ht hb hnd.1
 have c2:=c1.push (i:=t) (rv:=RV.tup (l.set i (ag,qs))) (v:=.tuple vs) (F:=F2) (X:=F1) ht' ⟨vs,rfl,e3⟩
  (fun b hb=>by
   rw [e0]
   refine List.mem_append_left _ (e4 b ?_)
   simp only [cB] at hb ⊢;exact hb.symm)
  ((iT).nodup_iff.2 e5)
 have c3:=c2.push (i:=d) (rv:=RV.sv ag cs) (v:=v) (F:=F1) (X:=[]) hd e2
  (fun b hb=>by simp [cH] at hb ⊢;exact hb) (by rw [dJ];exact (List.nodup_append.1 e5).1)
 have hput:(a.put (some t) (.tuple vs))=a:=by
  have:a.tmps.setIfInBounds t (.tuple vs)=a.tmps:=by
   apply Array.ext aF
   intro j hj1 hj2
   rw [Array.getElem_setIfInBounds (by simpa using hj1)]
   split
   ·rename_i hjt
    subst hjt
    rw [←hv,Array.getD_eq_getD_getElem?,Array.getElem?_eq_getElem hj2];rfl
   ·rfl
  show ({ tmps:=a.tmps.setIfInBounds t (.tuple vs),defers:=a.defers }:Act)=a
  rw [this]
 rw [hput] at c3
 refine cN (v:=v) (w':=w) ?_ (h5 _ _ (bl.eqv ⟨_,_,_,c3⟩ (fun j=>?_) (fun e=>rfl)))
 ·unfold execOp
  have hv':a.eval (.tmp t) = .tuple vs:=hv
  have e1':vs[i]?=some v:=by simpa using e1
  simp [hv',Instr.extract,e1']
 ·show bN [(t,_),(d,_)] σ.s j=_
  simp only [bN,St.set]
  cases hjd:Nat.beq j d<;>cases hjt:Nat.beq j t<;>rfl
def wM{T E e bs d s:Nat}{lo hi:Option Operand}{ty:TypeId}{pos:String}{af:Array Edge}{g:Option (Nat×Bool)}{o:Fl}{es:List (List PV)}{i j:Nat}(hd:d < n)(hT:dY P T=some (E,e,bs))
  (hlo:match lo with|none=>i=0|some x=>bu x (RV.int (i:Int))) (hhi:match hi with|none=>j=es.length|some x=>bu x (RV.int (j:Int))) (hij:i≤j) (hj:j≤es.length) (he:∀cs,cs∈es→cs.length=e) :
  Loc P n ⟨some d,.slice T (.tmp s) lo hi none,ty,pos,af,g⟩ ⟨(s,RV.slc o es)::((match lo with|none=>[]|some x=>bg x (RV.int (i:Int)))++(match hi with|none=>[]|some x=>bg x (RV.int (j:Int)))),[],[(d,some (RV.slc .v ((es.take j).drop i)))],[],none⟩:=by
 intro h0 w0 Fz0 σ a w K Q hc hr _ _ h5
 obtain ⟨φ,Fz,Fp,hc⟩:=hc
 obtain ⟨ad,c,e',u,ev,h1,h2,h3,h4,h6⟩:=hc.slrel hr.1
 obtain ⟨hu,inf,hinf,hsz,_⟩:=mi hT
 have es':a.eval (.tmp s) = .slice ad es.length c:=ev
 have hlo':lo.map a.eval=(lo.map fun _=>(.int .i64 (i:Int):Value)):=by
  cases lo with
  | none=>rfl
  | some x=>exact congrArg some (hc.sc hr.2.left hlo)
 have hhi':hi.map a.eval=(hi.map fun _=>(.int .i64 (j:Int):Value)):=by
  cases hi with
  | none=>rfl
  | some x=>exact congrArg some (hc.sc hr.2.right hhi)
 have hlen:((es.take j).drop i).length=j - i:=by rw [lb,cu];omega
 refine cN (v:=.slice (if c=i then ad else ad.map (·.add (i * e))) (j - i) (c - i)) (w':=w) ?_ (h5 _ _ (hc.put0 hd (bH.of_atom (p:=PV.sl .v ((es.take j).drop i)) ⟨⟨_,c - i,e',fun p q=>u (i+p) q,by rw [hlen],by rw [hlen];omega,ab,?_,?_,?_⟩,rfl⟩)))
 ·unfold execOp
  have hb:(Instr.sliceBounds true es.length c (lo.map a.eval) (hi.map a.eval) none).run P w = .ok (i,j,c) w:=by
   rw [hlo',hhi']
   have b1:(0:Int)≤(j:Int)∧(j:Int)≤(c:Int):=ab
   have b2:(0:Int)≤(i:Int)∧(i:Int)≤(j:Int):=ab
   cases lo<;>cases hi<;>simp only at hlo hhi<;>simp [Instr.sliceBounds,Instr.sliceBound,asIntOf,b1,b2, *]<;>omega
  simp only [Instr.sliceAt,Instr.slice,es',Sem.run_bind,run_underlying hu,Result.andThen_ok,Option.map_none,hb,sizeOf,typeInfo,run_program,hinf,hsz,Sem.run_pure]
 ·intro cs hcs
  exact h3 cs (List.mem_of_mem_take (List.mem_of_mem_drop hcs))
 ·rcases h4 with h4|⟨b,off,rfl,h4⟩
  ·left;subst h4;simp
  ·by_cases hci:c=i
   ·left
    exact iS (by rw [hlen];omega)
   ·by_cases hlt:i < j
    ·right
     have hee:e'=e:=by
      have hi0:es[i]?=some es[i]:=List.getElem?_eq_getElem ab
      rw [←h3 _ (List.mem_of_getElem? hi0)];exact he _ (List.mem_of_getElem? hi0)
     subst hee
     refine ⟨b,off+i * e',by rw [if_neg hci];simp [kx],fun p q hp hq=>?_⟩
     rw [hlen] at hp
     have:=h4 (i+p) q ab hq
     rw [Nat.add_mul] at this
     rw [show off+i * e'+(p * e'+q)=off+(i * e'+p * e'+q) by omega]
     exact this
    ·left
     exact iS (by rw [hlen];omega)
 ·intro p cs q x hp hq
  refine h6 (i+p) cs q x ?_ hq
  rw [List.getElem?_drop] at hp
  have hpj:i+p < j:=by have:=(List.getElem?_eq_some_iff.1 hp).1;rw [cu] at this;omega
  rw [List.getElem?_take_of_lt hpj] at hp
  exact hp
def fi:List (Bool×List PV)→ay→World→List Value→Prop
 | [],_,_,vs=>vs=[]
 | p::ps,Fz,w,vs=>∃v vs',vs=v::vs'∧ip p.1 p.2 Fz w v∧fi ps Fz w vs'
def aS(P:Program)(f:FuncId)(args:List (Bool×List PV))(r:RV):Prop:=
 ∀(w:World) (vs:List Value) (Fz:ay),(∀b o,Fz b o→b < w.heap.size)→fi args Fz w vs→Calls P f vs.toArray w fun e w'=>∃v Fz' F,e = .returned v∧Below w.heap.size w w' ∧
  (∀b o,b < w.heap.size→(Fz' b o↔Fz b o))∧(∀b o,Fz' b o→b < w'.heap.size)∧(∀φ,r.holds φ Fz' w' v F)∧F.Nodup∧∀b,b∈F→w.heap.size≤b∧b < w'.heap.size
def aL(P:Program)(f:FuncId):Bool:=match P.funcs[f]? with
 | some fn=>!(fn.name == "runtime.NumGoroutine")&&fn.body.isSome
 | none=>false
def Hg{f:FuncId}(h:aL P f=true)(args:Array Value)(w:World):(callFunc f args).run P w = .ok (.enter f args) w:=by
 unfold aL at h
 split at h
 ·rename_i fn hf
  rw [aT,Bool.not_eq_true'] at h
  simp only [callFunc,Sem.run_bind,run_program,Result.andThen_ok,hf]
  rw [if_neg (by rw [h.1];simp),if_neg (by cases hb:fn.body<;>simp_all)]
  rfl
 ·cases h
def bi.relT(h:bi h0 w0 Fz0 n σ a w φ Fz Fp):∀{xs:List Operand} {qs:List (Bool×List PV)},aN (ky xs qs) σ.s→mj xs qs→fi qs Fz w (xs.map a.eval)
 | [],[],_,_=>rfl
 | [],_::_,_,hk=>hk.elim
 | _::_,[],_,hk=>hk.elim
 | x::xs,q::qs,hr,hk=>by
  obtain ⟨F,hF⟩:=h.op hr.left hk.1
  exact ⟨_,_,rfl,⟨hF.1,hF.2.rel⟩,h.relT hr.right hk.2⟩
def lj:List (Bool×List PV)→List (Bool×List PV)→Prop
 | [],[]=>True
 | p::ps,q::qs=>(p.1=q.1∧aA p.2 q.2)∧lj ps qs
 | _,_=>False
def lj.rel:∀{ps qs:List (Bool×List PV)} {vs:List Value},lj ps qs→fi ps Fz w vs→fi qs Fz w vs
 | [],[],_,_,h=>h
 | p::ps,q::qs,_,k,h=>by obtain ⟨v,vs',rfl,h1,h2⟩:=h;exact ⟨v,vs',rfl,⟨by rw [←k.1.1];exact h1.1,k.1.2.rel h1.2⟩,lj.rel k.2 h2⟩
def lj.refl:∀ps:List (Bool×List PV),lj ps ps
 | []=>True.intro
 | p::ps=>⟨⟨rfl,aA.refl _⟩,lj.refl ps⟩
def wN{f d:Nat}{args:Array Operand}{tys:Array TypeId}{ty:TypeId}{pos:String}{af:Array Edge}{g:Option (Nat×Bool)}{qs as_:List (Bool×List PV)}{r:RV}(hd:d < n)(hf:aL P f=true)(hok:mj args.toList qs)(hto:lj qs as_)(hs:aS P f as_ r) :
  Loc P n ⟨some d,.call { callee:=.value (.func f),args:=args,argTypes:=tys },ty,pos,af,g⟩ ⟨ky args.toList qs,[],[(d,some r)],[],none⟩:=by
 intro h0 w0 Fz0 σ a w K Q hc hr _ _ h5
 obtain ⟨φ,Fz,Fp,hc⟩:=hc
 have hrel:=hto.rel (hc.relT hr hok)
 have hrun:(execOp a.eval ⟨some d,.call { callee:=.value (.func f),args:=args,argTypes:=tys },ty,pos,af,g⟩).run P w = .ok (.enter f (args.toList.map a.eval).toArray) w:=by
  unfold execOp
  have e:(#[]++args.map a.eval ++ #[]:Array Value)=(args.toList.map a.eval).toArray:=by apply Array.ext';simp
  simp only [resolve,Act.eval,Deferred.ofValue,Sem.run_bind,Sem.run_pure,Result.andThen_ok,invoke]
  rw [Hg hf,e]
 unfold Oper.wp
 rw [hrun,Oper.upon_enter]
 refine (hs w _ Fz hc.fzl hrel).mono ?_
 rintro e w' ⟨v,Fz',F,rfl,hb,hz1,hz2,hv,hn,hF⟩
 refine h5 _ _ ?_
 have k:=hc.world (w':=w') (Fz':=Fz') (X:=F) hb.os hb.tape hb.output hb.size (fun b hb' _=>⟨hb.block b hb',fun o ho=>(hz1 b o hb').1 ho⟩)
  (fun b o ho=>⟨(hz1 b o (hc.fzl b o ho)).2 ho,World.cell?_of_block (hb.block b (hc.fzl b o ho))⟩) hz2 (fun b hb'=>.inr (hF b hb')) hn
 exact ⟨φ,Fz',_,k.push (i:=d) (rv:=r) (v:=v) (F:=F) (X:=[]) hd (hv φ) (fun b hb=>by simpa using hb) (by simpa using hn)⟩
def SW(P:Program)(n:Nat)(h0:Nat→Prop)(w0:World)(Fz0:ay)(c:Code)(σ:St)(Q:Exit→St→Prop):Prop:=
 ∀a w,bl h0 w0 Fz0 n σ a w→c.wp P (fun e a' w'=>∃τ,Q e τ∧bl h0 w0 Fz0 n τ a' w') a w
def ru(N:St→Prop)(Q:Exit→St→Prop):Exit→St→Prop
 | .normal,τ=>N τ
 | e,τ=>Q e τ
def Hh(id:Nat)(Q:Exit→St→Prop):Exit→St→Prop
 | .exit id',τ=>if id'=id then Q .normal τ else Q (.exit id') τ
 | e,τ=>Q e τ
variable{Q:Exit→St→Prop}{x y c:Code}
def rx{id:Nat}{ops:Array Oper}(h:av P n ops (fun τ=>Q .normal τ) ops.toList σ):SW P n h0 w0 Fz0 (.region id ops false) σ Q:=
 fun _ _ hc=>QV hc h fun τ _ _ hq hc'=>⟨τ,hq,hc'⟩
def Ry{id:Nat}{ops:Array Oper}(hm:P.follows .mixedOrders=true)(h:df P n ops σ (fun _ _=>True) (fun τ=>Q .normal τ) ops.toList [] σ):SW P n h0 w0 Fz0 (.region id ops true) σ Q:=
 fun _ _ hc=>QW hm hc h fun τ _ _ hq hc'=>⟨τ,hq,hc'⟩
def wP(h:SW P n h0 w0 Fz0 x σ (ru (fun τ=>SW P n h0 w0 Fz0 y τ Q) Q)):SW P n h0 w0 Fz0 (.seq x y) σ Q:=fun a w hc=>
 wp_seq (wp_mono (h a w hc) fun e a' w' ⟨τ,hq,hc'⟩=>by
  cases e with
  | normal=>exact hq a' w' hc'
  | _=>exact ⟨τ,hq,hc'⟩)
def An{t:Nat}{b:Bool}(ht:σ.s t=some (RV.bool b))(h1:b=true→SW P n h0 w0 Fz0 x σ Q)(h2:b=false→SW P n h0 w0 Fz0 y σ Q):SW P n h0 w0 Fz0 (.cond (.tmp t) x y) σ Q:=fun a w hc=>by
 obtain ⟨φ,Fz,Fp,h⟩:=hc
 refine wp_cond (t:=b) (h.one_ ht).1 ?_
 cases b
 ·exact h2 rfl a w ⟨φ,Fz,Fp,h⟩
 ·exact h1 rfl a w ⟨φ,Fz,Fp,h⟩
def fG{id:Nat}(h:SW P n h0 w0 Fz0 c σ (Hh id Q)):SW P n h0 w0 Fz0 (.block id c) σ Q:=fun a w hc=>
 wp_block (wp_mono (h a w hc) fun e a' w' ⟨τ,hq,hc'⟩=>by
  cases e with
  | exit i=>
   simp only [Exit.inBlock,Hh] at hq ⊢
   split
   ·rename_i hi;rw [if_pos hi] at hq;exact ⟨τ,hq,hc'⟩
   ·rename_i hi;rw [if_neg hi] at hq;exact ⟨τ,hq,hc'⟩
  | _=>exact ⟨τ,hq,hc'⟩)
def Rz(h:Q .normal σ):SW P n h0 w0 Fz0 .skip σ Q:=fun _ _ hc=>wp_skip ⟨σ,h,hc⟩
def RA{id:Nat}(h:Q (.exit id) σ):SW P n h0 w0 Fz0 (.exit id) σ Q:=fun _ _ hc=>wp_exit ⟨σ,h,hc⟩
def cv(h:Q .ret σ):SW P n h0 w0 Fz0 .ret σ Q:=fun _ _ hc=>wp_ret ⟨σ,h,hc⟩
def bl.of{l:List (Nat×RV)}{b:List (Nat×(Nat×List PV))}(h:bl h0 w0 Fz0 n σ a w)(hl:aN l σ.s)(hb:aN b σ.b):bl h0 w0 Fz0 n (St.of l b) a w:=
 h.less (fun i rv hi=>hl.mem (i,rv) (mh hi)) (fun d cs hd=>hb.mem (d,cs) (mh hd))
def RB{l:List (Nat×RV)}{b:List (Nat×(Nat×List PV))}(hl:aN l σ.s)(hb:aN b σ.b)(h:SW P n h0 w0 Fz0 c (St.of l b) Q):SW P n h0 w0 Fz0 c σ Q:=fun a w hc=>h a w (hc.of hl hb)
def aN.app{β:Type}{l m:List (Nat×β)}{f:Nat→Option β}(h:aN l f)(k:aN m f):aN (l++m) f:=aN.of_mem fun p hp=>by
 rcases List.mem_append.1 hp with hp|hp
 ·exact h.mem p hp
 ·exact k.mem p hp
def RC{ι:Type}(I:ι→Prop){l0:List (Nat×RV)}{b0:List (Nat×(Nat×List PV))}(l:ι→List (Nat×RV))(b:ι→List (Nat×(Nat×List PV)))(m:ι→Nat)(i0:ι)(h0':I i0)(hl0:aN l0 σ.s)(hb0:aN b0 σ.b)(hl:aN (l i0) σ.s)(hb:aN (b i0) σ.b)
  (round:∀i,I i→SW P n h0 w0 Fz0 c (St.of (l0++l i) (b0++b i)) (ru (fun τ=>∃j,I j∧m j < m i∧(aN l0 τ.s∧aN b0 τ.b)∧aN (l j) τ.s∧aN (b j) τ.b) Q)):SW P n h0 w0 Fz0 (.loop c) σ Q:=fun a w hc=>by
 refine wp_loop_ghost (fun k a w=>∃i,I i∧m i=k∧bl h0 w0 Fz0 n (St.of (l0++l i) (b0++b i)) a w) (m i0) ⟨i0,h0',rfl,hc.of (hl0.app hl) (hb0.app hb)⟩ ?_
 rintro k a w ⟨i,hi,rfl,hc⟩
 refine wp_mono (round i hi a w hc) fun e a' w' ⟨τ,hq,hc'⟩=>?_
 cases e with
 | normal=>
  obtain ⟨j,h1,h2,h3,h4,h5⟩:=hq
  exact ⟨m j,h2,j,h1,rfl,hc'.of (h3.1.app h4) (h3.2.app h5)⟩
 | _=>exact ⟨τ,hq,hc'⟩
def RD{s:Nat}{o:Fl}{es:List (List PV)}(hs:σ.s s=some (RV.slc o es))(h:es.length≤9223372036854775807→SW P n h0 w0 Fz0 c σ Q):SW P n h0 w0 Fz0 c σ Q:=fun a w hc=>h (hc.lenle hs) a w hc
def pP(P:Program):List ResultVar→List (Bool×List PV)→St→Prop
 | [],[],_=>True
 | .tmp t::rs,q::qs,τ=>τ.s t=some (RV.sv q.1 q.2)∧pP P rs qs (τ.set t none)
 | .cell t T::rs,q::qs,τ=>(∃d ty,τ.s t=some (RV.ptr d 0)∧τ.b d=some (ty,q.2)∧cl P T=some (q.1,q.2.length)∧(q.1=false→q.2.length=1)∧pP P rs qs (τ.setB d none))
 | _,_,_=>False
def pQ(t:Array Value):ResultVar→Sem Value
 | .tmp x=>pure (t.getD x undef)
 | .cell x T=>do loadVar T (←asAddr (t.getD x undef))
def Hi(fn:Func)(t:Array Value):results fn t=(do let vs ←fn.results.mapM (pQ t);pure (if h:vs.size=1 then vs[0] else .tuple vs)):=by
 unfold results
 congr 1
def wQ:∀(rs:List ResultVar) (qs:List (Bool×List PV)) {σ:St} {Fp:Nat→List Nat},bi h0 w0 Fz0 n σ a w φ Fz Fp→pP P rs qs σ →
  ∃vs F,Sem.run P (rs.mapM (pQ a.tmps)) w = .ok vs w∧dC qs Fz w vs F∧F.Nodup ∧
   (∀b,b∈F→∃r,r≠0∧b∈Fp r)
 | [],[],σ,Fp,_,_=>⟨[],[],aF,⟨rfl,rfl⟩,List.nodup_nil,aF⟩
 | .tmp t::rs,q::qs,σ,Fp,h,hr=>by
  obtain ⟨h1,h2⟩:=hr
  have hv:=h.slot t _ h1
  obtain ⟨vs,F,e1,e2,e3,e4⟩:=wQ rs qs (h.pull t) h2
  refine ⟨a.tmps.getD t undef::vs,Fp (2 * t+1)++F,?_,⟨_,_,_,_,rfl,rfl,hv,e2⟩,?_,fun b hb=>?_⟩
  ·rw [List.mapM_cons]
   simp only [pQ,Sem.run_bind,Sem.run_pure,Result.andThen_ok,e1]
  ·rw [cS]
   refine ⟨h.nod _,e3,fun u hu y hy e=>?_⟩
   subst e
   obtain ⟨r,hr0,hr⟩:=e4 u hy
   rcases mg hr with ⟨e,_⟩|⟨hne,hr⟩
   ·exact hr0 e
   ·exact h.dis _ _ (fun e=>hne e.symm) u hu hr
  ·rcases List.mem_append.1 hb with hb|hb
   ·exact ⟨_,ab,hb⟩
   ·obtain ⟨r,hr0,hr⟩:=e4 b hb
    rcases mg hr with ⟨e,_⟩|⟨_,hr⟩
    ·exact absurd e hr0
    ·exact ⟨r,hr0,hr⟩
 | .cell t T::rs,q::qs,σ,Fp,h,hr=>by
  obtain ⟨d,ty,h1,h2,h3,h4,h5⟩:=hr
  obtain ⟨ep,_⟩:=h.slot t _ h1
  obtain ⟨cur,hg,ho⟩:=h.box d _ h2
  have hlen:=ho.len
  obtain ⟨v,k1,k2,k3⟩:=wI h3 w (φ d) 0 cur.toList hlen h4 (fun j u hu=>by
   rw [cell_of_row w (φ d) _ cur ty (0,0) hg,Nat.zero_add];simpa using hu) ho.one
  obtain ⟨vs,F,e1,e2,e3,e4⟩:=wQ rs qs (h.pullB h2) h5
  have e4':∀b,b∈F→∃r,r≠0∧r≠2 * d+2∧b∈Fp r:=by
   intro b hb
   obtain ⟨r,hr0,hr⟩:=e4 b hb
   rw [if_neg hr0] at hr
   rcases mg hr with ⟨e,_⟩|⟨hne,hr⟩
   ·exact absurd e hr0
   ·exact ⟨r,hr0,hne,hr⟩
  refine ⟨v::vs,Fp (2 * d+2)++F,?_,⟨_,_,_,_,rfl,rfl,⟨k2,by rw [k3];exact ho⟩,e2⟩,?_,fun b hb=>?_⟩
  ·rw [List.mapM_cons]
   simp only [pQ,Sem.run_bind,ep,asAddr,Sem.run_pure,Result.andThen_ok,k1,e1]
  ·rw [cS]
   refine ⟨h.nod _,e3,fun u hu y hy e=>?_⟩
   subst e
   obtain ⟨r,hr0,hne,hr⟩:=e4' u hy
   exact h.dis _ _ (fun e=>hne e.symm) u hu hr
  ·rcases List.mem_append.1 hb with hb|hb
   ·exact ⟨_,ab,hb⟩
   ·obtain ⟨r,hr0,_,hr⟩:=e4' b hb
    exact ⟨r,hr0,hr⟩
 | [],_::_,_,_,_,hr=>hr.elim
 | .tmp _::_,[],_,_,_,hr=>hr.elim
 | .cell _ _::_,[],_,_,_,hr=>hr.elim
def it:Nat→List (Bool×List PV)→List (Nat×RV)
 | _,[]=>[]
 | k,q::qs=>(k,RV.sv q.1 q.2)::it (k+1) qs
def aJ:List (Bool×List PV)→RV
 | [q]=>RV.sv q.1 q.2
 | qs=>RV.tup qs
def ry(P:Program)(rs:List ResultVar)(qs:List (Bool×List PV)):Exit→St→Prop
 | .normal,τ=>pP P rs qs τ
 | .ret,τ=>pP P rs qs τ
 | _,_=>False
def BorT.own:∀{qs:List (Bool×List PV)} {k:Nat} {vs:List Value} {i:Nat} {rv:RV},(∀q,q∈qs→aB q.2)→fi qs Fz w vs→lk (it k qs) i=some rv→∃j v,i=k+j∧j < vs.length∧vs[j]?=some v∧rv.holds φ Fz w v []
 | [],_,_,_,_,_,_,h=>by cases h
 | q::qs,k,vs,i,rv,hb,hr,h=>by
  obtain ⟨v,vs',rfl,h1,h2⟩:=hr
  rw [it,lk,beq_eq] at h
  by_cases hi:i=k
  ·rw [decide_eq_true hi] at h
   simp only [cond_true,Option.some.injEq] at h
   subst h
   exact ⟨0,v,ab,aF,rfl,⟨h1.1,(hb q aF).own h1.2⟩⟩
  ·rw [decide_eq_false hi] at h
   obtain ⟨j,u,e1,e2,e3,e4⟩:=BorT.own (k:=k+1) (fun x hx=>hb x fS) h2 h
   exact ⟨j+1,u,ab,iR,by simpa using e3,e4⟩
def fi.len:∀{qs:List (Bool×List PV)} {vs:List Value},fi qs Fz w vs→vs.length=qs.length
 | [],vs,h=>by rw [show vs=[] from h];rfl
 | q::qs,vs,h=>by obtain ⟨v,vs',rfl,_,h2⟩:=h;simp [fi.len h2]
def Ao{f:FuncId}{fn:Func}{c:Code}{args rs:List (Bool×List PV)}(hf:P.funcs[f]?=some fn)(hb:fn.body=some c)(hn:args.length≤fn.ntmps)(hbor:∀q,q∈args→aB q.2)(w:World)(Fz:ay)
  (h:SW P fn.ntmps (fun b=>b < w.heap.size) w Fz c (St.of (it 0 args) []) (ry P fn.results.toList rs)) (vs:List Value) (hz:∀b o,Fz b o→b < w.heap.size) (hrel:fi args Fz w vs):Calls P f vs.toArray w fun e w'=>∃v Fz' F,e = .returned v∧Below w.heap.size w w' ∧
  (∀b o,b < w.heap.size→(Fz' b o↔Fz b o))∧(∀b o,Fz' b o→b < w'.heap.size)∧(∀φ,(aJ rs).holds φ Fz' w' v F)∧F.Nodup∧∀b,b∈F→w.heap.size≤b∧b < w'.heap.size:=by
 have hvl:=hrel.len
 refine calls_of_wp hf hb ?_
 have hc:bl (fun b=>b < w.heap.size) w Fz fn.ntmps (St.of (it 0 args) []) { tmps:=vs.toArray++Array.replicate (fn.ntmps - vs.toArray.size) undef,defers:=[] } w:=by
  refine ⟨fun _=>0,Fz,fun _=>[],⟨nn.refl _ _,rfl,iR,fun _ hb=>hb,fun _ _ _=>Iff.rfl,hz,fun i rv hi=>?_,fun d cs hd=>ri,fun d cs hd=>ri,fun d d' cs cs' hd=>ri,fun _ _ _ b hb=>(by simp at hb),fun _=>List.nodup_nil,fun _ b hb=>(by simp at hb)⟩⟩
  obtain ⟨j,v,e1,e2,e3,e4⟩:=BorT.own (φ:=fun _=>0) hbor hrel hi
  rw [Nat.zero_add] at e1
  subst e1
  have:(vs.toArray++Array.replicate (fn.ntmps - vs.toArray.size) undef).getD i undef=v:=by
   rw [Array.getD_eq_getD_getElem?,Array.getElem?_append_left (by simpa using e2)]
   simp [e3]
  rw [this];exact e4
 refine wp_mono (h _ w hc) fun e a' w' ⟨τ,hq,hc'⟩=>?_
 obtain ⟨φ,Fz',Fp,hc'⟩:=hc'
 have hres:pP P fn.results.toList rs τ→a'.defers=[]∧∃v,(results fn a'.tmps).run P w' = .ok v w'∧∃v' Fz' F,Ending.returned v = .returned v'∧Below w.heap.size w w' ∧
   (∀b o,b < w.heap.size→(Fz' b o↔Fz b o))∧(∀b o,Fz' b o→b < w'.heap.size)∧(∀φ,(aJ rs).holds φ Fz' w' v' F)∧F.Nodup∧∀b,b∈F→w.heap.size≤b∧b < w'.heap.size:=by
  intro hr
  obtain ⟨vs',F,e1,e2,e3,e4⟩:=wQ _ rs hc' hr
  have hF:∀b,b∈F→w.heap.size≤b∧b < w'.heap.size:=fun b hb=>by
   obtain ⟨r,_,hr⟩:=e4 b hb
   exact ⟨Nat.le_of_not_lt (hc'.low r b hr).1,(hc'.low r b hr).2⟩
  have hl:=e2.len
  have erun:Sem.run P (fn.results.mapM (pQ a'.tmps)) w' = .ok vs'.toArray w':=by
   rw [Array.mapM_eq_mapM_toList]
   simp only [map_eq_pure_bind,Sem.run_bind,e1,Result.andThen_ok,Sem.run_pure]
  refine ⟨hc'.dfr,?_⟩
  rw [Hi]
  simp only [Sem.run_bind,erun,Result.andThen_ok,Sem.run_pure]
  refine ⟨_,rfl,_,Fz',F,rfl,⟨hc'.bel.os,hc'.bel.tape,hc'.bel.output,hc'.bel.size,hc'.bel.block⟩,hc'.fz0,hc'.fzl,fun φ=>?_,e3,hF⟩
  by_cases h1:vs'.toArray.size=1
  ·rw [dif_pos h1]
   have hl1:rs.length=1:=by rw [←hl];simpa using h1
   obtain ⟨q,rfl⟩:=List.length_eq_one_iff.1 hl1
   obtain ⟨v,vs2,F1,F2,rfl,rfl,k1,k2,rfl⟩:=e2
   rw [dJ]
   exact k1
  ·rw [dif_neg h1]
   have hne:rs.length≠1:=fun e=>h1 (by simp [hl,e])
   have:aJ rs=RV.tup rs:=by
    cases rs with
    | nil=>rfl
    | cons q rs=>cases rs with
     | nil=>simp at hne
     | cons _ _=>rfl
   rw [this]
   exact ⟨vs'.toArray,rfl,by simpa using e2⟩
 cases e with
 | normal=>exact hres hq
 | ret=>exact hres hq
 | _=>exact hq.elim
def RE{f:FuncId}{fn:Func}{c:Code}{args rs:List (Bool×List PV)}(hf:P.funcs[f]?=some fn)(hb:fn.body=some c)(hn:args.length≤fn.ntmps)(hbor:∀q,q∈args→aB q.2)
  (h:∀(h0:Nat→Prop) (w0:World) (Fz0:ay),SW P fn.ntmps h0 w0 Fz0 c (St.of (it 0 args) []) (ry P fn.results.toList rs)):aS P f args (aJ rs):=
 fun w vs Fz hz hrel=>Ao hf hb hn hbor w Fz (h _ w Fz) vs hz hrel
def dh{b c:Bool}(h:b=c):some (RV.bool b)=some (RV.bool c):=by rw [h]
def fU{b c:Int}(h:b=c):some (RV.int b)=some (RV.int c):=by rw [h]
def cU{o:Fl}{es ds:List (List PV)}(h:es=ds):some (RV.slc o es)=some (RV.slc o ds):=by rw [h]
def eb{ag:Bool}{cs ds:List PV}(h:cs=ds):some (RV.sv ag cs)=some (RV.sv ag ds):=by rw [h]
def PV.to_none{o:Fl}{es:List (List PV)}:(PV.sl o es).To (PV.sl .v es):=fun h=>⟨h.1,True.intro⟩
def RF{α:Type}{xs:List α}{f:α→List PV}{k:Nat}(h:k < xs.length):(xs.map f)[k]?=some (f xs[k]):=jn
def iu{α:Type}{xs:List α}{f:α→List PV}{k:Nat}{cs:List PV}(h:k < xs.length)(hc:f xs[k]=cs):(xs.map f)[k]?=some cs:=by rw [←hc];exact RF h
def rz{p:Nat→Prop}:∀d,(none:Option Nat)=some d→p d:=fun _ h=>nomatch h
def Ap{p:Nat→Prop}{e:Nat}(h:p e):∀d,some e=some d→p d:=fun d hd=>by injection hd with hd;exact hd▸h
def wR(args:List (Bool×List PV)):Prop:=∀q,q∈args→aB q.2
def iv:wR []:=fun q hq=>by simp at hq
def gV{p:Bool×List PV}{l:List (Bool×List PV)}(h:aB p.2)(k:wR l):wR (p::l):=fun q hq=>by
 rcases List.mem_cons.1 hq with rfl|hq
 ·exact h
 ·exact k q hq
def kz{Fz:ay}{w:World}:aC [] Fz w [] []:=⟨rfl,rfl⟩
def cr{Fz:ay}{w:World}{v:Value}{ps:List PV}{vs:List Value}(h:v.oneCell'=true)(k:aC ps Fz w vs []):aC (PV.val v::ps) Fz w (v::vs) []:=⟨v,vs,[],[],rfl,rfl,⟨⟨rfl,h⟩,rfl⟩,k⟩
def eM{Fz:ay}{w:World}{t e:Nat}{ps:List PV}{vs:List Value}(k:aC ps Fz w vs []):aC (PV.sl (.own t e) []::ps) Fz w (.slice none 0 0::vs) []:=
 ⟨_,vs,[],[],rfl,rfl,⟨[],[],World.ownsRow_nil w 0 t e,⟨rfl,rfl⟩,fun g hg=>by simp [Value.ownBlock] at hg,rm,fun g hg=>by simp [Value.ownBlock] at hg⟩,k⟩
end
end
section
section
variable{P:Program}{n:Nat}{ops:Array Oper}{h0:Nat→Prop}{w0:World}{Fz0:ay}{σ τ:St}{a:Act}{w:World}{φ:Nat→Nat}{Fz:ay}{Fp:Nat→List Nat}
def RV.hdr(d m:Nat)(c:Nat:=m):RV where
 holds φ _ _ v F:=(v = .slice (some ⟨φ d,0,none⟩) m c∧m≤c∧c≤maxLen)∧F=[]
 men x:=Nat.beq x d
 mono h _ _ hφ:=⟨⟨by rw [hφ d aF];exact h.1.1,h.1.2⟩,h.2⟩
 lt h:=ku
def Cp.hdr{d m c:Nat}:Cp (RV.hdr d m c) (RV.hdr d m c):=fun h=>⟨h.1,rfl⟩
def acS{α:Type}(xs:List α)(f:α→List PV)(z:List PV)(k:Nat):List (List PV):=(xs.take k).map f++List.replicate (xs.length - k) z
def rC{e:Nat}:∀{es:List (List PV)},(∀cs,cs∈es→cs.length=e)→es.flatten.length=es.length * e
 | [],_=>by simp
 | c::es,h=>by rw [List.flatten_cons,aZ,rC fun x hx=>h x fS,h c aF,List.length_cons,Nat.succ_mul];omega
def Hj(z:Array Value):∀(m:Nat),(madeCells z (m * z.size)).toList=(List.replicate m z.toList).flatten
 | 0=>by simp [madeCells]
 | m+1=>by
  have ih:=Hj z m
  rw [List.replicate_succ',List.flatten_append,←ih]
  apply List.ext_getElem?
  intro j
  by_cases hz:z.size=0
  ·simp [madeCells,hz]
  ·by_cases h1:j < m * z.size
   ·rw [List.getElem?_append_left (by simp [madeCells];exact h1)]
    have h2:j < (m+1) * z.size:=by rw [Nat.succ_mul];omega
    simp [madeCells,h1,h2]
   ·rw [List.getElem?_append_right (by simp [madeCells];omega)]
    have hl:(madeCells z (m * z.size)).toList.length=m * z.size:=by simp [madeCells]
    rw [hl]
    by_cases h2:j < (m+1) * z.size
    ·have h2':=h2
     rw [Nat.succ_mul] at h2'
     have hm:j%z.size=j - m * z.size:=by
      have:j=z.size * m+(j - m * z.size):=by rw [Nat.mul_comm z.size m];omega
      rw [this,Nat.mul_add_mod,Nat.mod_eq_of_lt ab]
      rw [Nat.mul_comm z.size m];omega
     have h3:j - m * z.size < z.size:=ab
     simp [madeCells,h2,hm,h3]
    ·have h2':=h2
     rw [Nat.succ_mul] at h2'
     rw [List.getElem?_eq_none (by simp [madeCells];omega),List.getElem?_eq_none iR]
def Hk{zs:List PV}{vs:List Value}(h:aC zs Fz w vs []):∀m:Nat,aC (List.replicate m zs).flatten Fz w (List.replicate m vs).flatten []
 | 0=>⟨rfl,rfl⟩
 | m+1=>by
  rw [List.replicate_succ,List.replicate_succ,List.flatten_cons,List.flatten_cons]
  exact h.append (Hk h m)
def bi.freeze{h0:Nat→Prop}{w0:World}{Fz0:ay}{σ:St}{a:Act}{w:World}{φ:Nat→Nat}{Fz:ay}{Fp:Nat→List Nat}{s b m c E e:Nat}{es:List (List PV)}{jk:List Value}(hc:bi h0 w0 Fz0 n σ a w φ Fz Fp)
  (hb:σ.b b=some (E,es.flatten++jk.map PV.val)) (hmc:m≤c) (hmx:c≤maxLen) (hl:es.length=m) (he:∀c,c∈es→c.length=e) (hj:m * e+jk.length=c * e) :
  ∃Fz' Fp',bi h0 w0 Fz0 n ((σ.setB b none).set s none) a w φ Fz' Fp'∧da E e es Fz' w (.slice (some ⟨φ b,0,none⟩) m c) (φ b::Fp (2 * b+2))∧(∀x,x∈φ b::Fp (2 * b+2)→x∈Fp' 0)∧(φ b::Fp (2 * b+2)).Nodup∧Fp' (2 * s+1)=[]:=by
 obtain ⟨cur,hg,ho⟩:=hc.box b _ hb
 obtain ⟨k1,k2,k3⟩:=hc.bxb b _ hb
 have hlt:φ b < w.heap.size:=(Array.getElem?_eq_some_iff.1 hg).1
 have c1:=hc.pullB hb
 have c2:=c1.pull s
 have hol:cur.size=c * e:=by
  have:cur.toList.length=(es.flatten++jk.map PV.val).length:=ho.len
  rw [aZ,rC he,aO,hl,hj] at this
  simpa using this
 have hone:=ho.one
 obtain ⟨v1,v2,G1,G2,hv12,hG12,o1,o2⟩:=ho.split
 have hl1:v1.length=es.length * e:=by rw [o1.len,rC he]
 have hG2:G2=[]:=by
  have:∀(jk:List Value) (v2:List Value) (G2:List Nat),aC (jk.map PV.val) Fz w v2 G2→G2=[]:=by
   intro jk
   induction jk with
   | nil=>intro v2 G2 h;exact h.2
   | cons j jk ih=>
    intro v2 G2 h
    obtain ⟨v,vs',F1,F2,_,rfl,h1,h2⟩:=h
    rw [ih _ _ h2,h1.2];rfl
  exact this _ _ _ o2
 subst hG2
 rw [dJ] at hG12
 generalize hF0:(fun x=>if x=0 then φ b::mv Fp (2 * b+2) 0 else mv Fp (2 * b+2) x)=Fp1 at c1 c2
 have e1:Fp1 0=φ b::(Fp (2 * b+2)++Fp 0):=by rw [←hF0];simp [mv]
 have e2:mv Fp1 (2 * s+1) 0=Fp1 (2 * s+1)++Fp1 0:=et
 have hnd:=c1.nod 0
 rw [e1] at hnd
 have hX:∀x,x∈φ b::Fp (2 * b+2)→x∈mv Fp1 (2 * s+1) 0:=by
  intro x hx
  rw [e2,e1]
  rcases List.mem_cons.1 hx with rfl|hx
  ·simp
  ·simp [hx]
 have hndX:(φ b::Fp (2 * b+2)).Nodup:=by
  rw [←List.cons_append] at hnd
  exact (List.nodup_append.1 hnd).1
 have hFin:∀x o,(Fz x o∨(x=φ b∧o < es.length * e))→x < w.heap.size:=by
  rintro x o (h|⟨rfl,_⟩)
  ·exact hc.fzl x o h
  ·exact hlt
 have c3:=c2.world (w':=w) (Fz':=fun x o=>Fz x o∨(x=φ b∧o < es.length * e)) (X:=φ b::Fp (2 * b+2)) rfl rfl rfl (Nat.le_refl _)
  (fun x hx h0=>⟨rfl,fun o ho=>by
   rcases ho with ho|⟨rfl,_⟩
   ·exact ho
   ·exact absurd (hX _ aF) h0⟩) (fun x o hxo=>⟨.inl hxo,rfl⟩) (fun x o h=>hFin x o h) (fun x hx=>.inl (hX x hx)) hndX
 have hsl:da E e es (fun x o=>Fz x o∨(x=φ b∧o < es.length * e)) w (.slice (some ⟨φ b,0,none⟩) m c) (φ b::Fp (2 * b+2)):=by
  refine ⟨v1,Fp (2 * b+2),⟨hl1,.inr ⟨φ b,c,cur,by rw [hl],Nat.zero_le _,hg,ab,hmx,hol,by rw [hv12,←hl1];exact List.take_left⟩⟩,
   (aC.chunk he (by rw [hG12];exact o1)).mono (fun x o h=>⟨.inl h,rfl⟩) (fun x hx=>⟨rfl,fun o ho=>by
    rcases ho with ho|⟨rfl,_⟩
    ·exact ho
    ·exact absurd hx (k3 _)⟩),?_,by simp [Value.ownBlock],?_⟩
  ·intro g hg' o
   simp [Value.ownBlock] at hg'
   subst hg'
   constructor
   ·rintro (h|⟨_,h⟩)
    ·exact absurd h (k2 o)
    ·exact h
   ·intro h;exact .inr ⟨rfl,h⟩
  ·intro g hg' cur' t' o' hc' x hx
   simp [Value.ownBlock] at hg'
   subst hg'
   rw [hg] at hc'
   simp only [Option.some.injEq,Obj.cells.injEq] at hc'
   rw [←hc'.1] at hx
   exact hone x hx
 exact ⟨_,_,c3,hsl,fun x hx=>by simpa using hx,hndX,et⟩
end
end
end Go.Proofs.YtmekkgdboplbjaaGreatDoor.M
namespace Go.Proofs.YtmekkgdboplbjaaGreatDoor.M
open Go Go.RowKit
def PV.nv(u:Value)(p:PV):PV where
 rel Fz w v:=v=u∧p.rel Fz w v
 own Fz w v F:=v=u∧p.own Fz w v F
 one h:=p.one h.2
 toRel h:=⟨h.1,p.toRel h.2⟩
 relMono h k:=⟨h.1,p.relMono h.2 k⟩
 ownMono h k hh:=⟨h.1,p.ownMono h.2 k hh⟩
 lt h:=p.lt h.2
def PV.nv_to{u:Value}{p q:PV}(h:p.To q):(PV.nv u p).To q:=fun k=>h k.2
def PV.bor_nv{u:Value}{p:PV}(h:p.Bor):(PV.nv u p).Bor:=fun k=>⟨k.1,h k.2⟩
def Nm(ps:List PV)(us:List Value):Prop:=∀{Fz:ay} {w:World} {vs:List Value},bE ps Fz w vs→vs=us
def Nm.nil:Nm [] []:=fun h=>h
def Nm.nv{u:Value}{p:PV}{ps:List PV}{us:List Value}(h:Nm ps us):Nm (PV.nv u p::ps) (u::us):=fun hh=>by
 obtain ⟨v,vs',rfl,h1,h2⟩:=hh
 rw [h1.1,h h2]
def Nm.val{u:Value}{ps:List PV}{us:List Value}(h:Nm ps us):Nm (PV.val u::ps) (u::us):=fun hh=>by
 obtain ⟨v,vs',rfl,h1,h2⟩:=hh
 rw [h1.1,h h2]
def iw(ps qs:List PV):Prop:=∀{Fz:ay} {w:World} {vs:List Value} {F:List Nat},aC ps Fz w vs F→aC qs Fz w vs F
def iw.nil:iw [] []:=fun h=>h
def iw.nv{u:Value}{p:PV}{ps qs:List PV}(h:iw ps qs):iw (PV.nv u p::ps) (p::qs):=fun hh=>by
 obtain ⟨v,vs',F1,F2,rfl,rfl,h1,h2⟩:=hh
 exact ⟨v,vs',F1,F2,rfl,rfl,h1.2,h h2⟩
def iw.same{p:PV}{ps qs:List PV}(h:iw ps qs):iw (p::ps) (p::qs):=fun hh=>by
 obtain ⟨v,vs',F1,F2,rfl,rfl,h1,h2⟩:=hh
 exact ⟨v,vs',F1,F2,rfl,rfl,h1,h h2⟩
def PV.ToB(L:Nat→Prop)(p q:PV):Prop:=∀{Fz:ay} {w:World} {v:Value},(∀b o,Fz b o→L b)→p.rel Fz w v→q.rel Fz w v
def ao(L:Nat→Prop):List PV→List PV→Prop
 | [],[]=>True
 | p::ps,q::qs=>p.ToB L q∧ao L ps qs
 | _,_=>False
def PV.tob_refl{L:Nat→Prop}{p:PV}:p.ToB L p:=fun _ h=>h
def ao.nil{L:Nat→Prop}:ao L [] []:=True.intro
def ao.cons{L:Nat→Prop}{p q:PV}{ps qs:List PV}(h:p.ToB L q)(k:ao L ps qs):ao L (p::ps) (q::qs):=⟨h,k⟩
def ao.len{L:Nat→Prop}:∀{ps qs:List PV},ao L ps qs→ps.length=qs.length
 | [],[],_=>rfl
 | _::_,_::_,h=>by simp [ao.len h.2]
def ao.rel{L:Nat→Prop}{Fz:ay}{w:World}(hz:∀b o,Fz b o→L b):∀{ps qs:List PV} {vs:List Value},ao L ps qs→bE ps Fz w vs→bE qs Fz w vs
 | [],[],_,_,h=>h
 | p::ps,q::qs,_,k,h=>by obtain ⟨v,vs',rfl,h1,h2⟩:=h;exact ⟨v,vs',rfl,k.1 hz h1,ao.rel hz k.2 h2⟩
def ao.at_{L:Nat→Prop}:∀{ps qs:List PV} {j:Nat} {q:PV},ao L ps qs→qs[j]?=some q→∃p,ps[j]?=some p∧p.ToB L q
 | [],[],_,_,_,h=>by simp at h
 | p::ps,q'::qs,0,q,k,h=>by simp at h;subst h;exact ⟨p,rfl,k.1⟩
 | p::ps,q'::qs,j+1,q,k,h=>by simp at h;simpa using ao.at_ k.2 h
def PV.tob_map{α:Type}{L:Nat→Prop}{o:Fl}{xs:List α}{f g:α→List PV}(hne:∀x,0 < (f x).length)(h:∀x,ao L (f x) (g x)):(PV.sl o (xs.map f)).ToB L (PV.sl (.lo L) (xs.map g)):=by
 intro Fz w v hz hr
 obtain ⟨⟨a,c,e,u,rfl,h1,h2,h3,h4,h5⟩,_⟩:=hr
 rw [aO] at *
 refine ⟨⟨a,c,e,u,by rw [aO],by rw [aO];exact h1,h2,?_,?_,?_⟩,?_⟩
 ·intro cs hcs
  obtain ⟨x,hx,rfl⟩:=List.mem_map.1 hcs
  rw [←(h x).len];exact h3 _ (List.mem_map.2 ⟨x,hx,rfl⟩)
 ·rcases h4 with h4|⟨b,off,ha,h4⟩
  ·left
   simpa using h4
  ·exact .inr ⟨b,off,ha,fun i j hi hj=>h4 i j nj hj⟩
 ·intro i cs' j q hi hj
  rw [List.getElem?_map] at hi
  cases hx:xs[i]? with
  | none=>rw [hx] at hi;simp at hi
  | some x=>
   rw [hx] at hi;simp at hi;subst hi
   obtain ⟨p,hp,hto⟩:=(h x).at_ hj
   exact hto hz (h5 i (f x) j p (by rw [List.getElem?_map,hx];rfl) hp)
 ·show _∨_
  rw [aO]
  cases xs with
  | nil=>exact .inl rfl
  | cons x xs=>
   right
   intro g hg
   rcases h4 with h4|⟨b,off,rfl,h4⟩
   ·simp at h4
   ·simp [Value.ownBlock] at hg
    subst hg
    have he:0 < e:=by rw [←h3 (f x) aF];exact hne x
    exact hz _ _ (h4 0 0 aF he).1
def ov(L:Nat→Prop):List (Bool×List PV)→List (Bool×List PV)→Prop
 | [],[]=>True
 | p::ps,q::qs=>(p.1=q.1∧ao L p.2 q.2)∧ov L ps qs
 | _,_=>False
def ov.rel{L:Nat→Prop}{Fz:ay}{w:World}(hz:∀b o,Fz b o→L b):∀{ps qs:List (Bool×List PV)} {vs:List Value},ov L ps qs→fi ps Fz w vs→fi qs Fz w vs
 | [],[],_,_,h=>h
 | p::ps,q::qs,_,k,h=>by
  obtain ⟨v,vs',rfl,h1,h2⟩:=h
  exact ⟨v,vs',rfl,⟨h1.1.trans k.1.1,k.1.2.rel hz h1.2⟩,ov.rel hz k.2 h2⟩
def ov.len{L:Nat→Prop}:∀{ps qs:List (Bool×List PV)},ov L ps qs→ps.length=qs.length
 | [],[],_=>rfl
 | _::_,_::_,h=>by simp [ov.len h.2]
def PV.Lcl(L:Nat→Prop)(p:PV):Prop:=∀{Fz Fz':ay} {w w':World} {v:Value} {F:List Nat},p.own Fz w v F→(∀b,L b∨b∈F→w'.heap[b]?=w.heap[b]?∧∀o,Fz' b o↔Fz b o)→p.own Fz' w' v F
def PV.LclR(L:Nat→Prop)(p:PV):Prop:=∀{Fz Fz':ay} {w w':World} {v:Value},p.rel Fz w v→(∀b,L b→w'.heap[b]?=w.heap[b]?∧∀o,Fz' b o↔Fz b o)→p.rel Fz' w' v
def az(L:Nat→Prop)(ps:List PV):Prop:=∀p,p∈ps→p.Lcl L
def ix(L:Nat→Prop)(ps:List PV):Prop:=∀p,p∈ps→p.LclR L
def RV.Lcl(L:Nat→Prop)(r:RV):Prop:=∀{φ:Nat→Nat} {Fz Fz':ay} {w w':World} {v:Value} {F:List Nat},r.holds φ Fz w v F→(∀b,L b∨b∈F→w'.heap[b]?=w.heap[b]?∧∀o,Fz' b o↔Fz b o)→r.holds φ Fz' w' v F
def PV.lcl_val{L:Nat→Prop}{x:Value}:(PV.val x).Lcl L:=fun h _=>h
def PV.lclr_val{L:Nat→Prop}{x:Value}:(PV.val x).LclR L:=fun h _=>h
def PV.lcl_nv{L:Nat→Prop}{u:Value}{p:PV}(h:p.Lcl L):(PV.nv u p).Lcl L:=fun k hk=>⟨k.1,h k.2 hk⟩
def az.nil{L:Nat→Prop}:az L []:=fun p hp=>by simp at hp
def az.cons{L:Nat→Prop}{p:PV}{ps:List PV}(h:p.Lcl L)(k:az L ps):az L (p::ps):=fun q hq=>by
 rcases List.mem_cons.1 hq with rfl|hq
 ·exact h
 ·exact k q hq
def az.app{L:Nat→Prop}{ps qs:List PV}(h:az L ps)(k:az L qs):az L (ps++qs):=fun q hq=>by
 rcases List.mem_append.1 hq with hq|hq
 ·exact h q hq
 ·exact k q hq
def az.flat{L:Nat→Prop}{es:List (List PV)}(h:∀cs,cs∈es→az L cs):az L es.flatten:=fun q hq=>by
 obtain ⟨cs,h1,h2⟩:=List.mem_flatten.1 hq
 exact h cs h1 q h2
def az.map{L:Nat→Prop}{α:Type}{xs:List α}{f:α→List PV}(h:∀x,az L (f x)):∀cs,cs∈xs.map f→az L cs:=fun cs hcs=>by
 obtain ⟨x,_,rfl⟩:=List.mem_map.1 hcs
 exact h x
def az.vals{L:Nat→Prop}{xs:List Value}:az L (xs.map PV.val):=fun p hp=>by
 obtain ⟨x,_,rfl⟩:=List.mem_map.1 hp
 exact PV.lcl_val
def ix.nil{L:Nat→Prop}:ix L []:=fun p hp=>by simp at hp
def ix.cons{L:Nat→Prop}{p:PV}{ps:List PV}(h:p.LclR L)(k:ix L ps):ix L (p::ps):=fun q hq=>by
 rcases List.mem_cons.1 hq with rfl|hq
 ·exact h
 ·exact k q hq
def ix.map{L:Nat→Prop}{α:Type}{xs:List α}{f:α→List PV}(h:∀x,ix L (f x)):∀cs,cs∈xs.map f→ix L cs:=fun cs hcs=>by
 obtain ⟨x,_,rfl⟩:=List.mem_map.1 hcs
 exact h x
def az.own{L:Nat→Prop}{Fz Fz':ay}{w w':World}:∀{ps:List PV} {vs:List Value} {F:List Nat},az L ps→aC ps Fz w vs F→(∀b,L b∨b∈F→w'.heap[b]?=w.heap[b]?∧∀o,Fz' b o↔Fz b o)→aC ps Fz' w' vs F
 | [],_,_,_,h,_=>h
 | p::ps,vs,F,hl,h,hk=>by
  obtain ⟨v,vs',F1,F2,rfl,rfl,h1,h2⟩:=h
  exact ⟨v,vs',F1,F2,rfl,rfl,hl p aF h1 (fun b hb=>hk b tZ),
   az.own (fun q hq=>hl q (by simp [hq])) h2 fun b hb=>hk b tZ⟩
def Aq{L:Nat→Prop}{e:Nat}{Fz Fz':ay}{w w':World}:∀{es:List (List PV)} {vs:List Value} {F:List Nat},(∀cs,cs∈es→az L cs)→bY e es Fz w vs F→(∀b,L b∨b∈F→w'.heap[b]?=w.heap[b]?∧∀o,Fz' b o↔Fz b o)→bY e es Fz' w' vs F
 | [],_,_,_,h,_=>h
 | cs::es,vs,F,hl,h,hk=>by
  obtain ⟨c,d,F1,F2,rfl,rfl,h0,h1,h2⟩:=h
  exact ⟨c,d,F1,F2,rfl,rfl,h0,(hl cs aF).own h1 (fun b hb=>hk b tZ),
   Aq (fun q hq=>hl q (by simp [hq])) h2 fun b hb=>hk b tZ⟩
def PV.lcl_own{L:Nat→Prop}{t e:Nat}{es:List (List PV)}(h:∀cs,cs∈es→az L cs):(PV.sl (.own t e) es).Lcl L:=by
 intro Fz Fz' w w' v F hh hk
 obtain ⟨css,F',ho,hl,hf,rfl,h1⟩:=hh
 refine ⟨css,F',⟨ho.1,?_⟩,Aq h hl (fun b hb=>hk b tZ),?_,rfl,?_⟩
 ·rcases ho.2 with hn|⟨g,cap,cur,rfl,hb,hg,rest⟩
  ·exact .inl hn
  ·exact .inr ⟨g,cap,cur,rfl,hb,(hk g rm).1.trans hg,rest⟩
 ·intro g hg o
  rw [(hk g (by simp [hg])).2 o];exact hf g hg o
 ·intro g hg cur t' o hc
  rw [(hk g (by simp [hg])).1] at hc
  exact h1 g hg cur t' o hc
def PV.lclr_lo{L:Nat→Prop}{es:List (List PV)}(h:∀cs,cs∈es→ix L cs):(PV.sl (.lo L) es).LclR L:=by
 intro Fz Fz' w w' v hh hk
 obtain ⟨⟨a,c,e,u,rfl,h1,h2,h3,h4,h5⟩,hlo⟩:=hh
 refine ⟨⟨a,c,e,u,rfl,h1,h2,h3,?_,fun i cs j p hi hj=>h cs (List.mem_of_getElem? hi) p (List.mem_of_getElem? hj) (h5 i cs j p hi hj) hk⟩,hlo⟩
 rcases h4 with h4|⟨b,off,rfl,h4⟩
 ·exact .inl h4
 ·rcases hlo with hlo|hlo
  ·exact .inl (iS hlo)
  ·refine .inr ⟨b,off,rfl,fun i j hi hj=>?_⟩
   have hbl:=hk b (hlo b rfl)
   exact ⟨(hbl.2 _).2 (h4 i j hi hj).1,(World.cell?_of_block hbl.1).trans (h4 i j hi hj).2⟩
def PV.lcl_lo{L:Nat→Prop}{es:List (List PV)}(h:∀cs,cs∈es→ix L cs):(PV.sl (.lo L) es).Lcl L:=fun hh hk=>⟨PV.lclr_lo h hh.1 fun b hb=>hk b (.inl hb),hh.2⟩
def RV.lcl_sv{L:Nat→Prop}{ag:Bool}{cs:List PV}(h:az L cs):(RV.sv ag cs).Lcl L:=fun hh hk=>⟨hh.1,h.own hh.2 hk⟩
def RV.lcl_ptr{L:Nat→Prop}{d off:Nat}:(RV.ptr d off).Lcl L:=fun hh _=>hh
def RV.lcl_hdr{L:Nat→Prop}{d m c:Nat}:(RV.hdr d m c).Lcl L:=fun hh _=>hh
end Go.Proofs.YtmekkgdboplbjaaGreatDoor.M
namespace Go.Proofs.YtmekkgdboplbjaaGreatDoor.M
open Go Go.RowKit
section
section
variable{P:Program}{n:Nat}{h0:Nat→Prop}{w0:World}{Fz0:ay}{σ:St}{Q:Exit→St→Prop}{c:Code}
def RG{o:Fl}{es:List (List PV)}{Fz:ay}{w:World}{v:Value}(h:(PV.sl o es).rel Fz w v):es.length≤9223372036854775807:=by
 obtain ⟨⟨a,c,e,u,_,h1,h2,_⟩,_⟩:=h
 unfold maxLen at h2
 omega
def RH{s j:Nat}{ag:Bool}{cs:List PV}{o:Fl}{es:List (List PV)}(hs:σ.s s=some (RV.sv ag cs))(hj:cs[j]?=some (PV.sl o es))(h:es.length≤9223372036854775807→SW P n h0 w0 Fz0 c σ Q):SW P n h0 w0 Fz0 c σ Q:=fun a w hc=>by
 have hc':=hc
 obtain ⟨φ,Fz,Fp,k⟩:=hc'
 obtain ⟨v,_,hr⟩:=(k.slot s _ hs).2.rel.at_ hj
 exact h (RG hr) a w hc
end
end
end Go.Proofs.YtmekkgdboplbjaaGreatDoor.M
namespace Go.Proofs.YtmekkgdboplbjaaGreatDoor.M
open Go Go.RowKit
section
section
variable{P:Program}{n:Nat}{h0:Nat→Prop}{w0:World}{Fz0:ay}
section
variable{σ:St}{a:Act}{w w':World}{φ:Nat→Nat}{Fz Fz':ay}{Fp:Nat→List Nat}{L:Nat→Prop}
def bi.uworld(h:bi h0 w0 Fz0 n σ a w φ Fz Fp)(hos:w'.os=w.os)(htape:w'.tape=w.tape)(hout:w'.output=w.output)(hsz:w.heap.size≤w'.heap.size)
  (hb:∀b,b < w.heap.size→b∉Fp 0→w'.heap[b]?=w.heap[b]?∧∀o,Fz' b o↔Fz b o) (hL:∀b,L b→h0 b) (hls:∀i rv,σ.s i=some rv→rv.Lcl L) (hlb:∀d bx,σ.b d=some bx→az L bx.2)
  (hl:∀b o,Fz' b o→b < w'.heap.size) {X:List Nat} (hX:∀b,b∈X→b∈Fp 0∨(w.heap.size≤b∧b < w'.heap.size)) (hn:X.Nodup) :
  bi h0 w0 Fz0 n σ a w' φ Fz' (fun x=>if x=0 then X else Fp x):=by
 have key:∀r,r≠0→∀b,L b∨b∈Fp r→w'.heap[b]?=w.heap[b]?∧∀o,Fz' b o↔Fz b o:=fun r hr b hbr=>by
  rcases hbr with hbr|hbr
  ·exact hb b (h.hlt b (hL b hbr)) fun hm=>(h.low 0 b hm).1 (hL b hbr)
  ·exact hb b (h.low r b hbr).2 (h.dis r 0 hr b hbr)
 have hmem:∀x b,b∈(if x=0 then X else Fp x)→(x=0∧b∈X)∨(x≠0∧b∈Fp x):=by
  intro x b hb
  split at hb
  ·rename_i hx;exact .inl ⟨hx,hb⟩
  ·rename_i hx;exact .inr ⟨hx,hb⟩
 refine ⟨h.bel.trans ⟨hos,htape,hout,hsz,fun k hk'=>(hb k (h.hlt k hk') fun hm=>(h.low 0 k hm).1 hk').1⟩,h.dfr,h.siz,fun b hb'=>Nat.lt_of_lt_of_le (h.hlt b hb') hsz,?_,hl,?_,?_,?_,h.inj,?_,?_,?_⟩
 ·intro b o hbl
  rw [←h.fz0 b o hbl]
  exact (hb b (h.hlt b hbl) fun hm=>(h.low 0 b hm).1 hbl).2 o
 ·intro i rv hi
  rw [if_neg ab]
  exact hls i rv hi (h.slot i rv hi) (key _ ab)
 ·intro d cs hd
  obtain ⟨cur,h1,h2⟩:=h.box d cs hd
  obtain ⟨k1,k2,k3⟩:=h.bxb d cs hd
  have hlt:φ d < w.heap.size:=(Array.getElem?_eq_some_iff.1 h1).1
  rw [if_neg ab]
  exact ⟨cur,(hb _ hlt (k3 0)).1.trans h1,(hlb d cs hd).own h2 (key _ ab)⟩
 ·intro d cs hd
  obtain ⟨cur,h1,h2⟩:=h.box d cs hd
  obtain ⟨k1,k2,k3⟩:=h.bxb d cs hd
  have hlt:φ d < w.heap.size:=(Array.getElem?_eq_some_iff.1 h1).1
  refine ⟨k1,fun o ho=>k2 o (((hb _ hlt (k3 0)).2 o).1 ho),fun r hr=>?_⟩
  rcases hmem _ _ hr with ⟨rfl,hr⟩|⟨_,hr⟩
  ·rcases hX _ hr with hr|hr
   ·exact k3 0 hr
   ·omega
  ·exact k3 r hr
 ·intro r r' hne b hr hr'
  rcases hmem _ _ hr with ⟨rfl,hr⟩|⟨e1,hr⟩<;>rcases hmem _ _ hr' with ⟨rfl,hr'⟩|⟨e2,hr'⟩
  ·exact hne rfl
  ·rcases hX _ hr with hr|hr
   ·exact h.dis 0 r' hne b hr hr'
   ·have:=(h.low r' b hr').2;omega
  ·rcases hX _ hr' with hr'|hr'
   ·exact h.dis r 0 hne b hr hr'
   ·have:=(h.low r b hr).2;omega
  ·exact h.dis r r' hne b hr hr'
 ·intro r
  split
  ·exact hn
  ·exact h.nod r
 ·intro r b hr
  rcases hmem _ _ hr with ⟨rfl,hr⟩|⟨e1,hr⟩
  ·rcases hX _ hr with hr|hr
   ·exact ⟨(h.low 0 b hr).1,by have:=(h.low 0 b hr).2;omega⟩
   ·exact ⟨fun hh=>by have:=h.hlt b hh;omega,hr.2⟩
  ·exact ⟨(h.low r b hr).1,by have:=(h.low r b hr).2;omega⟩
def bi.reslot(h:bi h0 w0 Fz0 n σ a w φ Fz Fp){s:Nat}{rv:RV}(hv:rv.holds φ Fz w (a.tmps.getD s undef) (Fp (2 * s+1))):bi h0 w0 Fz0 n (σ.set s (some rv)) a w φ Fz Fp:=
 { h with
  slot:=fun i r hi=>by
   rw [St.set_s] at hi
   split at hi
   ·rename_i hs;subst hs;injection hi with hi;subst hi;exact hv
   ·exact h.slot i r hi
  box:=fun d bx hd=>h.box d bx hd
  bxb:=fun d bx hd=>h.bxb d bx hd
  inj:=fun d d' cs cs' h1 h2=>h.inj d d' cs cs' h1 h2 }
def bi.rebox(h:bi h0 w0 Fz0 n σ a w φ Fz Fp){d t:Nat}{cs cs':List PV}(hd:σ.b d=some (t,cs))(hv:∀(cur:Array Value),aC cs Fz w cur.toList (Fp (2 * d+2))→w.heap[φ d]?=some (.cells cur t (0,0))→aC cs' Fz w cur.toList (Fp (2 * d+2))) :
  bi h0 w0 Fz0 n (σ.setB d (some (t,cs'))) a w φ Fz Fp:=
 { h with
  slot:=fun i r hi=>h.slot i r hi
  box:=fun e bx he=>by
   rw [St.setB_b] at he
   split at he
   ·rename_i hs;subst hs;injection he with he;subst he
    obtain ⟨cur,h1,h2⟩:=h.box _ _ hd
    exact ⟨cur,h1,hv cur h2 h1⟩
   ·exact h.box e bx he
  bxb:=fun e bx he=>by
   rw [St.setB_b] at he
   split at he
   ·rename_i hs;subst hs;exact h.bxb _ _ hd
   ·exact h.bxb e bx he
  inj:=fun e e' cs1 cs2 h1 h2=>by
   rw [St.setB_b] at h1 h2
   have f:∀x y,(if x=d then some (t,cs') else σ.b x)=some y→∃z,σ.b x=some z:=by
    intro x y hx
    split at hx
    ·rename_i hs;subst hs;exact ⟨_,hd⟩
    ·exact ⟨y,hx⟩
   obtain ⟨z1,f1⟩:=f _ _ h1
   obtain ⟨z2,f2⟩:=f _ _ h2
   exact h.inj e e' z1 z2 f1 f2 }
end
section
variable{σ:St}{Q:Exit→St→Prop}{c:Code}
def Hl{Fz:ay}{w:World}{A ms B:List PV}{vs:List Value}{F:List Nat}(h:aC (A++(ms++B)) Fz w vs F):∃vA vM vB FA FM FB,vs=vA++(vM++vB)∧F=FA++(FM++FB)∧aC A Fz w vA FA∧aC ms Fz w vM FM∧aC B Fz w vB FB:=by
 obtain ⟨v1,v2,F1,F2,rfl,rfl,k1,k2⟩:=aC.split h
 obtain ⟨v3,v4,F3,F4,rfl,rfl,k3,k4⟩:=aC.split k2
 exact ⟨_,_,_,_,_,_,rfl,rfl,k1,k3,k4⟩
def fV{d t:Nat}{cs cs':List PV}(hd:σ.b d=some (t,cs))(he:cs=cs')(h:SW P n h0 w0 Fz0 c (σ.setB d (some (t,cs'))) Q):SW P n h0 w0 Fz0 c σ Q:=fun a w hc=>by
 obtain ⟨φ,Fz,Fp,hc⟩:=hc
 exact h a w ⟨φ,Fz,Fp,hc.rebox hd fun _ k _=>he▸k⟩
def ug(L:Nat→Prop)(s:Nat):List (Nat×RV)→Prop
 | []=>True
 | p::l=>(p.1=s∨p.2.Lcl L)∧ug L s l
def uh(L:Nat→Prop)(d:Nat):List (Nat×(Nat×List PV))→Prop
 | []=>True
 | p::l=>(p.1=d∨az L p.2.2)∧uh L d l
def ug.mem{L:Nat→Prop}{s:Nat}:∀{l:List (Nat×RV)},ug L s l→∀p,p∈l→p.1=s∨p.2.Lcl L
 | [],_,p,hp=>by simp at hp
 | q::l,h,p,hp=>by
  rcases List.mem_cons.1 hp with rfl|hp
  ·exact h.1
  ·exact ug.mem h.2 p hp
def uh.mem{L:Nat→Prop}{s:Nat}:∀{l:List (Nat×(Nat×List PV))},uh L s l→∀p,p∈l→p.1=s∨az L p.2.2
 | [],_,p,hp=>by simp at hp
 | q::l,h,p,hp=>by
  rcases List.mem_cons.1 hp with rfl|hp
  ·exact h.1
  ·exact uh.mem h.2 p hp
def RV.nm(u:Value)(r:RV):RV where
 holds φ Fz w v F:=v=u∧r.holds φ Fz w v F
 men:=r.men
 mono h k hh hφ:=⟨h.1,r.mono h.2 k hh hφ⟩
 lt h:=r.lt h.2
def RV.lcl_nm{L:Nat→Prop}{u:Value}{r:RV}(h:r.Lcl L):(RV.nm u r).Lcl L:=fun hh hk=>⟨hh.1,h hh.2 hk⟩
def Cp.nm{u:Value}{r r':RV}(h:Cp r r'):Cp (RV.nm u r) r':=fun k=>h k.2
def bY.flat{e:Nat}{Fz:ay}{w:World}:∀{es:List (List PV)} {vs:List Value} {F:List Nat},bY e es Fz w vs F→aC es.flatten Fz w vs F
 | [],_,_,h=>h
 | cs::es,vs,F,h=>by
  obtain ⟨c,d,F1,F2,rfl,rfl,h0,h1,h2⟩:=h
  exact h1.append (bY.flat h2)
end
end
end
section
section
variable{P:Program}{n:Nat}{h0:Nat→Prop}{w0:World}{Fz0:ay}{ops:Array Oper}{σ:St}{Q:Exit→St→Prop}
def kC(P:Program)(n:Nat)(h0:Nat→Prop)(w0:World)(Fz0:ay)(ops:Array Oper)(l:List Oper)(σ:St)(Q:Exit→St→Prop):Prop:=
 ∀a w,bl h0 w0 Fz0 n σ a w→wpList P ops (fun e a' w'=>∃τ,Q e τ∧bl h0 w0 Fz0 n τ a' w') l a w
def Ar(h:Q .normal σ):kC P n h0 w0 Fz0 ops [] σ Q:=fun a w hc=>⟨σ,h,hc⟩
def RI{o:Oper}{l:List Oper}{L:aR}(h1:aN L.rs σ.s)(h2:aN L.rb σ.b)(hl:dD P n ops o L)(h3:∀d,L.al=some d→fp d σ)(h5:kC P n h0 w0 Fz0 ops l (σ.app L) Q):kC P n h0 w0 Fz0 ops (o::l) σ Q:=fun a w hc=>by
 have k:=hl (K:=wpList P ops (fun e a' w'=>∃τ,Q e τ∧bl h0 w0 Fz0 n τ a' w') l) (Q:=fun e a' w'=>∃τ,Q e τ∧bl h0 w0 Fz0 n τ a' w') hc h1 h2 h3 (fun a' w' hc'=>h5 a' w' hc')
 unfold wpList
 split
 ·rename_i hw;rw [if_pos hw] at k;exact .inl k
 ·rename_i hw;rw [if_neg hw] at k;exact k
def As{id:Nat}(h:kC P n h0 w0 Fz0 ops ops.toList σ Q):SW P n h0 w0 Fz0 (.region id ops false) σ Q:=fun a w hc=>wp_region_list (h a w hc)
def RJ{l:List (Nat×RV)}{b:List (Nat×(Nat×List PV))}{ol:List Oper}(hl:aN l σ.s)(hb:aN b σ.b)(h:kC P n h0 w0 Fz0 ops ol (St.of l b) Q):kC P n h0 w0 Fz0 ops ol σ Q:=fun a w hc=>h a w (hc.of hl hb)
def Hm{a:Act}{s:Nat}:a.put (some s) (a.tmps.getD s undef)=a:=by
 have:a.tmps.setIfInBounds s (a.tmps.getD s undef)=a.tmps:=by
  apply Array.ext_getElem?
  intro i
  by_cases hi:s=i
  ·subst hi
   by_cases hlt:s < a.tmps.size
   ·rw [Array.getElem?_setIfInBounds_self_of_lt hlt,Array.getD_eq_getD_getElem?,Array.getElem?_eq_getElem hlt];rfl
   ·rw [Array.setIfInBounds_eq_of_size_le ab]
  ·rw [Array.getElem?_setIfInBounds_ne hi]
 show Act.mk (a.tmps.setIfInBounds s (a.tmps.getD s undef)) a.defers=a
 rw [this]
def ui(us:List Value)(qs ms:List PV):Prop:=∀{Fz:ay} {w:World} {F:List Nat},aC qs Fz w us F→aC ms Fz w us F
def ui.nil:ui [] [] []:=fun h=>h
def ui.nv{u:Value}{us:List Value}{p:PV}{qs ms:List PV}(h:ui us qs ms):ui (u::us) (p::qs) (PV.nv u p::ms):=fun hh=>by
 obtain ⟨v,vs',F1,F2,e,rfl,h1,h2⟩:=hh
 injection e with e1 e2
 subst e1 e2
 exact ⟨_,_,F1,F2,rfl,rfl,⟨rfl,h1⟩,h h2⟩
def rD(L:Nat→Prop):List (Nat×(Nat×List PV))→Prop
 | []=>True
 | p::l=>az L p.2.2∧rD L l
def rD.mem{L:Nat→Prop}:∀{l:List (Nat×(Nat×List PV))},rD L l→∀p,p∈l→az L p.2.2
 | [],_,p,hp=>by simp at hp
 | q::l,h,p,hp=>by
  rcases List.mem_cons.1 hp with rfl|hp
  ·exact h.1
  ·exact rD.mem h.2 p hp
def ml(L:Nat→Prop)(l:List (Nat×RV)):Prop:=∀p,p∈l→p.2.Lcl L
def ml.nil{L:Nat→Prop}:ml L []:=fun p hp=>by simp at hp
def ml.cons{L:Nat→Prop}{p:Nat×RV}{l:List (Nat×RV)}(h:p.2.Lcl L)(k:ml L l):ml L (p::l):=fun q hq=>by
 rcases List.mem_cons.1 hq with rfl|hq
 ·exact h
 ·exact k q hq
def uj{f:FuncId}{fn:Func}{c:Code}{args:List (Bool×List PV)}{largs:(Nat→Prop)→List (Bool×List PV)}{rs:List (Bool×List PV)}(hf:P.funcs[f]?=some fn)(hb:fn.body=some c)(hn:args.length≤fn.ntmps)(hto:∀L,ov L args (largs L))(hbor:∀L q,q∈largs L→aB q.2)
  (h:∀(w0:World) (Fz0:ay),SW P fn.ntmps (Lw w0.heap.size) w0 Fz0 c (St.of (it 0 (largs (Lw w0.heap.size))) []) (ry P fn.results.toList rs)):aS P f args (aJ rs):=by
 intro w vs Fz hz hrel
 exact Ao hf hb (by rw [←(hto (Lw w.heap.size)).len];exact hn) (hbor _) w Fz (h w Fz) vs hz ((hto (Lw w.heap.size)).rel hz hrel)
end
end
end Go.Proofs.YtmekkgdboplbjaaGreatDoor.M
namespace Go.Proofs.YtmekkgdboplbjaaGreatDoor.M
open Go Go.RowKit
section
section
variable{P:Program}{n:Nat}
variable{T T2:TypeId}{x y:Operand}{d:Nat}{ty:TypeId}{pos:String}{af:Array Edge}{g:Option (Nat×Bool)}{i j:Bool}(hd:d < n)(hT:P.underlying T=some .bool)(hx:bu x (RV.bool i))(hy:bu y (RV.bool j))
include hd hT hx hy
def RK:Loc P n ⟨some d,.binOp .eql T x y T2,ty,pos,af,g⟩ ⟨bg x (RV.bool i)++bg y (RV.bool j),[],[(d,some (RV.bool (i==j)))],[],none⟩:=
 iq hd hx hy rfl fun w=>by simp [eqGuard,run_eql_bool w T i j hT]
end
section
variable{P:Program}{n:Nat}
end
end
end Go.Proofs.YtmekkgdboplbjaaGreatDoor.M
namespace Go.Proofs.YtmekkgdboplbjaaGreatDoor.M
open Go Go.RowKit
section
section
variable{P:Program}{n:Nat}{h0:Nat→Prop}{w0:World}{Fz0:ay}{σ:St}{Q:Exit→St→Prop}{c:Code}
def Hn{α:Type}{A m B:List α}{o:Nat}(ho:o≤m.length):(A++(m++B)).take (A.length+o)=A++m.take o:=by
 rw [List.take_append,oo ab,show A.length+o - A.length=o by omega,List.take_append_of_le_length ho]
def wS{α:Type}{A m B:List α}{o:Nat}(ho:o≤m.length):(A++(m++B)).drop (A.length+o)=m.drop o++B:=by
 rw [List.drop_append,List.drop_of_length_le ab,show A.length+o - A.length=o by omega,List.drop_append_of_le_length ho,List.nil_append]
def uk{T p b off t o:Nat}{x:Operand}{ty:TypeId}{pos:String}{af:Array Edge}{g:Option (Nat×Bool)}{ag:Bool}{k:Nat}{A m B vs:List PV}(hoff:off=A.length+o)(hT:cl P T=some (ag,k))(hx:bu x (RV.sv ag vs))(hv:vs.length=k)(hk:o+k≤m.length) :
  Loc P n ⟨none,.store T (.tmp p) x,ty,pos,af,g⟩ ⟨(p,RV.ptr b off)::bg x (RV.sv ag vs),[(b,(t,A++(m++B)))],ot x,[(b,some (t,A++((m.take o++(vs++m.drop (o+k)))++B)))],none⟩:=by
 have h:Loc P n ⟨none,.store T (.tmp p) x,ty,pos,af,g⟩ ⟨(p,RV.ptr b off)::bg x (RV.sv ag vs),[(b,(t,A++(m++B)))],ot x,[(b,some (t,(A++(m++B)).take off++(vs++(A++(m++B)).drop (off+k))))],none⟩:=
  bZ hT hx hv zU
 have e:(A++(m++B)).take off++(vs++(A++(m++B)).drop (off+k))=A++((m.take o++(vs++m.drop (o+k)))++B):=by
  rw [hoff,Hn ab,show A.length+o+k=A.length+(o+k) by omega,wS hk]
  simp only [aW]
 rw [e] at h
 exact @h
def At{T d p b off t o:Nat}{ty:TypeId}{pos:String}{af:Array Edge}{g:Option (Nat×Bool)}{ag:Bool}{k:Nat}{A m B qs:List PV}(hoff:off=A.length+o)(hd:d < n)(hT:cl P T=some (ag,k))(h1:ag=false→k=1)(hk:o+k≤m.length)
  (ht:aA ((m.drop o).take k) qs) (hb:aB qs) :
  Loc P n ⟨some d,.load T (.tmp p),ty,pos,af,g⟩ ⟨[(p,RV.ptr b off)],[(b,(t,A++(m++B)))],[(d,some (RV.sv ag qs))],[],none⟩:=
 rt hd hT h1 zU (by
  rw [hoff,wS ab,List.take_append_of_le_length pL];exact ht) hb
end
section
variable{α:Type}{f:α→Int→α×Int}
variable{c:α→List PV}
def cV{t:Nat}{cs ds:List PV}(h:cs=ds):some (t,cs)=some (t,ds):=by rw [h]
end
end
section
def RV.gh(us:List Value)(cs:List PV):RV where
 holds _ Fz w _ F:=aC cs Fz w us F
 men _:=false
 mono h k hh _:=h.mono k hh
 lt h:=h.lt
def RV.lcl_gh{L:Nat→Prop}{us:List Value}{cs:List PV}(h:az L cs):(RV.gh us cs).Lcl L:=fun hh hk=>h.own hh hk
section
variable{P:Program}{n:Nat}{h0:Nat→Prop}{w0:World}{Fz0:ay}{σ:St}{Q:Exit→St→Prop}{c:Code}
def jP(Fp:Nat→List Nat)(r q:Nat):Nat→List Nat:=fun x=>if x=q then Fp r else if x=r then [] else Fp x
def Au{Fp:Nat→List Nat}{r q x b:Nat}(h:b∈jP Fp r q x):(x=q∧b∈Fp r)∨(x≠q∧x≠r∧b∈Fp x):=by
 unfold jP at h
 split at h
 ·rename_i e;exact .inl ⟨e,h⟩
 ·split at h
  ·simp at h
  ·rename_i e1 e2;exact .inr ⟨e1,e2,h⟩
def RL{Fp:Nat→List Nat}{r q:Nat}(dis:∀r r',r≠r'→∀b,b∈Fp r→b∉Fp r'):∀x y,x≠y→∀b,b∈jP Fp r q x→b∉jP Fp r q y:=by
 intro x y hxy b hb hb'
 rcases Au hb with ⟨e1,h1⟩|⟨e1,e2,h1⟩<;>rcases Au hb' with ⟨f1,h2⟩|⟨f1,f2,h2⟩
 ·omega
 ·exact dis _ _ (fun e=>f2 e.symm) b h1 h2
 ·exact dis _ _ e2 b h1 h2
 ·exact dis _ _ hxy b h1 h2
def RM{Fp:Nat→List Nat}{r q:Nat}(nod:∀r,(Fp r).Nodup):∀x,(jP Fp r q x).Nodup:=by
 intro x
 unfold jP
 split
 ·exact nod r
 ·split
  ·exact List.nodup_nil
  ·exact nod x
def RN{d t G:Nat}{us:List Value}{ps cs:List PV}(hd:σ.b d=some (t,ps))(hn:Nm ps us)(hG:σ.s G=some (RV.gh us cs))(h:SW P n h0 w0 Fz0 c ((σ.set G none).setB d (some (t,cs))) Q):SW P n h0 w0 Fz0 c σ Q:=fun a w hc=>by
 obtain ⟨φ,Fz,Fp,hc⟩:=hc
 have hg:aC cs Fz w us (Fp (2 * G+1)):=hc.slot G _ hG
 have c1:=hc.pull G
 have e0:mv Fp (2 * G+1) 0=Fp (2 * G+1)++Fp 0:=et
 obtain ⟨cur,h1,h2⟩:=c1.box d (t,ps) hd
 obtain ⟨g1,g2,g3⟩:=c1.bxb d (t,ps) hd
 have hu:cur.toList=us:=hn h2.rel
 have c2:=c1.pullB (d:=d) (cs:=(t,ps)) hd
 generalize hFp1:mv Fp (2 * G+1)=Fp1 at c1 c2 e0 h2 g3
 have hnd:=c2.nod 0
 simp only [if_true] at hnd
 have em:mv Fp1 (2 * d+2) 0=Fp1 (2 * d+2)++Fp1 0:=et
 rw [em,e0] at hnd
 have c3:=c2.pushB (d:=d) (g:=φ d) (t:=t) (cs:=cs) (F:=Fp (2 * G+1)) (X:=Fp 0) iP h1 (by rw [hu];exact hg) g2
  (fun x hx=>by
   simp only [if_true]
   rw [em,e0]
   rcases List.mem_append.1 hx with hx|hx
   ·simp [hx]
   ·rcases List.mem_cons.1 hx with rfl|hx
    ·simp
    ·simp [hx])
  (by
   simp only [jN,cB] at hnd
   obtain ⟨m0,m1⟩:=hnd
   have m2:=(List.nodup_append.1 m1).2.1
   rw [cS] at m2 ⊢
   refine ⟨m2.1,List.nodup_cons.2 ⟨fun hh=>m0 (.inr (.inr hh)),m2.2.1⟩,fun x hx y hy e=>?_⟩
   rcases List.mem_cons.1 hy with rfl|hy
   ·exact m0 (.inr (.inl (e▸hx)))
   ·exact m2.2.2 x hx y hy e)
  (.inl rfl)
 exact h a w (bl.eqv ⟨_,_,_,c3⟩ (fun i=>rfl) (fun e=>by
  simp only [St.setB_b,St.set_b]
  split<;>rfl))
def RO{s G:Nat}{us:List Value}{ag:Bool}{ps cs:List PV}(hs:σ.s s=some (RV.sv ag ps))(hn:Nm ps us)(hsG:Nat.beq s G=false)(hsn:s < n)(hG:σ.s G=some (RV.gh us cs))(h:SW P n h0 w0 Fz0 c ((σ.set G none).set s (some (RV.sv ag cs))) Q):SW P n h0 w0 Fz0 c σ Q:=fun a w hc=>by
 rw [beq_eq,decide_eq_false_iff_not] at hsG
 obtain ⟨φ,Fz,Fp,hc⟩:=hc
 have hg:aC cs Fz w us (Fp (2 * G+1)):=hc.slot G _ hG
 have hv:=hc.slot s _ hs
 have hu:(a.tmps.getD s undef).cells.toList=us:=hn hv.2.rel
 have c1:=hc.pull s
 have c2:=c1.pull G
 have e1:mv Fp (2 * s+1) (2 * G+1)=Fp (2 * G+1):=Gx
 have e2:mv (mv Fp (2 * s+1)) (2 * G+1) 0=Fp (2 * G+1)++mv Fp (2 * s+1) 0:=by
  rw [←e1];simp [mv]
 have hnd:=c2.nod 0
 rw [e2] at hnd
 have c3:=c2.push (i:=s) (rv:=RV.sv ag cs) (v:=a.tmps.getD s undef) (F:=Fp (2 * G+1)) (X:=mv Fp (2 * s+1) 0) hsn ⟨hv.1,by rw [hu];exact hg⟩ (fun x hx=>by rw [e2];exact hx) hnd
 rw [Hm] at c3
 exact h a w (bl.eqv ⟨_,_,_,c3⟩ (fun i=>by
  simp only [St.set_s]
  split
  ·rfl
  ·split
   ·rfl
   ·rfl) (fun e=>rfl))
end
section
variable{P:Program}{n:Nat}
def rE:Option Operand→RV→List (Nat×RV)
 | none,_=>[]
 | some x,r=>bg x r
def pR:Option Operand→Prop→RV→Prop
 | none,p,_=>p
 | some x,_,r=>bu x r
def wT{α:Type}{T E e bs d s:Nat}{lo hi:Option Operand}{ty:TypeId}{pos:String}{af:Array Edge}{g:Option (Nat×Bool)}{o:Fl}{xs ys:List α}{f:α→List PV}{i j:Nat}{q r:Int}(hd:d < n)(hT:dY P T=some (E,e,bs))
  (hlo:pR lo (i=0) (RV.int q)) (hhi:pR hi (j=xs.length) (RV.int r)) (hq:q=(i:Int)) (hr:r=(j:Int)) (hij:i≤j) (hj:j≤xs.length) (he:∀x,(f x).length=e) (hy:(xs.take j).drop i=ys) :
  Loc P n ⟨some d,.slice T (.tmp s) lo hi none,ty,pos,af,g⟩ ⟨(s,RV.slc o (xs.map f))::(rE lo (RV.int q)++rE hi (RV.int r)),[],[(d,some (RV.slc .v (ys.map f)))],[],none⟩:=by
 subst hq hr hy
 rw [List.map_drop,List.map_take]
 have hj':j≤(xs.map f).length:=by simpa using hj
 have he':∀cs,cs∈xs.map f→cs.length=e:=fun cs hcs=>by obtain ⟨x,_,rfl⟩:=List.mem_map.1 hcs;exact he x
 intro h0 w0 Fz0 σ a w K Q hc hr hb hf hk
 cases lo with
 | none=>cases hi with
  | none=>exact wM (lo:=none) (hi:=none) (o:=o) (es:=xs.map f) (i:=i) (j:=j) hd hT hlo Ga hij hj' he' hc hr hb hf hk
  | some y=>exact wM (lo:=none) (hi:=some y) (o:=o) (es:=xs.map f) (i:=i) (j:=j) hd hT hlo hhi hij hj' he' hc hr hb hf hk
 | some x=>cases hi with
  | none=>exact wM (lo:=some x) (hi:=none) (o:=o) (es:=xs.map f) (i:=i) (j:=j) hd hT hlo Ga hij hj' he' hc hr hb hf hk
  | some y=>exact wM (lo:=some x) (hi:=some y) (o:=o) (es:=xs.map f) (i:=i) (j:=j) hd hT hlo hhi hij hj' he' hc hr hb hf hk
end
end
section
section
variable{P:Program}{n:Nat}{h0:Nat→Prop}{w0:World}{Fz0:ay}{ops:Array Oper}
def e0:aR:=⟨[],[],[],[],none⟩
def RP(AI:List (Nat×aR))(σ τ:St):Prop:=∀x,(∀q,q∈AI→gD q.2.ws x=false)→τ.s x=σ.s x
end
section
variable{P:Program}{n:Nat}{h0:Nat→Prop}{w0:World}{Fz0:ay}{ops:Array Oper}
def bi.pushG{σ:St}{a:Act}{w:World}{φ:Nat→Nat}{Fz:ay}{Fp:Nat→List Nat}(h:bi h0 w0 Fz0 n σ a w φ Fz Fp){G:Nat}{us:List Value}{cs:List PV}{F X:List Nat}(ho:aC cs Fz w us F)(hX:∀b,b∈F++X→b∈Fp 0)(hn:(F++X).Nodup) :
  bi h0 w0 Fz0 n (σ.set G (some (RV.gh us cs))) a w φ Fz (cH Fp (2 * G+1) F X):=
 { h with
  slot:=fun i rv hi=>by
   rw [St.set_s] at hi
   split at hi
   ·rename_i e
    subst e
    injection hi with hi
    subst hi
    simp only [cH,if_true]
    exact ho
   ·rename_i e
    simp only [cH]
    rw [if_neg ab,if_neg ab]
    exact h.slot i rv hi
  box:=fun d bx hd=>by
   obtain ⟨cur,h1,h2⟩:=h.box d bx hd
   refine ⟨cur,h1,?_⟩
   simp only [cH]
   rw [if_neg ab,if_neg ab]
   exact h2
  bxb:=fun d bx hd=>by
   obtain ⟨g1,g2,g3⟩:=h.bxb d bx hd
   refine ⟨g1,g2,fun r hr=>?_⟩
   rcases lf hr with ⟨_,k⟩|⟨_,_,k⟩|⟨_,_,k⟩
   ·exact g3 0 (hX _ rp)
   ·exact g3 0 (hX _ rp)
   ·exact g3 _ k
  inj:=fun d d' cs cs' h1 h2=>h.inj d d' cs cs' h1 h2
  dis:=wz ab hX hn h.dis
  nod:=wB hn h.nod
  low:=fun r b hb=>by
   rcases lf hb with ⟨_,k⟩|⟨_,_,k⟩|⟨_,_,k⟩
   ·exact h.low 0 b (hX _ rp)
   ·exact h.low 0 b (hX _ rp)
   ·exact h.low r b k }
def rF(Fz:ay)(w:World):List (List Value)→List (Bool×List PV)→Prop
 | [],[]=>True
 | us::uss,q::l=>bE q.2 Fz w us∧rF Fz w uss l
 | _,_=>False
def rF.cons{uss:List (List Value)}{q:Bool×List PV}{l:List (Bool×List PV)}(h:∃Fz w,rF Fz w uss (q::l)):∃us rest,uss=us::rest∧us.length=q.2.length∧(∃Fz w,bE q.2 Fz w us)∧∃Fz w,rF Fz w rest l:=by
 obtain ⟨Fz,w,h⟩:=h
 cases uss with
 | nil=>exact h.elim
 | cons us rest=>exact ⟨us,rest,rfl,h.1.len,⟨Fz,w,h.1⟩,⟨Fz,w,h.2⟩⟩
def rF.nil{uss:List (List Value)}(h:∃Fz w,rF Fz w uss []):uss=[]:=by
 obtain ⟨Fz,w,h⟩:=h
 cases uss with
 | nil=>rfl
 | cons _ _=>exact h.elim
def aN.ext{AI:List (Nat×aR)}{σ τ:St}(h:RP AI σ τ):∀{l:List (Nat×RV)},(AI.all fun q=>!gE q.2.ws l)=true→aN l σ.s→aN l τ.s:=by
 intro l hm hr
 refine aN.of_mem fun p hp=>?_
 rw [h p.1 fun q hq=>?_]
 ·exact hr.mem p hp
 ·have:=List.all_eq_true.1 hm q hq
  rw [Bool.not_eq_true'] at this
  cases hx:gD q.2.ws p.1
  ·rfl
  ·have h2:=wC this p.1 hx
   rw [GI hp] at h2;cases h2
def RQ{t d i:Nat}{ty:TypeId}{pos:String}{af:Array Edge}{g:Option (Nat×Bool)}{l:List (Bool×List PV)}{ag:Bool}{cs:List PV}(hd:d < n)(hi:l[i]?=some (ag,cs))(hb:aB cs) :
  Loc P n ⟨some d,.extract (.tmp t) i,ty,pos,af,g⟩ ⟨[(t,RV.tup l)],[],[(d,some (RV.sv ag cs))],[],none⟩:=by
 intro h0 w0 Fz0 σ a w K Q hc hr _ _ h5
 obtain ⟨φ,Fz,Fp,hc⟩:=hc
 obtain ⟨vs,ev,hvs⟩:=hc.slot t _ hr.1
 obtain ⟨v,F1,F2,hv,h1,_⟩:=hvs.take hi (aA.refl cs) hb (hc.nod _)
 have hown:bH ag cs Fz w v []:=⟨h1.1,hb.own h1.2.rel⟩
 refine cN (v:=v) (w':=w) ?_ (h5 _ _ (hc.put0 hd hown))
 have ev':a.eval (.tmp t) = .tuple vs:=ev
 unfold execOp
 have hv':vs[i]?=some v:=by simpa using hv
 simp [ev',Instr.extract,hv']
end
end
section
def fi.mono{Fz Fz':ay}{w w':World}(k:eK Fz w Fz' w'):∀{l:List (Bool×List PV)} {vs:List Value},fi l Fz w vs→fi l Fz' w' vs
 | [],_,h=>h
 | p::l,vs,h=>by
  obtain ⟨v,vs',rfl,h1,h2⟩:=h
  exact ⟨v,vs',rfl,⟨h1.1,h1.2.mono k⟩,h2.mono k⟩
def fi.app{Fz:ay}{w:World}:∀{l m:List (Bool×List PV)} {vs us:List Value},fi l Fz w vs→fi m Fz w us→fi (l++m) Fz w (vs++us)
 | [],m,vs,us,h,k=>by rw [show vs=[] from h];exact k
 | p::l,m,vs,us,h,k=>by
  obtain ⟨v,vs',rfl,h1,h2⟩:=h
  exact ⟨v,vs'++us,rfl,h1,h2.app k⟩
def PV.clo(P:Program){γ:Type}(as_:γ→List (Bool×List PV))(r:γ→RV):PV where
 rel Fz w v:=∃(f:FuncId) (cap:Array Value) (caps:List (Bool×List PV)),v = .func (.func f) #[] cap∧aL P f=true∧fi caps Fz w cap.toList∧∀x,aS P f (as_ x++caps) (r x)
 own Fz w v F:=(∃(f:FuncId) (cap:Array Value) (caps:List (Bool×List PV)),v = .func (.func f) #[] cap∧aL P f=true∧fi caps Fz w cap.toList∧∀x,aS P f (as_ x++caps) (r x))∧F=[]
 one h:=by obtain ⟨f,cap,caps,rfl,_⟩:=h;rfl
 toRel h:=h.1
 relMono h k:=by obtain ⟨f,cap,caps,h1,h2,h3,h4⟩:=h;exact ⟨f,cap,caps,h1,h2,h3.mono k,h4⟩
 ownMono h k _:=by obtain ⟨⟨f,cap,caps,h1,h2,h3,h4⟩,h5⟩:=h;exact ⟨⟨f,cap,caps,h1,h2,h3.mono k,h4⟩,h5⟩
 lt h:=ku
def PV.bor_clo{P:Program}{γ:Type}(as_:γ→List (Bool×List PV))(r:γ→RV):(PV.clo P as_ r).Bor:=fun h=>⟨h,rfl⟩
def PV.ep(cs:List PV):PV where
 rel Fz w v:=∃b off vs,v = .pointer (some ⟨b,off,none⟩)∧bE cs Fz w vs∧∀(j:Nat) u,vs[j]?=some u→Fz b (off+j)∧w.cell? ⟨b,off+j,none⟩=some u
 own Fz w v F:=(∃b off vs,v = .pointer (some ⟨b,off,none⟩)∧bE cs Fz w vs∧∀(j:Nat) u,vs[j]?=some u→Fz b (off+j)∧w.cell? ⟨b,off+j,none⟩=some u)∧F=[]
 one h:=by obtain ⟨b,off,vs,rfl,_⟩:=h;rfl
 toRel h:=h.1
 relMono h k:=by
  obtain ⟨b,off,vs,hv,hr,hc⟩:=h
  exact ⟨b,off,vs,hv,hr.mono k,fun j u hu=>⟨(k _ _ (hc j u hu).1).1,(k _ _ (hc j u hu).1).2.trans (hc j u hu).2⟩⟩
 ownMono h k _:=by
  obtain ⟨⟨b,off,vs,hv,hr,hc⟩,hF⟩:=h
  exact ⟨⟨b,off,vs,hv,hr.mono k,fun j u hu=>⟨(k _ _ (hc j u hu).1).1,(k _ _ (hc j u hu).1).2.trans (hc j u hu).2⟩⟩,hF⟩
 lt h:=ku
def PV.bor_ep(cs:List PV):(PV.ep cs).Bor:=fun h=>⟨h,rfl⟩
section
variable{P:Program}{n:Nat}
end
section
variable{P:Program}{n:Nat}{h0:Nat→Prop}{w0:World}{Fz0:ay}{σ:St}{Q:Exit→St→Prop}{c:Code}
end
end
end Go.Proofs.YtmekkgdboplbjaaGreatDoor.M
namespace Go.Proofs.YtmekkgdboplbjaaGreatDoor.M
open Go Go.RowKit
section
section
variable{P:Program}{n:Nat}
def Ho{Fz:ay}{w:World}:∀{xs:List Value} {l:List Value} {F:List Nat},aC (xs.map PV.val) Fz w l F→l=xs
 | [],l,F,h=>h.1
 | x::xs,l,F,h=>by
  obtain ⟨v,vs',F1,F2,rfl,_,h1,h2⟩:=h
  rw [Ho h2,h1.1.1]
def Hp{Fz:ay}{w:World}{xs:List Value}{v:Value}{F:List Nat}(h:bH true (xs.map PV.val) Fz w v F):v = .agg xs.toArray:=by
 obtain ⟨h1,h2⟩:=h
 have h3:=Ho h2
 cases v<;>simp [pN] at h1
 rename_i c
 have:c.toList=xs:=h3
 rw [←this]
def RR{op:BinOp}{T T2:TypeId}{x y:Nat}{d:Nat}{ty:TypeId}{pos:String}{af:Array Edge}{g:Option (Nat×Bool)}(xs ys:List Value){r:Bool}(hd:d < n)
  (h:∀w:World,Sem.run P (do eqGuard op T (.tmp x) (.tmp y) (.agg xs.toArray) (.agg ys.toArray);binOp op T (.agg xs.toArray) (.agg ys.toArray):Sem Value) w = .ok (.bool r) w) :
  Loc P n ⟨some d,.binOp op T (.tmp x) (.tmp y) T2,ty,pos,af,g⟩ ⟨[(x,RV.sv true (xs.map PV.val)),(y,RV.sv true (ys.map PV.val))],[],[(d,some (RV.bool r))],[],none⟩:=by
 intro h0 w0 Fz0 σ a w K Q h1 h2 _ _ h5
 obtain ⟨φ,Fz,Fp,hc⟩:=h1
 have ex:a.eval (.tmp x) = .agg xs.toArray:=Hp (hc.slot x _ h2.1)
 have ey:a.eval (.tmp y) = .agg ys.toArray:=Hp (hc.slot y _ h2.2.1)
 refine cN (v:=.bool r) (w':=w) ?_ (h5 _ _ (hc.put0 hd (bH.of_sc rfl)))
 unfold execOp
 simp only [ex,ey,Sem.run_bind,h,Result.andThen_ok,Sem.run_pure]
def RS{T:TypeId}{x y:Operand}{i j:Int}{w:World}(h:j≠0):Sem.run P (do eqGuard .rem T x y (vI i) (vI j);binOp .rem T (vI i) (vI j):Sem Value) w = .ok (vI (i.tmod j)) w:=by
 simp [eqGuard,binOp,Op.intDiv,h]
def Av{T T2:TypeId}{x y:Operand}{d:Nat}{ty:TypeId}{pos:String}{af:Array Edge}{g:Option (Nat×Bool)}{i j:Int}(hd:d < n)(hx:bu x (RV.int i))(hy:bu y (RV.int j))(h:j≠0) :
  Loc P n ⟨some d,.binOp .rem T x y T2,ty,pos,af,g⟩ ⟨bg x (RV.int i)++bg y (RV.int j),[],[(d,some (RV.int (i.tmod j)))],[],none⟩:=iq hd hx hy rfl fun _=>RS h
end
end
section
section
variable{P:Program}{n:Nat}{ops:Array Oper}{σ:St}{QS:St→Prop}{o:Oper}{l:List Oper}
def av.s1{L:aR}(h1:aN L.rs σ.s:=by repeat (first|exact True.intro|refine And.intro rfl ?_))(h2:aN L.rb σ.b:=by repeat (first|exact True.intro|refine And.intro rfl ?_))(x:Loc P n o L)(y:av P n ops QS l (σ.app L))(hg:o.guard=none:=by exact rfl)(ha:L.al=none:=by exact rfl):av P n ops QS (o::l) σ:=
 av.step h1 h2 (dD.of hg x) (fun d hd=>by rw [ha] at hd;cases hd) y
def av.s2{L:aR}{g s:Nat}{b c:Bool}(hg:o.guard=some (g,b):=by exact rfl)(hs:(ops[g]?).bind (·.dst)=some s:=by exact rfl)(h1:aN ((s,RV.bool c)::L.rs) σ.s:=by repeat (first|exact True.intro|refine And.intro rfl ?_))(h2:aN L.rb σ.b:=by repeat (first|exact True.intro|refine And.intro rfl ?_))(hb:c=b)(x:Loc P n o L)(y:av P n ops QS l (σ.app ⟨(s,RV.bool c)::L.rs,L.rb,L.ws,L.wb,L.al⟩))(hlt:s < n:=by decide)(ha:L.al=none:=by exact rfl):av P n ops QS (o::l) σ:=
 av.step (L:=⟨(s,RV.bool c)::L.rs,L.rb,L.ws,L.wb,L.al⟩) h1 h2 (dD.yes hg hs hlt hb x) (fun d hd=>by have hd:L.al=some d:=hd;rw [ha] at hd;cases hd) y
def av.s0f{g s d:Nat}{c:Bool}(hb:c=false)(h5:av P n ops QS l (σ.app ⟨[(s,RV.bool c)],[],[(d,some RV.und)],[],none⟩))(hg:o.guard=some (g,true):=by exact rfl)(hs:(ops[g]?).bind (·.dst)=some s:=by exact rfl)(hlt:s < n:=by decide)(hd:o.dst=some d:=by exact rfl)
  (h1:σ.s s=some (RV.bool c):=by exact rfl):av P n ops QS (o::l) σ:=
 av.step (L:=⟨[(s,RV.bool c)],[],[(d,some RV.und)],[],none⟩) ⟨h1,True.intro⟩ True.intro (dD.no hg hs hlt hb hd) rz h5
def av.s0t{g s d:Nat}{c:Bool}(hb:c=true)(h5:av P n ops QS l (σ.app ⟨[(s,RV.bool c)],[],[(d,some RV.und)],[],none⟩))(hg:o.guard=some (g,false):=by exact rfl)(hs:(ops[g]?).bind (·.dst)=some s:=by exact rfl)(hlt:s < n:=by decide)(hd:o.dst=some d:=by exact rfl)
  (h1:σ.s s=some (RV.bool c):=by exact rfl):av P n ops QS (o::l) σ:=
 av.step (L:=⟨[(s,RV.bool c)],[],[(d,some RV.und)],[],none⟩) ⟨h1,True.intro⟩ True.intro (dD.no hg hs hlt hb hd) rz h5
def av.su{g s d:Nat}{b:Bool}(h5:av P n ops QS l (σ.app ⟨[(s,RV.und)],[],[(d,some RV.und)],[],none⟩))(hg:o.guard=some (g,b):=by exact rfl)(hs:(ops[g]?).bind (·.dst)=some s:=by exact rfl)(hd:o.dst=some d:=by exact rfl)
  (h1:σ.s s=some RV.und:=by exact rfl):av P n ops QS (o::l) σ:=
 av.step (L:=⟨[(s,RV.und)],[],[(d,some RV.und)],[],none⟩) ⟨h1,True.intro⟩ True.intro (dD.noU hg hs hd) rz h5
end
def q1{p:Prop}[Decidable p]:(decide p=true)=p:=decide_eq_true_eq
def q2{p:Prop}[Decidable p]:decide p=false↔¬p:=decide_eq_false_iff_not
def q3{α:Type}[BEq α][LawfulBEq α]{a b:α}:(a != b)=true↔a≠b:=bne_iff_ne
def q4{α:Type}[BEq α][LawfulBEq α]{a b:α}:(a==b)=true↔a=b:=beq_iff_eq
def q5{b:Bool}:((!b)=true)=(b=false):=Bool.not_eq_true' b
def q6{b:Bool}:((!b)=false)=(b=true):=Bool.not_eq_false' b
def q7{α:Type}{a b:α}:(a≠b)=¬a=b:=ne_eq a b
def q8{α:Type}[BEq α][LawfulBEq α]{a b:α}:(a != b)=false↔a=b:=bne_eq_false_iff_eq
def q9{α:Type}[BEq α][LawfulBEq α]{a b:α}:(a==b)=false↔a≠b:=beq_eq_false_iff_ne
end
end Go.Proofs.YtmekkgdboplbjaaGreatDoor.M
namespace Go.Proofs.YtmekkgdboplbjaaGreatDoor.M
open Go Go.RowKit
section
section
variable{P:Program}{n:Nat}{h0:Nat→Prop}{w0:World}{Fz0:ay}
def RV.gat(u:Value)(D m cp:Nat):RV where
 holds φ _ _ _ F:=(u = .slice (some ⟨φ D,0,none⟩) m cp∧m≤cp∧cp≤maxLen)∧F=[]
 men x:=Nat.beq x D
 mono h _ _ hφ:=⟨⟨by rw [hφ D aF];exact h.1.1,h.1.2⟩,h.2⟩
 lt h:=ku
def RV.lcl_gat{L:Nat→Prop}{u:Value}{D m cp:Nat}:(RV.gat u D m cp).Lcl L:=fun h _=>h
def PV.any:PV where
 rel _ _ v:=v.oneCell'=true
 own _ _ v F:=v.oneCell'=true∧F=[]
 one h:=h
 toRel h:=h.1
 relMono h _:=h
 ownMono h _ _:=h
 lt h:=ku
def PV.to_any{p:PV}:p.To PV.any:=fun h=>p.one h
def PV.bor_any:PV.any.Bor:=fun h=>⟨h,rfl⟩
def PV.lcl_any{L:Nat→Prop}:PV.any.Lcl L:=fun h _=>h
section
variable{σ:St}{a:Act}{w:World}{φ:Nat→Nat}{Fz:ay}{Fp:Nat→List Nat}
def bi.thawF(hc:bi h0 w0 Fz0 n σ a w φ Fz Fp){D G E e:Nat}{L:Nat→Prop}{u:Value}{es:List (List PV)}{F X:List Nat}(ho:da E e es Fz w u F)(hne:es≠[])(hX:∀b,b∈F++X→b∈Fp 0)(hn:(F++X).Nodup)
  (hD:σ.b D=none) (hG:σ.s G=none) (hm:∀i rv,σ.s i=some rv→rv.men D=false) (hL:∀x,L x→h0 x) (hls:∀i rv,σ.s i=some rv→rv.Lcl L) (hlb:∀d bx,σ.b d=some bx→az L bx.2) (hes:∀cs,cs∈es→az L cs) :
  ∃(cp:Nat) (jk:List Value),es.length≤9223372036854775807∧es.length≤cp∧es.length * e+jk.length=cp * e∧bl h0 w0 Fz0 n ((σ.setB D (some (E,es.flatten++jk.map PV.val))).set G (some (RV.gat u D es.length cp))) a w:=by
 obtain ⟨css,F',ho,hl,hf,hF,h1⟩:=ho
 rcases ho.2 with ⟨_,hn0⟩|⟨g,cap,cur,hval,_,hg,hnc,hcm,hcs,htake⟩
 ·exact absurd (iS hn0) hne
 have hob:u.ownBlock=some g:=by rw [hval];rfl
 rw [hob] at hF hf
 have hF:F=g::F':=hF
 subst hF
 have hg0:g∈Fp 0:=hX g aF
 have hgl:=hc.low 0 g hg0
 have c2:=hc.uworld (w':=w) (Fz':=fun x o=>Fz x o∧x≠g) (L:=L) rfl rfl rfl (Nat.le_refl _)
  (fun x hx h0'=>⟨rfl,fun o=>⟨fun k=>k.1,fun k=>⟨k,fun e=>h0' (by rw [e];exact hg0)⟩⟩⟩) hL hls hlb
  (fun x o k=>hc.fzl x o k.1) (X:=g::F'++X) (fun x hx=>.inl (hX x hx)) hn
 have hgF:g∉F':=by
  have:=(List.nodup_append.1 hn).1
  exact (List.nodup_cons.1 this).1
 have hl2:bY e es (fun x o=>Fz x o∧x≠g) w css F':=Aq (L:=L) hes hl (fun x hx=>⟨rfl,fun o=>⟨fun k=>k.1,fun k=>⟨k,fun e=>by
   rcases hx with hx|hx
   ·exact hgl.1 (e▸hL x hx)
   ·rw [e] at hx;exact hgF hx⟩⟩⟩)
 have hone:=h1 g hob cur E (0,0) hg
 have hjl:es.length * e+(cur.toList.drop (es.length * e)).length=cap * e:=by
  have hle:es.length * e≤cap * e:=Nat.mul_le_mul_right _ hnc
  rw [lb,show cur.toList.length=cap * e from by rw [←hcs];simp];omega
 have hcur:aC (es.flatten++(cur.toList.drop (es.length * e)).map PV.val) (fun x o=>Fz x o∧x≠g) w cur.toList F':=by
  have k:=(bY.flat hl2).append (wK (Fz:=fun x o=>Fz x o∧x≠g) (w:=w) (vs:=cur.toList.drop (es.length * e)) fun v hv=>hone v (List.mem_of_mem_drop hv))
  rw [←htake,fh,dJ] at k
  exact k
 have c3:=c2.pushB (d:=D) (g:=g) (t:=E) (cs:=es.flatten++(cur.toList.drop (es.length * e)).map PV.val) (F:=F') (X:=X) hD hg hcur (fun o k=>k.2 rfl)
  (fun x hx=>by
   simp only [if_true]
   rcases List.mem_append.1 hx with hx|hx
   ·simp [hx]
   ·rcases List.mem_cons.1 hx with rfl|hx
    ·simp
    ·simp [hx])
  (by
   simp only [List.cons_append,jN,cB] at hn
   rw [cS] at hn ⊢
   obtain ⟨k1,k2,k3,k4⟩:=hn
   refine ⟨k2,List.nodup_cons.2 ⟨fun hh=>k1 (.inr hh),k3⟩,fun x hx y hy e=>?_⟩
   rcases List.mem_cons.1 hy with rfl|hy
   ·exact k1 (.inl (e▸hx))
   ·exact k4 x hx y hy e)
  (.inr hm)
 have c4:=(c3.pull G).reslot (s:=G) (rv:=RV.gat u D es.length cap) ⟨⟨by rw [hval];simp,hnc,hcm⟩,et⟩
 refine ⟨cap,_,by unfold maxLen at hcm;omega,hnc,hjl,bl.eqv ⟨_,_,_,c4⟩ (fun i=>by
  simp only [St.set_s,St.setB_s]
  split<;>rfl) (fun d=>rfl)⟩
end
variable{Q:Exit→St→Prop}{c:Code}
def rG(L:Nat→Prop):List (Nat×(Nat×List PV))→Prop
 | []=>True
 | p::l=>az L p.2.2∧rG L l
def rG.mem{L:Nat→Prop}:∀{l:List (Nat×(Nat×List PV))},rG L l→∀p,p∈l→az L p.2.2
 | [],_,p,hp=>by simp at hp
 | q::l,h,p,hp=>by
  rcases List.mem_cons.1 hp with rfl|hp
  ·exact h.1
  ·exact rG.mem h.2 p hp
def ul(L:Nat→Prop):List (Nat×RV)→Prop
 | []=>True
 | p::l=>p.2.Lcl L∧ul L l
def ul.mem{L:Nat→Prop}:∀{l:List (Nat×RV)},ul L l→∀p,p∈l→p.2.Lcl L
 | [],_,p,hp=>by simp at hp
 | q::l,h,p,hp=>by
  rcases List.mem_cons.1 hp with rfl|hp
  ·exact h.1
  ·exact ul.mem h.2 p hp
def rH{l:List (Nat×RV)}{b:List (Nat×(Nat×List PV))}(d t D G E e:Nat)(L:Nat→Prop)(A B:List PV){es:List (List PV)}(hd:lk b d=some (t,A++([PV.sl (.own E e) es]++B)))(hne:es≠[])(hD:lk b D=none)(hG:lk l G=none)(hdD:Nat.beq D d=false)(hfr:(l.all fun p=>!p.2.men D)=true)
  (hL:∀x,L x→h0 x) (hls:ul L l) (hlb:uh L d b) (hA:az L A) (hB:az L B) (hes:∀cs,cs∈es→az L cs)
  (h:∀(u:Value) (cp:Nat) (jk:List Value),es.length≤9223372036854775807→es.length≤cp→es.length * e+jk.length=cp * e→SW P n h0 w0 Fz0 c ((((St.of l b).setB d (some (t,A++([PV.val u]++B)))).setB D (some (E,es.flatten++jk.map PV.val))).set G (some (RV.gat u D es.length cp))) Q):SW P n h0 w0 Fz0 c (St.of l b) Q:=fun a w hc=>by
 obtain ⟨φ,Fz,Fp,hc⟩:=hc
 have hd':(St.of l b).b d=some (t,A++([PV.sl (.own E e) es]++B)):=hd
 obtain ⟨cur,hg,ho⟩:=hc.box d _ hd'
 obtain ⟨k1,k2,k3⟩:=hc.bxb d _ hd'
 obtain ⟨vA,vM,vB,FA,FM,FB,e1,e2,kA,kM,kB⟩:=Hl ho
 obtain ⟨u,vs',F1,F2,rfl,rfl,hu,hu2,hu3⟩:=kM
 subst hu2 hu3
 have hu:da E e es Fz w u F1:=hu
 have c1:=hc.pullB hd'
 generalize hFp1:(fun x=>if x=0 then φ d::mv Fp (2 * d+2) 0 else mv Fp (2 * d+2) x)=Fp1 at c1
 have e0:Fp1 0=φ d::((FA++((F1++[])++FB))++Fp 0):=Gj
 have hnd:=c1.nod 0
 have hone:u.oneCell'=true:=(PV.sl (.own E e) es).one (Fz:=Fz) (w:=w) ⟨hu.rel,True.intro⟩
 have c2:=c1.pushB (d:=d) (g:=φ d) (t:=t) (cs:=A++([PV.val u]++B)) (cur:=cur) (F:=FA++([]++FB)) (X:=F1++Fp 0) (by simp [St.setB_b]) hg
  (by rw [e1];exact kA.append (aC.append (ps:=[PV.val u]) ⟨u,[],[],[],rfl,rfl,⟨⟨rfl,hone⟩,rfl⟩,rfl,rfl⟩ kB)) k2
  (fun x hx=>by
   rw [e0]
   simp only [cB,jp,dJ,List.nil_append] at hx ⊢
   rcases hx with (hx|hx)|hx|hx|hx<;>simp [hx])
  (by
   rw [e0] at hnd
   refine (List.Perm.nodup_iff ?_).2 hnd
   simp only [dJ,List.nil_append,aW]
   rw [←aW]
   refine List.perm_middle.trans (List.Perm.cons _ ?_)
   simp only [aW]
   refine fT FA ?_
   rw [←aW,←aW]
   exact im _ iT) (.inl rfl)
 have hst:∀i rv,(((St.of l b).setB d none).setB d (some (t,A++([PV.val u]++B)))).s i=some rv→(i,rv)∈l:=fun i rv hi=>mh hi
 obtain ⟨cp,jk,q1,q2,q3,c5⟩:=c2.thawF (D:=D) (G:=G) (L:=L) (F:=F1) (X:=Fp 0) (es:=es) (u:=u) (E:=E) (e:=e) hu hne
  (fun x hx=>by simp only [cH,if_true];rw [if_neg ab];exact hx)
  (by
   have:=c2.nod 0
   simp only [cH,if_true] at this
   rw [if_neg ab] at this
   exact this)
  (by
   rw [St.setB_b,if_neg (fun e=>by rw [e] at hdD;simp at hdD),St.setB_b,if_neg (fun e=>by rw [e] at hdD;simp at hdD)]
   exact hD)
  hG (fun i rv hi=>by
   have:=List.all_eq_true.1 hfr _ (hst i rv hi)
   simpa using this) hL (fun i rv hi=>hls.mem _ (hst i rv hi))
  (fun d' bx hb'=>by
   rw [St.setB_b] at hb'
   split at hb'
   ·injection hb' with hb';subst hb'
    exact az.app hA (az.app (az.cons PV.lcl_val az.nil) hB)
   ·rename_i hne'
    rw [St.setB_b,if_neg hne'] at hb'
    rcases hlb.mem _ (mh hb') with e|k
    ·exact absurd e hne'
    ·exact k) hes
 refine h u cp jk q1 q2 q3 a w (bl.eqv c5 (fun i=>rfl) (fun x=>by
  simp only [St.set_b,St.setB_b]
  split
  ·rfl
  ·split
   ·rfl
   ·rfl))
def rI{σ:St}{d t D G E e m cp:Nat}{A B:List PV}{u:Value}{es:List (List PV)}{jk:List Value}(hd:σ.b d=some (t,A++([PV.val u]++B)))(hG:σ.s G=some (RV.gat u D m cp))(hb:σ.b D=some (E,es.flatten++jk.map PV.val))(hdD:Nat.beq D d=false)(hl:es.length=m)(he:∀c,c∈es→c.length=e)(hj:m * e+jk.length=cp * e)
  (h:SW P n h0 w0 Fz0 c (((σ.setB D none).set G none).setB d (some (t,A++([PV.sl (.own E e) es]++B)))) Q):SW P n h0 w0 Fz0 c σ Q:=fun a w hc=>by
 obtain ⟨φ,Fz,Fp,hc⟩:=hc
 obtain ⟨⟨ev,hmc,hmx⟩,_⟩:=hc.slot G _ hG
 have hne':¬d=D:=fun e=>by rw [e] at hdD;simp at hdD
 obtain ⟨Fz',Fp',c3,hsl,hX,hnd,hs0⟩:=hc.freeze (s:=G) hb hmc hmx hl he hj
 have hd3:((σ.setB D none).set G none).b d=some (t,A++([PV.val u]++B)):=by rw [St.set_b,St.setB_b,if_neg hne'];exact hd
 obtain ⟨cur,hg,ho⟩:=c3.box d _ hd3
 obtain ⟨k1,k2,k3⟩:=c3.bxb d _ hd3
 obtain ⟨vA,vM,vB,FA,FM,FB,e1,e2,kA,kM,kB⟩:=Hl ho
 obtain ⟨u',vs',F1,F2,rfl,rfl,hu,hu2,hu3⟩:=kM
 subst hu2 hu3
 obtain ⟨⟨rfl,hone⟩,rfl⟩:=hu
 have c4:=c3.pullB hd3
 generalize hFp1:(fun x=>if x=0 then φ d::mv Fp' (2 * d+2) 0 else mv Fp' (2 * d+2) x)=Fp1 at c4
 have e0:Fp1 0=φ d::((FA++(([]++[])++FB))++Fp' 0):=Gj
 have hnd0:=c4.nod 0
 rw [e0] at hnd0
 simp only [List.nil_append] at hnd0 e0
 have hdis:∀x,x∈φ D::Fp (2 * D+2)→x≠φ d∧x∉FA++FB:=fun x hx=>by
  have hx':=hX x hx
  rw [jN,cS] at hnd0
  exact ⟨fun e=>hnd0.1 (by rw [←e];simp [hx']),fun hh=>hnd0.2.2.2 x hh x hx' rfl⟩
 have c5:=c4.pushB (d:=d) (g:=φ d) (t:=t) (cs:=A++([PV.sl (.own E e) es]++B)) (cur:=cur) (F:=FA++((φ D::Fp (2 * D+2))++FB)) (X:=[]) (by simp [St.setB_b]) hg
  (by rw [e1];exact kA.append (aC.append (ps:=[PV.sl (.own E e) es]) ⟨u',[],φ D::Fp (2 * D+2),[],rfl,aF,by rw [ev];exact hsl,rfl,rfl⟩ kB)) k2
  (fun x hx=>by
   rw [e0]
   simp only [cB,jp,List.not_mem_nil,or_false] at hx ⊢
   rcases hx with (hx|(hx|hx)|hx)|hx
   ·simp [hx]
   ·exact .inr (.inr (hX x fS))
   ·exact .inr (.inr (hX x fS))
   ·simp [hx]
   ·simp [hx])
  (by
   have hn1:(FA++FB).Nodup:=by
    rw [jN,cS] at hnd0
    exact hnd0.2.1
   have hn2:φ d∉FA++FB:=fun hh=>by
    rw [jN] at hnd0
    exact hnd0.1 (List.mem_append.2 (.inl hh))
   have hp:(FA++((φ D::Fp (2 * D+2))++FB)++[φ d]).Perm ((φ D::Fp (2 * D+2))++(φ d::(FA++FB))):=by
    have p1:(FA++((φ D::Fp (2 * D+2))++FB)).Perm ((φ D::Fp (2 * D+2))++(FA++FB)):=by
     rw [←aW,←aW]
     exact im _ iT
    refine (List.perm_append_singleton _ _).trans ?_
    refine (List.Perm.cons _ p1).trans ?_
    exact List.perm_middle.symm
   refine (List.Perm.nodup_iff hp).2 ?_
   rw [cS]
   refine ⟨hnd,List.nodup_cons.2 ⟨hn2,hn1⟩,fun x hx y hy e=>?_⟩
   subst e
   rcases List.mem_cons.1 hy with hy|hy
   ·exact (hdis x hx).1 hy
   ·exact (hdis x hx).2 hy) (.inl rfl)
 refine h a w (bl.eqv ⟨_,_,_,c5⟩ (fun i=>rfl) (fun x=>by
  simp only [St.set_b,St.setB_b]
  split<;>rfl))
def RT{l:List (Nat×RV)}{b:List (Nat×(Nat×List PV))}(s D G E e:Nat)(L:Nat→Prop){es:List (List PV)}(hs:lk l s=some (RV.sv false [PV.sl (.own E e) es]))(hne:es≠[])(hD:lk b D=none)(hG:lk l G=none)(hsG:Nat.beq G s=false)(hfr:(l.all fun p=>!p.2.men D)=true)
  (hL:∀x,L x→h0 x) (hls:ug L s l) (hlb:rG L b) (hes:∀cs,cs∈es→az L cs)
  (h:∀(u:Value) (cp:Nat) (jk:List Value),es.length≤9223372036854775807→es.length≤cp→es.length * e+jk.length=cp * e→SW P n h0 w0 Fz0 c ((((St.of l b).set s (some (RV.sc u))).setB D (some (E,es.flatten++jk.map PV.val))).set G (some (RV.gat u D es.length cp))) Q):SW P n h0 w0 Fz0 c (St.of l b) Q:=fun a w hc=>by
 obtain ⟨φ,Fz,Fp,hc⟩:=hc
 have hv:da E e es Fz w (a.tmps.getD s undef) (Fp (2 * s+1)):=(bH.atom (hc.slot s _ hs))
 have hone:(a.tmps.getD s undef).oneCell'=true:=(PV.sl (.own E e) es).one (Fz:=Fz) (w:=w) ⟨hv.rel,True.intro⟩
 have e0:mv Fp (2 * s+1) 0=Fp (2 * s+1)++Fp 0:=et
 have hGs:¬G=s:=fun e=>by rw [e] at hsG;simp at hsG
 have c1:=(hc.pull s).reslot (s:=s) (rv:=RV.sc (a.tmps.getD s undef)) (by
  have:mv Fp (2 * s+1) (2 * s+1)=[]:=et
  rw [this]
  exact bH.of_sc hone)
 have hst:∀i rv,i≠s→(((St.of l b).set s none).set s (some (RV.sc (a.tmps.getD s undef)))).s i=some rv→(i,rv)∈l:=fun i rv hi k=>by
  rw [St.set_s,if_neg hi,St.set_s,if_neg hi] at k
  exact mh k
 have hss:∀rv,(((St.of l b).set s none).set s (some (RV.sc (a.tmps.getD s undef)))).s s=some rv→rv=RV.sc (a.tmps.getD s undef):=fun rv k=>by
  rw [St.set_s,if_pos rfl] at k
  exact (Option.some.inj k).symm
 obtain ⟨cp,jk,q1,q2,q3,c5⟩:=c1.thawF (D:=D) (G:=G) (L:=L) (F:=Fp (2 * s+1)) (X:=Fp 0) (es:=es) (u:=a.tmps.getD s undef) (E:=E) (e:=e) hv hne
  (fun x hx=>by rw [e0];exact hx) (by have:=(hc.pull s).nod 0;rw [e0] at this;exact this) hD
  (by rw [St.set_s,if_neg hGs,St.set_s,if_neg hGs];exact hG)
  (fun i rv hi=>by
   by_cases k:i=s
   ·subst k;rw [hss rv hi];rfl
   ·have:=List.all_eq_true.1 hfr _ (hst i rv k hi)
    simpa using this) hL
  (fun i rv hi=>by
   by_cases k:i=s
   ·subst k;rw [hss rv hi];exact RV.lcl_sv (az.cons PV.lcl_val az.nil)
   ·rcases hls.mem _ (hst i rv k hi) with q|q
    ·exact absurd q k
    ·exact q)
  (fun d bx hb=>rG.mem hlb _ (mh hb)) hes
 refine h _ cp jk q1 q2 q3 a w (bl.eqv c5 (fun i=>by
  simp only [St.set_s,St.setB_s]
  split
  ·rfl
  ·split
   ·rfl
   ·rfl) (fun x=>rfl))
def RU{σ:St}{s D G E e m cp:Nat}{u:Value}{es:List (List PV)}{jk:List Value}(hs:σ.s s=some (RV.sc u))(hG:σ.s G=some (RV.gat u D m cp))(hb:σ.b D=some (E,es.flatten++jk.map PV.val))(hsG:Nat.beq G s=false)(hsn:s < n)(hl:es.length=m)(he:∀c,c∈es→c.length=e)(hj:m * e+jk.length=cp * e)
  (h:SW P n h0 w0 Fz0 c (((σ.setB D none).set G none).set s (some (RV.sv false [PV.sl (.own E e) es]))) Q):SW P n h0 w0 Fz0 c σ Q:=fun a w hc=>by
 obtain ⟨φ,Fz,Fp,hc⟩:=hc
 obtain ⟨⟨ev,hmc,hmx⟩,_⟩:=hc.slot G _ hG
 have hu:=(hc.one_ hs).1
 obtain ⟨Fz',Fp',c3,hsl,hX,hnd,hs0⟩:=hc.freeze (s:=G) hb hmc hmx hl he hj
 have hself:a.put (some s) (a.tmps.getD s undef)=a:=Hm
 have c3':=c3.pull s
 have c4:=c3'.push (i:=s) (rv:=RV.sv false [PV.sl (.own E e) es]) (v:=a.tmps.getD s undef) (F:=φ D::Fp (2 * D+2)) (X:=[]) hsn
  (bH.of_atom (p:=PV.sl (.own E e) es) (by rw [hu,ev];exact hsl)) (fun x hx=>by
   have:=hX x ro
   simp only [mv,if_true]
   simp [this]) (by simpa using hnd)
 rw [hself] at c4
 exact h a w (bl.eqv ⟨_,_,_,c4⟩ (fun i=>by simp only [St.set_s];split<;>rfl) (fun d=>rfl))
def ow{α:Type}{xs:List α}{f:α→List PV}{J:List PV}{k:Nat}(hk:k < xs.length):(xs.map f).flatten++J=((xs.take k).map f).flatten++(f xs[k]++(((xs.drop (k+1)).map f).flatten++J)):=by
 conv=>lhs;rw [←fh k xs,List.drop_eq_getElem_cons hk]
 simp only [bL,List.map_cons,List.flatten_append,List.flatten_cons,aW]
def rJ{α:Type}{xs:List α}{f:α→List PV}{J cs:List PV}{k:Nat}(y:α)(hk:k < xs.length)(hy:cs=f y):((xs.take k).map f).flatten++(cs++(((xs.drop (k+1)).map f).flatten++J))=((xs.set k y).map f).flatten++J:=by
 subst hy
 rw [List.set_eq_take_append_cons_drop,if_pos hk]
 simp only [bL,List.map_cons,List.flatten_append,List.flatten_cons,aW]
def pS{α β:Type}{xs:List α}{f:α→β}{k:Nat}(hk:k < xs.length):xs.map f≠[]:=fun e=>by
 have:=congrArg List.length e
 rw [aO,List.length_nil] at this;omega
def rL{α:Type}{xs:List α}{f:α→List PV}{k e:Nat}(hf:∀x,(f x).length=e)(hk:k≤xs.length):((xs.take k).map f).flatten.length=k * e:=by
 rw [rC (e:=e) (fun cs hcs=>by obtain ⟨x,_,rfl⟩:=List.mem_map.1 hcs;exact hf x),aO,cu,Nat.min_eq_left hk]
section
variable{ops:Array Oper}
def pT{T E e bs d s G D m cp k:Nat}{i:Operand}{ty:TypeId}{pos:String}{af:Array Edge}{g:Option (Nat×Bool)}{u:Value}{q:Int}(hd:d < n)(hT:dY P T=some (E,e,bs))(hi:bu i (RV.int q))(hq:q=(k:Int))(hk:k < m) :
  Loc P n ⟨some d,.indexAddr T (.tmp s) i,ty,pos,af,g⟩ ⟨(s,RV.sc u)::(G,RV.gat u D m cp)::bg i (RV.int q),[],[(d,some (RV.ptr D (k * e)))],[],none⟩:=by
 intro h0 w0 Fz0 σ a w K Q hc hr _ _ h5
 obtain ⟨φ,Fz,Fp,hc⟩:=hc
 subst hq
 have ei:=hc.sc hr.2.2 hi
 obtain ⟨⟨eu,_⟩,_⟩:=hc.slot G _ hr.2.1
 have ev:=(hc.one_ hr.1).1
 obtain ⟨hu,inf,hinf,hsz,_⟩:=mi hT
 refine cN (v:=.pointer (some ⟨φ D,k * e,none⟩)) (w':=w) ?_ (h5 _ _ (hc.put0 hd ⟨rfl,rfl⟩))
 unfold execOp
 have es':a.eval (.tmp s) = .slice (some ⟨φ D,0,none⟩) m cp:=zO
 have hlt':(0:Int)≤(k:Int)∧(k:Int) < (m:Int):=ab
 simp only [es',ei,Instr.indexAt,asIntOf,Sem.run_bind,Sem.run_pure,Result.andThen_ok,run_underlying hu]
 simp [hlt',sizeOf,typeInfo,hinf,hsz,kx]
def Hq{T E e bs d s G D m cp:Nat}{ty:TypeId}{pos:String}{af:Array Edge}{g:Option (Nat×Bool)}{u:Value}(hd:d < n)(hT:dY P T=some (E,e,bs)) :
  Loc P n ⟨some d,.call { callee:=.builtin .len,args := #[.tmp s],argTypes := #[T] },ty,pos,af,g⟩ ⟨[(s,RV.sc u),(G,RV.gat u D m cp)],[],[(d,some (RV.int (m:Int)))],[],none⟩:=by
 intro h0 w0 Fz0 σ a w K Q hc hr _ _ h5
 obtain ⟨φ,Fz,Fp,hc⟩:=hc
 obtain ⟨⟨eu,_⟩,_⟩:=hc.slot G _ hr.2.1
 have ev:=(hc.one_ hr.1).1
 obtain ⟨hu,_⟩:=mi hT
 refine cN (v:=.int .i64 (m:Int)) (w':=w) ?_ (h5 _ _ (hc.put0 hd (bH.of_sc rfl)))
 have es':a.eval (.tmp s) = .slice (some ⟨φ D,0,none⟩) m cp:=zO
 unfold execOp
 simp [resolve,invoke,builtin,es',Builtin.len_,run_underlying hu,goInt]
def RW{T d p b off t o:Nat}{ty:TypeId}{pos:String}{af:Array Edge}{g:Option (Nat×Bool)}{ag:Bool}{k:Nat}{A m B ms qs:List PV}(hoff:off=A.length+o)(hd:d < n)(hT:cl P T=some (ag,k))(h1:ag=false→k=1)(hk:o+k≤m.length)
  (hm:(m.drop o).take k=ms) (ht:aA ms qs) (hb:aB qs) :
  Loc P n ⟨some d,.load T (.tmp p),ty,pos,af,g⟩ ⟨[(p,RV.ptr b off)],[(b,(t,A++(m++B)))],[(d,some (RV.sv ag ms))],[(b,some (t,A++((m.take o++(qs++m.drop (o+k)))++B)))],none⟩:=by
 have h:Loc P n ⟨some d,.load T (.tmp p),ty,pos,af,g⟩ ⟨[(p,RV.ptr b off)],[(b,(t,A++(m++B)))],[(d,some (RV.sv ag ms))],[(b,some (t,(A++(m++B)).take off++(qs++(A++(m++B)).drop (off+k))))],none⟩:=
  fa hd hT h1 zU (by
   rw [hoff,wS ab,List.take_append_of_le_length pL];exact hm) ht hb
 have e:(A++(m++B)).take off++(qs++(A++(m++B)).drop (off+k))=A++((m.take o++(qs++m.drop (o+k)))++B):=by
  rw [hoff,Hn ab,show A.length+o+k=A.length+(o+k) by omega,wS hk]
  simp only [aW]
 rw [e] at h
 exact @h
end
end
end
section
section
variable{P:Program}{n:Nat}{h0:Nat→Prop}{w0:World}{Fz0:ay}
structure Hr(F:List Nat)(g:Option Nat)(Fz:ay)(w:World)(Fz':ay)(w':World):Prop where
 os:w'.os=w.os
 tape:w'.tape=w.tape
 output:w'.output=w.output
 size:w.heap.size≤w'.heap.size
 same:∀b,b < w.heap.size→some b≠g→b∉F→w'.heap[b]?=w.heap[b]?∧∀o,Fz' b o↔Fz b o
 fzl:∀b o,Fz' b o→b < w'.heap.size
def Aw(P:Program)(f:FuncId)(args:List (Bool×List PV))(r:RV):Prop:=
 ∀(w:World) (vs:List Value) (Fz:ay) (F:List Nat),(∀b o,Fz b o→b < w.heap.size)→dC args Fz w vs F→F.Nodup →
  Calls P f vs.toArray w fun e w'=>∃(v:Value) (Fz':ay) (G:List Nat),e = .returned v∧Hr F none Fz w Fz' w'∧(∀φ,r.holds φ Fz' w' v G)∧G.Nodup∧∀b,b∈G→b∈F∨(w.heap.size≤b∧b < w'.heap.size)
def dC.parts{Fz:ay}{w:World}:∀{l:List (Bool×List PV)} {vs:List Value} {F:List Nat},dC l Fz w vs F→∃ps:List (List Nat),ps.length=l.length∧F=ps.flatten∧∀(j:Nat) (q:Bool×List PV),l[j]?=some q→∃v,vs[j]?=some v∧bH q.1 q.2 Fz w v (ps.getD j [])
 | [],vs,F,h=>⟨[],rfl,h.2,fun j q hq=>by simp at hq⟩
 | p::l,vs,F,h=>by
  obtain ⟨v,vs',F1,F2,rfl,rfl,h1,h2⟩:=h
  obtain ⟨ps,e1,e2,e3⟩:=dC.parts h2
  refine ⟨F1::ps,by simp [e1],by rw [e2];rfl,fun j q hq=>?_⟩
  cases j with
  | zero=>simp at hq;subst hq;exact ⟨v,rfl,h1⟩
  | succ j=>simpa using e3 j q ub
def mm(k:Nat)(ps:List (List Nat))(x:Nat):List Nat:=if x%2=1∧k≤(x - 1) / 2 then ps.getD ((x - 1) / 2 - k) [] else []
def RX(k:Nat)(ps:List (List Nat))(j:Nat):mm k ps (2 * (k+j)+1)=ps.getD j []:=by
 unfold mm
 rw [if_pos ⟨ab,ab⟩]
 congr 1;omega
def Ax{ps:List (List Nat)}{j b:Nat}(h:b∈ps.getD j []):b∈ps.flatten:=by
 rw [List.getD_eq_getElem?_getD] at h
 cases hp:ps[j]? with
 | none=>rw [hp] at h;simp at h
 | some p=>rw [hp] at h;exact List.mem_flatten.2 ⟨p,List.mem_of_getElem? hp,h⟩
def RY{k:Nat}{ps:List (List Nat)}{x b:Nat}(h:b∈mm k ps x):b∈ps.flatten:=by
 unfold mm at h
 split at h
 ·exact Ax h
 ·simp at h
def Ay:∀{ps:List (List Nat)},ps.flatten.Nodup→(∀j,(ps.getD j []).Nodup)∧∀i j,i≠j→∀b,b∈ps.getD i []→b∉ps.getD j []
 | [],_=>⟨fun j=>by simp,fun i j _ b hb=>by simp at hb⟩
 | p::ps,h=>by
  rw [List.flatten_cons,cS] at h
  obtain ⟨h1,h2,h3⟩:=h
  obtain ⟨k1,k2⟩:=Ay h2
  refine ⟨fun j=>?_,fun i j hij b hb hb'=>?_⟩
  ·cases j with
   | zero=>exact h1
   | succ j=>exact k1 j
  ·cases i with
   | zero=>
    cases j with
    | zero=>exact hij rfl
    | succ j=>exact h3 b hb b (Ax hb') rfl
   | succ i=>
    cases j with
    | zero=>exact h3 b hb' b (Ax hb) rfl
    | succ j=>exact k2 i j ab b hb hb'
def RZ{k:Nat}{ps:List (List Nat)}(h:ps.flatten.Nodup)(x:Nat):(mm k ps x).Nodup:=by
 unfold mm
 split
 ·exact (Ay h).1 _
 ·exact List.nodup_nil
def Sa{k:Nat}{ps:List (List Nat)}(h:ps.flatten.Nodup){x y:Nat}(hxy:x≠y){b:Nat}(hb:b∈mm k ps x):b∉mm k ps y:=by
 unfold mm at hb ⊢
 split at hb
 ·split
  ·exact (Ay h).2 _ _ ab b hb
  ·simp
 ·simp at hb
def Hs:∀{qs:List (Bool×List PV)} {k i:Nat} {rv:RV},lk (it k qs) i=some rv→∃j q,i=k+j∧qs[j]?=some q∧rv=RV.sv q.1 q.2
 | [],k,i,rv,h=>by cases h
 | q::qs,k,i,rv,h=>by
  have h:(bif Nat.beq i k then some (RV.sv q.1 q.2) else lk (it (k+1) qs) i)=some rv:=h
  rw [beq_eq] at h
  by_cases hi:i=k
  ·simp [hi] at h;subst h;subst hi
   exact ⟨0,q,rfl,rfl,rfl⟩
  ·simp [hi] at h
   obtain ⟨j,q',e1,e2,e3⟩:=Hs h
   exact ⟨j+1,q',ab,by simpa using e2,e3⟩
def Sb{Fz:ay}{w:World}{rs:List (Bool×List PV)}{vs:List Value}{F:List Nat}(h:dC rs Fz w vs F)(φ:Nat→Nat):(aJ rs).holds φ Fz w (if h:vs.toArray.size=1 then vs.toArray[0] else .tuple vs.toArray) F:=by
 have hl:=h.len
 by_cases h1:vs.toArray.size=1
 ·rw [dif_pos h1]
  have hl1:rs.length=1:=by rw [←hl];simpa using h1
  obtain ⟨q,rfl⟩:=List.length_eq_one_iff.1 hl1
  obtain ⟨v,vs2,F1,F2,rfl,rfl,k1,k2,rfl⟩:=h
  rw [dJ]
  exact k1
 ·rw [dif_neg h1]
  have hne:rs.length≠1:=fun e=>h1 (by simp [hl,e])
  have:aJ rs=RV.tup rs:=by
   match rs,hne with
   | [],_=>rfl
   | [_],hne=>exact absurd rfl hne
   | _::_::_,_=>rfl
  rw [this]
  exact ⟨vs.toArray,rfl,h⟩
def Sc{fn:Func}{t:Array Value}{w:World}{vs:List Value}(e1:Sem.run P (fn.results.toList.mapM (pQ t)) w = .ok vs w):(results fn t).run P w = .ok (if h:vs.toArray.size=1 then vs.toArray[0] else .tuple vs.toArray) w:=by
 have erun:Sem.run P (fn.results.mapM (pQ t)) w = .ok vs.toArray w:=by
  rw [Array.mapM_eq_mapM_toList]
  simp only [map_eq_pure_bind,Sem.run_bind,e1,Result.andThen_ok,Sem.run_pure]
 rw [Hi]
 simp only [Sem.run_bind,erun,Result.andThen_ok,Sem.run_pure]
def Sd{f:FuncId}{fn:Func}{c:Code}{args rs:List (Bool×List PV)}(hf:P.funcs[f]?=some fn)(hb:fn.body=some c)(hn:args.length≤fn.ntmps)
  (h:∀(h0:Nat→Prop) (w0:World) (Fz0:ay),SW P fn.ntmps h0 w0 Fz0 c (St.of (it 0 args) []) (ry P fn.results.toList rs)):Aw P f args (aJ rs):=by
 intro w vs Fz F hz hown hnd
 have hvl:=hown.len
 have hFlt:∀b,b∈F→b < w.heap.size:=fun b hb=>hown.lt b hb
 obtain ⟨ps,e1,e2,e3⟩:=hown.parts
 refine calls_of_wp hf hb ?_
 have hc:bl (fun b=>b < w.heap.size∧b∉F) w Fz fn.ntmps (St.of (it 0 args) []) { tmps:=vs.toArray++Array.replicate (fn.ntmps - vs.toArray.size) undef,defers:=[] } w:=by
  refine ⟨fun _=>0,Fz,mm 0 ps,⟨nn.refl _ _,rfl,iR,fun _ hb=>hb.1,fun _ _ _=>Iff.rfl,hz,fun i rv hi=>?_,fun d cs hd=>ri,fun d cs hd=>ri,fun d d' cs cs' hd=>ri,fun x y hxy b hx=>Sa (by rw [←e2];exact hnd) hxy hx,fun x=>RZ (by rw [←e2];exact hnd) x,fun x b hb=>?_⟩⟩
  ·obtain ⟨j,q,k1,k2,rfl⟩:=Hs hi
   rw [Nat.zero_add] at k1
   subst k1
   obtain ⟨v,k3,k4⟩:=e3 i q k2
   have:(vs.toArray++Array.replicate (fn.ntmps - vs.toArray.size) undef).getD i undef=v:=by
    rw [Array.getD_eq_getD_getElem?,Array.getElem?_append_left (by have:=(List.getElem?_eq_some_iff.1 k3).1;simpa using this)]
    simp [k3]
   rw [this]
   have e:=RX 0 ps i
   rw [Nat.zero_add] at e
   rw [e];exact k4
  ·have:=RY hb
   rw [←e2] at this
   exact ⟨fun k=>k.2 this,hFlt b this⟩
 refine wp_mono (h _ w Fz _ w hc) fun e a' w' ⟨τ,hq,hc'⟩=>?_
 obtain ⟨φ,Fz',Fp,hc'⟩:=hc'
 have hres:pP P fn.results.toList rs τ→a'.defers=[]∧∃v,(results fn a'.tmps).run P w' = .ok v w'∧∃(v':Value) (Fz':ay) (G:List Nat),Ending.returned v = .returned v'∧Hr F none Fz w Fz' w'∧(∀φ,(aJ rs).holds φ Fz' w' v' G)∧G.Nodup∧∀b,b∈G→b∈F∨(w.heap.size≤b∧b < w'.heap.size):=by
  intro hr
  obtain ⟨vs',G,r1,r2,r3,r4⟩:=wQ _ rs hc' hr
  refine ⟨hc'.dfr,_,Sc r1,_,Fz',G,rfl,⟨hc'.bel.os,hc'.bel.tape,hc'.bel.output,hc'.bel.size,fun b k1 _ k2=>⟨hc'.bel.block b ⟨k1,k2⟩,fun o=>hc'.fz0 b o ⟨k1,k2⟩⟩,hc'.fzl⟩,Sb r2,r3,fun b hb=>?_⟩
  obtain ⟨r,_,hr⟩:=r4 b hb
  have:=hc'.low r b hr
  by_cases hbF:b∈F
  ·exact .inl hbF
  ·exact .inr ⟨Nat.le_of_not_lt fun hlt=>this.1 ⟨hlt,hbF⟩,this.2⟩
 cases e with
 | normal=>exact hres hq
 | ret=>exact hres hq
 | _=>exact hq.elim
def RV.phi(D g:Nat):RV where
 holds φ _ _ _ F:=φ D=g∧F=[]
 men x:=Nat.beq x D
 mono h _ _ hφ:=⟨by rw [hφ D aF];exact h.1,h.2⟩
 lt h:=ku
def RV.lcl_phi{L:Nat→Prop}{D g:Nat}:(RV.phi D g).Lcl L:=fun h _=>h
end
end
section
section
variable{P:Program}{n:Nat}{h0:Nat→Prop}{w0:World}{Fz0:ay}{ops:Array Oper}{Q:Exit→St→Prop}
def Ht{f d:Nat}{args:Array Operand}{tys:Array TypeId}{ty:TypeId}{pos:String}{af:Array Edge}{g:Option (Nat×Bool)}{a:Act}{w:World}(hf:aL P f=true) :
  (execOp a.eval ⟨some d,.call { callee:=.value (.func f),args:=args,argTypes:=tys },ty,pos,af,g⟩).run P w = .ok (.enter f (args.toList.map a.eval).toArray) w:=by
 unfold execOp
 have e:(#[]++args.map a.eval ++ #[]:Array Value)=(args.toList.map a.eval).toArray:=by apply Array.ext';simp
 simp only [resolve,Act.eval,Deferred.ofValue,Sem.run_bind,Sem.run_pure,Result.andThen_ok,invoke]
 rw [Hg hf,e]
def PV.OTo(p q:PV):Prop:=∀{Fz:ay} {w:World} {v:Value} {F:List Nat},p.own Fz w v F→q.own Fz w v F
def OTo.refl{p:PV}:p.OTo p:=fun h=>h
def OTo.lo{L:Nat→Prop}{es:List (List PV)}:(PV.sl (.lo L) es).OTo (PV.sl .v es):=fun h=>⟨h.1.1,h.2⟩
def OTo.nv{u:Value}{p:PV}:(PV.nv u p).OTo p:=fun h=>h.2
def iw.cons{p q:PV}{ps qs:List PV}(h:p.OTo q)(k:iw ps qs):iw (p::ps) (q::qs):=fun hh=>by
 obtain ⟨v,vs',F1,F2,rfl,rfl,h1,h2⟩:=hh
 exact ⟨v,vs',F1,F2,rfl,rfl,h h1,k h2⟩
def um:List (Bool×List PV)→List (Bool×List PV)→Prop
 | [],[]=>True
 | p::ps,q::qs=>(p.1=q.1∧iw p.2 q.2)∧um ps qs
 | _,_=>False
def um.own{Fz:ay}{w:World}:∀{ps qs:List (Bool×List PV)} {vs:List Value} {F:List Nat},um ps qs→dC ps Fz w vs F→dC qs Fz w vs F
 | [],[],_,_,_,h=>h
 | p::ps,q::qs,_,_,k,h=>by
  obtain ⟨v,vs',F1,F2,rfl,rfl,h1,h2⟩:=h
  exact ⟨v,vs',F1,F2,rfl,rfl,⟨k.1.1▸h1.1,k.1.2 h1.2⟩,um.own k.2 h2⟩
def un(L:Nat→Prop)(ts:List Nat):List (Nat×RV)→Prop
 | []=>True
 | p::l=>(p.1∈ts∨p.2.Lcl L)∧un L ts l
def un.mem{L:Nat→Prop}{ts:List Nat}:∀{l:List (Nat×RV)},un L ts l→∀p,p∈l→p.1∈ts∨p.2.Lcl L
 | [],_,p,hp=>by simp at hp
 | q::l,h,p,hp=>by
  rcases List.mem_cons.1 hp with rfl|hp
  ·exact h.1
  ·exact un.mem h.2 p hp
def Hu:∀{xs:List Operand} {f:Nat→Option RV} {i:Nat} {rv:RV},bN (lh xs) f i=some rv→i∉jt xs∧f i=some rv
 | [],f,i,rv,h=>⟨by simp [jt],h⟩
 | x::xs,f,i,rv,h=>by
  have h:bN (lh xs) (bN (ot x) f) i=some rv:=by rw [←ud];exact h
  obtain ⟨k1,k2⟩:=Hu h
  cases x with
  | tmp t=>
   have k2:(bif Nat.beq i t then none else f i)=some rv:=k2
   rw [beq_eq] at k2
   by_cases e:i=t
   ·simp [e] at k2
   ·simp [e] at k2
    exact ⟨by simp [jt,e,k1],k2⟩
  | _=>exact ⟨k1,k2⟩
def Az{f d:Nat}{L:Nat→Prop}{args:Array Operand}{tys:Array TypeId}{ty:TypeId}{pos:String}{af:Array Edge}{ol:List Oper}{l:List (Nat×RV)}{b:List (Nat×(Nat×List PV))}{qs as_:List (Bool×List PV)}{r:RV}
  (hd:d < n) (hf:aL P f=true) (hrd:aN (ky args.toList qs) (lk l)) (hok:mj args.toList qs) (hap:Al args.toList=true) (hto:um qs as_) (hu:Aw P f as_ r) (hL:∀x,L x→h0 x) (hls:un L (jt args.toList) l) (hlb:rD L b)
  (h:kC P n h0 w0 Fz0 ops ol ((⟨bN (lh args.toList) (lk l),lk b⟩:St).set d (some r)) Q) :
  kC P n h0 w0 Fz0 ops (⟨some d,.call { callee:=.value (.func f),args:=args,argTypes:=tys },ty,pos,af,none⟩::ol) (St.of l b) Q:=fun a w hc=>by
 obtain ⟨φ,Fz,Fp,hc⟩:=hc
 obtain ⟨F,Fp',hown,c1,hm,hnd⟩:=hc.pulls args.toList qs hrd hok (of_decide_eq_true hap)
 have hF:=(List.nodup_append.1 hnd).1
 refine wpList_plain rfl fun K hK=>?_
 unfold Oper.wp
 rw [Ht hf,Oper.upon_enter]
 refine (hu w _ Fz F hc.fzl (hto.own hown) hF).mono ?_
 rintro e w' ⟨v,Fz',G,rfl,ht,hv,hn,hin⟩
 have hlt0:∀x,x∈Fp 0→x < w.heap.size:=fun x hx=>(hc.low 0 x hx).2
 have c2:=c1.uworld (w':=w') (Fz':=Fz') (L:=L) (X:=G++Fp 0) ht.os ht.tape ht.output ht.size (fun x hx hx0=>ht.same x hx aF (fun k=>hx0 ((hm x).2 rp))) hL
  (fun i rv hi=>by
   obtain ⟨k1,k2⟩:=Hu hi
   rcases hls.mem _ (mh k2) with k|k
   ·exact absurd k k1
   ·exact k)
  (fun d' bx hb=>rD.mem hlb _ (mh hb)) ht.fzl
  (fun x hx=>by
   rcases List.mem_append.1 hx with hx|hx
   ·rcases hin x hx with k|k
    ·exact .inl ((hm x).2 rp)
    ·exact .inr k
   ·exact .inl ((hm x).2 fS))
  (by
   rw [cS] at hnd ⊢
   refine ⟨hn,hnd.2.1,fun x hx y hy e=>?_⟩
   rcases hin x hx with k|k
   ·exact hnd.2.2 x k y hy e
   ·have:=hlt0 y hy;omega)
 have c3:=c2.push (i:=d) (rv:=r) (v:=v) (F:=G) (X:=Fp 0) hd (hv _) (fun x hx=>by simpa using hx) (by
   have:=c2.nod 0
   simpa using this)
 exact hK _ _ (h _ _ ⟨_,_,_,c3⟩)
end
end
section
section
variable{P:Program}{n:Nat}{h0:Nat→Prop}{w0:World}{Fz0:ay}{ops:Array Oper}{Q:Exit→St→Prop}
def Se{T E e bs d m:Nat}{x y:Operand}{ty:TypeId}{pos:String}{af:Array Edge}{g:Option (Nat×Bool)}{q q2:Int}{z:Value}{zs:List PV}(hd:d < n)(hT:dY P T=some (E,e,bs))(hz:dX P E=some z)(hz1:z.cells.size=e)
  (hzs:∀{Fz:ay} {w:World},aC zs Fz w z.cells.toList []) (hx:bu x (RV.int q)) (hy:bu y (RV.int q2)) (hq:q=(m:Int)) (hq2:q2=(m:Int)) (hm:m≤9223372036854775807) (hb:bs * m≤281474976710656) :
  Loc P n ⟨some d,.makeSlice T x y,ty,pos,af,g⟩ ⟨bg x (RV.int q)++bg y (RV.int q2),[],[(d,some (RV.slc (.own E e) (List.replicate m zs)))],[(d,none)],some d⟩:=by
 intro h0 w0 Fz0 σ a w K Q hc hr _ h4 h5
 obtain ⟨φ,Fz,Fp,hc⟩:=hc
 subst hq
 subst hq2
 have ex:=hc.sc hr.left hx
 have ey:=hc.sc hr.right hy
 obtain ⟨hu,inf,hinf,hsz,hby⟩:=mi hT
 have hz':inf.zero=some z:=by
  unfold dX at hz
  rw [hinf,Option.bind_some] at hz;exact hz
 have hb':(inf.bytes:Int) * (m:Int)≤281474976710656:=by
  have h:((inf.bytes * m:Nat):Int)≤281474976710656:=by rw [hby];omega
  rwa [Int.natCast_mul] at h
 have hr2:=run_make (P:=P) w T E inf z hu hinf hz' .i64 .i64 m m ab (Int.le_refl _) hb' ab
 simp only [Int.toNat_natCast,hsz] at hr2
 have k:=(hc.drop d).new (madeCells z.cells (m * e)) E 0
 have k2:=k.pushB (d:=d) (g:=w.heap.size) (cs:=(List.replicate m zs).flatten++([]:List Value).map PV.val) (F:=[]) (X:=Fp 0) iP (heap_alloc_new w _)
  (by
   rw [←hz1,Hj,List.map_nil,dJ]
   exact Hk hzs m)
  (fun o ho=>by
   rcases ho with ho|⟨_,ho⟩
   ·have:=hc.fzl _ _ ho;omega
   ·omega)
  (fun b hb=>hb) (by simpa using k.nod 0) (.inr (h4 d rfl))
 obtain ⟨Fz',Fp',c3,hsl,hX,hnd,_⟩:=k2.freeze (s:=d) (b:=d) (m:=m) (c:=m) (e:=e) (es:=List.replicate m zs) (jk:=[]) iP (Nat.le_refl _) hm aF (fun c hc=>by
  rw [List.eq_of_mem_replicate hc,←hz1]
  have:=(hzs (Fz:=fun _ _=>False) (w:=w)).len
  simpa using this.symm) aF
 rw [if_pos rfl] at hsl
 have c4:=c3.push (i:=d) (rv:=RV.slc (.own E e) (List.replicate m zs)) (v:=.slice (some ⟨w.heap.size,0,none⟩) m m) (X:=[]) hd (bH.of_atom (p:=PV.sl (.own E e) (List.replicate m zs)) hsl)
  (fun x hx=>hX x ro) (by simpa using hnd)
 refine cN (v:=.slice (some ⟨w.heap.size,0,none⟩) m m) (w':=w.alloc (.cells (madeCells z.cells (m * e)) E)) ?_ (h5 _ _ (bl.eqv ⟨_,_,_,c4⟩ (fun i=>?_) (fun x=>?_)))
 ·unfold execOp
  simp only [ex,ey,hr2,Sem.run_bind,Result.andThen_ok,Sem.run_pure]
 ·simp only [St.set_s,St.setB_s]
  show bN [(d,some _)] σ.s i=_
  simp only [bN,beq_eq]
  by_cases hi:i=d<;>simp [hi]
 ·simp only [St.set_b,St.setB_b]
  show bN [(d,none)] σ.b x=_
  simp only [bN,beq_eq]
  by_cases hx:x=d<;>simp [hx]
def bo{α:Type}(f:α→List PV)(xs:List α)(jk:List Value):List PV:=(xs.map f).flatten++jk.map PV.val
def Sf{T d p b off t k e:Nat}{ty:TypeId}{pos:String}{af:Array Edge}{g:Option (Nat×Bool)}{ag:Bool}{α:Type}{f:α→List PV}{xs:List α}{jk:List Value}{qs:List PV}(hf:∀x,(f x).length=e)(hoff:off=k * e)(hk:k < xs.length)(hd:d < n)(hT:cl P T=some (ag,e))(h1:ag=false→e=1)
  (ht:aA (f xs[k]) qs) (hb:aB qs) :
  Loc P n ⟨some d,.load T (.tmp p),ty,pos,af,g⟩ ⟨[(p,RV.ptr b off)],[(b,(t,bo f xs jk))],[(d,some (RV.sv ag qs))],[],none⟩:=by
 unfold bo
 rw [ow hk]
 exact At (o:=0) FS hd hT h1 (by rw [hf];omega) (by rw [List.drop_zero,oo (by rw [hf];exact Nat.le_refl _)];exact ht) hb
def Sg{T p b off t k e:Nat}{x:Operand}{ty:TypeId}{pos:String}{af:Array Edge}{g:Option (Nat×Bool)}{ag:Bool}{α:Type}{f:α→List PV}{xs:List α}{jk:List Value}{vs:List PV}(y:α)(hf:∀x,(f x).length=e)(hoff:off=k * e)(hk:k < xs.length)(hT:cl P T=some (ag,e))(hx:bu x (RV.sv ag vs))(hv:vs=f y) :
  Loc P n ⟨none,.store T (.tmp p) x,ty,pos,af,g⟩ ⟨(p,RV.ptr b off)::bg x (RV.sv ag vs),[(b,(t,bo f xs jk))],ot x,[(b,some (t,bo f (xs.set k y) jk))],none⟩:=by
 have h:Loc P n ⟨none,.store T (.tmp p) x,ty,pos,af,g⟩ _:=uk (off:=off) (P:=P) (n:=n) (T:=T) (p:=p) (b:=b) (t:=t) (x:=x) (ty:=ty) (pos:=pos) (af:=af) (g:=g) (ag:=ag) (A:=((xs.take k).map f).flatten) (m:=f xs[k]) (B:=((xs.drop (k+1)).map f).flatten++jk.map PV.val) (vs:=vs) (o:=0) FS hT hx (by rw [hv];exact hf y) (by rw [hf];omega)
 unfold bo
 rw [ow hk,←rJ (cs:=vs) y hk hv]
 have e2:List.take 0 (f xs[k])++(vs++List.drop (0+e) (f xs[k]))=vs:=by
  rw [List.take_zero,List.nil_append,List.drop_eq_nil_of_le (by rw [hf];omega),dJ]
 rw [e2] at h
 exact @h
end
end
section
section
variable{P:Program}{n:Nat}{h0:Nat→Prop}{w0:World}{Fz0:ay}{ops:Array Oper}{σ σ0:St}{QS:St→Prop}{Q:Exit→St→Prop}{o:Oper}{l:List Oper}{acc:List (Nat×aR)}{c:Code}
def rA{L:aR}(y:av P n ops QS l (σ.app L))(h1:aN L.rs σ.s:=by repeat (first|exact True.intro|refine And.intro rfl ?_))(h2:aN L.rb σ.b:=by repeat (first|exact True.intro|refine And.intro rfl ?_))(x:Loc P n o L)(hg:o.guard=none:=by exact rfl)(ha:L.al=none:=by exact rfl):av P n ops QS (o::l) σ:=
 av.step h1 h2 (dD.of hg x) (fun d hd=>by rw [ha] at hd;cases hd) y
def rB{L:aR}{g s:Nat}{b c:Bool}(hb:c=b)(y:av P n ops QS l (σ.app ⟨(s,RV.bool c)::L.rs,L.rb,L.ws,L.wb,L.al⟩))(hg:o.guard=some (g,b):=by exact rfl)(hs:(ops[g]?).bind (·.dst)=some s:=by exact rfl)(h1:aN ((s,RV.bool c)::L.rs) σ.s:=by repeat (first|exact True.intro|refine And.intro rfl ?_))(h2:aN L.rb σ.b:=by repeat (first|exact True.intro|refine And.intro rfl ?_))(x:Loc P n o L)(hlt:s < n:=by decide)(ha:L.al=none:=by exact rfl):av P n ops QS (o::l) σ:=
 av.step (L:=⟨(s,RV.bool c)::L.rs,L.rb,L.ws,L.wb,L.al⟩) h1 h2 (dD.yes hg hs hlt hb x) (fun d hd=>by have hd:L.al=some d:=hd;rw [ha] at hd;cases hd) y
def dA{L:aR}(m:Nat)(y:df P n ops σ0 (fun _ _=>True) QS l (acc++[(m,L)]) (σ.app L))(h1:aN L.rs σ.s:=by repeat (first|exact True.intro|refine And.intro rfl ?_))(h2:aN L.rb σ.b:=by repeat (first|exact True.intro|refine And.intro rfl ?_))(x:Loc P n o L)(hg:o.guard=none:=by exact rfl)(ha:L.al=none:=by exact rfl)(h4:oq m o L acc=true:=by kernel_rfl):df P n ops σ0 (fun _ _=>True) QS (o::l) acc σ:=
 df.step m h1 h2 (dD.of hg x) (fun d hd=>by rw [ha] at hd;cases hd) h4 y
def dB{L:aR}{g s:Nat}{b c:Bool}(m:Nat)(hb:c=b)(y:df P n ops σ0 (fun _ _=>True) QS l (acc++[(m,⟨(s,RV.bool c)::L.rs,L.rb,L.ws,L.wb,L.al⟩)]) (σ.app ⟨(s,RV.bool c)::L.rs,L.rb,L.ws,L.wb,L.al⟩))(hg:o.guard=some (g,b):=by exact rfl)(hs:(ops[g]?).bind (·.dst)=some s:=by exact rfl)(h1:aN ((s,RV.bool c)::L.rs) σ.s:=by repeat (first|exact True.intro|refine And.intro rfl ?_))(h2:aN L.rb σ.b:=by repeat (first|exact True.intro|refine And.intro rfl ?_))(x:Loc P n o L)(hlt:s < n:=by decide)(ha:L.al=none:=by exact rfl)
  (h4:oq m o ⟨(s,RV.bool c)::L.rs,L.rb,L.ws,L.wb,L.al⟩ acc=true:=by kernel_rfl):df P n ops σ0 (fun _ _=>True) QS (o::l) acc σ:=
 df.step (L:=⟨(s,RV.bool c)::L.rs,L.rb,L.ws,L.wb,L.al⟩) m h1 h2 (dD.yes hg hs hlt hb x) (fun d hd=>by have hd:L.al=some d:=hd;rw [ha] at hd;cases hd) h4 y
def dF{g s d:Nat}{c:Bool}(m:Nat)(hb:c=false)(y:df P n ops σ0 (fun _ _=>True) QS l (acc++[(m,⟨[(s,RV.bool c)],[],[(d,some RV.und)],[],none⟩)]) (σ.app ⟨[(s,RV.bool c)],[],[(d,some RV.und)],[],none⟩))(hg:o.guard=some (g,true):=by exact rfl)(hs:(ops[g]?).bind (·.dst)=some s:=by exact rfl)(hlt:s < n:=by decide)(hd:o.dst=some d:=by exact rfl)
  (h1:σ.s s=some (RV.bool c):=by exact rfl) (h4:oq m o ⟨[(s,RV.bool c)],[],[(d,some RV.und)],[],none⟩ acc=true:=by kernel_rfl):df P n ops σ0 (fun _ _=>True) QS (o::l) acc σ:=
 df.step (L:=⟨[(s,RV.bool c)],[],[(d,some RV.und)],[],none⟩) m ⟨h1,True.intro⟩ True.intro (dD.no hg hs hlt hb hd) rz h4 y
def dT{g s d:Nat}{c:Bool}(m:Nat)(hb:c=true)(y:df P n ops σ0 (fun _ _=>True) QS l (acc++[(m,⟨[(s,RV.bool c)],[],[(d,some RV.und)],[],none⟩)]) (σ.app ⟨[(s,RV.bool c)],[],[(d,some RV.und)],[],none⟩))(hg:o.guard=some (g,false):=by exact rfl)(hs:(ops[g]?).bind (·.dst)=some s:=by exact rfl)(hlt:s < n:=by decide)(hd:o.dst=some d:=by exact rfl)
  (h1:σ.s s=some (RV.bool c):=by exact rfl) (h4:oq m o ⟨[(s,RV.bool c)],[],[(d,some RV.und)],[],none⟩ acc=true:=by kernel_rfl):df P n ops σ0 (fun _ _=>True) QS (o::l) acc σ:=
 df.step (L:=⟨[(s,RV.bool c)],[],[(d,some RV.und)],[],none⟩) m ⟨h1,True.intro⟩ True.intro (dD.no hg hs hlt hb hd) rz h4 y
def dU{g s d:Nat}{b:Bool}(m:Nat)(y:df P n ops σ0 (fun _ _=>True) QS l (acc++[(m,⟨[(s,RV.und)],[],[(d,some RV.und)],[],none⟩)]) (σ.app ⟨[(s,RV.und)],[],[(d,some RV.und)],[],none⟩))(hg:o.guard=some (g,b):=by exact rfl)(hs:(ops[g]?).bind (·.dst)=some s:=by exact rfl)(hd:o.dst=some d:=by exact rfl)
  (h1:σ.s s=some RV.und:=by exact rfl) (h4:oq m o ⟨[(s,RV.und)],[],[(d,some RV.und)],[],none⟩ acc=true:=by kernel_rfl):df P n ops σ0 (fun _ _=>True) QS (o::l) acc σ:=
 df.step (L:=⟨[(s,RV.und)],[],[(d,some RV.und)],[],none⟩) m ⟨h1,True.intro⟩ True.intro (dD.noU hg hs hd) rz h4 y
def sO(l:List (Nat×RV))(b:List (Nat×(Nat×List PV)))(h:SW P n h0 w0 Fz0 c (St.of l b) Q)(hl:aN l σ.s:=by repeat (first|exact True.intro|refine And.intro rfl ?_))(hb:aN b σ.b:=by repeat (first|exact True.intro|refine And.intro rfl ?_)):SW P n h0 w0 Fz0 c σ Q:=RB hl hb h
def wO(m:List (Nat×RV))(b:List (Nat×(Nat×List PV)))(h:kC P n h0 w0 Fz0 ops l (St.of m b) Q)(hl:aN m σ.s:=by repeat (first|exact True.intro|refine And.intro rfl ?_))(hb:aN b σ.b:=by repeat (first|exact True.intro|refine And.intro rfl ?_)):kC P n h0 w0 Fz0 ops l σ Q:=RJ hl hb h
def wA{L:aR}(y:kC P n h0 w0 Fz0 ops l (σ.app L) Q)(h1:aN L.rs σ.s:=by repeat (first|exact True.intro|refine And.intro rfl ?_))(h2:aN L.rb σ.b:=by repeat (first|exact True.intro|refine And.intro rfl ?_))(x:Loc P n o L)(hg:o.guard=none:=by exact rfl)(ha:L.al=none:=by exact rfl):kC P n h0 w0 Fz0 ops (o::l) σ Q:=
 RI h1 h2 (dD.of hg x) (fun d hd=>by rw [ha] at hd;cases hd) y
end
section
variable{P:Program}{n:Nat}{d x:Nat}{ty:TypeId}{pos:String}{af:Array Edge}{g:Option (Nat×Bool)}
def cM{r r':RV}(hc:Cp r r')(hd:d < n:=by decide):Loc P n ⟨some d,.move (.tmp x),ty,pos,af,g⟩ ⟨[(x,r)],[],[(d,some r')],[],none⟩:=rr (.inl rfl) hd hc
def cA{r r':RV}(hc:Cp r r')(hd:d < n:=by decide):Loc P n ⟨some d,.assign (.tmp x),ty,pos,af,g⟩ ⟨[(x,r)],[],[(d,some r')],[],none⟩:=rr (.inr rfl) hd hc
def sM{v:Value}(hd:d < n:=by decide):Loc P n ⟨some d,.move (.tmp x),ty,pos,af,g⟩ ⟨[(x,RV.sc v)],[],[(d,some (RV.sc v))],[],none⟩:=cM Cp.sc hd
def sA{v:Value}(hd:d < n:=by decide):Loc P n ⟨some d,.assign (.tmp x),ty,pos,af,g⟩ ⟨[(x,RV.sc v)],[],[(d,some (RV.sc v))],[],none⟩:=cA Cp.sc hd
def vM{cs:List PV}(ag:Bool)(qs:List PV)(ht:aA cs qs:=by repeat' (first|exact True.intro|exact PV.To.refl _|exact PV.to_none|apply And.intro))(hb:aB qs:=by repeat (first|exact aB.nil|refine aB.cons (PV.bor_val _) ?_|refine aB.cons (PV.bor_sl _) ?_|refine aB.cons (PV.bor_lo _ _) ?_))(hd:d < n:=by decide) :
  Loc P n ⟨some d,.move (.tmp x),ty,pos,af,g⟩ ⟨[(x,RV.sv ag cs)],[],[(d,some (RV.sv ag qs))],[],none⟩:=cM (Cp.sv ht hb) hd
def vA{cs:List PV}(ag:Bool)(qs:List PV)(ht:aA cs qs:=by repeat' (first|exact True.intro|exact PV.To.refl _|exact PV.to_none|apply And.intro))(hb:aB qs:=by repeat (first|exact aB.nil|refine aB.cons (PV.bor_val _) ?_|refine aB.cons (PV.bor_sl _) ?_|refine aB.cons (PV.bor_lo _ _) ?_))(hd:d < n:=by decide) :
  Loc P n ⟨some d,.assign (.tmp x),ty,pos,af,g⟩ ⟨[(x,RV.sv ag cs)],[],[(d,some (RV.sv ag qs))],[],none⟩:=cA (Cp.sv ht hb) hd
def tM{r:RV}(hd:d < n:=by decide):Loc P n ⟨some d,.move (.tmp x),ty,pos,af,g⟩ ⟨[(x,r)],[],[(x,none),(d,some r)],[],none⟩:=GQ (.inl rfl) hd
def tA{r:RV}(hd:d < n:=by decide):Loc P n ⟨some d,.assign (.tmp x),ty,pos,af,g⟩ ⟨[(x,r)],[],[(x,none),(d,some r)],[],none⟩:=GQ (.inr rfl) hd
def kM{v:Value}(h:v.oneCell'=true:=by exact rfl)(hd:d < n:=by decide):Loc P n ⟨some d,.move (.const v),ty,pos,af,g⟩ ⟨[],[],[(d,some (RV.sc v))],[],none⟩:=wH (.inl rfl) hd (bI h)
def kA{v:Value}(h:v.oneCell'=true:=by exact rfl)(hd:d < n:=by decide):Loc P n ⟨some d,.assign (.const v),ty,pos,af,g⟩ ⟨[],[],[(d,some (RV.sc v))],[],none⟩:=wH (.inr rfl) hd (bI h)
def lD{T p b off t:Nat}{ag:Bool}{k:Nat}{cs:List PV}(qs:List PV)(hT:cl P T=some (ag,k))(h1:ag=false→k=1:=by first|exact fun _=>rfl|exact fun h=>nomatch h)(hk:off+k≤cs.length:=by exact Nat.le_of_ble_eq_true rfl)(ht:aA ((cs.drop off).take k) qs:=by repeat' (first|exact True.intro|exact PV.To.refl _|exact PV.to_none|apply And.intro))
  (hb:aB qs:=by repeat (first|exact aB.nil|refine aB.cons (PV.bor_val _) ?_|refine aB.cons (PV.bor_sl _) ?_|refine aB.cons (PV.bor_lo _ _) ?_)) (hd:d < n:=by decide) :
  Loc P n ⟨some d,.load T (.tmp p),ty,pos,af,g⟩ ⟨[(p,RV.ptr b off)],[(b,(t,cs))],[(d,some (RV.sv ag qs))],[],none⟩:=rt hd hT h1 hk ht hb
def lE{T p:Nat}{ag:Bool}{k:Nat}{cs:List PV}(qs:List PV)(hT:cl P T=some (ag,k))(h1:ag=false→k=1:=by first|exact fun _=>rfl|exact fun h=>nomatch h)(hk:k≤cs.length:=by exact Nat.le_of_ble_eq_true rfl)(ht:aA (cs.take k) qs:=by repeat' (first|exact True.intro|exact PV.To.refl _|exact PV.to_none|apply And.intro))
  (hb:aB qs:=by repeat (first|exact aB.nil|refine aB.cons (PV.bor_val _) ?_|refine aB.cons (PV.bor_sl _) ?_|refine aB.cons (PV.bor_lo _ _) ?_)) (hd:d < n:=by decide) :
  Loc P n ⟨some d,.load T (.tmp p),ty,pos,af,g⟩ ⟨[(p,RV.eptr cs)],[],[(d,some (RV.sv ag qs))],[],none⟩:=wJ hd hT h1 hk ht hb
def lF{T p b off f fo:Nat}(hT:bM P T f=some fo)(hd:d < n:=by decide):Loc P n ⟨some d,.fieldAddr T (.tmp p) f,ty,pos,af,g⟩ ⟨[(p,RV.ptr b off)],[],[(d,some (RV.ptr b (off+fo)))],[],none⟩:=Rq hd hT
def lN{T E e bs s m:Nat}{o:Fl}{es:List (List PV)}(hT:dY P T=some (E,e,bs))(hm:es.length=m:=by first|exact aO _|exact rfl)(hd:d < n:=by decide) :
  Loc P n ⟨some d,.call { callee:=.builtin .len,args := #[.tmp s],argTypes := #[T] },ty,pos,af,g⟩ ⟨[(s,RV.slc o es)],[],[(d,some (RV.int (m:Int)))],[],none⟩:=Rr hd hT hm
def nT{T:TypeId}{b:Bool}(hd:d < n:=by decide):Loc P n ⟨some d,.unOp .not T (.tmp x),ty,pos,af,g⟩ ⟨[(x,RV.bool b)],[],[(d,some (RV.bool !b))],[],none⟩:=Rp hd
def bF{c x y:Operand}{b:Bool}{r:RV}(hg:b=true)(hc:bu c (RV.bool b):=by exact True.intro)(hz:bu x r:=by first|exact True.intro|exact bI rfl)(hcp:Cp r r:=by exact Cp.sc)(hd:d < n:=by decide):Loc P n ⟨some d,.pick c x y,ty,pos,af,g⟩ ⟨bg c (RV.bool b)++bg x r,[],[(d,some r)],[],none⟩:=GU (z:=x) hd (by rw [hg];rfl) hc hz hcp
def aK{c x y:Operand}{b:Bool}{r:RV}(hg:b=false)(hc:bu c (RV.bool b):=by exact True.intro)(hz:bu y r:=by first|exact True.intro|exact bI rfl)(hcp:Cp r r:=by exact Cp.sc)(hd:d < n:=by decide):Loc P n ⟨some d,.pick c x y,ty,pos,af,g⟩ ⟨bg c (RV.bool b)++bg y r,[],[(d,some r)],[],none⟩:=GU (z:=y) hd (by rw [hg];rfl) hc hz hcp
def cL{f:Nat}{args:Array Operand}{tys:Array TypeId}{r:RV}(qs as_:List (Bool×List PV))(hf:aL P f=true)(hok:mj args.toList qs:=by repeat' (first|exact True.intro|exact bI rfl|exact GS|apply And.intro))
  (hto:lj qs as_:=by repeat' (first|exact True.intro|exact rfl|exact PV.To.refl _|exact PV.to_none|apply And.intro)) (hs:aS P f as_ r) (hd:d < n:=by decide):Loc P n ⟨some d,.call { callee:=.value (.func f),args:=args,argTypes:=tys },ty,pos,af,g⟩ ⟨ky args.toList qs,[],[(d,some r)],[],none⟩:=wN hd hf hok hto hs
section
variable{T T2:TypeId}{x y:Operand}{i j:Int}
def uo(hx:bu x (RV.int i):=by first|exact True.intro|exact bI rfl)(hy:bu y (RV.int j):=by first|exact True.intro|exact bI rfl)(hd:d < n:=by decide):Loc P n ⟨some d,.binOp .lss T x y T2,ty,pos,af,g⟩ ⟨bg x (RV.int i)++bg y (RV.int j),[],[(d,some (RV.bool (decide (i < j))))],[],none⟩:=Ri hd hx hy
def nq(hx:bu x (RV.int i):=by first|exact True.intro|exact bI rfl)(hy:bu y (RV.int j):=by first|exact True.intro|exact bI rfl)(hd:d < n:=by decide):Loc P n ⟨some d,.binOp .leq T x y T2,ty,pos,af,g⟩ ⟨bg x (RV.int i)++bg y (RV.int j),[],[(d,some (RV.bool (decide (i≤j))))],[],none⟩:=Rj hd hx hy
def fH(hx:bu x (RV.int i):=by first|exact True.intro|exact bI rfl)(hy:bu y (RV.int j):=by first|exact True.intro|exact bI rfl)(hd:d < n:=by decide):Loc P n ⟨some d,.binOp .gtr T x y T2,ty,pos,af,g⟩ ⟨bg x (RV.int i)++bg y (RV.int j),[],[(d,some (RV.bool (decide (i > j))))],[],none⟩:=Rk hd hx hy
def ll(hx:bu x (RV.int i):=by first|exact True.intro|exact bI rfl)(hy:bu y (RV.int j):=by first|exact True.intro|exact bI rfl)(hd:d < n:=by decide):Loc P n ⟨some d,.binOp .geq T x y T2,ty,pos,af,g⟩ ⟨bg x (RV.int i)++bg y (RV.int j),[],[(d,some (RV.bool (decide (i≥j))))],[],none⟩:=Rl hd hx hy
def iV(hx:bu x (RV.int i):=by first|exact True.intro|exact bI rfl)(hy:bu y (RV.int j):=by first|exact True.intro|exact bI rfl)(hd:d < n:=by decide):Loc P n ⟨some d,.binOp .eql T x y T2,ty,pos,af,g⟩ ⟨bg x (RV.int i)++bg y (RV.int j),[],[(d,some (RV.bool (i==j)))],[],none⟩:=Rm hd hx hy
def lm(hx:bu x (RV.int i):=by first|exact True.intro|exact bI rfl)(hy:bu y (RV.int j):=by first|exact True.intro|exact bI rfl)(hd:d < n:=by decide):Loc P n ⟨some d,.binOp .neq T x y T2,ty,pos,af,g⟩ ⟨bg x (RV.int i)++bg y (RV.int j),[],[(d,some (RV.bool (i != j)))],[],none⟩:=Rn hd hx hy
def AA(hx:bu x (RV.int i):=by first|exact True.intro|exact bI rfl)(hy:bu y (RV.int j):=by first|exact True.intro|exact bI rfl)(h:cq (i+j):=by unfold cq;omega)(hd:d < n:=by decide):Loc P n ⟨some d,.binOp .add T x y T2,ty,pos,af,g⟩ ⟨bg x (RV.int i)++bg y (RV.int j),[],[(d,some (RV.int (i+j)))],[],none⟩:=GT hd hx hy h
def nr(hx:bu x (RV.int i):=by first|exact True.intro|exact bI rfl)(hy:bu y (RV.int j):=by first|exact True.intro|exact bI rfl)(h:cq (i - j):=by unfold cq;omega)(hd:d < n:=by decide):Loc P n ⟨some d,.binOp .sub T x y T2,ty,pos,af,g⟩ ⟨bg x (RV.int i)++bg y (RV.int j),[],[(d,some (RV.int (i - j)))],[],none⟩:=Ro hd hx hy h
end
end
end
section
section
variable{P:Program}{n:Nat}
section
variable{T:TypeId}{x y:Operand}{i j:Int}{k:IntKind}{w:World}
def Sh:Sem.run P (do eqGuard .eql T x y (.int k i) (.int k j);binOp .eql T (.int k i) (.int k j):Sem Value) w = .ok (.bool (i==j)) w:=pK
end
section
variable{T T2:TypeId}{x y:Operand}{d:Nat}{ty:TypeId}{pos:String}{af:Array Edge}{g:Option (Nat×Bool)}{i j:Int}{k:IntKind}
def Si(hx:bu x (RV.sc (.int k i)):=by first|exact True.intro|exact bI rfl)(hy:bu y (RV.sc (.int k j)):=by first|exact True.intro|exact bI rfl)(hd:d < n:=by decide):Loc P n ⟨some d,.binOp .eql T x y T2,ty,pos,af,g⟩ ⟨bg x (RV.sc (.int k i))++bg y (RV.sc (.int k j)),[],[(d,some (RV.bool (i==j)))],[],none⟩:=iq hd hx hy rfl fun _=>Sh
def Hv{src dst:TypeId}{k2:IntKind}(hS:P.underlying src=some (.int k))(hD:P.underlying dst=some (.int k2))(hj:k2.wrap i=j)(hx:bu x (RV.sc (.int k i)):=by first|exact True.intro|exact bI rfl)(hd:d < n:=by decide) :
  Loc P n ⟨some d,.convert src dst x,ty,pos,af,g⟩ ⟨bg x (RV.sc (.int k i)),[],[(d,some (RV.sc (.int k2 j)))],[],none⟩:=by
 intro h0 w0 Fz0 σ a w K Q h1 h2 _ _ h5
 obtain ⟨φ,Fz,Fp,hc⟩:=h1
 have ex:=hc.sc h2 hx
 refine cN (v:=.int k2 j) (w':=w) ?_ (h5 _ _ (hc.put0 hd (bH.of_sc rfl)))
 unfold execOp
 simp [ex,convert,run_underlying hS,run_underlying hD,Conv.intToInt,hj]
def Sj{s:ByteArray}(hS:P.underlying T=some .string)(hx:bu x (RV.sc (.string s)):=by first|exact True.intro|exact bI rfl)(hy:bu y (RV.sc (.int k i)):=by first|exact True.intro|exact bI rfl)(hi:0≤i)(hb:∃b,s[i.toNat]?=some b∧((b.toNat:Nat):Int)=j)(hd:d < n:=by decide) :
  Loc P n ⟨some d,.index T x y,ty,pos,af,g⟩ ⟨bg x (RV.sc (.string s))++bg y (RV.sc (.int k i)),[],[(d,some (RV.sc (.int .u8 j)))],[],none⟩:=by
 intro h0 w0 Fz0 σ a w K Q h1 h2 _ _ h5
 obtain ⟨φ,Fz,Fp,hc⟩:=h1
 have ex:=hc.sc h2.left hx
 have ey:=hc.sc h2.right hy
 obtain ⟨b,hb,rfl⟩:=hb
 refine cN (v:=.int .u8 (b.toNat:Nat)) (w':=w) ?_ (h5 _ _ (hc.put0 hd (bH.of_sc rfl)))
 unfold execOp
 simp [ex,ey,Instr.index,asIntOf,run_underlying hS,hi,hb]
end
section
variable{h0:Nat→Prop}{w0:World}{Fz0:ay}{σ:St}{Q:Exit→St→Prop}{c1 c2:Code}
end
end
end
section
def iy:List Value→List PV→List PV
 | u::us,p::ps=>PV.nv u p::iy us ps
 | _,_=>[]
def wU{Fz:ay}{w:World}:∀{ps:List PV} {us:List Value},aB ps→bE ps Fz w us→aC (iy us ps) Fz w us []
 | [],us,_,h=>by
  have h:us=[]:=h
  subst h;exact ⟨rfl,rfl⟩
 | p::ps,us,hb,h=>by
  obtain ⟨v,vs,rfl,h1,h2⟩:=h
  exact ⟨v,vs,[],[],rfl,rfl,⟨rfl,hb p aF h1⟩,wU (fun q hq=>hb q (by simp [hq])) h2⟩
def di(h:Nat→Value):Nat→List PV→List PV
 | _,[]=>[]
 | i,p::ps=>PV.nv (h i) p::di h (i+1) ps
def wV(h:Nat→Value):∀(ps:List PV) (i:Nat),di h i ps=iy ((List.range' i ps.length).map h) ps
 | [],i=>rfl
 | p::ps,i=>by rw [di,wV h ps (i+1)];rfl
def aV{α:Type}(e:Nat)(zs:List (α×(Nat→Value))):List Value:=(zs.map fun z=>(List.range e).map z.2).flatten
def bp{α:Type}(f:α→List PV)(zs:List (α×(Nat→Value))):List PV:=(zs.map fun z=>f z.1).flatten
def Hw:∀{us vs:List Value} {ps qs:List PV},us.length=ps.length→iy (us++vs) (ps++qs)=iy us ps++iy vs qs
 | [],vs,[],qs,_=>rfl
 | u::us,vs,p::ps,qs,h=>by
  simp only [List.cons_append,iy]
  rw [Hw om]
def AB{e:Nat}{us:List Value}(h:us.length=e):∃k:Nat→Value,us=(List.range e).map k:=by
 refine ⟨fun i=>us.getD i undef,?_⟩
 subst h
 apply List.ext_getElem
 ·simp
 ·intro i h1 h2
  simp [h1]
def Hx{α:Type}{g:α→List PV}{fN:α×(Nat→Value)→List PV}{e:Nat}(hN:∀x h,fN (x,h)=di h 0 (g x))(hg:∀x,(g x).length=e)(jk:List PV):∀(xs:List α) (us:List Value),us.length=xs.length * e+jk.length →
  ∃(zs:List (α×(Nat→Value))) (vs:List Value),zs.map Prod.fst=xs∧us=aV e zs++vs∧vs.length=jk.length∧iy us ((xs.map g).flatten++jk)=(zs.map fN).flatten++iy vs jk
 | [],us,h=>⟨[],us,rfl,rfl,om,rfl⟩
 | x::xs,us,h=>by
  have hs:(x::xs).length * e=e+xs.length * e:=by rw [List.length_cons,Nat.succ_mul];omega
  obtain ⟨k,hk⟩:=AB (e:=e) (us:=us.take e) fR
  obtain ⟨zs,vs,e1,e2,e3,e4⟩:=Hx hN hg jk xs (us.drop e) pL
  refine ⟨(x,k)::zs,vs,by rw [List.map_cons,e1],?_,e3,?_⟩
  ·rw [←fh e us,hk,e2]
   simp [aV,aW]
  ·rw [←fh e us]
   have:((x::xs).map g).flatten++jk=g x++((xs.map g).flatten++jk):=aF
   rw [this,Hw (by rw [hg,cu];omega),e4,hk]
   simp only [List.map_cons,List.flatten_cons,aW]
   rw [hN,wV,hg,List.range_eq_range']
def Hy{α:Type}{f g:α→List PV}(h:∀x,aA (f x) (g x)):∀(xs:List α) {js:List PV},aA ((xs.map f).flatten++js) ((xs.map g).flatten++js)
 | [],js=>aA.refl js
 | x::xs,js=>by
  have k:∀{ps qs rs ss:List PV},aA ps qs→aA rs ss→aA (ps++rs) (qs++ss):=by
   intro ps
   induction ps with
   | nil=>intro qs rs ss h1 h2;cases qs with
    | nil=>exact h2
    | cons q qs=>exact h1.elim
   | cons p ps ih=>intro qs rs ss h1 h2;cases qs with
    | nil=>exact h1.elim
    | cons q qs=>exact ⟨h1.1,ih h1.2 h2⟩
  simp only [List.map_cons,List.flatten_cons,aW]
  exact k (h x) (Hy h xs)
def Sk{α:Type}{g:α→List PV}(h:∀x,aB (g x))(xs:List α)(jk:List Value):aB ((xs.map g).flatten++jk.map PV.val):=fun p hp=>by
 rcases List.mem_append.1 hp with hp|hp
 ·obtain ⟨cs,hcs,hp⟩:=List.mem_flatten.1 hp
  obtain ⟨x,_,rfl⟩:=List.mem_map.1 hcs
  exact h x p hp
 ·obtain ⟨v,_,rfl⟩:=List.mem_map.1 hp
  exact PV.bor_val _
def Hz{Fz:ay}{w:World}:∀{jk us vs:List Value} {F:List Nat},aC (iy us (jk.map PV.val)) Fz w vs F→us.length=jk.length→aC (jk.map PV.val) Fz w vs F
 | [],us,vs,F,h,hl=>by
  have:us=[]:=iS hl
  subst this;exact h
 | j::jk,[],vs,F,h,hl=>by simp at hl
 | j::jk,u::us,vs,F,h,hl=>by
  obtain ⟨v,vs',F1,F2,rfl,rfl,h1,h2⟩:=h
  exact ⟨v,vs',F1,F2,rfl,rfl,h1.2,Hz h2 wv⟩
def Sl{α:Type}{f:α→List PV}{e:Nat}(hf:∀x,(f x).length=e){Fz:ay}{w:World}{zs ys:List (α×(Nat→Value))}(hp:zs.Perm ys):∀{F:List Nat},aC (bp f zs) Fz w (aV e zs) F→∃F',F.Perm F'∧aC (bp f ys) Fz w (aV e ys) F':=by
 have hone:∀{z:α×(Nat→Value)} {l:List (α×(Nat→Value))} {F:List Nat},aC (bp f (z::l)) Fz w (aV e (z::l)) F→∃F1 F2,F=F1++F2∧aC (f z.1) Fz w ((List.range e).map z.2) F1∧aC (bp f l) Fz w (aV e l) F2:=by
  intro z l F h
  have h:aC (f z.1++bp f l) Fz w ((List.range e).map z.2++aV e l) F:=h
  obtain ⟨v1,v2,F1,F2,e1,rfl,h1,h2⟩:=h.split
  have hl:((List.range e).map z.2).length=v1.length:=by rw [h1.len,hf];simp
  obtain ⟨rfl,rfl⟩:=List.append_inj e1 hl
  exact ⟨F1,F2,rfl,h1,h2⟩
 induction hp with
 | nil=>intro F h;exact ⟨F,List.Perm.refl _,h⟩
 | cons z _ ih=>
  intro F h
  obtain ⟨F1,F2,rfl,h1,h2⟩:=hone h
  obtain ⟨F',k1,k2⟩:=ih h2
  exact ⟨F1++F',fT F1 k1,h1.append k2⟩
 | swap z y l=>
  intro F h
  obtain ⟨F1,F2,rfl,h1,h2⟩:=hone h
  obtain ⟨F3,F4,rfl,h3,h4⟩:=hone h2
  refine ⟨F3++(F1++F4),?_,h3.append (h1.append h4)⟩
  rw [←aW,←aW]
  exact im _ iT
 | trans _ _ ih1 ih2=>
  intro F h
  obtain ⟨F1,k1,h1⟩:=ih1 h
  obtain ⟨F2,k2,h2⟩:=ih2 h1
  exact ⟨F2,k1.trans k2,h2⟩
section
variable{P:Program}{n:Nat}{h0:Nat→Prop}{w0:World}{Fz0:ay}{σ:St}{Q:Exit→St→Prop}{c:Code}{ops:Array Oper}
def HA{d t G:Nat}{cs qs:List PV}(hd:σ.b d=some (t,cs))(hG:σ.s G=none)(hq:aA cs qs)(hb:aB qs)(h:∀us:List Value,(∃Fz w,bE cs Fz w us)→SW P n h0 w0 Fz0 c ((σ.setB d (some (t,iy us qs))).set G (some (RV.gh us cs))) Q):SW P n h0 w0 Fz0 c σ Q:=fun a w hc=>by
 obtain ⟨φ,Fz,Fp,hc⟩:=hc
 obtain ⟨cur,h1,h2⟩:=hc.box d _ hd
 have k0:=hc.pull G
 have e0:∀i rv,(σ.set G none).s i=some rv→i≠G∧σ.s i=some rv:=fun i rv hi=>by
  rw [St.set_s] at hi
  split at hi
  ·cases hi
  ·rename_i hne;exact ⟨hne,hi⟩
 have hne:mv Fp (2 * G+1) (2 * d+2)=Fp (2 * d+2):=by
  simp only [mv];rw [if_neg ab,if_neg ab]
 have hgn:mv Fp (2 * G+1) (2 * G+1)=[]:=et
 generalize hFp1:mv Fp (2 * G+1)=Fp1 at k0 hne hgn
 refine h cur.toList ⟨Fz,w,h2.rel⟩ a w ⟨φ,Fz,jP Fp1 (2 * d+2) (2 * G+1),?_⟩
 have hsub:∀r b,b∈jP Fp1 (2 * d+2) (2 * G+1) r→∃r',b∈Fp1 r':=fun r b hb=>by
  rcases Au hb with ⟨_,k⟩|⟨_,_,k⟩
  ·exact ⟨_,k⟩
  ·exact ⟨_,k⟩
 exact { k0 with
  slot:=fun i rv hi=>by
   rw [St.set_s] at hi
   split at hi
   ·rename_i e
    subst e
    injection hi with hi
    subst hi
    show aC cs Fz w cur.toList (jP Fp1 (2 * d+2) (2 * i+1) (2 * i+1))
    simp only [jP,if_true]
    rw [hne];exact h2
   ·rename_i e
    have:=k0.slot i rv (by rw [St.set_s,if_neg e];exact hi)
    simp only [jP]
    rw [if_neg ab,if_neg ab]
    exact this
  box:=fun e bx he=>by
   rw [St.set_b,St.setB_b] at he
   split at he
   ·rename_i e';subst e';injection he with he;subst he
    refine ⟨cur,h1,?_⟩
    simp only [jP]
    rw [if_neg ab,if_pos (by trivial)]
    exact wU hb (hq.rel h2.rel)
   ·rename_i e'
    obtain ⟨cur',k1,k2⟩:=k0.box e bx he
    refine ⟨cur',k1,?_⟩
    simp only [jP]
    rw [if_neg ab,if_neg ab]
    exact k2
  bxb:=fun e bx he=>by
   have:∃z,(σ.set G none).b e=some z:=by
    rw [St.set_b,St.setB_b] at he
    split at he
    ·rename_i e';subst e';exact ⟨_,hd⟩
    ·exact ⟨_,he⟩
   obtain ⟨z,hz⟩:=this
   obtain ⟨g1,g2,g3⟩:=k0.bxb e z hz
   exact ⟨g1,g2,fun r hr=>by obtain ⟨r',h'⟩:=hsub r _ hr;exact g3 r' h'⟩
  inj:=fun e e' c1 c2 he he'=>by
   have f:∀x y,((σ.setB d (some (t,iy cur.toList qs))).set G (some (RV.gh cur.toList cs))).b x=some y→∃z,(σ.set G none).b x=some z:=by
    intro x y hx
    rw [St.set_b,St.setB_b] at hx
    split at hx
    ·rename_i e';subst e';exact ⟨_,hd⟩
    ·exact ⟨_,hx⟩
   obtain ⟨z1,f1⟩:=f _ _ he
   obtain ⟨z2,f2⟩:=f _ _ he'
   exact k0.inj e e' z1 z2 f1 f2
  dis:=RL k0.dis
  nod:=RM k0.nod
  low:=fun r b hb=>by obtain ⟨r',h'⟩:=hsub r b hb;exact k0.low r' b h' }
def Sm{d t G e:Nat}{α:Type}{f g:α→List PV}{fN:α×(Nat→Value)→List PV}{xs:List α}{jk:List Value}(hd:σ.b d=some (t,bo f xs jk))(hG:σ.s G=none)(hN:∀x h,fN (x,h)=di h 0 (g x))(hg:∀x,(g x).length=e)(hq:∀x,aA (f x) (g x))(hb:∀x,aB (g x))
  (h:∀zs:List (α×(Nat→Value)),zs.map Prod.fst=xs→SW P n h0 w0 Fz0 c ((σ.setB d (some (t,bo fN zs jk))).set G (some (RV.gh (aV e zs) (bp f zs)))) Q):SW P n h0 w0 Fz0 c σ Q:=by
 refine HA hd hG (Hy hq xs) (Sk hb xs jk) fun us hus=>?_
 intro a w hc
 have hfl:∀x,(f x).length=e:=fun x=>by rw [(hq x).len];exact hg x
 have hlen:us.length=xs.length * e+(jk.map PV.val).length:=by
  obtain ⟨_,_,hr⟩:=hus
  rw [hr.len];unfold bo
  rw [aZ,rC (e:=e) (fun cs hcs=>by obtain ⟨x,_,rfl⟩:=List.mem_map.1 hcs;exact hfl x),aO]
 obtain ⟨zs,vs,e1,e2,e3,e4⟩:=Hx hN hg (jk.map PV.val) xs us hlen
 have hvl:(aV e zs).length=(bp f zs).length:=by
  unfold aV bp
  rw [rC (e:=e) (fun cs hcs=>by obtain ⟨x,_,rfl⟩:=List.mem_map.1 hcs;exact hfl x.1)]
  have:∀l:List (α×(Nat→Value)),(l.map fun z=>(List.range e).map z.2).flatten.length=l.length * e:=by
   intro l;induction l with
   | nil=>simp
   | cons z l ih=>rw [List.map_cons,List.flatten_cons,aZ,ih,List.length_cons,Nat.succ_mul];simp;omega
  rw [this,aO]
 have hfm:bp f zs=(xs.map f).flatten:=by unfold bp;rw [←e1,List.map_map];rfl
 refine h zs e1 a w ?_
 obtain ⟨φ,Fz,Fp,hc⟩:=hc
 refine ⟨φ,Fz,Fp,{ hc with slot:=fun i rv hi=>?_,box:=fun b bx hb'=>?_,bxb:=fun b bx hb'=>?_,inj:=fun b b' c1 c2 hb1 hb2=>?_ }⟩
 ·rw [St.set_s] at hi
  split at hi
  ·rename_i hiG
   injection hi with hi
   subst hi
   have:=hc.slot i _ (by rw [St.set_s,if_pos hiG])
   have this:aC (bo f xs jk) Fz w us (Fp (2 * i+1)):=this
   unfold bo at this
   rw [e2] at this
   obtain ⟨v1,v2,F1,F2,k1,k2,k3,k4⟩:=this.split
   have hF2:F2=[]:=by
    have:∀(jk:List Value) (v2:List Value) (G2:List Nat),aC (jk.map PV.val) Fz w v2 G2→G2=[]:=by
     intro jk
     induction jk with
     | nil=>intro v2 G2 h;exact h.2
     | cons j jk ih=>
      intro v2 G2 h
      obtain ⟨v,vs',F1,F2,_,rfl,h1,h2⟩:=h
      rw [ih _ _ h2,h1.2];rfl
    exact this _ _ _ k4
   obtain ⟨rfl,rfl⟩:=List.append_inj k1 (by rw [hvl,k3.len,hfm])
   show aC (bp f zs) Fz w (aV e zs) (Fp (2 * i+1))
   rw [k2,hF2,dJ,hfm];exact k3
  ·rename_i hiG
   exact hc.slot i rv (by rw [St.set_s,if_neg hiG];exact hi)
 ·rw [St.set_b,St.setB_b] at hb'
  split at hb'
  ·rename_i hbd
   injection hb' with hb'
   subst hb'
   obtain ⟨cur,k1,k2⟩:=hc.box b (t,iy us ((xs.map g).flatten++jk.map PV.val)) (by rw [St.set_b,St.setB_b,if_pos hbd])
   refine ⟨cur,k1,?_⟩
   have k2:aC (iy us ((xs.map g).flatten++jk.map PV.val)) Fz w cur.toList (Fp (2 * b+2)):=k2
   rw [e4] at k2
   obtain ⟨v1,v2,F1,F2,q1,q2,q3,q4⟩:=k2.split
   rw [q1,q2]
   exact q3.append (Hz q4 (by rw [e3,aO]))
  ·rename_i hbd
   exact hc.box b bx (by rw [St.set_b,St.setB_b,if_neg hbd];exact hb')
 ·have:∃z,((σ.setB d (some (t,iy us ((xs.map g).flatten++jk.map PV.val)))).set G (some (RV.gh us (bo f xs jk)))).b b=some z:=by
   rw [St.set_b,St.setB_b] at hb' ⊢
   split at hb'
   ·rename_i hbd;rw [if_pos hbd];exact ⟨_,rfl⟩
   ·rename_i hbd;rw [if_neg hbd];exact ⟨_,hb'⟩
  obtain ⟨z,hz⟩:=this
  exact hc.bxb b z hz
 ·have:∀x y,((σ.setB d (some (t,bo fN zs jk))).set G (some (RV.gh (aV e zs) (bp f zs)))).b x=some y→∃z,((σ.setB d (some (t,iy us ((xs.map g).flatten++jk.map PV.val)))).set G (some (RV.gh us (bo f xs jk)))).b x=some z:=by
   intro x y hx
   rw [St.set_b,St.setB_b] at hx ⊢
   split at hx
   ·rename_i hbd;rw [if_pos hbd];exact ⟨_,rfl⟩
   ·rename_i hbd;rw [if_neg hbd];exact ⟨_,hx⟩
  obtain ⟨z1,f1⟩:=this _ _ hb1
  obtain ⟨z2,f2⟩:=this _ _ hb2
  exact hc.inj b b' z1 z2 f1 f2
def AC{α:Type}{g:α→List PV}{fN:α×(Nat→Value)→List PV}{e:Nat}(hN:∀x h,fN (x,h)=di h 0 (g x))(hg:∀x,(g x).length=e){Fz:ay}{w:World}:∀{zs:List (α×(Nat→Value))} {js:List PV} {us:List Value},bE ((zs.map fN).flatten++js) Fz w us→∃vs,us=aV e zs++vs∧bE js Fz w vs
 | [],js,us,h=>⟨us,rfl,h⟩
 | z::zs,js,us,h=>by
  have hk:∀(ps:List PV) (i:Nat) (k:Nat→Value) (vs:List Value),bE (di k i ps) Fz w vs→vs=(List.range' i ps.length).map k:=by
   intro ps
   induction ps with
   | nil=>intro i k vs h;exact h
   | cons p ps ih=>
    intro i k vs h
    obtain ⟨v,vs',rfl,h1,h2⟩:=h
    rw [ih _ _ _ h2,h1.1];rfl
  simp only [List.map_cons,List.flatten_cons,aW] at h
  obtain ⟨v1,v2,rfl,h1,h2⟩:=h.split
  obtain ⟨vs,rfl,h3⟩:=AC hN hg h2
  obtain ⟨x,k⟩:=z
  rw [hN] at h1
  have:=hk _ _ _ _ h1
  rw [hg] at this
  refine ⟨vs,?_,h3⟩
  rw [this]
  simp [aV,List.range_eq_range']
def Sn{i:Int}:i.fdiv (2 ^ 1)=i / 2:=by rw [Int.fdiv_eq_ediv_of_nonneg _ ae];rfl
end
end
def aS.view{P:Program}{f:FuncId}{args:List (Bool×List PV)}{ag:Bool}{cs qs:List PV}(ht:aA cs qs)(hb:aB qs)(h:aS P f args (RV.sv ag cs)):aS P f args (RV.sv ag qs):=fun w vs Fz hz hr=>by
 refine (h w vs Fz hz hr).mono ?_
 rintro e w' ⟨v,Fz',F,e1,hb1,h1,h2,hv,hn,hF⟩
 exact ⟨v,Fz',[],e1,hb1,h1,h2,fun φ=>Cp.sv ht hb (hv φ),List.nodup_nil,fun b hb=>nomatch hb⟩
section
def nt(L:Nat→Prop)(r r':RV):Prop:=∀{φ:Nat→Nat} {Fz:ay} {w:World} {v:Value} {F:List Nat},(∀b o,Fz b o→L b)→r.holds φ Fz w v F→r'.holds φ Fz w v []
def nt.sv{L:Nat→Prop}{ag:Bool}{cs qs:List PV}(ht:ao L cs qs)(hb:aB qs):nt L (RV.sv ag cs) (RV.sv ag qs):=fun hz h=>⟨h.1,hb.own (ht.rel hz h.2.rel)⟩
def nt.ptr{L:Nat→Prop}{d off:Nat}:nt L (RV.ptr d off) (RV.ptr d off):=fun _ h=>⟨h.1,rfl⟩
def pU(L:Nat→Prop):List (Nat×RV)→List (Nat×RV)→Prop
 | [],[]=>True
 | p::l,q::l'=>(p.1=q.1∧nt L p.2 q.2)∧pU L l l'
 | _,_=>False
def pU.cons{L:Nat→Prop}{i:Nat}{r r':RV}{l l':List (Nat×RV)}(h:nt L r r')(k:pU L l l'):pU L ((i,r)::l) ((i,r')::l'):=⟨⟨rfl,h⟩,k⟩
def pU.at_{L:Nat→Prop}{i:Nat}{r':RV}:∀{l l':List (Nat×RV)},pU L l l'→lk l' i=some r'→∃r,lk l i=some r∧nt L r r'
 | [],[],_,h=>by cases h
 | (j,r)::l,(j',q)::l',k,h=>by
  obtain ⟨⟨e,k1⟩,k2⟩:=k
  dsimp only at e
  subst e
  rw [lk,beq_eq] at h ⊢
  by_cases hx:i=j
  ·rw [decide_eq_true hx] at h ⊢
   simp only [cond_true,Option.some.injEq] at h ⊢
   subst h
   exact ⟨r,rfl,k1⟩
  ·rw [decide_eq_false hx] at h ⊢
   simp only [cond_false] at h ⊢
   exact pU.at_ k2 h
section
variable{P:Program}{n:Nat}{h0:Nat→Prop}{w0:World}{Fz0:ay}{Q:Exit→St→Prop}{c:Code}
end
end
section
section
variable{P:Program}{n:Nat}{h0:Nat→Prop}{w0:World}{Fz0:ay}
section
variable{σ:St}{a:Act}{w:World}{φ:Nat→Nat}{Fz:ay}{Fp:Nat→List Nat}
def bi.ghost(h:bi h0 w0 Fz0 n σ a w φ Fz Fp){i:Nat}{rv:RV}{F X:List Nat}(hv:rv.holds φ Fz w (a.tmps.getD i undef) F)(hX:∀b,b∈F++X→b∈Fp 0)(hn:(F++X).Nodup) :
  bi h0 w0 Fz0 n (σ.set i (some rv)) a w φ Fz (cH Fp (2 * i+1) F X) where
 bel:=h.bel
 dfr:=h.dfr
 siz:=h.siz
 hlt:=h.hlt
 fz0:=h.fz0
 fzl:=h.fzl
 slot j rv' hj:=by
  rw [St.set_s] at hj
  split at hj
  ·rename_i hji
   subst hji
   injection hj with hj
   subst hj
   unfold cH
   rw [if_pos rfl];exact hv
  ·rename_i hne
   unfold cH
   rw [if_neg ab,if_neg ab]
   exact h.slot j rv' hj
 box d cs hd:=by
  obtain ⟨cur,h1,h2⟩:=h.box d cs hd
  refine ⟨cur,h1,?_⟩
  unfold cH
  rw [if_neg ab,if_neg ab];exact h2
 bxb d cs hd:=by
  obtain ⟨h1,h2,h3⟩:=h.bxb d cs hd
  refine ⟨h1,h2,fun r hr=>?_⟩
  rcases lf hr with ⟨_,hr⟩|⟨_,_,hr⟩|⟨_,_,hr⟩
  ·exact h3 0 (hX _ kw)
  ·exact h3 0 (hX _ kw)
  ·exact h3 _ hr
 inj d d' cs cs':=h.inj d d' cs cs'
 dis:=wz ab hX hn h.dis
 nod:=wB hn h.nod
 low r b hb:=by
  rcases lf hb with ⟨_,hr⟩|⟨_,_,hr⟩|⟨_,_,hr⟩
  ·exact h.low 0 b (hX _ kw)
  ·exact h.low 0 b (hX _ kw)
  ·exact h.low _ b hr
end
section
variable{ops:Array Oper}{Q:Exit→St→Prop}
end
def pV(r r':RV):Prop:=∀{φ:Nat→Nat} {Fz:ay} {w:World} {v:Value} {F:List Nat},r.holds φ Fz w v F→r'.holds φ Fz w v F
def pV.refl{r:RV}:pV r r:=fun h=>h
def pV.sv{ag:Bool}{cs qs:List PV}(h:iw cs qs):pV (RV.sv ag cs) (RV.sv ag qs):=fun hh=>⟨hh.1,h hh.2⟩
def pW(f:Nat→Option RV)(G:Nat):List (Nat×RV)→Prop
 | []=>True
 | p::l'=>(Nat.beq p.1 G=false∧∃r,f p.1=some r∧pV r p.2)∧pW f G l'
def pW.cons{f:Nat→Option RV}{G i:Nat}{r r':RV}{l':List (Nat×RV)}(h1:Nat.beq i G=false)(h2:f i=some r)(h3:pV r r')(k:pW f G l'):pW f G ((i,r')::l'):=⟨⟨h1,r,h2,h3⟩,k⟩
def pW.at_{f:Nat→Option RV}{G i:Nat}{r':RV}:∀{l':List (Nat×RV)},pW f G l'→(i,r')∈l'→i≠G∧∃r,f i=some r∧pV r r'
 | [],_,h=>by simp at h
 | p::l',k,h=>by
  rcases List.mem_cons.1 h with rfl|h
  ·exact ⟨fun e=>by have:=k.1.1;dsimp only at this;rw [e] at this;simp at this,k.1.2⟩
  ·exact pW.at_ k.2 h
variable{Q:Exit→St→Prop}{c:Code}
def So{σ:St}{s:Nat}{ag:Bool}{cs:List PV}(qs:List PV)(hs:σ.s s=some (RV.sv ag cs))(ht:aA cs qs)(hb:aB qs)(h:SW P n h0 w0 Fz0 c (σ.set s (some (RV.sv ag qs))) Q):SW P n h0 w0 Fz0 c σ Q:=fun a w hc=>by
 obtain ⟨φ,Fz,Fp,hc⟩:=hc
 have hv:bH ag cs Fz w (a.tmps.getD s undef) (Fp (2 * s+1)):=hc.slot s _ hs
 have c1:=(hc.pull s).reslot (s:=s) (rv:=RV.sv ag qs) (by
  have:mv Fp (2 * s+1) (2 * s+1)=[]:=et
  rw [this]
  exact ⟨hv.1,hb.own (ht.rel hv.2.rel)⟩)
 exact h a w (bl.eqv ⟨φ,Fz,_,c1⟩ (fun i=>by
  simp only [St.set_s]
  split<;>rfl) (fun d=>rfl))
def pX(L:Nat→Prop):List (Nat×(Nat×List PV))→List (Nat×(Nat×List PV))→Prop
 | [],[]=>True
 | p::b,q::b'=>(p.1=q.1∧p.2.1=q.2.1∧ao L p.2.2 q.2.2∧aB q.2.2)∧pX L b b'
 | _,_=>False
def pX.cons{L:Nat→Prop}{d t:Nat}{cs qs:List PV}{b b':List (Nat×(Nat×List PV))}(h1:ao L cs qs)(h2:aB qs)(k:pX L b b'):pX L ((d,(t,cs))::b) ((d,(t,qs))::b'):=⟨⟨rfl,rfl,h1,h2⟩,k⟩
def pX.at_{L:Nat→Prop}{d t:Nat}{qs:List PV}:∀{b b':List (Nat×(Nat×List PV))},pX L b b'→lk b' d=some (t,qs)→∃cs,lk b d=some (t,cs)∧ao L cs qs∧aB qs
 | [],[],_,h=>by cases h
 | (j,(s,r))::l,(j',(s',q))::l',k,h=>by
  obtain ⟨⟨e,e2,k1⟩,k2⟩:=k
  dsimp only at e e2 k1
  subst e e2
  rw [lk,beq_eq] at h ⊢
  by_cases hx:d=j
  ·rw [decide_eq_true hx] at h ⊢
   simp only [cond_true,Option.some.injEq,Prod.mk.injEq] at h ⊢
   obtain ⟨rfl,rfl⟩:=h
   exact ⟨r,⟨rfl,rfl⟩,k1⟩
  ·rw [decide_eq_false hx] at h ⊢
   simp only [cond_false] at h ⊢
   exact pX.at_ k2 h
end
end
section
section
variable{P:Program}{n:Nat}{h0:Nat→Prop}{w0:World}{Fz0:ay}
end
def nt.phi{L:Nat→Prop}{D g:Nat}:nt L (RV.phi D g) (RV.phi D g):=fun _ h=>⟨h.1,rfl⟩
section
variable{P:Program}{n:Nat}{h0:Nat→Prop}{w0:World}{Fz0:ay}{σ:St}{Q:Exit→St→Prop}{c:Code}
end
def Sp(x y:Int):Int:=IntKind.i64.wrap (x * y)
def HB(x y:Int):Int:=IntKind.i64.wrap (x+y)
def HC(x y:Int):Int:=IntKind.i64.wrap (BitVec.ofInt 64 x &&& BitVec.ofInt 64 y).toNat
def Sq(x y:Int):Int:=IntKind.i64.wrap (BitVec.ofInt 64 x ^^^ BitVec.ofInt 64 y).toNat
section
variable{P:Program}{n:Nat}{T T2:TypeId}{x y:Operand}{d:Nat}{ty:TypeId}{pos:String}{af:Array Edge}{g:Option (Nat×Bool)}{i j:Int}
end
end
def aG:=@PV.tob_refl
def rN:=@PV.to_none
def bm:=@PV.tob_map
def acT:=@PV.lcl_val
def bK{o:Fl}{es:List (List PV)}{ps qs:List PV}(k:aA ps qs):aA (PV.sl o es::ps) (PV.sl .v es::qs):=aA.cons PV.to_none k
section
variable{v_1 v_2 v_3 v_4 v_5 v_6 v_7 v_8 v_9 v_10 v_11 v_12 v_13 v_14 v_15 v_16:Value}{f_1 f_2 f_3 f_4 f_5:Fl}{l_1 l_2 l_3 l_4 l_5:List (List PV)}
abbrev cO:=[PV.val v_1,PV.sl f_1 l_1]
abbrev cI:=[PV.val v_1,PV.val v_2,PV.sl .v l_1,PV.sl .v l_2]
abbrev cD:=[PV.val v_1,PV.val v_2,PV.sl f_1 l_1,PV.sl f_2 l_2]
abbrev gG:=[PV.val v_1,PV.sl f_1 l_1,PV.val v_2,PV.val v_3]
abbrev rO:=[PV.val v_1,PV.val v_2]
abbrev dE:=[PV.sl f_1 l_1,PV.val v_1]
abbrev iW:=[PV.val v_1,PV.val v_2,PV.sl f_1 l_1,PV.sl f_2 l_2,PV.val v_3,PV.val v_4,PV.sl f_3 l_3]
abbrev bj:=[PV.sl f_1 l_1,PV.val v_1,PV.val v_2,PV.sl f_2 l_2,PV.sl f_3 l_3,PV.sl f_4 l_4,PV.sl f_5 l_5,PV.val v_3]
abbrev dG:=[PV.val v_1,PV.val v_2,PV.sl f_1 l_1,PV.sl f_2 l_2,PV.val v_3,PV.sl f_3 l_3,PV.val v_4,PV.val v_5,PV.val v_6,PV.sl f_4 l_4]
abbrev rP:=[PV.nv v_1 (PV.val v_2),PV.nv v_3 (PV.val v_4),PV.nv v_5 (PV.sl f_1 l_1),PV.nv v_6 (PV.sl f_2 l_2),PV.nv v_7 (PV.val v_8),PV.nv v_9 (PV.sl f_3 l_3),PV.nv v_10 (PV.val v_11),PV.nv v_12 (PV.val v_13),PV.nv v_14 (PV.val v_15),PV.nv v_16 (PV.sl f_4 l_4)]
abbrev ju:=[PV.val v_1,PV.val v_2,PV.val v_3,PV.sl f_1 l_1,PV.sl f_2 l_2,PV.val v_4,PV.val v_5,PV.val v_6,PV.val v_7,PV.sl f_3 l_3,PV.val v_8,PV.val v_9,PV.val v_10]
abbrev nu:=[PV.val v_1,PV.val v_2,PV.val v_3,PV.sl .v l_1,PV.sl .v l_2,PV.val v_4,PV.val v_5,PV.val v_6,PV.val v_7,PV.sl .v l_3,PV.val v_8,PV.val v_9,PV.val v_10]
abbrev fb:=[PV.sl .v l_1,PV.val v_1,PV.val v_2,PV.sl .v l_2,PV.sl .v l_3,PV.sl .v l_4,PV.sl .v l_5,PV.val v_3]
abbrev dK:=[PV.val v_1,PV.sl .v l_1]
abbrev ox:=[PV.val v_1,PV.val v_2,PV.sl .v l_1,PV.sl .v l_2,PV.val v_3,PV.sl .v l_3,PV.val v_4,PV.val v_5,PV.val v_6,PV.sl .v l_4]
abbrev gH:=[PV.val v_1,PV.val v_2,PV.val v_3]
abbrev HD:=[PV.nv v_1 (PV.val v_2),PV.nv v_3 (PV.val v_4),PV.nv v_5 (PV.sl .v l_1),PV.nv v_6 (PV.sl .v l_2),PV.nv v_7 (PV.val v_8),PV.nv v_9 (PV.sl .v l_3),PV.nv v_10 (PV.val v_11),PV.nv v_12 (PV.val v_13),PV.nv v_14 (PV.val v_15),PV.nv v_16 (PV.sl .v l_4)]
abbrev gW:=[PV.sl .v l_1,PV.val v_1]
abbrev AD:=[PV.sl f_1 l_1,PV.val v_1,PV.val v_2,PV.sl f_2 l_2,PV.val v_3,PV.sl f_3 l_3,PV.sl f_4 l_4,PV.val v_4]
abbrev gX:=[PV.val v_1,PV.val v_2,PV.sl f_1 l_1,PV.sl f_2 l_2,PV.sl f_3 l_3]
abbrev iX:=[PV.val v_1,PV.val v_2,PV.sl f_1 l_1,PV.val v_3,PV.val v_4]
abbrev jQ:=[PV.val v_1,PV.val v_2,PV.sl .v l_1,PV.val v_3,PV.val v_4]
abbrev mn:=[PV.val v_1,PV.sl .v l_1,PV.val v_2,PV.val v_3]
abbrev ny:=[PV.val v_1,PV.val v_2,PV.sl .v l_1,PV.sl .v l_2,PV.val v_3,PV.val v_4,PV.sl .v l_3]
abbrev rQ:=[PV.val v_1,PV.val v_2,PV.sl .v l_1,PV.sl .v l_2,PV.sl .v l_3]
abbrev wW:=[PV.nv v_1 (PV.val v_2),PV.nv v_3 (PV.sl f_1 l_1),PV.nv v_4 (PV.val v_5),PV.nv v_6 (PV.val v_7)]
abbrev oy:=[PV.sl f_1 l_1,PV.val v_1,PV.val v_2,PV.sl f_2 l_2]
abbrev oz:=[PV.sl f_1 l_1,PV.sl f_2 l_2,PV.val v_1]
end
end Go.Proofs.YtmekkgdboplbjaaGreatDoor.M
