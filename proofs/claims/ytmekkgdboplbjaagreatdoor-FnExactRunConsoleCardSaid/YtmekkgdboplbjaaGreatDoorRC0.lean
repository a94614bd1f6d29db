/- The logic. No condition. -/
import Derived.Test.YtmekkgdboplbjaaGreatDoorRB0
import Derived.KernelRfl
import Derived.Laws.Strings3
import Derived.Laws.BytesString
import Derived.Laws.Concat
import Derived.Lib.LaidTab
import Derived.Lib.Join
import Derived.Lib.ItoaNum
import Derived.Lib.ItoaLen
import Derived.Sort.Grow
import Derived.Deep.Draws
import Derived.ProofKit
import Derived.OpenShut
import Derived.Carry
import Derived.Below
import Derived.ChangeSame
import Derived.ChangeArms
import Derived.WideKeyArgs
import Derived.Deep.Slices
import Derived.Lib.SplitLaws
import Derived.Lib.AtoiAll
import Derived.Lib.Strings
import Derived.Lib.Replace
set_option linter.all false
namespace Go.Proofs.YtmekkgdboplbjaaGreatDoor.M
open Go Go.RowKit
variable{T e d:Nat}{y:Operand}{ty:TypeId}{pos:String}{af:Array Edge}{g:Option (Nat×Bool)}{α:Type}{p:Nat}{b:Bool}{off t k:Nat}{ag:Bool}{jk:List Value}{qs:List PV}{L:aL}{s:Nat}{r:RV}{v:Value}{cs:List PV}{f:Nat}{o:Fl}{Fz:aD}{w:World}{i:Int}{w':World}{xs:List α}
section
section
variable{P:Program}{n:Nat}{h0:Nat→Prop}{w0:World}{Fz0:aD}{ops:Array Oper}{Q:Exit→St→Prop}
def aqs{E bs m:Nat}{x:Operand}{q q2:Int}{z:Value}{zs:List PV}(hd:d < n)(hT:fF P T=some (E,e,bs))(hz:fE P E=some z)(hz1:z.cells.size=e)
  (hzs:∀{Fz:aD} {w:World},aN zs Fz w z.cells.toList []) (hx:bN x (RV.int q)) (hy:bN y (RV.int q2)) (hq:q=(m:Int)) (hq2:q2=(m:Int)) (hm:m≤9223372036854775807) (hb:bs * m≤281474976710656) :
  Loc P n ⟨some d,.makeSlice T x y,ty,pos,af,g⟩ ⟨bw x (RV.int q)++bw y (RV.int q2),[],[(d,some (RV.slc (.own E e) (List.replicate m zs)))],[(d,none)],some d⟩:=by
 intro h0 w0 Fz0 σ a w K Q hc hr _ h4 h5
 obtain ⟨φ,Fz,Fp,hc⟩:=hc
 subst hq
 subst hq2
 have ex:=hc.sc hr.left hx
 have ey:=hc.sc hr.right hy
 obtain ⟨hu,inf,hinf,hsz,hby⟩:=rg hT
 have hz':inf.zero=some z:=by
  unfold fE at hz
  rw [hinf,Option.bind_some] at hz;exact hz
 have hb':(inf.bytes:Int) * (m:Int)≤281474976710656:=by
  have h:((inf.bytes * m:Nat):Int)≤281474976710656:=by rw [hby];omega
  rwa [Int.natCast_mul] at h
 have hr2:=run_make (P:=P) w T E inf z hu hinf hz' .i64 .i64 m m ab (Int.le_refl _) hb' ab
 simp only [Int.toNat_natCast,hsz] at hr2
 have k:=(hc.drop d).new (madeCells z.cells (m * e)) E 0
 have k2:=k.pushB (d:=d) (g:=w.heap.size) (cs:=(List.replicate m zs).flatten++([]:List Value).map PV.val) (F:=[]) (X:=Fp 0) mc (heap_alloc_new w _)
  (by
   rw [←hz1,Yj,List.map_nil,gj]
   exact Yk hzs m)
  (fun o ho=>by
   rcases ho with ho|⟨_,ho⟩
   ·have:=hc.fzl _ _ ho;omega
   ·omega)
  (fun b hb=>hb) (by simpa using k.nod 0) (.inr (h4 d rfl))
 obtain ⟨Fz',Fp',c3,hsl,hX,hnd,_⟩:=k2.freeze (s:=d) (b:=d) (m:=m) (c:=m) (e:=e) (es:=List.replicate m zs) (jk:=[]) mc (Nat.le_refl _) hm aP (fun c hc=>by
  rw [List.eq_of_mem_replicate hc,←hz1]
  have:=(hzs (Fz:=fun _ _=>False) (w:=w)).len
  simpa using this.symm) aP
 rw [if_pos rfl] at hsl
 have c4:=c3.push (i:=d) (rv:=RV.slc (.own E e) (List.replicate m zs)) (v:=.slice (some ⟨w.heap.size,0,none⟩) m m) (X:=[]) hd (bX.of_atom (p:=PV.sl (.own E e) (List.replicate m zs)) hsl)
  (fun x hx=>hX x yQ) (by simpa using hnd)
 refine eo (v:=.slice (some ⟨w.heap.size,0,none⟩) m m) (w':=w.alloc (.cells (madeCells z.cells (m * e)) E)) ?_ (h5 _ _ (bB.eqv ⟨_,_,_,c4⟩ (fun i=>?_) (fun x=>?_)))
 ·unfold execOp
  simp only [ex,ey,hr2,Sem.run_bind,Result.andThen_ok,Sem.run_pure]
 ·simp only [St.set_s,St.setB_s]
  show bK [(d,some _)] σ.s i=_
  simp only [bK,beq_eq]
  by_cases hi:i=d<;>simp [hi]
 ·simp only [St.set_b,St.setB_b]
  show bK [(d,none)] σ.b x=_
  simp only [bK,beq_eq]
  by_cases hx:x=d<;>simp [hx]
def bW(f:α→List PV)(xs:List α)(jk:List Value):List PV:=(xs.map f).flatten++jk.map PV.val
def aqt{b:Nat}{f:α→List PV}(hf:∀x,(f x).length=e)(hoff:off=k * e)(hk:k < xs.length)(hd:d < n)(hT:dk P T=some (ag,e))(h1:ag=false→e=1)
  (ht:az (f xs[k]) qs) (hb:aW qs) :
  Loc P n ⟨some d,.load T (.tmp p),ty,pos,af,g⟩ ⟨[(p,RV.ptr b off)],[(b,(t,bW f xs jk))],[(d,some (RV.sv ag qs))],[],none⟩:=by
 unfold bW
 rw [pb hk]
 exact wW (o:=0) WA hd hT h1 (by rw [hf];omega) (by rw [List.drop_zero,qX (by rw [hf];exact Nat.le_refl _)];exact ht) hb
def aqu{b:Nat}{x:Operand}{f:α→List PV}{vs:List PV}(y:α)(hf:∀x,(f x).length=e)(hoff:off=k * e)(hk:k < xs.length)(hT:dk P T=some (ag,e))(hx:bN x (RV.sv ag vs))(hv:vs=f y) :
  Loc P n ⟨none,.store T (.tmp p) x,ty,pos,af,g⟩ ⟨(p,RV.ptr b off)::bw x (RV.sv ag vs),[(b,(t,bW f xs jk))],uP x,[(b,some (t,bW f (xs.set k y) jk))],none⟩:=by
 have h:Loc P n ⟨none,.store T (.tmp p) x,ty,pos,af,g⟩ _:=rn (off:=off) (P:=P) (n:=n) (T:=T) (p:=p) (b:=b) (t:=t) (x:=x) (ty:=ty) (pos:=pos) (af:=af) (g:=g) (ag:=ag) (A:=((xs.take k).map f).flatten) (m:=f xs[k]) (B:=((xs.drop (k+1)).map f).flatten++jk.map PV.val) (vs:=vs) (o:=0) WA hT hx (by rw [hv];exact hf y) (by rw [hf];omega)
 unfold bW
 rw [pb hk,←rq (cs:=vs) y hk hv]
 have e2:List.take 0 (f xs[k])++(vs++List.drop (0+e) (f xs[k]))=vs:=by
  rw [List.take_zero,List.nil_append,List.drop_eq_nil_of_le (by rw [hf];omega),gj]
 rw [e2] at h
 exact @h
end
end
section
section
variable{P:Program}{n:Nat}{h0:Nat→Prop}{w0:World}{Fz0:aD}{ops:Array Oper}{σ σ0:St}{QS:St→Prop}{Q:Exit→St→Prop}{o:Oper}{l:List Oper}{acc:List (Nat×aL)}{c:Code}
def rA(y:bS P n ops QS l (σ.app L))(h1:bj L.rs σ.s:=by repeat (first|exact True.intro|refine And.intro rfl ?_))(h2:bj L.rb σ.b:=by repeat (first|exact True.intro|refine And.intro rfl ?_))(x:Loc P n o L)(hg:o.guard=none:=by exact rfl)(ha:L.al=none:=by exact rfl):bS P n ops QS (o::l) σ:=
 bS.step h1 h2 (dj.of hg x) (fun d hd=>by rw [ha] at hd;cases hd) y
def rB{g:Nat}{c:Bool}(hb:c=b)(y:bS P n ops QS l (σ.app ⟨(s,RV.bool c)::L.rs,L.rb,L.ws,L.wb,L.al⟩))(hg:o.guard=some (g,b):=by exact rfl)(hs:(ops[g]?).bind (·.dst)=some s:=by exact rfl)(h1:bj ((s,RV.bool c)::L.rs) σ.s:=by repeat (first|exact True.intro|refine And.intro rfl ?_))(h2:bj L.rb σ.b:=by repeat (first|exact True.intro|refine And.intro rfl ?_))(x:Loc P n o L)(hlt:s < n:=by decide)(ha:L.al=none:=by exact rfl):bS P n ops QS (o::l) σ:=
 bS.step (L:=⟨(s,RV.bool c)::L.rs,L.rb,L.ws,L.wb,L.al⟩) h1 h2 (dj.yes hg hs hlt hb x) (fun d hd=>by have hd:L.al=some d:=hd;rw [ha] at hd;cases hd) y
def dA(m:Nat)(y:cu P n ops σ0 (fun _ _=>True) QS l (acc++[(m,L)]) (σ.app L))(h1:bj L.rs σ.s:=by repeat (first|exact True.intro|refine And.intro rfl ?_))(h2:bj L.rb σ.b:=by repeat (first|exact True.intro|refine And.intro rfl ?_))(x:Loc P n o L)(hg:o.guard=none:=by exact rfl)(ha:L.al=none:=by exact rfl)(h4:re m o L acc=true:=by kernel_rfl):cu P n ops σ0 (fun _ _=>True) QS (o::l) acc σ:=
 cu.step m h1 h2 (dj.of hg x) (fun d hd=>by rw [ha] at hd;cases hd) h4 y
def dB{g:Nat}{c:Bool}(m:Nat)(hb:c=b)(y:cu P n ops σ0 (fun _ _=>True) QS l (acc++[(m,⟨(s,RV.bool c)::L.rs,L.rb,L.ws,L.wb,L.al⟩)]) (σ.app ⟨(s,RV.bool c)::L.rs,L.rb,L.ws,L.wb,L.al⟩))(hg:o.guard=some (g,b):=by exact rfl)(hs:(ops[g]?).bind (·.dst)=some s:=by exact rfl)(h1:bj ((s,RV.bool c)::L.rs) σ.s:=by repeat (first|exact True.intro|refine And.intro rfl ?_))(h2:bj L.rb σ.b:=by repeat (first|exact True.intro|refine And.intro rfl ?_))(x:Loc P n o L)(hlt:s < n:=by decide)(ha:L.al=none:=by exact rfl)
  (h4:re m o ⟨(s,RV.bool c)::L.rs,L.rb,L.ws,L.wb,L.al⟩ acc=true:=by kernel_rfl):cu P n ops σ0 (fun _ _=>True) QS (o::l) acc σ:=
 cu.step (L:=⟨(s,RV.bool c)::L.rs,L.rb,L.ws,L.wb,L.al⟩) m h1 h2 (dj.yes hg hs hlt hb x) (fun d hd=>by have hd:L.al=some d:=hd;rw [ha] at hd;cases hd) h4 y
def dF{g:Nat}{c:Bool}(m:Nat)(hb:c=false)(y:cu P n ops σ0 (fun _ _=>True) QS l (acc++[(m,⟨[(s,RV.bool c)],[],[(d,some RV.und)],[],none⟩)]) (σ.app ⟨[(s,RV.bool c)],[],[(d,some RV.und)],[],none⟩))(hg:o.guard=some (g,true):=by exact rfl)(hs:(ops[g]?).bind (·.dst)=some s:=by exact rfl)(hlt:s < n:=by decide)(hd:o.dst=some d:=by exact rfl)
  (h1:σ.s s=some (RV.bool c):=by exact rfl) (h4:re m o ⟨[(s,RV.bool c)],[],[(d,some RV.und)],[],none⟩ acc=true:=by kernel_rfl):cu P n ops σ0 (fun _ _=>True) QS (o::l) acc σ:=
 cu.step (L:=⟨[(s,RV.bool c)],[],[(d,some RV.und)],[],none⟩) m ⟨h1,True.intro⟩ True.intro (dj.no hg hs hlt hb hd) mm h4 y
def dT{g:Nat}{c:Bool}(m:Nat)(hb:c=true)(y:cu P n ops σ0 (fun _ _=>True) QS l (acc++[(m,⟨[(s,RV.bool c)],[],[(d,some RV.und)],[],none⟩)]) (σ.app ⟨[(s,RV.bool c)],[],[(d,some RV.und)],[],none⟩))(hg:o.guard=some (g,false):=by exact rfl)(hs:(ops[g]?).bind (·.dst)=some s:=by exact rfl)(hlt:s < n:=by decide)(hd:o.dst=some d:=by exact rfl)
  (h1:σ.s s=some (RV.bool c):=by exact rfl) (h4:re m o ⟨[(s,RV.bool c)],[],[(d,some RV.und)],[],none⟩ acc=true:=by kernel_rfl):cu P n ops σ0 (fun _ _=>True) QS (o::l) acc σ:=
 cu.step (L:=⟨[(s,RV.bool c)],[],[(d,some RV.und)],[],none⟩) m ⟨h1,True.intro⟩ True.intro (dj.no hg hs hlt hb hd) mm h4 y
def dU{g:Nat}(m:Nat)(y:cu P n ops σ0 (fun _ _=>True) QS l (acc++[(m,⟨[(s,RV.und)],[],[(d,some RV.und)],[],none⟩)]) (σ.app ⟨[(s,RV.und)],[],[(d,some RV.und)],[],none⟩))(hg:o.guard=some (g,b):=by exact rfl)(hs:(ops[g]?).bind (·.dst)=some s:=by exact rfl)(hd:o.dst=some d:=by exact rfl)
  (h1:σ.s s=some RV.und:=by exact rfl) (h4:re m o ⟨[(s,RV.und)],[],[(d,some RV.und)],[],none⟩ acc=true:=by kernel_rfl):cu P n ops σ0 (fun _ _=>True) QS (o::l) acc σ:=
 cu.step (L:=⟨[(s,RV.und)],[],[(d,some RV.und)],[],none⟩) m ⟨h1,True.intro⟩ True.intro (dj.noU hg hs hd) mm h4 y
def sO(l:List (Nat×RV))(b:List (Nat×(Nat×List PV)))(h:SW P n h0 w0 Fz0 c (St.of l b) Q)(hl:bj l σ.s:=by repeat (first|exact True.intro|refine And.intro rfl ?_))(hb:bj b σ.b:=by repeat (first|exact True.intro|refine And.intro rfl ?_)):SW P n h0 w0 Fz0 c σ Q:=ap5 hl hb h
def wO(m:List (Nat×RV))(b:List (Nat×(Nat×List PV)))(h:nf P n h0 w0 Fz0 ops l (St.of m b) Q)(hl:bj m σ.s:=by repeat (first|exact True.intro|refine And.intro rfl ?_))(hb:bj b σ.b:=by repeat (first|exact True.intro|refine And.intro rfl ?_)):nf P n h0 w0 Fz0 ops l σ Q:=aqc hl hb h
def wA(y:nf P n h0 w0 Fz0 ops l (σ.app L) Q)(h1:bj L.rs σ.s:=by repeat (first|exact True.intro|refine And.intro rfl ?_))(h2:bj L.rb σ.b:=by repeat (first|exact True.intro|refine And.intro rfl ?_))(x:Loc P n o L)(hg:o.guard=none:=by exact rfl)(ha:L.al=none:=by exact rfl):nf P n h0 w0 Fz0 ops (o::l) σ Q:=
 aqb h1 h2 (dj.of hg x) (fun d hd=>by rw [ha] at hd;cases hd) y
end
section
variable{P:Program}{n:Nat}{d x:Nat}{ty:TypeId}{pos:String}{af:Array Edge}{g:Option (Nat×Bool)}
def cM{r':RV}(hc:Cp r r')(hd:d < n:=by decide):Loc P n ⟨some d,.move (.tmp x),ty,pos,af,g⟩ ⟨[(x,r)],[],[(d,some r')],[],none⟩:=mh (.inl rfl) hd hc
def cA{r':RV}(hc:Cp r r')(hd:d < n:=by decide):Loc P n ⟨some d,.assign (.tmp x),ty,pos,af,g⟩ ⟨[(x,r)],[],[(d,some r')],[],none⟩:=mh (.inr rfl) hd hc
def sM(hd:d < n:=by decide):Loc P n ⟨some d,.move (.tmp x),ty,pos,af,g⟩ ⟨[(x,RV.sc v)],[],[(d,some (RV.sc v))],[],none⟩:=cM Cp.sc hd
def sA(hd:d < n:=by decide):Loc P n ⟨some d,.assign (.tmp x),ty,pos,af,g⟩ ⟨[(x,RV.sc v)],[],[(d,some (RV.sc v))],[],none⟩:=cA Cp.sc hd
def vM(ag:Bool)(qs:List PV)(ht:az cs qs:=by repeat' (first|exact True.intro|exact PV.To.refl _|exact PV.to_none|apply And.intro))(hb:aW qs:=by repeat (first|exact aW.nil|refine aW.cons (PV.bor_val _) ?_|refine aW.cons (PV.bor_sl _) ?_|refine aW.cons (PV.bor_lo _ _) ?_))(hd:d < n:=by decide) :
  Loc P n ⟨some d,.move (.tmp x),ty,pos,af,g⟩ ⟨[(x,RV.sv ag cs)],[],[(d,some (RV.sv ag qs))],[],none⟩:=cM (Cp.sv ht hb) hd
def vA(ag:Bool)(qs:List PV)(ht:az cs qs:=by repeat' (first|exact True.intro|exact PV.To.refl _|exact PV.to_none|apply And.intro))(hb:aW qs:=by repeat (first|exact aW.nil|refine aW.cons (PV.bor_val _) ?_|refine aW.cons (PV.bor_sl _) ?_|refine aW.cons (PV.bor_lo _ _) ?_))(hd:d < n:=by decide) :
  Loc P n ⟨some d,.assign (.tmp x),ty,pos,af,g⟩ ⟨[(x,RV.sv ag cs)],[],[(d,some (RV.sv ag qs))],[],none⟩:=cA (Cp.sv ht hb) hd
def tM(hd:d < n:=by decide):Loc P n ⟨some d,.move (.tmp x),ty,pos,af,g⟩ ⟨[(x,r)],[],[(x,none),(d,some r)],[],none⟩:=GN (.inl rfl) hd
def tA(hd:d < n:=by decide):Loc P n ⟨some d,.assign (.tmp x),ty,pos,af,g⟩ ⟨[(x,r)],[],[(x,none),(d,some r)],[],none⟩:=GN (.inr rfl) hd
def kM(h:v.oneCell'=true:=by exact rfl)(hd:d < n:=by decide):Loc P n ⟨some d,.move (.const v),ty,pos,af,g⟩ ⟨[],[],[(d,some (RV.sc v))],[],none⟩:=pN (.inl rfl) hd (bq h)
def kA(h:v.oneCell'=true:=by exact rfl)(hd:d < n:=by decide):Loc P n ⟨some d,.assign (.const v),ty,pos,af,g⟩ ⟨[],[],[(d,some (RV.sc v))],[],none⟩:=pN (.inr rfl) hd (bq h)
def lD{b:Nat}(qs:List PV)(hT:dk P T=some (ag,k))(h1:ag=false→k=1:=by first|exact fun _=>rfl|exact fun h=>nomatch h)(hk:off+k≤cs.length:=by exact Nat.le_of_ble_eq_true rfl)(ht:az ((cs.drop off).take k) qs:=by repeat' (first|exact True.intro|exact PV.To.refl _|exact PV.to_none|apply And.intro))
  (hb:aW qs:=by repeat (first|exact aW.nil|refine aW.cons (PV.bor_val _) ?_|refine aW.cons (PV.bor_sl _) ?_|refine aW.cons (PV.bor_lo _ _) ?_)) (hd:d < n:=by decide) :
  Loc P n ⟨some d,.load T (.tmp p),ty,pos,af,g⟩ ⟨[(p,RV.ptr b off)],[(b,(t,cs))],[(d,some (RV.sv ag qs))],[],none⟩:=mi hd hT h1 hk ht hb
def lE(qs:List PV)(hT:dk P T=some (ag,k))(h1:ag=false→k=1:=by first|exact fun _=>rfl|exact fun h=>nomatch h)(hk:k≤cs.length:=by exact Nat.le_of_ble_eq_true rfl)(ht:az (cs.take k) qs:=by repeat' (first|exact True.intro|exact PV.To.refl _|exact PV.to_none|apply And.intro))
  (hb:aW qs:=by repeat (first|exact aW.nil|refine aW.cons (PV.bor_val _) ?_|refine aW.cons (PV.bor_sl _) ?_|refine aW.cons (PV.bor_lo _ _) ?_)) (hd:d < n:=by decide) :
  Loc P n ⟨some d,.load T (.tmp p),ty,pos,af,g⟩ ⟨[(p,RV.eptr cs)],[],[(d,some (RV.sv ag qs))],[],none⟩:=ri hd hT h1 hk ht hb
def lF{b fo:Nat}(hT:cq P T f=some fo)(hd:d < n:=by decide):Loc P n ⟨some d,.fieldAddr T (.tmp p) f,ty,pos,af,g⟩ ⟨[(p,RV.ptr b off)],[],[(d,some (RV.ptr b (off+fo)))],[],none⟩:=XZ hd hT
def lN{E bs m:Nat}{es:List (List PV)}(hT:fF P T=some (E,e,bs))(hm:es.length=m:=by first|exact aX _|exact rfl)(hd:d < n:=by decide) :
  Loc P n ⟨some d,.call { callee:=.builtin .len,args := #[.tmp s],argTypes := #[T] },ty,pos,af,g⟩ ⟨[(s,RV.slc o es)],[],[(d,some (RV.int (m:Int)))],[],none⟩:=apU hd hT hm
def nT{T:TypeId}(hd:d < n:=by decide):Loc P n ⟨some d,.unOp .not T (.tmp x),ty,pos,af,g⟩ ⟨[(x,RV.bool b)],[],[(d,some (RV.bool !b))],[],none⟩:=apT hd
def cd{c x:Operand}(hg:b=true)(hc:bN c (RV.bool b):=by exact True.intro)(hz:bN x r:=by first|exact True.intro|exact bq rfl)(hcp:Cp r r:=by exact Cp.sc)(hd:d < n:=by decide):Loc P n ⟨some d,.pick c x y,ty,pos,af,g⟩ ⟨bw c (RV.bool b)++bw x r,[],[(d,some r)],[],none⟩:=XV (z:=x) hd (by rw [hg];rfl) hc hz hcp
def bF{c x:Operand}(hg:b=false)(hc:bN c (RV.bool b):=by exact True.intro)(hz:bN y r:=by first|exact True.intro|exact bq rfl)(hcp:Cp r r:=by exact Cp.sc)(hd:d < n:=by decide):Loc P n ⟨some d,.pick c x y,ty,pos,af,g⟩ ⟨bw c (RV.bool b)++bw y r,[],[(d,some r)],[],none⟩:=XV (z:=y) hd (by rw [hg];rfl) hc hz hcp
def cL{args:Array Operand}{tys:Array TypeId}(qs as_:List (Bool×List PV))(hf:aC P f=true)(hok:nc args.toList qs:=by repeat' (first|exact True.intro|exact bq rfl|exact XU|apply And.intro))
  (hto:pP qs as_:=by repeat' (first|exact True.intro|exact rfl|exact PV.To.refl _|exact PV.to_none|apply And.intro)) (hs:aE P f as_ r) (hd:d < n:=by decide):Loc P n ⟨some d,.call { callee:=.value (.func f),args:=args,argTypes:=tys },ty,pos,af,g⟩ ⟨kI args.toList qs,[],[(d,some r)],[],none⟩:=ta hd hf hok hto hs
section
variable{T T2:TypeId}{x y:Operand}{i j:Int}
def xc(hx:bN x (RV.int i):=by first|exact True.intro|exact bq rfl)(hy:bN y (RV.int j):=by first|exact True.intro|exact bq rfl)(hd:d < n:=by decide):Loc P n ⟨some d,.binOp .lss T x y T2,ty,pos,af,g⟩ ⟨bw x (RV.int i)++bw y (RV.int j),[],[(d,some (RV.bool (decide (i < j))))],[],none⟩:=apM hd hx hy
def mp(hx:bN x (RV.int i):=by first|exact True.intro|exact bq rfl)(hy:bN y (RV.int j):=by first|exact True.intro|exact bq rfl)(hd:d < n:=by decide):Loc P n ⟨some d,.binOp .leq T x y T2,ty,pos,af,g⟩ ⟨bw x (RV.int i)++bw y (RV.int j),[],[(d,some (RV.bool (decide (i≤j))))],[],none⟩:=apN hd hx hy
def iN(hx:bN x (RV.int i):=by first|exact True.intro|exact bq rfl)(hy:bN y (RV.int j):=by first|exact True.intro|exact bq rfl)(hd:d < n:=by decide):Loc P n ⟨some d,.binOp .gtr T x y T2,ty,pos,af,g⟩ ⟨bw x (RV.int i)++bw y (RV.int j),[],[(d,some (RV.bool (decide (i > j))))],[],none⟩:=apO hd hx hy
def jc(hx:bN x (RV.int i):=by first|exact True.intro|exact bq rfl)(hy:bN y (RV.int j):=by first|exact True.intro|exact bq rfl)(hd:d < n:=by decide):Loc P n ⟨some d,.binOp .geq T x y T2,ty,pos,af,g⟩ ⟨bw x (RV.int i)++bw y (RV.int j),[],[(d,some (RV.bool (decide (i≥j))))],[],none⟩:=apP hd hx hy
def kL(hx:bN x (RV.int i):=by first|exact True.intro|exact bq rfl)(hy:bN y (RV.int j):=by first|exact True.intro|exact bq rfl)(hd:d < n:=by decide):Loc P n ⟨some d,.binOp .eql T x y T2,ty,pos,af,g⟩ ⟨bw x (RV.int i)++bw y (RV.int j),[],[(d,some (RV.bool (i==j)))],[],none⟩:=apQ hd hx hy
def kN(hx:bN x (RV.int i):=by first|exact True.intro|exact bq rfl)(hy:bN y (RV.int j):=by first|exact True.intro|exact bq rfl)(hd:d < n:=by decide):Loc P n ⟨some d,.binOp .neq T x y T2,ty,pos,af,g⟩ ⟨bw x (RV.int i)++bw y (RV.int j),[],[(d,some (RV.bool (i != j)))],[],none⟩:=apR hd hx hy
def mq(hx:bN x (RV.int i):=by first|exact True.intro|exact bq rfl)(hy:bN y (RV.int j):=by first|exact True.intro|exact bq rfl)(h:dN (i+j):=by unfold dN;omega)(hd:d < n:=by decide):Loc P n ⟨some d,.binOp .add T x y T2,ty,pos,af,g⟩ ⟨bw x (RV.int i)++bw y (RV.int j),[],[(d,some (RV.int (i+j)))],[],none⟩:=MX hd hx hy h
def hP(hx:bN x (RV.int i):=by first|exact True.intro|exact bq rfl)(hy:bN y (RV.int j):=by first|exact True.intro|exact bq rfl)(h:dN (i - j):=by unfold dN;omega)(hd:d < n:=by decide):Loc P n ⟨some d,.binOp .sub T x y T2,ty,pos,af,g⟩ ⟨bw x (RV.int i)++bw y (RV.int j),[],[(d,some (RV.int (i - j)))],[],none⟩:=apS hd hx hy h
end
end
end
section
section
variable{P:Program}{n:Nat}
section
variable{T:TypeId}{x y:Operand}{i j:Int}{k:IntKind}{w:World}
def aqv:Sem.run P (do eqGuard .leq T x y (.int k i) (.int k j);binOp .leq T (.int k i) (.int k j):Sem Value) w = .ok (.bool (decide (i≤j))) w:=qU
def aqw:Sem.run P (do eqGuard .geq T x y (.int k i) (.int k j);binOp .geq T (.int k i) (.int k j):Sem Value) w = .ok (.bool (decide (i≥j))) w:=qU
def aqx:Sem.run P (do eqGuard .eql T x y (.int k i) (.int k j);binOp .eql T (.int k i) (.int k j):Sem Value) w = .ok (.bool (i==j)) w:=qU
def aqy:Sem.run P (do eqGuard .neq T x y (.int k i) (.int k j);binOp .neq T (.int k i) (.int k j):Sem Value) w = .ok (.bool (i != j)) w:=qU
end
section
variable{T T2:TypeId}{x y:Operand}{d:Nat}{ty:TypeId}{pos:String}{af:Array Edge}{g:Option (Nat×Bool)}{i j:Int}{k:IntKind}
def aqz(hx:bN x (RV.sc (.int k i)):=by first|exact True.intro|exact bq rfl)(hy:bN y (RV.sc (.int k j)):=by first|exact True.intro|exact bq rfl)(hd:d < n:=by decide):Loc P n ⟨some d,.binOp .leq T x y T2,ty,pos,af,g⟩ ⟨bw x (RV.sc (.int k i))++bw y (RV.sc (.int k j)),[],[(d,some (RV.bool (decide (i≤j))))],[],none⟩:=jb hd hx hy rfl fun _=>aqv
def aqA(hx:bN x (RV.sc (.int k i)):=by first|exact True.intro|exact bq rfl)(hy:bN y (RV.sc (.int k j)):=by first|exact True.intro|exact bq rfl)(hd:d < n:=by decide):Loc P n ⟨some d,.binOp .geq T x y T2,ty,pos,af,g⟩ ⟨bw x (RV.sc (.int k i))++bw y (RV.sc (.int k j)),[],[(d,some (RV.bool (decide (i≥j))))],[],none⟩:=jb hd hx hy rfl fun _=>aqw
def NK(hx:bN x (RV.sc (.int k i)):=by first|exact True.intro|exact bq rfl)(hy:bN y (RV.sc (.int k j)):=by first|exact True.intro|exact bq rfl)(hd:d < n:=by decide):Loc P n ⟨some d,.binOp .eql T x y T2,ty,pos,af,g⟩ ⟨bw x (RV.sc (.int k i))++bw y (RV.sc (.int k j)),[],[(d,some (RV.bool (i==j)))],[],none⟩:=jb hd hx hy rfl fun _=>aqx
def aqB(hx:bN x (RV.sc (.int k i)):=by first|exact True.intro|exact bq rfl)(hy:bN y (RV.sc (.int k j)):=by first|exact True.intro|exact bq rfl)(hd:d < n:=by decide):Loc P n ⟨some d,.binOp .neq T x y T2,ty,pos,af,g⟩ ⟨bw x (RV.sc (.int k i))++bw y (RV.sc (.int k j)),[],[(d,some (RV.bool (i != j)))],[],none⟩:=jb hd hx hy rfl fun _=>aqy
def Zh{src dst:TypeId}{k2:IntKind}(hS:P.underlying src=some (.int k))(hD:P.underlying dst=some (.int k2))(hj:k2.wrap i=j)(hx:bN x (RV.sc (.int k i)):=by first|exact True.intro|exact bq rfl)(hd:d < n:=by decide) :
  Loc P n ⟨some d,.convert src dst x,ty,pos,af,g⟩ ⟨bw x (RV.sc (.int k i)),[],[(d,some (RV.sc (.int k2 j)))],[],none⟩:=by
 intro h0 w0 Fz0 σ a w K Q h1 h2 _ _ h5
 obtain ⟨φ,Fz,Fp,hc⟩:=h1
 have ex:=hc.sc h2 hx
 refine eo (v:=.int k2 j) (w':=w) ?_ (h5 _ _ (hc.put0 hd (bX.of_sc rfl)))
 unfold execOp
 simp [ex,convert,run_underlying hS,run_underlying hD,Conv.intToInt,hj]
def Zi{s:ByteArray}(hS:P.underlying T=some .string)(hx:bN x (RV.sc (.string s)):=by first|exact True.intro|exact bq rfl)(hy:bN y (RV.sc (.int k i)):=by first|exact True.intro|exact bq rfl)(hi:0≤i)(hb:∃b,s[i.toNat]?=some b∧((b.toNat:Nat):Int)=j)(hd:d < n:=by decide) :
  Loc P n ⟨some d,.index T x y,ty,pos,af,g⟩ ⟨bw x (RV.sc (.string s))++bw y (RV.sc (.int k i)),[],[(d,some (RV.sc (.int .u8 j)))],[],none⟩:=by
 intro h0 w0 Fz0 σ a w K Q h1 h2 _ _ h5
 obtain ⟨φ,Fz,Fp,hc⟩:=h1
 have ex:=hc.sc h2.left hx
 have ey:=hc.sc h2.right hy
 obtain ⟨b,hb,rfl⟩:=hb
 refine eo (v:=.int .u8 (b.toNat:Nat)) (w':=w) ?_ (h5 _ _ (hc.put0 hd (bX.of_sc rfl)))
 unfold execOp
 simp [ex,ey,Instr.index,asIntOf,run_underlying hS,hi,hb]
end
section
variable{h0:Nat→Prop}{w0:World}{Fz0:aD}{σ:St}{Q:Exit→St→Prop}{c1 c2:Code}
end
end
end
section
def lC:List Value→List PV→List PV
 | u::us,p::ps=>PV.nv u p::lC us ps
 | _,_=>[]
def Hi{Fz:aD}{w:World}:∀{ps:List PV} {us:List Value},aW ps→co ps Fz w us→aN (lC us ps) Fz w us []
 | [],us,_,h=>by
  have h:us=[]:=h
  subst h;exact ⟨rfl,rfl⟩
 | p::ps,us,hb,h=>by
  obtain ⟨v,vs,rfl,h1,h2⟩:=h
  exact ⟨v,vs,[],[],rfl,rfl,⟨rfl,hb p aP h1⟩,Hi (fun q hq=>hb q (by simp [hq])) h2⟩
def fv(h:Nat→Value):Nat→List PV→List PV
 | _,[]=>[]
 | i,p::ps=>PV.nv (h i) p::fv h (i+1) ps
def Hj(h:Nat→Value):∀(ps:List PV) (i:Nat),fv h i ps=lC ((List.range' i ps.length).map h) ps
 | [],i=>rfl
 | p::ps,i=>by rw [fv,Hj h ps (i+1)];rfl
def bz(e:Nat)(zs:List (α×(Nat→Value))):List Value:=(zs.map fun z=>(List.range e).map z.2).flatten
def ca(f:α→List PV)(zs:List (α×(Nat→Value))):List PV:=(zs.map fun z=>f z.1).flatten
def Zj:∀{us vs:List Value} {ps qs:List PV},us.length=ps.length→lC (us++vs) (ps++qs)=lC us ps++lC vs qs
 | [],vs,[],qs,_=>rfl
 | u::us,vs,p::ps,qs,h=>by
  simp only [List.cons_append,lC]
  rw [Zj oY]
def NL{us:List Value}(h:us.length=e):∃k:Nat→Value,us=(List.range e).map k:=by
 refine ⟨fun i=>us.getD i undef,?_⟩
 subst h
 apply List.ext_getElem
 ·simp
 ·intro i h1 h2
  simp [h1]
def Zk{α:Type}{g:α→List PV}{fN:α×(Nat→Value)→List PV}{e:Nat}(hN:∀x h,fN (x,h)=fv h 0 (g x))(hg:∀x,(g x).length=e)(jk:List PV):∀(xs:List α) (us:List Value),us.length=xs.length * e+jk.length →
  ∃(zs:List (α×(Nat→Value))) (vs:List Value),zs.map Prod.fst=xs∧us=bz e zs++vs∧vs.length=jk.length∧lC us ((xs.map g).flatten++jk)=(zs.map fN).flatten++lC vs jk
 | [],us,h=>⟨[],us,rfl,rfl,oY,rfl⟩
 | x::xs,us,h=>by
  have hs:(x::xs).length * e=e+xs.length * e:=by rw [List.length_cons,Nat.succ_mul];omega
  obtain ⟨k,hk⟩:=NL (e:=e) (us:=us.take e) dh
  obtain ⟨zs,vs,e1,e2,e3,e4⟩:=Zk hN hg jk xs (us.drop e) sK
  refine ⟨(x,k)::zs,vs,Mk,?_,e3,?_⟩
  ·rw [←hO e us,hk,e2]
   simp [bz,bn]
  ·rw [←hO e us]
   have:((x::xs).map g).flatten++jk=g x++((xs.map g).flatten++jk):=aP
   rw [this,Zj (by rw [hg,cj];omega),e4,hk]
   simp only [List.map_cons,List.flatten_cons,bn]
   rw [hN,Hj,hg,List.range_eq_range']
def Zl{α:Type}{f g:α→List PV}(h:∀x,az (f x) (g x)):∀(xs:List α) {js:List PV},az ((xs.map f).flatten++js) ((xs.map g).flatten++js)
 | [],js=>az.refl js
 | x::xs,js=>by
  have k:∀{ps qs rs ss:List PV},az ps qs→az rs ss→az (ps++rs) (qs++ss):=by
   intro ps
   induction ps with
   | nil=>intro qs rs ss h1 h2;cases qs with
    | nil=>exact h2
    | cons q qs=>exact h1.elim
   | cons p ps ih=>intro qs rs ss h1 h2;cases qs with
    | nil=>exact h1.elim
    | cons q qs=>exact ⟨h1.1,ih h1.2 h2⟩
  simp only [List.map_cons,List.flatten_cons,bn]
  exact k (h x) (Zl h xs)
def aqC{g:α→List PV}(h:∀x,aW (g x))(xs:List α)(jk:List Value):aW ((xs.map g).flatten++jk.map PV.val):=fun p hp=>by
 rcases List.mem_append.1 hp with hp|hp
 ·obtain ⟨cs,hcs,hp⟩:=List.mem_flatten.1 hp
  obtain ⟨x,_,rfl⟩:=List.mem_map.1 hcs
  exact h x p hp
 ·obtain ⟨v,_,rfl⟩:=List.mem_map.1 hp
  exact PV.bor_val _
def Zm{Fz:aD}{w:World}:∀{jk us vs:List Value} {F:List Nat},aN (lC us (jk.map PV.val)) Fz w vs F→us.length=jk.length→aN (jk.map PV.val) Fz w vs F
 | [],us,vs,F,h,hl=>by
  have:us=[]:=iJ hl
  subst this;exact h
 | j::jk,[],vs,F,h,hl=>by simp at hl
 | j::jk,u::us,vs,F,h,hl=>by
  obtain ⟨v,vs',F1,F2,rfl,rfl,h1,h2⟩:=h
  exact ⟨v,vs',F1,F2,rfl,rfl,h1.2,Zm h2 yN⟩
def aqD{f:α→List PV}(hf:∀x,(f x).length=e){zs ys:List (α×(Nat→Value))}(hp:zs.Perm ys):∀{F:List Nat},aN (ca f zs) Fz w (bz e zs) F→∃F',F.Perm F'∧aN (ca f ys) Fz w (bz e ys) F':=by
 have hone:∀{z:α×(Nat→Value)} {l:List (α×(Nat→Value))} {F:List Nat},aN (ca f (z::l)) Fz w (bz e (z::l)) F→∃F1 F2,F=F1++F2∧aN (f z.1) Fz w ((List.range e).map z.2) F1∧aN (ca f l) Fz w (bz e l) F2:=by
  intro z l F h
  have h:aN (f z.1++ca f l) Fz w ((List.range e).map z.2++bz e l) F:=h
  obtain ⟨v1,v2,F1,F2,e1,rfl,h1,h2⟩:=h.split
  have hl:((List.range e).map z.2).length=v1.length:=by rw [h1.len,hf];simp
  obtain ⟨rfl,rfl⟩:=List.append_inj e1 hl
  exact ⟨F1,F2,rfl,h1,h2⟩
 induction hp with
 | nil=>intro F h;exact ⟨F,List.Perm.refl _,h⟩
 | cons z _ ih=>
  intro F h
  obtain ⟨F1,F2,rfl,h1,h2⟩:=hone h
  obtain ⟨F',k1,k2⟩:=ih h2
  exact ⟨F1++F',iK F1 k1,h1.append k2⟩
 | swap z y l=>
  intro F h
  obtain ⟨F1,F2,rfl,h1,h2⟩:=hone h
  obtain ⟨F3,F4,rfl,h3,h4⟩:=hone h2
  refine ⟨F3++(F1++F4),?_,h3.append (h1.append h4)⟩
  rw [←bn,←bn]
  exact kG _ mf
 | trans _ _ ih1 ih2=>
  intro F h
  obtain ⟨F1,k1,h1⟩:=ih1 h
  obtain ⟨F2,k2,h2⟩:=ih2 h1
  exact ⟨F2,k1.trans k2,h2⟩
section
variable{P:Program}{n:Nat}{h0:Nat→Prop}{w0:World}{Fz0:aD}{σ:St}{Q:Exit→St→Prop}{c:Code}{ops:Array Oper}
def Hk{G:Nat}(hd:σ.b d=some (t,cs))(hG:σ.s G=none)(hq:az cs qs)(hb:aW qs)(h:∀us:List Value,(∃Fz w,co cs Fz w us)→SW P n h0 w0 Fz0 c ((σ.setB d (some (t,lC us qs))).set G (some (RV.gh us cs))) Q):SW P n h0 w0 Fz0 c σ Q:=fun a w hc=>by
 obtain ⟨φ,Fz,Fp,hc⟩:=hc
 obtain ⟨cur,h1,h2⟩:=hc.box d _ hd
 have k0:=hc.pull G
 have e0:∀i rv,(σ.set G none).s i=some rv→i≠G∧σ.s i=some rv:=fun i rv hi=>by
  rw [St.set_s] at hi
  split at hi
  ·cases hi
  ·rename_i hne;exact ⟨hne,hi⟩
 have hne:mv Fp (2 * G+1) (2 * d+2)=Fp (2 * d+2):=by
  simp only [mv];rw [if_neg ab,if_neg ab]
 have hgn:mv Fp (2 * G+1) (2 * G+1)=[]:=gz
 generalize hFp1:mv Fp (2 * G+1)=Fp1 at k0 hne hgn
 refine h cur.toList ⟨Fz,w,h2.rel⟩ a w ⟨φ,Fz,oe Fp1 (2 * d+2) (2 * G+1),?_⟩
 have hsub:∀r b,b∈oe Fp1 (2 * d+2) (2 * G+1) r→∃r',b∈Fp1 r':=fun r b hb=>by
  rcases Nh hb with ⟨_,k⟩|⟨_,_,k⟩
  ·exact ⟨_,k⟩
  ·exact ⟨_,k⟩
 exact { k0 with
  slot:=fun i rv hi=>by
   rw [St.set_s] at hi
   split at hi
   ·rename_i e
    subst e
    injection hi with hi
    subst hi
    show aN cs Fz w cur.toList (oe Fp1 (2 * d+2) (2 * i+1) (2 * i+1))
    simp only [oe,if_true]
    rw [hne];exact h2
   ·rename_i e
    have:=k0.slot i rv (by rw [St.set_s,if_neg e];exact hi)
    simp only [oe]
    rw [if_neg ab,if_neg ab]
    exact this
  box:=fun e bx he=>by
   rw [St.set_b,St.setB_b] at he
   split at he
   ·rename_i e';subst e';injection he with he;subst he
    refine ⟨cur,h1,?_⟩
    simp only [oe]
    rw [if_neg ab,if_pos (by trivial)]
    exact Hi hb (hq.rel h2.rel)
   ·rename_i e'
    obtain ⟨cur',k1,k2⟩:=k0.box e bx he
    refine ⟨cur',k1,?_⟩
    simp only [oe]
    rw [if_neg ab,if_neg ab]
    exact k2
  bxb:=fun e bx he=>by
   have:∃z,(σ.set G none).b e=some z:=by
    rw [St.set_b,St.setB_b] at he
    split at he
    ·rename_i e';subst e';exact ⟨_,hd⟩
    ·exact ⟨_,he⟩
   obtain ⟨z,hz⟩:=this
   obtain ⟨g1,g2,g3⟩:=k0.bxb e z hz
   exact ⟨g1,g2,fun r hr=>by obtain ⟨r',h'⟩:=hsub r _ hr;exact g3 r' h'⟩
  inj:=fun e e' c1 c2 he he'=>by
   have f:∀x y,((σ.setB d (some (t,lC cur.toList qs))).set G (some (RV.gh cur.toList cs))).b x=some y→∃z,(σ.set G none).b x=some z:=by
    intro x y hx
    rw [St.set_b,St.setB_b] at hx
    split at hx
    ·rename_i e';subst e';exact ⟨_,hd⟩
    ·exact ⟨_,hx⟩
   obtain ⟨z1,f1⟩:=f _ _ he
   obtain ⟨z2,f2⟩:=f _ _ he'
   exact k0.inj e e' z1 z2 f1 f2
  dis:=aqg k0.dis
  nod:=aqh k0.nod
  low:=fun r b hb=>by obtain ⟨r',h'⟩:=hsub r b hb;exact k0.low r' b h' }
def aqE{G:Nat}{f g:α→List PV}{fN:α×(Nat→Value)→List PV}(hd:σ.b d=some (t,bW f xs jk))(hG:σ.s G=none)(hN:∀x h,fN (x,h)=fv h 0 (g x))(hg:∀x,(g x).length=e)(hq:∀x,az (f x) (g x))(hb:∀x,aW (g x))
  (h:∀zs:List (α×(Nat→Value)),zs.map Prod.fst=xs→SW P n h0 w0 Fz0 c ((σ.setB d (some (t,bW fN zs jk))).set G (some (RV.gh (bz e zs) (ca f zs)))) Q):SW P n h0 w0 Fz0 c σ Q:=by
 refine Hk hd hG (Zl hq xs) (aqC hb xs jk) fun us hus=>?_
 intro a w hc
 have hfl:∀x,(f x).length=e:=fun x=>by rw [(hq x).len];exact hg x
 have hlen:us.length=xs.length * e+(jk.map PV.val).length:=by
  obtain ⟨_,_,hr⟩:=hus
  rw [hr.len];unfold bW
  rw [bV,zb (e:=e) (fun cs hcs=>by obtain ⟨x,_,rfl⟩:=List.mem_map.1 hcs;exact hfl x),aX]
 obtain ⟨zs,vs,e1,e2,e3,e4⟩:=Zk hN hg (jk.map PV.val) xs us hlen
 have hvl:(bz e zs).length=(ca f zs).length:=by
  unfold bz ca
  rw [zb (e:=e) (fun cs hcs=>by obtain ⟨x,_,rfl⟩:=List.mem_map.1 hcs;exact hfl x.1)]
  have:∀l:List (α×(Nat→Value)),(l.map fun z=>(List.range e).map z.2).flatten.length=l.length * e:=by
   intro l;induction l with
   | nil=>simp
   | cons z l ih=>rw [List.map_cons,List.flatten_cons,bV,ih,List.length_cons,Nat.succ_mul];simp;omega
  rw [this,aX]
 have hfm:ca f zs=(xs.map f).flatten:=by unfold ca;rw [←e1,List.map_map];rfl
 refine h zs e1 a w ?_
 obtain ⟨φ,Fz,Fp,hc⟩:=hc
 refine ⟨φ,Fz,Fp,{ hc with slot:=fun i rv hi=>?_,box:=fun b bx hb'=>?_,bxb:=fun b bx hb'=>?_,inj:=fun b b' c1 c2 hb1 hb2=>?_ }⟩
 ·rw [St.set_s] at hi
  split at hi
  ·rename_i hiG
   injection hi with hi
   subst hi
   have:=hc.slot i _ (by rw [St.set_s,if_pos hiG])
   have this:aN (bW f xs jk) Fz w us (Fp (2 * i+1)):=this
   unfold bW at this
   rw [e2] at this
   obtain ⟨v1,v2,F1,F2,k1,k2,k3,k4⟩:=this.split
   have hF2:F2=[]:=by
    have:∀(jk:List Value) (v2:List Value) (G2:List Nat),aN (jk.map PV.val) Fz w v2 G2→G2=[]:=by
     intro jk
     induction jk with
     | nil=>intro v2 G2 h;exact h.2
     | cons j jk ih=>
      intro v2 G2 h
      obtain ⟨v,vs',F1,F2,_,rfl,h1,h2⟩:=h
      rw [ih _ _ h2,h1.2];rfl
    exact this _ _ _ k4
   obtain ⟨rfl,rfl⟩:=List.append_inj k1 (by rw [hvl,k3.len,hfm])
   show aN (ca f zs) Fz w (bz e zs) (Fp (2 * i+1))
   rw [k2,hF2,gj,hfm];exact k3
  ·rename_i hiG
   exact hc.slot i rv (by rw [St.set_s,if_neg hiG];exact hi)
 ·rw [St.set_b,St.setB_b] at hb'
  split at hb'
  ·rename_i hbd
   injection hb' with hb'
   subst hb'
   obtain ⟨cur,k1,k2⟩:=hc.box b (t,lC us ((xs.map g).flatten++jk.map PV.val)) (by rw [St.set_b,St.setB_b,if_pos hbd])
   refine ⟨cur,k1,?_⟩
   have k2:aN (lC us ((xs.map g).flatten++jk.map PV.val)) Fz w cur.toList (Fp (2 * b+2)):=k2
   rw [e4] at k2
   obtain ⟨v1,v2,F1,F2,q1,q2,q3,q4⟩:=k2.split
   rw [q1,q2]
   exact q3.append (Zm q4 (by rw [e3,aX]))
  ·rename_i hbd
   exact hc.box b bx (by rw [St.set_b,St.setB_b,if_neg hbd];exact hb')
 ·have:∃z,((σ.setB d (some (t,lC us ((xs.map g).flatten++jk.map PV.val)))).set G (some (RV.gh us (bW f xs jk)))).b b=some z:=by
   rw [St.set_b,St.setB_b] at hb' ⊢
   split at hb'
   ·rename_i hbd;rw [if_pos hbd];exact ⟨_,rfl⟩
   ·rename_i hbd;rw [if_neg hbd];exact ⟨_,hb'⟩
  obtain ⟨z,hz⟩:=this
  exact hc.bxb b z hz
 ·have:∀x y,((σ.setB d (some (t,bW fN zs jk))).set G (some (RV.gh (bz e zs) (ca f zs)))).b x=some y→∃z,((σ.setB d (some (t,lC us ((xs.map g).flatten++jk.map PV.val)))).set G (some (RV.gh us (bW f xs jk)))).b x=some z:=by
   intro x y hx
   rw [St.set_b,St.setB_b] at hx ⊢
   split at hx
   ·rename_i hbd;rw [if_pos hbd];exact ⟨_,rfl⟩
   ·rename_i hbd;rw [if_neg hbd];exact ⟨_,hx⟩
  obtain ⟨z1,f1⟩:=this _ _ hb1
  obtain ⟨z2,f2⟩:=this _ _ hb2
  exact hc.inj b b' z1 z2 f1 f2
def NM{α:Type}{g:α→List PV}{fN:α×(Nat→Value)→List PV}{e:Nat}(hN:∀x h,fN (x,h)=fv h 0 (g x))(hg:∀x,(g x).length=e){Fz:aD}{w:World}:∀{zs:List (α×(Nat→Value))} {js:List PV} {us:List Value},co ((zs.map fN).flatten++js) Fz w us→∃vs,us=bz e zs++vs∧co js Fz w vs
 | [],js,us,h=>⟨us,rfl,h⟩
 | z::zs,js,us,h=>by
  have hk:∀(ps:List PV) (i:Nat) (k:Nat→Value) (vs:List Value),co (fv k i ps) Fz w vs→vs=(List.range' i ps.length).map k:=by
   intro ps
   induction ps with
   | nil=>intro i k vs h;exact h
   | cons p ps ih=>
    intro i k vs h
    obtain ⟨v,vs',rfl,h1,h2⟩:=h
    rw [ih _ _ _ h2,h1.1];rfl
  simp only [List.map_cons,List.flatten_cons,bn] at h
  obtain ⟨v1,v2,rfl,h1,h2⟩:=h.split
  obtain ⟨vs,rfl,h3⟩:=NM hN hg h2
  obtain ⟨x,k⟩:=z
  rw [hN] at h1
  have:=hk _ _ _ _ h1
  rw [hg] at this
  refine ⟨vs,?_,h3⟩
  rw [this]
  simp [bz,List.range_eq_range']
def Zn:i.fdiv (2 ^ 1)=i / 2:=by rw [Int.fdiv_eq_ediv_of_nonneg _ ak];rfl
end
end
def aE.view{P:Program}{f:FuncId}{args:List (Bool×List PV)}(ht:az cs qs)(hb:aW qs)(h:aE P f args (RV.sv ag cs)):aE P f args (RV.sv ag qs):=fun w vs Fz hz hr=>by
 refine (h w vs Fz hz hr).mono ?_
 rintro e w' ⟨v,Fz',F,e1,hb1,h1,h2,hv,hn,hF⟩
 exact ⟨v,Fz',[],e1,hb1,h1,h2,fun φ=>Cp.sv ht hb (hv φ),List.nodup_nil,fun b hb=>nomatch hb⟩
section
section
variable{P:Program}{n:Nat}{h0:Nat→Prop}{w0:World}{Fz0:aD}{Q:Exit→St→Prop}{c:Code}
end
end
section
section
variable{P:Program}{n:Nat}{h0:Nat→Prop}{w0:World}{Fz0:aD}
section
variable{σ:St}{a:Act}{w:World}{φ:Nat→Nat}{Fz:aD}{Fp:Nat→List Nat}
end
section
variable{ops:Array Oper}{Q:Exit→St→Prop}
end
variable{Q:Exit→St→Prop}{c:Code}
def xd{σ:St}(qs:List PV)(hs:σ.s s=some (RV.sv ag cs))(ht:az cs qs)(hb:aW qs)(h:SW P n h0 w0 Fz0 c (σ.set s (some (RV.sv ag qs))) Q):SW P n h0 w0 Fz0 c σ Q:=fun a w hc=>by
 obtain ⟨φ,Fz,Fp,hc⟩:=hc
 have hv:bX ag cs Fz w (a.tmps.getD s undef) (Fp (2 * s+1)):=hc.slot s _ hs
 have c1:=(hc.pull s).reslot (s:=s) (rv:=RV.sv ag qs) (by
  have:mv Fp (2 * s+1) (2 * s+1)=[]:=gz
  rw [this]
  exact ⟨hv.1,hb.own (ht.rel hv.2.rel)⟩)
 exact h a w (bB.eqv ⟨φ,Fz,_,c1⟩ (fun i=>by
  simp only [St.set_s]
  split<;>rfl) (fun d=>rfl))
end
end
section
section
variable{P:Program}{n:Nat}{h0:Nat→Prop}{w0:World}{Fz0:aD}
end
def rt{P:Program}{n x b:Nat}(hd:d < n):Loc P n ⟨some d,.nilCheck (.tmp x),ty,pos,af,g⟩ ⟨[(x,RV.ptr b off)],[],[(d,some (RV.ptr b off))],[],none⟩:=by
 intro h0 w0 Fz0 σ a w K Q h1 h2 _ _ h5
 obtain ⟨φ,Fz,Fp,hc⟩:=h1
 have ex:=(hc.slot x _ h2.1).1
 refine eo (v:=.pointer (some ⟨φ b,off,none⟩)) (w':=w) ?_ (h5 _ _ (hc.put0 hd (r:=RV.ptr b off) ⟨rfl,rfl⟩))
 unfold execOp
 simp only [Act.eval,ex,Sem.run_pure]
section
variable{P:Program}{n:Nat}{h0:Nat→Prop}{w0:World}{Fz0:aD}{σ:St}{Q:Exit→St→Prop}{c:Code}
end
def aqF(x y:Int):Int:=IntKind.i64.wrap (x * y)
def Zo(x y:Int):Int:=IntKind.i64.wrap (x+y)
def Zp(x y:Int):Int:=IntKind.i64.wrap (BitVec.ofInt 64 x &&& BitVec.ofInt 64 y).toNat
def aqG(x y:Int):Int:=IntKind.i64.wrap (BitVec.ofInt 64 x ^^^ BitVec.ofInt 64 y).toNat
section
variable{P:Program}{n:Nat}{T T2:TypeId}{x y:Operand}{d:Nat}{ty:TypeId}{pos:String}{af:Array Edge}{g:Option (Nat×Bool)}{i j:Int}
end
end
section
abbrev an:=List UInt8
abbrev B(l:an):ByteArray:=⟨l.toArray⟩
abbrev RV.str(l:an):RV:=RV.sc (.string (B l))
section
variable{P:Program}{n:Nat}{T T2:TypeId}{x y:Operand}{d:Nat}{ty:TypeId}{pos:String}{af:Array Edge}{g:Option (Nat×Bool)}{s t:an}
def aqH(h:s.length+t.length≤9223372036854775807):Sem.run P (do eqGuard .add T x y (.string (B s)) (.string (B t));binOp .add T (.string (B s)) (.string (B t)):Sem Value) w = .ok (.string (B (s++t))) w:=by
 have e:=run_string_add_sum (P:=P) w (B s) (B t) h
 rw [ByteArray.mk_append_mk] at e
 simp [eqGuard,binOp,e]
def cZ(hx:bN x (RV.str s):=by first|exact True.intro|exact bq rfl)(hy:bN y (RV.str t):=by first|exact True.intro|exact bq rfl)(h:s.length+t.length≤9223372036854775807:=by (try simp only [bV,List.length_cons,List.length_nil]);omega)(hd:d < n:=by decide):Loc P n ⟨some d,.binOp .add T x y T2,ty,pos,af,g⟩ ⟨bw x (RV.str s)++bw y (RV.str t),[],[(d,some (RV.str (s++t)))],[],none⟩:=
 jb hd hx hy rfl fun w=>aqH h
def ve(hx:bN x (RV.str s):=by first|exact True.intro|exact bq rfl)(hy:bN y (RV.str t):=by first|exact True.intro|exact bq rfl)(hd:d < n:=by decide):Loc P n ⟨some d,.binOp .eql T x y T2,ty,pos,af,g⟩ ⟨bw x (RV.str s)++bw y (RV.str t),[],[(d,some (RV.bool (s==t)))],[],none⟩:=
 jb hd hx hy rfl fun w=>by simp [eqGuard,binOp,Op.stringOp,ByteArray.toList_mk]
def to(hx:bN x (RV.str s):=by first|exact True.intro|exact bq rfl)(hy:bN y (RV.str t):=by first|exact True.intro|exact bq rfl)(hd:d < n:=by decide):Loc P n ⟨some d,.binOp .neq T x y T2,ty,pos,af,g⟩ ⟨bw x (RV.str s)++bw y (RV.str t),[],[(d,some (RV.bool (!(s==t))))],[],none⟩:=
 jb hd hx hy rfl fun w=>by simp [eqGuard,binOp,Op.stringOp,ByteArray.toList_mk]
def pg(hT:P.underlying T=some .string)(hd:d < n:=by decide):Loc P n ⟨some d,.call { callee:=.builtin .len,args := #[.tmp k],argTypes := #[T] },ty,pos,af,g⟩ ⟨[(k,RV.str s)],[],[(d,some (RV.int (s.length:Int)))],[],none⟩:=
 apV (b:=B s) hd hT
def Hl{s:ByteArray}{lo hi:Option Value}(w:World)(hT:P.underlying T=some .string):Sem.run P (Instr.sliceAt T (.string s) lo hi none) w=Sem.run P (Instr.slice T (.string s) lo hi none) w:=by
 simp only [Instr.sliceAt,Sem.run_bind,run_underlying hT,Result.andThen_ok]
def Hm{lo hi:Option Operand}{i j:Nat}{q r:Int}(hT:P.underlying T=some .string)(hlo:wX lo (i=0) (RV.int q))(hhi:wX hi (j=s.length) (RV.int r))(hq:q=(i:Int))(hr:r=(j:Int))(hij:i≤j)(hj:j≤s.length){u:an}(hu:(s.take j).drop i=u)(hd:d < n:=by decide) :
  Loc P n ⟨some d,.slice T (.tmp k) lo hi none,ty,pos,af,g⟩ ⟨(k,RV.str s)::(zh lo (RV.int q)++zh hi (RV.int r)),[],[(d,some (RV.str u))],[],none⟩:=by
 subst hq hr hu
 have e:∀a b:Nat,(B s).extract a b=B ((s.drop a).take (b - a)):=ByteArray.extract_mk s
 have hsz:(B s).size=s.length:=rfl
 intro h0 w0 Fz0 σ a w K Q hc hr _ _ h5
 obtain ⟨φ,Fz,Fp,hc⟩:=hc
 have ev:a.eval (.tmp k) = .string (B s):=(hc.one_ hr.1).1
 have hres:(s.take j).drop i=(s.drop i).take (j - i):=by rw [List.take_drop,Nat.add_sub_cancel' hij]
 refine eo (v:=.string (B ((s.take j).drop i))) (w':=w) ?_ (h5 _ _ (hc.put0 hd (bX.of_sc rfl)))
 rw [hres]
 unfold execOp
 cases lo with
 | none=>
  have hi0:i=0:=hlo
  subst hi0
  cases hi with
  | none=>
   have hj0:j=s.length:=hhi
   subst hj0
   simp only [Option.map_none,ev,Hl _ hT,run_slice_string_all _ _ _ hT,e,hsz,Sem.run_bind,Result.andThen_ok,Sem.run_pure]
  | some y=>
   have ey:=hc.sc hr.2 hhi
   have hc2:(0:Int)≤(j:Int)∧(j:Int)≤((B s).size:Int):=by rw [hsz];omega
   simp only [Option.map_none,Option.map_some,Hl _ hT,ev,ey,run_slice_string_to_if _ _ _ _ _ hT,if_pos hc2,e,Sem.run_bind,Result.andThen_ok,Sem.run_pure,Int.toNat_natCast]
 | some x=>
  have ex:=hc.sc hr.2.left hlo
  cases hi with
  | none=>
   have hj0:j=s.length:=hhi
   subst hj0
   have hc2:(0:Int)≤(i:Int)∧(i:Int)≤((B s).size:Int):=by rw [hsz];omega
   simp only [Option.map_none,Option.map_some,Hl _ hT,ev,ex,run_slice_string_from_if _ _ _ _ _ hT,if_pos hc2,e,Sem.run_bind,Result.andThen_ok,Sem.run_pure,Int.toNat_natCast]
   rfl
  | some y=>
   have ey:=hc.sc hr.2.right hhi
   simp only [Option.map_none,Option.map_some,Hl _ hT,ev,ex,ey,run_slice_string _ _ _ _ _ _ _ hT (by omega:(0:Int)≤(i:Int)) (by omega:(i:Int)≤(j:Int)) (by rw [hsz];omega:(j:Int)≤((B s).size:Int)),e,Sem.run_bind,Result.andThen_ok,Sem.run_pure,Int.toNat_natCast]
def nj(xs:List Int):an:=xs.map fun n=>UInt8.ofNat n.toNat
def Zq:∀(ns:List Int) (s:an),ns.foldl (fun r n=>r.push (UInt8.ofNat n.toNat)) (B s)=B (s++nj ns)
 | [],s=>by simp [nj]
 | n::ns,s=>by
  rw [List.foldl_cons,show (B s).push (UInt8.ofNat n.toNat)=B (s++[UInt8.ofNat n.toNat]) from by apply ByteArray.ext;simp [ByteArray.push],Zq ns]
  simp [nj]
def aqI{T D:Nat}{xs:List Int}{f:Int→List PV}(hS:P.underlying T=some (.slice e))(he:P.underlying e=some (.int .u8))(hD:P.underlying D=some .string)(hf:∀x,f x=[PV.val (.int .u8 x)])(hd:d < n:=by decide) :
  Loc P n ⟨some d,.convert T D (.tmp k),ty,pos,af,g⟩ ⟨[(k,RV.slc o (xs.map f))],[],[(d,some (RV.str (nj xs)))],[],none⟩:=by
 intro h0 w0 Fz0 σ a w K Q hc hr _ _ h5
 obtain ⟨φ,Fz,Fp,hc⟩:=hc
 obtain ⟨ad,c,e',u,ev,h1,h2,h3,h4,h6⟩:=hc.slrel hr.1
 have es':a.eval (.tmp k) = .slice ad xs.length c:=by rw [←aX (f:=f)];exact ev
 refine eo (v:=.string (B (nj xs))) (w':=w) ?_ (h5 _ _ (hc.put0 hd (bX.of_sc rfl)))
 unfold execOp
 simp only [es',Sem.run_bind,run_convert_bytes_string _ _ _ _ _ _ _ hS he hD]
 rcases h4 with h4|⟨b,off,rfl,h4⟩
 ·have hx:xs=[]:=by simpa using h4
  subst hx
  cases ad with
  | none=>simp [Conv.bytesToString,nj];rfl
  | some ad=>
   rw [run_bytesToString w ad _ c [] (by simp [loadCells,loadCellsFrom])]
   simp [nj];rfl
 ·have hcells:∀(j:Nat) v,(xs.map (Value.int .u8))[j]?=some v→w.cell? ((⟨b,off,none⟩:Addr).add j)=some v:=by
   intro j v hv
   rw [List.getElem?_map,Option.map_eq_some_iff] at hv
   obtain ⟨x,hx,rfl⟩:=hv
   have hj:j < xs.length:=(List.getElem?_eq_some_iff.1 hx).1
   have hm:(xs.map f)[j]?=some [PV.val (.int .u8 x)]:=by rw [List.getElem?_map,hx,←hf];rfl
   have he1:e'=1:=(h3 _ (List.mem_of_getElem? hm)).symm
   subst he1
   have hu:=(h6 j _ 0 _ hm rfl).1
   have:=(h4 j 0 (by simpa using hj) ak).2
   rw [hu] at this
   rw [rh]
   simpa using this
  have hl:=run_loadCells_list (P:=P) (w:=w) ⟨b,off,none⟩ (xs.map (Value.int .u8)) hcells
  rw [aX] at hl
  rw [run_bytesToString w _ _ c xs hl]
  have:=Zq xs []
  rw [show (B []:ByteArray)=ByteArray.empty from rfl,List.nil_append] at this
  simp [this]
def aqJ{T D:Nat}{z:Int}(hS:P.underlying T=some (.slice e))(he:P.underlying e=some (.int .u8))(hD:P.underlying D=some .string)(hd:d < n:=by decide) :
  Loc P n ⟨some d,.convert T D (.tmp k),ty,pos,af,g⟩ ⟨[(k,RV.slc o [[PV.val (.int .u8 z)]])],[],[(d,some (RV.str (nj [z])))],[],none⟩:=
 aqI (xs:=[z]) (f:=fun x=>[PV.val (.int .u8 x)]) hS he hD (fun _=>rfl) hd
def NN{j:Int}(hx:bN x (RV.int i):=by first|exact True.intro|exact bq rfl)(hy:bN y (RV.int j):=by first|exact True.intro|exact bq rfl)(hj:j≠0:=by omega)(h:dN (i.tdiv j):=by unfold dN;omega)(hd:d < n:=by decide):Loc P n ⟨some d,.binOp .quo T x y T2,ty,pos,af,g⟩ ⟨bw x (RV.int i)++bw y (RV.int j),[],[(d,some (RV.int (i.tdiv j)))],[],none⟩:=
 jb hd hx hy rfl fun w=>by
  have e:IntKind.i64.wrap (i.tdiv j)=i.tdiv j:=IntWalk.i64_in _ h
  simp [eqGuard,binOp,Op.intDiv,hj,e]
def NO(h:dN (-i):=by unfold dN;omega)(hd:d < n:=by decide):Loc P n ⟨some d,.unOp .neg T (.tmp k),ty,pos,af,g⟩ ⟨[(k,RV.int i)],[],[(d,some (RV.int (-i)))],[],none⟩:=by
 intro h0 w0 Fz0 σ a w K Q hc hr _ _ h5
 obtain ⟨φ,Fz,Fp,hc⟩:=hc
 have es':a.eval (.tmp k) = .int .i64 i:=(hc.one_ hr.1).1
 have e:IntKind.i64.wrap (-i) = -i:=IntWalk.i64_in _ h
 refine eo (v:=.int .i64 (-i)) (w':=w) ?_ (h5 _ _ (hc.put0 hd (bX.of_sc rfl)))
 unfold execOp
 simp [es',Op.unary,Op.intArith,e]
end
structure pW where
 rel:aD→World→Prop
 mono:∀{Fz Fz':aD} {w w':World},rel Fz w→iL Fz w Fz' w'→rel Fz' w'
def RV.glob(G:pW):RV where
 holds _ Fz w _ F:=G.rel Fz w∧F=[]
 men _:=false
 mono h k _ _:=⟨G.mono h.1 k,h.2⟩
 lt h:=oV
def et(P:Program)(G:pW)(f:FuncId)(args:List (Bool×List PV))(r:RV):Prop:=
 ∀(w:World) (vs:List Value) (Fz:aD),(∀b o,Fz b o→b < w.heap.size)→G.rel Fz w→iy args Fz w vs→Calls P f vs.toArray w fun e w'=>∃v Fz' F,e = .returned v∧Below w.heap.size w w' ∧
  (∀b o,b < w.heap.size→(Fz' b o↔Fz b o))∧(∀b o,Fz' b o→b < w'.heap.size)∧(∀φ,r.holds φ Fz' w' v F)∧F.Nodup∧∀b,b∈F→w.heap.size≤b∧b < w'.heap.size
section
variable{P:Program}{n:Nat}{G:pW}
def aqK{args:Array Operand}{tys:Array TypeId}{qs as_:List (Bool×List PV)}(hd:d < n)(hf:aC P f=true)(hok:nc args.toList qs)(hto:pP qs as_)(hs:et P G f as_ r) :
  Loc P n ⟨some d,.call { callee:=.value (.func f),args:=args,argTypes:=tys },ty,pos,af,g⟩ ⟨(7000,RV.glob G)::kI args.toList qs,[],[(d,some r)],[],none⟩:=by
 intro h0 w0 Fz0 σ a w K Q hc hr _ _ h5
 obtain ⟨φ,Fz,Fp,hc⟩:=hc
 have hG:G.rel Fz w:=(hc.slot 7000 _ hr.1).1
 have hrel:=hto.rel (hc.relT hr.2 hok)
 unfold Oper.wp
 rw [YO hf,Oper.upon_enter]
 refine (hs w _ Fz hc.fzl hG hrel).mono ?_
 rintro e w' ⟨v,Fz',F,rfl,hb,hz1,hz2,hv,hn,hF⟩
 refine h5 _ _ ?_
 have k:=hc.world (w':=w') (Fz':=Fz') (X:=F) hb.os hb.tape hb.output hb.size (fun b hb' _=>⟨hb.block b hb',fun o ho=>(hz1 b o hb').1 ho⟩)
  (fun b o ho=>⟨(hz1 b o (hc.fzl b o ho)).2 ho,World.cell?_of_block (hb.block b (hc.fzl b o ho))⟩) hz2 (fun b hb'=>.inr (hF b hb')) hn
 exact ⟨φ,Fz',_,k.push (i:=d) (rv:=r) (v:=v) (F:=F) (X:=[]) hd (hv φ) (fun b hb=>by simpa using hb) yO⟩
def im{f:FuncId}{fn:Func}{c:Code}{args rs:List (Bool×List PV)}(hf:P.funcs[f]?=some fn)(hb:fn.body=some c)(hn:args.length≤fn.ntmps)(hbor:∀q,q∈args→aW q.2)
  (h:∀(h0:Nat→Prop) (w0:World) (Fz0:aD),SW P fn.ntmps h0 w0 Fz0 c (St.of ((7000,RV.glob G)::jt 0 args) []) (yZ P fn.results.toList rs)):et P G f args (aA rs):=by
 intro w vs Fz hz hG hrel
 refine Nd hf hb hn hbor w Fz ?_ vs hz hrel
 intro a w' hc
 obtain ⟨φ,Fz',Fp,hc⟩:=hc
 have hG':G.rel Fz' w':=G.mono hG fun b o hb=>⟨(hc.fz0 b o (hz b o hb)).2 hb,World.cell?_of_block (hc.bel.block b (hz b o hb))⟩
 have k:=hc.pull 7000
 refine h _ w Fz a w' ⟨φ,Fz',_,{ k with slot:=fun i rv hi=>?_ }⟩
 by_cases h7:i=7000
 ·subst h7
  have e:(St.of ((7000,RV.glob G)::jt 0 args) []).s 7000=some (RV.glob G):=rfl
  rw [e] at hi
  injection hi with hi
  subst hi
  exact ⟨hG',gz⟩
 ·have e:(St.of ((7000,RV.glob G)::jt 0 args) []).s i=(St.of (jt 0 args) []).s i:=by
   simp [St.of,lk,beq_eq,h7]
  rw [e] at hi
  exact k.slot i rv (by rw [St.set_s,if_neg h7];exact hi)
end
section
variable{P:Program}{G:pW}{f:FuncId}
def aqL(h:∃k os,w'=Sort.grow (w.drewN k) os):Below w.heap.size w w':=by
 obtain ⟨k,os,rfl⟩:=h
 exact ⟨rfl,rfl,rfl,by simp [Sort.grow,World.drewN],fun b hb=>by simp [Sort.grow,World.drewN,Array.getElem?_append_left hb]⟩
def Cn{s:an}(hz:∀b o,Fz b o→b < w.heap.size)(hb:Below w.heap.size w w'):∃v Fz' F,Ending.returned (.string (B s)) = .returned v∧Below w.heap.size w w' ∧
  (∀b o,b < w.heap.size→(Fz' b o↔Fz b o))∧(∀b o,Fz' b o→b < w'.heap.size)∧(∀φ,(RV.str s).holds φ Fz' w' v F)∧F.Nodup∧∀b,b∈F→w.heap.size≤b∧b < w'.heap.size:=
 ⟨_,Fz,[],rfl,hb,fun _ _ _=>Iff.rfl,fun b o h=>Nat.lt_of_lt_of_le (hz b o h) hb.size,fun _=>bX.of_sc rfl,List.nodup_nil,fun b hb=>by simp at hb⟩
def jF.sc{x:Value}(h:jF false [PV.val x] Fz w v):v=x:=(bX.sc ⟨h.1,(aW.cons (PV.bor_val _) aW.nil).own h.2⟩).1
def jF.sl{es:List (List PV)}(h:jF false [PV.sl .v es] Fz w v):qY es Fz w v:=
 (bX.atom (p:=PV.sl .v es) ⟨h.1,(aW.cons (PV.bor_sl _) aW.nil).own h.2⟩).1
def aqM(tab:∀{Fz w},G.rel Fz w→Lib.TabIs P w "internal/strconv.uint64pow10" .u64 Lib.pow10Tab)
  (c:∀(n:Int),-9223372036854775808≤n→n≤9223372036854775807→∀(w:World),Lib.TabIs P w "internal/strconv.uint64pow10" .u64 Lib.pow10Tab→Calls P f #[.int .i64 n] w fun e w'=>e = .returned (.string ⟨(Lib.itoa n).toArray⟩)∧∃k os,w'=Sort.grow (w.drewN k) os)
  {n:Int} (hn:dN n):et P G f [(false,[PV.val (vI n)])] (aA [(false,[PV.val (.string (B (Lib.itoa n)))])]):=by
 intro w vs Fz hz hG hr
 obtain ⟨v,vs',rfl,h1,rfl⟩:=hr
 have e:v=vI n:=jF.sc h1
 subst e
 refine (c n hn.1 hn.2 w (tab hG)).mono ?_
 rintro e w' ⟨rfl,hw⟩
 exact Cn hz (aqL hw)
def cI(xs:List an)(sep:an):an:=Lib.join xs sep
def aqN{e:an→List PV}(he:∀x,e x=[PV.val (.string (B x))])
  (c0:∀(a:Option Addr) (c:Nat) (sep:ByteArray) (w:World),Calls P f #[.slice a 0 c,.string sep] w fun e w'=>e = .returned (.string ⟨#[]⟩)∧w'=w)
  (c:∀(bk o c:Nat) (xs:List ByteArray) (sep:ByteArray) (w:World),(∀(j:Nat) x,xs[j]?=some x→w.cell? ⟨bk,o+j,none⟩=some (.string x))→bk < w.heap.size→xs.length≤140737488355328→xs.length≤c→(Lib.join (xs.map (·.data.toList)) sep.data.toList).length≤140737488355328 →
   Calls P f #[.slice (some ⟨bk,o,none⟩) xs.length c,.string sep] w fun e w'=>e = .returned (.string ⟨(Lib.join (xs.map (·.data.toList)) sep.data.toList).toArray⟩)∧Below w.heap.size w w')
  {xs:List an} {sep:an} (hx:xs.length≤140737488355328) (hl:(cI xs sep).length≤140737488355328):aE P f [(false,[PV.sl .v (xs.map e)]),(false,[PV.val (.string (B sep))])] (aA [(false,[PV.val (.string (B (cI xs sep)))])]):=by
 intro w vs Fz hz hr
 obtain ⟨v,vs',rfl,h1,v2,vs2,rfl,h2,rfl⟩:=hr
 have e2:v2 = .string (B sep):=jF.sc h2
 subst e2
 obtain ⟨ad,cp,e',u,rfl,k1,k2,k3,k4,k5⟩:=jF.sl h1
 have em:(xs.map B).map (·.data.toList)=xs:=by rw [List.map_map];exact List.map_id _
 rw [aX] at k1 k4 ⊢
 rcases k4 with k4|⟨b,off,rfl,k4⟩
 ·have hx:xs=[]:=by simpa using k4
  subst hx
  refine (c0 ad cp (B sep) w).mono ?_
  rintro e w' ⟨rfl,rfl⟩
  exact Cn (s:=[]) hz (Below.refl _ _)
 ·have hc:∀(j:Nat) x,(xs.map B)[j]?=some x→w.cell? ⟨b,off+j,none⟩=some (.string x)∧Fz b (off+j):=by
   intro j x hj
   rw [List.getElem?_map,Option.map_eq_some_iff] at hj
   obtain ⟨y,hy,rfl⟩:=hj
   have hlt:j < xs.length:=(List.getElem?_eq_some_iff.1 hy).1
   have hm:(xs.map e)[j]?=some [PV.val (.string (B y))]:=by rw [List.getElem?_map,hy,←he];rfl
   have he1:e'=1:=(k3 _ (List.mem_of_getElem? hm)).symm
   subst he1
   have hu:=(k5 j _ 0 _ hm rfl).1
   have:=k4 j 0 hlt ak
   rw [hu] at this
   simpa using this.symm
  by_cases h0:xs=[]
  ·subst h0
   refine (c0 (some ⟨b,off,none⟩) cp (B sep) w).mono ?_
   rintro e w' ⟨rfl,rfl⟩
   exact Cn (s:=[]) hz (Below.refl _ _)
  ·have hlt:0 < xs.length:=List.length_pos_iff.2 h0
   have hb:b < w.heap.size:=hz b _ (hc 0 (B (xs[0])) (by simp [hlt])).2
   have:=c b off cp (xs.map B) (B sep) w (fun j x hj=>(hc j x hj).1) hb yQ (by simpa using k1) (by rw [em];exact hl)
   rw [em,aX] at this
   refine this.mono ?_
   rintro e w' ⟨rfl,hw⟩
   exact Cn hz hw
def aqO{Fz':aD}{g:Nat}{nm:String}{k:IntKind}{zs:List Int}(hg:P.globalNamed nm=some g)(hz:0 < zs.length)(h:(∀o,Fz g o)∧Lib.TabIs P w nm k zs)(hk:iL Fz w Fz' w'):(∀o,Fz' g o)∧Lib.TabIs P w' nm k zs:=by
 refine ⟨fun o=>(hk g o (h.1 o)).1,?_⟩
 have hc:∀o,w'.cell? ⟨g,o,none⟩=w.cell? ⟨g,o,none⟩:=fun o=>(hk g o (h.1 o)).2
 have h2:=h.2
 unfold Lib.TabIs World.var? at h2 ⊢
 rw [hg] at h2 ⊢
 simp only [Option.bind_some] at h2 ⊢
 cases hw:w.heap[g]? with
 | none=>rw [hw] at h2;cases h2
 | some o=>
  cases o with
  | cells cs t fr=>
   rw [hw] at h2
   injection h2 with h2
   have hc1:∀o,w.cell? ⟨g,o,none⟩=cs[o]?:=fun o=>by simp [World.cell?,hw]
   have h0:(w'.cell? ⟨g,0,none⟩).isSome=true:=by rw [hc,hc1,h2];simp [hz]
   cases hw':w'.heap[g]? with
   | none=>simp [World.cell?,hw'] at h0
   | some o'=>
    cases o' with
    | cells cs' t' fr'=>
     have hc2:∀o,w'.cell? ⟨g,o,none⟩=cs'[o]?:=fun o=>by simp [World.cell?,hw']
     rw [←h2]
     show some cs'=some cs
     congr 1
     apply Array.ext_getElem?
     intro i
     rw [←hc2,hc,hc1]
    | _=>simp [World.cell?,hw'] at h0
  | _=>rw [hw] at h2;cases h2
def Zr(P:Program)(g:Nat)(hg:P.globalNamed "internal/strconv.uint64pow10" = some g):pW where
 rel Fz w:=(∀o,Fz g o)∧Lib.TabIs P w "internal/strconv.uint64pow10" .u64 Lib.pow10Tab
 mono h k:=aqO hg ak h k
end
end
end Go.Proofs.YtmekkgdboplbjaaGreatDoor.M
namespace Go.Proofs.YtmekkgdboplbjaaGreatDoor.M
open Go Go.RowKit Go.ChangeShapes Go.WideShapes
section
section
variable{H:Type}{enc:TypeId×Value→H}{P:Program}{W W':World}
def Zs{sp:Nat→Bool}(hl:laidOutB P=true)(hsame:∀p:MemPlace,p.block < W.heap.size→W.sameAt W' p):∀{ts:List TypeId} {vs:List Value} {ds:List (DataW H)} {ps:List MemPlace},(ts.all fun t=>P.readableRec t&&Nat.blt t P.types.size)=true →
  DataW.TrodAll enc P W 0 (fun _=>true) true ts vs ds ps→(∀p∈ps,p.block < W.heap.size)→(∀p∈ps,sp p.block=true)→DataW.TrodAll enc P W' 0 sp true ts vs ds ps
 | [],vs,ds,ps,_,h,_,_=>by
  obtain ⟨rfl,rfl,rfl⟩:=trodAll_nil h
  exact trodAll_mk0
 | t::ts,vs,ds,ps,ht,h,hlt,hs=>by
  obtain ⟨v,vs',d,ds',p,q,rfl,rfl,rfl,h1,h2⟩:=trodAll_cons h
  rw [List.all_cons,aR,aR,Nat.blt_eq] at ht
  exact trodAll_cons_mk (WideElems.Trod_stays hl ht.1.1 ht.1.2 h1 (fun x hx=>hsame x (hlt x gU)) (fun x hx=>hs x gU))
   (Zs hl hsame ht.2 h2 (fun x hx=>hlt x gU) (fun x hx=>hs x gU))
def aqP{f:Func}{s:ChangeSpec}{args:Array Value}{ds gs:List (DataW H)}{before:List MemPlace}{k:FuncId}{bt:TypeId}(hl:laidOutB P=true)(hr:(f.params.toList.all fun t=>P.readableRec t&&Nat.blt t P.types.size)=true)
  (hW:DataW.Whole enc P f.params.toList s.vars false W args.toList ds gs before) (hv:s.vars=[]) (hrt:f.resultTypes = #[bt]) (hbt:P.underlying bt=some .bool) (hfn:s.fn H (ds++gs)={ results:=[.lit (.bool true)],args:=ds })
  (hcall:Calls P k args W fun e w'=>e = .returned (.bool true)∧Below W.heap.size W w') :
  Calls P k args W fun e W'=>∃v,e = .returned v∧s.post enc P f false true false false W args v W':=by
 refine hcall.mono fun e W' ⟨he,hb⟩=>⟨_,he,?_⟩
 have hlt:∀p∈before,p.block < W.heap.size:=fun p hp=>hW.lt p hp
 have hW':=hW
 obtain ⟨pa,q,hA,hV,rfl,hz,hn⟩:=hW
 rw [hv] at hV
 obtain ⟨rfl,rfl⟩:=trodVars_none hV
 have hres:∀(b:Nat) (sp:Nat→Bool) (hd:Bool),DataW.TrodAll enc P W' b sp hd f.resultTypes.toList ((Value.bool true).resultList f.resultTypes.size) (s.fn H (ds++[])).results []:=by
  intro b sp hd
  rw [hfn,hrt]
  exact trodAll_cons_mk (p':=[]) (shut_bool hbt _) trodAll_mk0
 have hargs:∀sp:Nat→Bool,(∀p∈pa++[],sp p.block=true)→DataW.TrodAll enc P W' 0 sp true f.params.toList args.toList (s.fn H (ds++[])).args pa:=by
  intro sp hs
  rw [hfn]
  exact Zs hl (fun p hp=>hb.same hp) hr hA (fun p hp=>hlt p BM) (fun p hp=>hs p BM)
 have hvars:∀sp:Nat→Bool,DataW.TrodVars enc P W' sp s.vars (s.fn H (ds++[])).vars []:=by
  intro sp
  rw [hfn,hv]
  exact rfl
 have hold:∀p∈pa++[],(fun b=>decide (b < W.heap.size)) p.block=true:=fun p hp=>by simpa using hlt p hp
 have hok:∀(j:Nat) (t:TypeId) (r:Value),f.resultTypes[j]?=some t→((Value.bool true).resultList f.resultTypes.size)[j]?=some r→Value.okWide P W' .any 0 t r:=ok_one hrt rfl (okWide_bool_mk hbt _)
 refine ⟨ds,[],pa++[],[],pa,[],hW',hres _ _ _,hargs _ hold,hvars _,World.keptBut_mono (fun p hp=>⟨hp,?_⟩) (hb.frame (· ∈ pa++[])),fun h=>by cases h⟩
 simpa using hp
def zu(w:World):aD:=fun b _=>b < w.heap.size
def Hn(P:Program)(T:TypeId){α:Type}(f:α→List PV)(g:α→Prop):Prop:=
 ∀{H:Type} (enc:TypeId×Value→H) (w:World) (sp:Nat→Bool) (held:Bool) (n:Nat) (cs:List Value) (x:DataW H×List MemPlace),DataW.trod enc P w 0 sp held n T cs=some x→∃a,co (f a) (zu w) w cs∧g a
def aqQ{T:TypeId}(h:P.underlying T=some .string):Hn P T (fun n:ByteArray=>[PV.val (.string n)]) fun _=>True:=by
 intro H enc w sp held n cs x hx
 obtain ⟨m,rfl,_⟩:=DataW.trod_string h hx
 exact ⟨m,⟨_,[],rfl,⟨rfl,rfl⟩,rfl⟩,True.intro⟩
def aqR{T:TypeId}{ag:Bool}{k:Nat}{α:Type}{f:α→List PV}{g:α→Prop}(hT:dk P T=some (ag,k))(hs:Hn P T f g){w:World}{r:Reach}{b0:Nat}{v:Value}{d:DataW H}{ps:List MemPlace}(hval:Value.okWide P w r b0 T v)(h:DataW.Trod enc P w 0 (fun _=>true) true T v d ps) :
  ∃a,jF ag (f a) (zu w) w v∧g a:=by
 obtain ⟨n,hn⟩:=h
 obtain ⟨a,ha,hg⟩:=hs enc w _ _ n _ _ hn
 refine ⟨a,⟨?_,ha⟩,hg⟩
 unfold dk at hT
 cases hu:P.underlying T with
 | none=>rw [hu] at hT;cases hT
 | some dd=>
  cases hi:P.info? T with
  | none=>rw [hu,hi] at hT;cases hT
  | some i=>
   rw [hu,hi] at hT
   simp only [Option.some.injEq,Prod.mk.injEq] at hT
   obtain ⟨hT,_⟩:=hT
   unfold Value.okWide at hval
   rw [hu] at hval
   cases dd<;>simp only at hT hval<;>subst hT<;>first
    | (obtain ⟨cs,rfl,_⟩:=hval;rfl)
    | (cases v<;>first|rfl|(simp [Cell.okWide,Cell.ok,hu] at hval))
end
end
end Go.Proofs.YtmekkgdboplbjaaGreatDoor.M
namespace Go.Proofs.YtmekkgdboplbjaaGreatDoor.M
open Go Go.RowKit
section
section
variable{P:Program}{n d:Nat}{ty:TypeId}{pos:String}{af:Array Edge}{g:Option (Nat×Bool)}{G:pW}
def gL{f:Nat}{args:Array Operand}{tys:Array TypeId}{r:RV}(qs as_:List (Bool×List PV))(hf:aC P f=true)(hok:nc args.toList qs:=by repeat' (first|exact True.intro|exact bq rfl|exact XU|apply And.intro))
  (hto:pP qs as_:=by repeat' (first|exact True.intro|exact rfl|exact PV.To.refl _|exact PV.to_none|apply And.intro)) (hs:et P G f as_ r) (hd:d < n:=by decide):Loc P n ⟨some d,.call { callee:=.value (.func f),args:=args,argTypes:=tys },ty,pos,af,g⟩ ⟨(7000,RV.glob G)::kI args.toList qs,[],[(d,some r)],[],none⟩:=aqK hd hf hok hto hs
end
def aqS{P:Program}{T:TypeId}(h:P.underlying T=some .string):Hn P T (fun s:an=>[PV.val (.string (B s))]) fun _=>True:=by
 intro H enc w sp held n cs x hx
 obtain ⟨s,h1,h2⟩:=aqQ h enc w sp held n cs x hx
 exact ⟨s.data.toList,h1,h2⟩
def aqT{P:Program}{G:pW}{W:World}{f:FuncId}{vs:List Value}{qs:List (Bool×List PV)}(hs:et P G f qs (aA [(false,[PV.val (.bool true)])]))(hG:G.rel (zu W) W)(hr:iy qs (zu W) W vs):Calls P f vs.toArray W fun e w'=>e = .returned (.bool true)∧Below W.heap.size W w':=
 (hs W vs (zu W) (fun _ _ h=>h) hG hr).mono fun e w' ⟨v,Fz',F,he,hb,_,_,hv,_⟩=>⟨by rw [he,(bX.sc (hv fun _=>0)).1],hb⟩
end
section
section
variable{h0:Nat→Prop}{n:Nat}{w0 w:World}{Fz0 Fz:aD}{σ:St}{a:Act}{φ:Nat→Nat}{Fp:Nat→List Nat}{P:Program}{c:Code}{Q:Exit→St→Prop}
end
end
end Go.Proofs.YtmekkgdboplbjaaGreatDoor.M
namespace Go.Proofs.YtmekkgdboplbjaaGreatDoor.M
open Go
variable{l:List (Nat×RV)}{b:List (Nat×(Nat×List PV))}{id:Nat}{ops:Array Oper}{v:Value}
section
inductive eR(s:Nat→Option RV):List Nat→List (Nat×RV)→Prop
 | nil:eR s [] []
 | cons {k:Nat} {v:RV} {ks:List Nat} {l:List (Nat×RV)} (h:s k=some v) (t:eR s ks l):eR s (k::ks) ((k,v)::l)
def eR.rd{s:Nat→Option RV}{ks:List Nat}(h:eR s ks l):bj l s:=by
 induction h with
 | nil=>exact True.intro
 | cons h _ ih=>exact And.intro h ih
inductive gX(b:Nat→Option (Nat×List PV)):List Nat→List (Nat×(Nat×List PV))→Prop
 | nil:gX b [] []
 | cons {k:Nat} {v:Nat×List PV} {ks:List Nat} {l:List (Nat×(Nat×List PV))} (h:b k=some v) (t:gX b ks l):gX b (k::ks) ((k,v)::l)
def gX.rd{b:Nat→Option (Nat×List PV)}{ks:List Nat}{l:List (Nat×(Nat×List PV))}(h:gX b ks l):bj l b:=by
 induction h with
 | nil=>exact True.intro
 | cons h _ ih=>exact And.intro h ih
def qq:(∀{p:Prop} [Decidable p],(decide p=true)=p)∧(∀{p:Prop} [Decidable p],decide p=false↔¬p)∧(∀{α:Type} [BEq α] [LawfulBEq α] {a b:α},(a != b)=true↔a≠b)∧(∀{α:Type} [BEq α] [LawfulBEq α] {a b:α},(a==b)=true↔a=b)∧(∀{b:Bool},((!b)=true)=(b=false))∧(∀{b:Bool},((!b)=false)=(b=true))∧(∀{α:Type} {a b:α},(a≠b)=¬a=b)∧(∀{α:Type} [BEq α] [LawfulBEq α] {a b:α},(a != b)=false↔a=b)∧(∀{α:Type} [BEq α] [LawfulBEq α] {a b:α},(a==b)=false↔a≠b):=
 ⟨q1,q2,q3,q4,q5,q6,q7,q8,q9⟩
def Zt{L:Nat→Prop}{a b:List PV}(h:aw L a)(k:aw L b):aw L (List.append a b):=aw.app h k
def lc{G:Prop}(h:G:=by repeat' (first|with_reducible (first|exact rm.nil|exact aw.nil|exact aw.vals|exact PV.lcl_val|exact PV.lcl_any|exact RV.lcl_hdr|exact RV.lcl_ptr|exact RV.lcl_gat|exact RV.lcl_phi|apply rm.cons|apply aw.cons|apply RV.lcl_nm|apply RV.lcl_sv|apply RV.lcl_gh|apply PV.lcl_nv|apply PV.lcl_own|apply aw.flat|apply aw.app|apply Zt|refine aw.map fun _=>?_)|apply aw.cons|apply rm.cons|exact aw.nil|refine aw.map fun _=>?_)):G:=h
def aI{a b:Prop}(x:a)(y:b):a∧b:=⟨x,y⟩
def tI:True:=True.intro
def nl{a b:Nat}(h:Nat.ble a b=true):a≤b:=Nat.le_of_ble_eq_true h
section
variable{P:Program}{n:Nat}{h0:Nat→Prop}{w0:World}{Fz0:aD}{c x y:Code}{σ:St}{Q:Exit→St→Prop}
def sP(ks bs:List Nat)(h:SW P n h0 w0 Fz0 c (St.of l b) Q)(hl:eR σ.s ks l:=by repeat (first|exact eR.nil|apply eR.cons rfl))(hb:gX σ.b bs b:=by repeat (first|exact gX.nil|apply gX.cons rfl)):SW P n h0 w0 Fz0 c σ Q:=sO l b h hl.rd hb.rd
def sS(ks bs:List Nat)(h:bS P n ops (fun τ=>wU (fun τ=>SW P n h0 w0 Fz0 y τ Q) Q .normal τ) ops.toList (St.of l b))(hl:eR σ.s ks l:=by repeat (first|exact eR.nil|apply eR.cons rfl))(hb:gX σ.b bs b:=by repeat (first|exact gX.nil|apply gX.cons rfl)):SW P n h0 w0 Fz0 (.seq (.region id ops false) y) σ Q:=BX (sO l b (fh h) hl.rd hb.rd)
def sG(ks bs:List Nat)(h:bS P n ops (fun τ=>Q .normal τ) ops.toList (St.of l b))(hl:eR σ.s ks l:=by repeat (first|exact eR.nil|apply eR.cons rfl))(hb:gX σ.b bs b:=by repeat (first|exact gX.nil|apply gX.cons rfl)):SW P n h0 w0 Fz0 (.region id ops false) σ Q:=sO l b (fh h) hl.rd hb.rd
def sL{ι:Type}(ks bs:List Nat)(I:ι→Prop){l0:List (Nat×RV)}{b0:List (Nat×(Nat×List PV))}(l:ι→List (Nat×RV))(b:ι→List (Nat×(Nat×List PV)))(m:ι→Nat)(i0:ι)(h0':I i0)(hl:bj (l i0) σ.s)(hb:bj (b i0) σ.b)
  (round:∀i,I i→SW P n h0 w0 Fz0 c (St.of (l0++l i) (b0++b i)) (wU (fun τ=>∃j,I j∧m j < m i∧(bj l0 τ.s∧bj b0 τ.b)∧bj (l j) τ.s∧bj (b j) τ.b) Q)) (hl0:eR σ.s ks l0:=by repeat (first|exact eR.nil|apply eR.cons rfl)) (hb0:gX σ.b bs b0:=by repeat (first|exact gX.nil|apply gX.cons rfl)):SW P n h0 w0 Fz0 (.loop c) σ Q:=ap6 I l b m i0 h0' hl0.rd hb0.rd hl hb round
def sR(h:bS P n ops (fun τ=>wU (fun τ=>SW P n h0 w0 Fz0 y τ Q) Q .normal τ) ops.toList σ):SW P n h0 w0 Fz0 (.seq (.region id ops false) y) σ Q:=BX (fh h)
end
section
variable{P:Program}{n:Nat}{ops:Array Oper}{σ:St}{QS:St→Prop}{l:List Oper}{d x:Nat}{ty:TypeId}{pos:String}{af:Array Edge}
def rM(y:bS P n ops QS l (σ.app ⟨[(x,RV.sc v)],[],[(d,some (RV.sc v))],[],none⟩))(h1:bj [(x,RV.sc v)] σ.s:=by repeat (first|exact True.intro|refine And.intro rfl ?_))(hd:d < n:=by decide):bS P n ops QS (⟨some d,.move (.tmp x),ty,pos,af,none⟩::l) σ:=rA y h1 True.intro (sM hd) rfl rfl
def rS(y:bS P n ops QS l (σ.app ⟨[(x,RV.sc v)],[],[(d,some (RV.sc v))],[],none⟩))(h1:bj [(x,RV.sc v)] σ.s:=by repeat (first|exact True.intro|refine And.intro rfl ?_))(hd:d < n:=by decide):bS P n ops QS (⟨some d,.assign (.tmp x),ty,pos,af,none⟩::l) σ:=rA y h1 True.intro (sA hd) rfl rfl
def rK(y:bS P n ops QS l (σ.app ⟨[],[],[(d,some (RV.sc v))],[],none⟩))(h:v.oneCell'=true:=by exact rfl)(hd:d < n:=by decide):bS P n ops QS (⟨some d,.assign (.const v),ty,pos,af,none⟩::l) σ:=rA y True.intro True.intro (kA h hd) rfl rfl
end
end
end Go.Proofs.YtmekkgdboplbjaaGreatDoor.M
namespace Go.Proofs.YtmekkgdboplbjaaGreatDoor.M
open Go Go.RowKit
variable{l:List (Nat×RV)}{m:Nat}{b:List (Nat×(Nat×List PV))}{id:Nat}{ops:Array Oper}{d:Nat}{ι:Type}{cs:List PV}{es:List (List PV)}{t:Nat}{A B:List PV}{H:Prop}{G:Nat}{c:Bool}{s e:Nat}{α:Type}{ps:List PV}{T:Nat}{Fz:aD}{w:World}{v:Value}{F F1 F2:List Nat}{jk:List Value}{p:PV}{us:List Value}{gs:List PV}{u:Value}{qs:List PV}{k:Nat}{us':List Value}{ty:TypeId}{pos:String}{af:Array Edge}{i cp:Nat}{f:α→List PV}{fN:α×(Nat→Value)→List PV}{xs:List α}{ys:List (α×(Nat→Value))}{zs:List (α×(Nat→Value))}
section
inductive pX:List PV→List PV→Prop
 | nil:pX [] []
 | val {v:Value} {l m:List PV} (h:pX l m):pX (PV.val v::l) (PV.val v::m)
 | sl {o:Fl} {es:List (List PV)} {l m:List PV} (h:pX l m):pX (PV.sl o es::l) (PV.sl o es::m)
def pX.eq{l m:List PV}(h:pX l m):l=m:=by
 induction h with
 | nil=>rfl
 | val _ ih=>rw [ih]
 | sl _ ih=>rw [ih]
inductive fG(b:Nat→Option (Nat×List PV)):List Nat→List (Nat×(Nat×List PV))→Prop
 | nil:fG b [] []
 | cons {k T:Nat} {cs ds:List PV} {ks:List Nat} {l:List (Nat×(Nat×List PV))} (h:b k=some (T,cs)) (e:pX cs ds) (t:fG b ks l):fG b (k::ks) ((k,(T,ds))::l)
 | any {k T:Nat} {cs:List PV} {ks:List Nat} {l:List (Nat×(Nat×List PV))} (h:b k=some (T,cs)) (t:fG b ks l):fG b (k::ks) ((k,(T,cs))::l)
def fG.rd{b:Nat→Option (Nat×List PV)}{ks:List Nat}{l:List (Nat×(Nat×List PV))}(h:fG b ks l):bj l b:=by
 induction h with
 | nil=>exact True.intro
 | cons h e _ ih=>exact And.intro (e.eq▸h) ih
 | any h _ ih=>exact And.intro h ih
section
variable{P:Program}{n:Nat}{h0:Nat→Prop}{w0:World}{Fz0:aD}{c x y:Code}{σ:St}{Q:Exit→St→Prop}
def sQ(ks bs:List Nat)(h:SW P n h0 w0 Fz0 c (St.of l b) Q)(hl:eR σ.s ks l:=by repeat (first|exact eR.nil|apply eR.cons rfl))(hb:fG σ.b bs b:=by repeat (first|exact fG.nil|refine fG.cons rfl yJ ?_|apply fG.any rfl)):SW P n h0 w0 Fz0 c σ Q:=sO l b h hl.rd hb.rd
def sT(ks bs:List Nat)(h:bS P n ops (fun τ=>wU (fun τ=>SW P n h0 w0 Fz0 y τ Q) Q .normal τ) ops.toList (St.of l b))(hl:eR σ.s ks l:=by repeat (first|exact eR.nil|apply eR.cons rfl))(hb:fG σ.b bs b:=by repeat (first|exact fG.nil|refine fG.cons rfl yJ ?_|apply fG.any rfl)):SW P n h0 w0 Fz0 (.seq (.region id ops false) y) σ Q:=BX (sO l b (fh h) hl.rd hb.rd)
def sH(ks bs:List Nat)(h:bS P n ops (fun τ=>Q .normal τ) ops.toList (St.of l b))(hl:eR σ.s ks l:=by repeat (first|exact eR.nil|apply eR.cons rfl))(hb:fG σ.b bs b:=by repeat (first|exact fG.nil|refine fG.cons rfl yJ ?_|apply fG.any rfl)):SW P n h0 w0 Fz0 (.region id ops false) σ Q:=sO l b (fh h) hl.rd hb.rd
def sU(ks bs cs:List Nat){d:List (Nat×(Nat×List PV))}(h:SW P n h0 w0 Fz0 c (St.of l (b++d)) Q)(hl:eR σ.s ks l:=by repeat (first|exact eR.nil|apply eR.cons rfl))(hb:gX σ.b bs b:=by repeat (first|exact gX.nil|apply gX.cons rfl))(hc:fG σ.b cs d:=by repeat (first|exact fG.nil|refine fG.cons rfl yJ ?_|apply fG.any rfl)):SW P n h0 w0 Fz0 c σ Q:=sO l (b++d) h hl.rd (hb.rd.app hc.rd)
def sV(ks bs cs:List Nat){d:List (Nat×(Nat×List PV))}(h:bS P n ops (fun τ=>wU (fun τ=>SW P n h0 w0 Fz0 y τ Q) Q .normal τ) ops.toList (St.of l (b++d)))(hl:eR σ.s ks l:=by repeat (first|exact eR.nil|apply eR.cons rfl))(hb:gX σ.b bs b:=by repeat (first|exact gX.nil|apply gX.cons rfl))(hc:fG σ.b cs d:=by repeat (first|exact fG.nil|refine fG.cons rfl yJ ?_|apply fG.any rfl)):SW P n h0 w0 Fz0 (.seq (.region id ops false) y) σ Q:=BX (sO l (b++d) (fh h) hl.rd (hb.rd.app hc.rd))
def sW(ks bs cs:List Nat){d:List (Nat×(Nat×List PV))}(h:bS P n ops (fun τ=>Q .normal τ) ops.toList (St.of l (b++d)))(hl:eR σ.s ks l:=by repeat (first|exact eR.nil|apply eR.cons rfl))(hb:gX σ.b bs b:=by repeat (first|exact gX.nil|apply gX.cons rfl))(hc:fG σ.b cs d:=by repeat (first|exact fG.nil|refine fG.cons rfl yJ ?_|apply fG.any rfl)):SW P n h0 w0 Fz0 (.region id ops false) σ Q:=sO l (b++d) (fh h) hl.rd (hb.rd.app hc.rd)
def nx{I:ι→Prop}{m:ι→Nat}{M:Nat}{C D:Prop}{E F:ι→Prop}(j:ι)(a:I j)(b:m j < M:=by first|omega|(dsimp only;omega))(c:C:=by repeat (first|exact True.intro|refine And.intro rfl ?_))(d:D:=by repeat (first|exact True.intro|refine And.intro rfl ?_))(e:E j:=by repeat (first|exact True.intro|refine And.intro rfl ?_))(f:F j:=by repeat (first|exact True.intro|refine And.intro rfl ?_)):∃j,I j∧m j < M∧(C∧D)∧E j∧F j:=⟨j,a,b,⟨c,d⟩,e,f⟩
def sF{f:FuncId}{fn:Func}{c:Code}{args rs:List (Bool×List PV)}(hf:P.funcs[f]?=some fn)(h:∀(h0:Nat→Prop) (w0:World) (Fz0:aD),SW P fn.ntmps h0 w0 Fz0 c (St.of (jt 0 args) []) (yZ P fn.results.toList rs))(hb:fn.body=some c:=by exact rfl)(hn:args.length≤fn.ntmps:=by exact Nat.le_of_ble_eq_true rfl)
  (hbor:GS args:=by repeat (first|with_reducible exact kJ|with_reducible refine jI (by repeat (first|with_reducible exact aW.nil|with_reducible refine aW.cons (PV.bor_val _) ?_|with_reducible refine aW.cons (PV.bor_sl _) ?_|with_reducible refine aW.cons (PV.bor_lo _ _) ?_)) ?_)):aE P f args (aA rs):=Nf hf hb hn hbor h
def sn(s j:Nat){ag:Bool}{o:Fl}(h:m≤9223372036854775807→SW P n h0 w0 Fz0 c σ Q)(hs:σ.s s=some (RV.sv ag cs):=by exact rfl)(hj:cs[j]?=some (PV.sl o es):=by exact rfl)(hm:es.length=m:=by first|exact aX _|exact rfl):SW P n h0 w0 Fz0 c σ Q:=aqa hs hj fun k=>h (hm▸k)
def sj(s:Nat){o:Fl}(h:m≤9223372036854775807→SW P n h0 w0 Fz0 c σ Q)(hs:σ.s s=some (RV.slc o es):=by exact rfl)(hm:es.length=m:=by first|exact aX _|exact rfl):SW P n h0 w0 Fz0 c σ Q:=ap7 hs fun k=>h (hm▸k)
def sc{b:Bool}{A B:Prop}(h1:A→SW P n h0 w0 Fz0 x σ Q)(h2:B→SW P n h0 w0 Fz0 y σ Q)(ht:σ.s t=some (RV.bool b):=by exact rfl)(u1:b=true→A:=by first|(intro h;simp only [qq] at h;exact h)|exact fun h=>h)(u2:b=false→B:=by first|(intro h;simp only [qq] at h;exact h)|exact fun h=>h):SW P n h0 w0 Fz0 (.cond (.tmp t) x y) σ Q:=Nc ht (fun k=>h1 (u1 k)) (fun k=>h2 (u2 k))
def fH(h1:SW P n h0 w0 Fz0 x σ Q)(ht:σ.s t=some (RV.bool true):=by exact rfl):SW P n h0 w0 Fz0 (.cond (.tmp t) x y) σ Q:=Nc ht (fun _=>h1) (fun k=>nomatch k)
def gB(h1:SW P n h0 w0 Fz0 y σ Q)(ht:σ.s t=some (RV.bool false):=by exact rfl):SW P n h0 w0 Fz0 (.cond (.tmp t) x y) σ Q:=Nc ht (fun k=>nomatch k) (fun _=>h1)
end
section
variable{P:Program}{n:Nat}{ops:Array Oper}{σ σ0:St}{QS:St→Prop}{l:List Oper}{o:Oper}{acc:List (Nat×aL)}{C:Nat→aL→Prop}
def rY(s:Nat)(y:bS P n ops QS l σ)(hs:σ.s s=some (RV.bool true):=by exact rfl):bS P n ops QS l σ:=bS.cases hs (fun _=>y) (fun h=>nomatch h)
def rN(s:Nat)(y:bS P n ops QS l σ)(hs:σ.s s=some (RV.bool false):=by exact rfl):bS P n ops QS l σ:=bS.cases hs (fun h=>nomatch h) (fun _=>y)
def dY(s:Nat)(y:cu P n ops σ0 C QS l acc σ)(hs:σ.s s=some (RV.bool true):=by exact rfl):cu P n ops σ0 C QS l acc σ:=cu.cases hs (fun _=>y) (fun h=>nomatch h)
def cx(s:Nat){b:Bool}{A B:Prop}(h1:b=true→A→bS P n ops QS l σ)(h2:b=false→B→bS P n ops QS l σ)(ht:σ.s s=some (RV.bool b):=by exact rfl)(u1:b=true→A:=by first|(intro h;simp only [qq] at h;exact h)|exact fun h=>h)(u2:b=false→B:=by first|(intro h;simp only [qq] at h;exact h)|exact fun h=>h):bS P n ops QS l σ:=bS.cases ht (fun k=>h1 k (u1 k)) (fun k=>h2 k (u2 k))
def dx(s:Nat){b:Bool}{A B:Prop}(h1:b=true→A→cu P n ops σ0 C QS l acc σ)(h2:b=false→B→cu P n ops σ0 C QS l acc σ)(ht:σ.s s=some (RV.bool b):=by exact rfl)(u1:b=true→A:=by first|(intro h;simp only [qq] at h;exact h)|exact fun h=>h)(u2:b=false→B:=by first|(intro h;simp only [qq] at h;exact h)|exact fun h=>h):cu P n ops σ0 C QS l acc σ:=cu.cases ht (fun k=>h1 k (u1 k)) (fun k=>h2 k (u2 k))
inductive Hd(H:Prop):Prop
 | mk (h:H):Hd H
def Hd.g:Hd H→H:=fun x=>by cases x with|mk h=>exact h
abbrev ae(G H:Prop):=Hd H→G
def ah{G:Prop}(w:ae G H)(h:H):G:=w ⟨h⟩
def zt{G:Prop}(g:c=true)(h:H)(w:c=true→Hd H→G:=by intro g_ h_;(repeat (first|refine bS.s0t g_ ?_|refine bS.su ?_));exact h_.g):G:=w g ⟨h⟩
def zf{G:Prop}(g:c=false)(h:H)(w:c=false→Hd H→G:=by intro g_ h_;(repeat (first|refine bS.s0f g_ ?_|refine bS.su ?_));exact h_.g):G:=w g ⟨h⟩
def rX{L:aL}(y:bS P n ops QS l (σ.app L))(h1:bj L.rs σ.s:=by repeat (first|exact True.intro|refine And.intro rfl ?_))(h2:bj L.rb σ.b:=by repeat (first|exact True.intro|refine And.intro rfl ?_))(x:Loc P n o L)(hg:o.guard=none:=by exact rfl)(ha:∀d,L.al=some d→en d σ:=by refine uT ?_;repeat (first|exact en.of_ rfl|refine en.app ?_ rfl)):bS P n ops QS (o::l) σ:=bS.step h1 h2 (dj.of hg x) ha y
def dX{L:aL}(m:Nat)(y:cu P n ops σ0 C QS l (acc++[(m,L)]) (σ.app L))(h1:bj L.rs σ.s:=by repeat (first|exact True.intro|refine And.intro rfl ?_))(h2:bj L.rb σ.b:=by repeat (first|exact True.intro|refine And.intro rfl ?_))(x:Loc P n o L)(hg:o.guard=none:=by exact rfl)(ha:∀d,L.al=some d→en d σ0:=by exact mm)(h4:re m o L acc=true:=by kernel_rfl)(hC:C acc.length L:=by show (List.all _ _)=true;kernel_rfl):cu P n ops σ0 C QS (o::l) acc σ:=cu.stepC m h1 h2 (dj.of hg x) ha h4 hC y
end
def rb{b:Bool}(h:b=c):some (RV.bool b)=some (RV.bool c)∧True:=⟨dQ h,True.intro⟩
def lcE{L:Nat→Prop}:∀cs,cs∈([]:List (List PV))→aw L cs:=fun _ h=>nomatch h
def lcF{L:Nat→Prop}:∀cs,cs∈([]:List (List PV))→lu L cs:=fun _ h=>nomatch h
def lq{G:Prop}(h:G:=by repeat' (first|with_reducible (first|exact aw.nil|exact aw.vals|exact lu.nil|exact PV.lcl_val|exact PV.lclr_val|exact PV.lcl_any|exact RV.lcl_hdr|exact RV.lcl_ptr|exact RV.lcl_gat|exact RV.lcl_phi|exact aW.nil|exact PV.bor_val _|exact PV.bor_sl _|exact PV.bor_lo _ _|exact PV.bor_any|exact PV.bor_clo _ _|exact PV.bor_ep _|apply PV.bor_nv|exact kJ|exact am.nil|exact PV.tob_refl|exact tb.nil|exact OTo.refl|exact OTo.lo|apply aw.cons|apply lu.cons|apply aW.cons|apply jI|apply am.cons|apply tb.cons|apply RV.lcl_nm|apply RV.lcl_sv|apply RV.lcl_gh|apply PV.lcl_nv|apply PV.lcl_own|apply PV.lcl_lo|apply PV.lclr_lo|apply aw.flat|apply aw.app|apply Zt|refine aw.map fun _=>?_|refine lu.map fun _=>?_|refine PV.tob_map (fun _=>Nat.le_of_ble_eq_true rfl) (fun _=>?_)|exact True.intro|exact rm.nil|apply rm.cons)|apply aw.cons|apply lu.cons|apply am.cons|apply aW.cons|apply jI|exact aw.nil|exact lu.nil|exact am.nil|exact aW.nil|exact kJ|exact lcE|exact lcF|apply tb.cons|apply RV.lcl_sv|exact RV.lcl_ptr|exact True.intro|exact Or.inl rfl|(refine Or.inl ?_;simp [mj];done)|refine Or.inr ?_|refine And.intro rfl ?_|refine And.intro ?_ ?_|exact rfl|refine aw.map fun _=>?_)):G:=h
end
section
def Ho{α:Type}{f g:α→List PV}{fN:α×(Nat→Value)→List PV}{e:Nat}(hN:∀x h,fN (x,h)=fv h 0 (g x))(hg:∀x,(g x).length=e)(hq:∀x,az (f x) (g x))(hb:∀x,aW (g x)){Fz:aD}{w:World}:∀{xs:List α} {css:List Value} {F:List Nat},cO e (xs.map f) Fz w css F →
  ∃zs:List (α×(Nat→Value)),zs.map Prod.fst=xs∧css=bz e zs∧cO e (zs.map fN) Fz w css []∧aN (ca f zs) Fz w (bz e zs) F
 | [],css,F,h=>by
  obtain ⟨rfl,rfl⟩:=h
  exact ⟨[],rfl,rfl,⟨rfl,rfl⟩,⟨rfl,rfl⟩⟩
 | x::xs,css,F,h=>by
  obtain ⟨c,d,F1,F2,rfl,rfl,hl,h1,h2⟩:=h
  obtain ⟨zs,e1,e2,e3,e4⟩:=Ho hN hg hq hb h2
  obtain ⟨k,hk⟩:=NL hl
  refine ⟨(x,k)::zs,Mk,?_,?_,?_⟩
  ·rw [hk,e2];rfl
  ·refine ⟨c,d,[],[],rfl,rfl,hl,?_,e3⟩
   rw [hN,Hj,hg,←List.range_eq_range',←hk]
   exact Hi (hb x) ((hq x).rel h1.rel)
  ·have:aN (f x++ca f zs) Fz w (c++bz e zs) (F1++F2):=h1.append e4
   rw [hk] at this;exact this
section
variable{P:Program}{n:Nat}{h0:Nat→Prop}{w0:World}{Fz0:aD}{σ:St}{Q:Exit→St→Prop}{c:Code}
def Zu{g:α→List PV}(hs:σ.s s=some (RV.sv false [PV.sl (.own t e) (xs.map f)]))(hsG:Nat.beq s G=false)(hG:σ.s G=none)(hN:∀x h,fN (x,h)=fv h 0 (g x))(hg:∀x,(g x).length=e)(hq:∀x,az (f x) (g x))(hb:∀x,aW (g x))
  (h:∀zs:List (α×(Nat→Value)),zs.map Prod.fst=xs→SW P n h0 w0 Fz0 c ((σ.set s (some (RV.sv false [PV.sl .v (zs.map fN)]))).set G (some (RV.gh (bz e zs) (ca f zs)))) Q):SW P n h0 w0 Fz0 c σ Q:=fun a w hc=>by
 rw [beq_eq,decide_eq_false_iff_not] at hsG
 obtain ⟨φ,Fz,Fp,hc⟩:=hc
 have hv:bX false [PV.sl (.own t e) (xs.map f)] Fz w (a.tmps.getD s undef) (Fp (2 * s+1)):=hc.slot s _ hs
 obtain ⟨hag,v,vs',F1,F2,hv1,hF,ho,hnil,rfl⟩:=hv
 subst hnil
 have ho:ek t e (xs.map f) Fz w v F1:=ho
 obtain ⟨css,F',hrow,hll,hfz,rfl,hone⟩:=ho
 obtain ⟨zs,e1,e2,e3,e4⟩:=Ho hN hg hq hb hll
 have hlen:(zs.map fN).length=(xs.map f).length:=FO
 have hsl:ek t e (zs.map fN) Fz w v (v.ownBlock.toList++[]):=⟨css,[],wL,e3,fun g hg o=>by rw [hlen];exact hfz g hg o,rfl,hone⟩
 have c1:=hc.pull s
 have e0:mv Fp (2 * s+1) 0=Fp (2 * s+1)++Fp 0:=gz
 have es:mv Fp (2 * s+1) (2 * s+1)=[]:=gz
 have hnd:=c1.nod 0
 rw [e0,hF,gj] at hnd
 rw [hF,gj] at e0
 have c2:=c1.reslot (s:=s) (rv:=RV.sv false [PV.sl .v (zs.map fN)]) (by
  rw [es]
  exact ⟨hag,v,[],[],[],hv1,rfl,⟨hsl.rel,rfl⟩,rfl,rfl⟩)
 have c3:=c2.pushG (G:=G) (us:=bz e zs) (cs:=ca f zs) (F:=F') (X:=Fp 0) e4 (fun b hb=>by
   rw [e0]
   rcases List.mem_append.1 hb with hb|hb
   ·simp [hb]
   ·simp [hb])
  (by
   rw [bn] at hnd
   exact (List.nodup_append.1 hnd).2.1)
 exact h zs e1 a w (bB.eqv ⟨_,_,_,c3⟩ (fun i=>by
  simp only [St.set_s]
  split
  ·rfl
  ·split<;>rfl) (fun d=>rfl))
def aqW{H:Nat}(hG:σ.s G=some (RV.gh (bz e ys) (ca f ys)))(hH:σ.s H=some (RV.gh (bz e zs) (ca f zs)))(hGH:Nat.beq G H=false)(h:SW P n h0 w0 Fz0 c ((σ.set H none).set G (some (RV.gh (bz e (ys++zs)) (ca f (ys++zs))))) Q):SW P n h0 w0 Fz0 c σ Q:=fun a w hc=>by
 rw [beq_eq,decide_eq_false_iff_not] at hGH
 obtain ⟨φ,Fz,Fp,hc⟩:=hc
 have h1:aN (ca f ys) Fz w (bz e ys) (Fp (2 * G+1)):=hc.slot G _ hG
 have h2:aN (ca f zs) Fz w (bz e zs) (Fp (2 * H+1)):=hc.slot H _ hH
 have ho:aN (ca f (ys++zs)) Fz w (bz e (ys++zs)) (Fp (2 * G+1)++Fp (2 * H+1)):=by
  have e1:ca f (ys++zs)=ca f ys++ca f zs:=by simp [ca]
  have e2:bz e (ys++zs)=bz e ys++bz e zs:=by simp [bz]
  rw [e1,e2];exact h1.append h2
 have c1:=hc.pull H
 have c2:=c1.pull G
 have e1:mv Fp (2 * H+1) (2 * G+1)=Fp (2 * G+1):=Xs
 have e2:mv (mv Fp (2 * H+1)) (2 * G+1) 0=Fp (2 * G+1)++(Fp (2 * H+1)++Fp 0):=by
  rw [←e1];simp [mv]
 have hnd:=c2.nod 0
 rw [e2] at hnd
 have c3:=c2.pushG (G:=G) (F:=Fp (2 * G+1)++Fp (2 * H+1)) (X:=Fp 0) ho (fun b hb=>by rw [e2,←bn];exact hb) (by rw [bn];exact hnd)
 exact h a w (bB.eqv ⟨_,_,_,c3⟩ (fun i=>by
  simp only [St.set_s]
  split
  ·rfl
  ·rfl) (fun d=>rfl))
def NP{z:α×(Nat→Value)}(hd:σ.b d=some (t,ps))(hn:Nm ps ((List.range e).map z.2))(hf:∀x,(f x).length=e)(hG:σ.s G=some (RV.gh (bz e (z::zs)) (ca f (z::zs))))
  (h:SW P n h0 w0 Fz0 c ((σ.setB d (some (t,f z.1))).set G (some (RV.gh (bz e zs) (ca f zs)))) Q):SW P n h0 w0 Fz0 c σ Q:=fun a w hc=>by
 obtain ⟨φ,Fz,Fp,hc⟩:=hc
 have hg0:aN (f z.1++ca f zs) Fz w ((List.range e).map z.2++bz e zs) (Fp (2 * G+1)):=hc.slot G _ hG
 obtain ⟨v1,v2,F1,F2,k1,k2,k3,k4⟩:=hg0.split
 obtain ⟨rfl,rfl⟩:=List.append_inj k1 (by rw [k3.len,hf];simp)
 have c1:=hc.pull G
 have e0:mv Fp (2 * G+1) 0=Fp (2 * G+1)++Fp 0:=gz
 obtain ⟨cur,h1,h2⟩:=c1.box d (t,ps) hd
 obtain ⟨g1,g2,g3⟩:=c1.bxb d (t,ps) hd
 have hu:cur.toList=(List.range e).map z.2:=hn h2.rel
 have c2:=c1.pullB (d:=d) (cs:=(t,ps)) hd
 generalize hFp1:mv Fp (2 * G+1)=Fp1 at c1 c2 e0 h2 g3
 have hnd:=c2.nod 0
 simp only [if_true] at hnd
 have em:mv Fp1 (2 * d+2) 0=Fp1 (2 * d+2)++Fp1 0:=gz
 rw [em,e0,k2] at hnd
 rw [k2] at e0
 have c3:=c2.pushB (d:=d) (g:=φ d) (t:=t) (cs:=f z.1) (F:=F1) (X:=F2++Fp 0) mc h1 (by rw [hu];exact k3) g2
  (fun x hx=>by
   simp only [if_true]
   rw [em,e0]
   rcases List.mem_append.1 hx with hx|hx
   ·simp [hx]
   ·rcases List.mem_cons.1 hx with rfl|hx
    ·simp
    ·rcases List.mem_append.1 hx with hx|hx<;>simp [hx])
  (by
   simp only [kf,ff] at hnd
   obtain ⟨m0,m1⟩:=hnd
   have m2:=(List.nodup_append.1 m1).2.1
   rw [bn,dH] at m2
   rw [dH]
   refine ⟨m2.1,List.nodup_cons.2 ⟨fun hh=>?_,m2.2.1⟩,fun x hx y hy e=>?_⟩
   ·rcases List.mem_append.1 hh with hh|hh
    ·exact m0 (.inr (.inl (.inr hh)))
    ·exact m0 (.inr (.inr hh))
   ·rcases List.mem_cons.1 hy with rfl|hy
    ·exact m0 (.inr (.inl (.inl (e▸hx))))
    ·exact m2.2.2 x hx y hy e)
  (.inl rfl)
 have hn3:=c3.nod 0
 have c4:=c3.pushG (G:=G) (F:=F2) (X:=Fp 0) k4 (fun b hb=>by simp only [eG];rw [if_neg ab];simpa using hb) (by
  simp only [eG] at hn3
  rw [if_neg ab] at hn3
  simpa using hn3)
 exact h a w (bB.eqv ⟨_,_,_,c4⟩ (fun i=>by
  simp only [St.set_s,St.setB_s]
  split<;>rfl) (fun e=>by
  simp only [St.setB_b,St.set_b]
  split<;>rfl))
def zv{g:α→List PV}(hd:σ.b d=some (T,A++(PV.sl (.own t e) (xs.map f)::B)))(hG:σ.s G=none)(hN:∀x h,fN (x,h)=fv h 0 (g x))(hg:∀x,(g x).length=e)(hq:∀x,az (f x) (g x))(hb:∀x,aW (g x))
  (h:∀zs:List (α×(Nat→Value)),zs.map Prod.fst=xs→SW P n h0 w0 Fz0 c ((σ.setB d (some (T,A++(PV.sl .v (zs.map fN)::B)))).set G (some (RV.gh (bz e zs) (ca f zs)))) Q):SW P n h0 w0 Fz0 c σ Q:=fun a w hc=>by
 obtain ⟨φ,Fz,Fp,hc⟩:=hc
 obtain ⟨cur,h1,h2⟩:=hc.box d _ hd
 obtain ⟨g1,g2,g3⟩:=hc.bxb d _ hd
 obtain ⟨v1,v2,F1,F2,k1,k2,k3,v,vs',E1,E2,rfl,rfl,ho,kB⟩:=h2.split
 have ho:ek t e (xs.map f) Fz w v E1:=ho
 obtain ⟨css,F',hrow,hll,hfz,rfl,hone⟩:=ho
 obtain ⟨zs,e1,e2,e3,e4⟩:=Ho hN hg hq hb hll
 have hlen:(zs.map fN).length=(xs.map f).length:=FO
 have hsl:ek t e (zs.map fN) Fz w v (v.ownBlock.toList++[]):=⟨css,[],wL,e3,fun g hg o=>by rw [hlen];exact hfz g hg o,rfl,hone⟩
 have hnew:aN (A++(PV.sl .v (zs.map fN)::B)) Fz w cur.toList (F1++([]++E2)):=by
  rw [k1]
  exact k3.append ⟨v,vs',[],E2,rfl,rfl,⟨hsl.rel,rfl⟩,kB⟩
 rw [List.nil_append] at hnew
 have c2:=hc.pullB hd
 have hnd:=c2.nod 0
 simp only [if_true] at hnd
 have em:mv Fp (2 * d+2) 0=Fp (2 * d+2)++Fp 0:=gz
 have k2':Fp (2 * d+2)=F1++(v.ownBlock.toList++F'++E2):=k2
 rw [em,k2'] at hnd
 rw [k2'] at em
 have hperm:(φ d::(F1++(v.ownBlock.toList++F'++E2)++Fp 0)).Perm ((F1++E2)++φ d::(F'++(v.ownBlock.toList++Fp 0))):=by
  refine (List.Perm.trans ?_ List.perm_middle.symm)
  refine List.Perm.cons _ ?_
  simp only [bn]
  refine iK _ ?_
  show (v.ownBlock.toList++(F'++(E2++Fp 0))).Perm (E2++(F'++(v.ownBlock.toList++Fp 0)))
  have p1:((v.ownBlock.toList++F')++(E2++Fp 0)).Perm ((F'++v.ownBlock.toList)++(E2++Fp 0)):=kG _ mf
  have p2:((F'++v.ownBlock.toList)++(E2++Fp 0)).Perm (E2++((F'++v.ownBlock.toList)++Fp 0)):=by
   rw [←bn,←bn]
   exact kG _ mf
  have p3:=p1.trans p2
  simpa using p3
 have c3:=c2.pushB (d:=d) (g:=φ d) (t:=T) (cs:=A++(PV.sl .v (zs.map fN)::B)) (F:=F1++E2) (X:=F'++(v.ownBlock.toList++Fp 0)) mc h1 hnew g2
  (fun x hx=>by
   simp only [if_true]
   rw [em]
   exact hperm.mem_iff.2 hx) (hperm.nodup_iff.1 hnd) (.inl rfl)
 have hn3:=c3.nod 0
 have c4:=c3.pushG (G:=G) (F:=F') (X:=v.ownBlock.toList++Fp 0) e4 (fun b hb=>by simp only [eG];rw [if_neg ab];simpa using hb) (by
  simp only [eG] at hn3
  rw [if_neg ab] at hn3
  simpa using hn3)
 exact h zs e1 a w (bB.eqv ⟨_,_,_,c4⟩ (fun i=>by
  simp only [St.set_s,St.setB_s]) (fun e=>by
  simp only [St.setB_b,St.set_b]
  split<;>rfl))
end
end
section
def aqX{g:α→List PV}(hN:∀x h,fN (x,h)=fv h 0 (g x))(hg:∀x,(g x).length=e)(hq:∀x,az (f x) (g x))(hb:∀x,aW (g x))(h:ek t e (xs.map f) Fz w v F) :
  ∃zs:List (α×(Nat→Value)),∃F1 F2,zs.map Prod.fst=xs∧ek t e (zs.map fN) Fz w v F1∧aN (ca f zs) Fz w (bz e zs) F2∧F=F1++F2:=by
 obtain ⟨css,F',hrow,hll,hfz,rfl,hone⟩:=h
 obtain ⟨zs,e1,e2,e3,e4⟩:=Ho hN hg hq hb hll
 have hlen:(zs.map fN).length=(xs.map f).length:=FO
 exact ⟨zs,v.ownBlock.toList++[],F',e1,⟨css,[],wL,e3,fun g hg o=>by rw [hlen];exact hfz g hg o,rfl,hone⟩,e4,aP⟩
def Zv:ca f (ys++zs)=ca f ys++ca f zs:=by simp [ca]
def zw:bz e (ys++zs)=bz e ys++bz e zs:=by simp [bz]
def Hp{a b c d:List α}:(a++b++(c++d)).Perm (a++c++(b++d)):=by
 simp only [bn]
 refine iK _ ?_
 rw [←bn,←bn]
 exact kG _ mf
def Zw{α:Type}{f g:α→List PV}{fN:α×(Nat→Value)→List PV}{e:Nat}(hN:∀x h,fN (x,h)=fv h 0 (g x))(hg:∀x,(g x).length=e)(hf:∀x,(f x).length=e){Fz:aD}{w:World}:∀{zs:List (α×(Nat→Value))} {css:List Value} {F1 F2:List Nat},cO e (zs.map fN) Fz w css F1→aN (ca f zs) Fz w (bz e zs) F2→cO e ((zs.map Prod.fst).map f) Fz w css F2
 | [],css,F1,F2,h,k=>by
  obtain ⟨rfl,rfl⟩:=h
  obtain ⟨_,rfl⟩:=k
  exact ⟨rfl,rfl⟩
 | z::zs,css,F1,F2,h,k=>by
  obtain ⟨c,d,Fa,Fb,rfl,rfl,hl,h1,h2⟩:=h
  have k:aN (f z.1++ca f zs) Fz w ((List.range e).map z.2++bz e zs) F2:=k
  obtain ⟨v1,v2,G1,G2,k1,k2,k3,k4⟩:=k.split
  obtain ⟨rfl,rfl⟩:=List.append_inj k1 (by rw [k3.len,hf];simp)
  have hc:c=(List.range e).map z.2:=by
   have hr:=h1.rel
   rw [show fN z=fv z.2 0 (g z.1) from hN z.1 z.2] at hr
   have hk:∀(ps:List PV) (i:Nat) (vs:List Value),co (fv z.2 i ps) Fz w vs→vs=(List.range' i ps.length).map z.2:=by
    intro ps
    induction ps with
    | nil=>intro i vs h;exact h
    | cons p ps ih=>
     intro i vs h
     obtain ⟨v,vs',rfl,h1,h2⟩:=h
     rw [ih _ _ h2,h1.1];rfl
   rw [hk _ _ _ hr,hg,←List.range_eq_range']
  subst hc
  exact ⟨_,d,G1,G2,rfl,k2,hl,k3,Zw hN hg hf h2 k4⟩
def Zx(hf:∀x,(f x).length=e){z:α×(Nat→Value)}{l:List (α×(Nat→Value))}(h:aN (ca f (z::l)) Fz w (bz e (z::l)) F):∃F1 F2,F=F1++F2∧aN (f z.1) Fz w ((List.range e).map z.2) F1∧aN (ca f l) Fz w (bz e l) F2:=by
 have h:aN (f z.1++ca f l) Fz w ((List.range e).map z.2++bz e l) F:=h
 obtain ⟨v1,v2,F1,F2,e1,rfl,h1,h2⟩:=h.split
 obtain ⟨rfl,rfl⟩:=List.append_inj e1 (by rw [h1.len,hf];simp)
 exact ⟨F1,F2,rfl,h1,h2⟩
def Zy(hf:∀x,(f x).length=e)(hs:ys.Sublist zs):∀{F:List Nat},aN (ca f zs) Fz w (bz e zs) F→∃F' R,F.Perm (F'++R)∧aN (ca f ys) Fz w (bz e ys) F':=by
 induction hs with
 | slnil=>exact fun h=>⟨_,[],by rw [gj],h⟩
 | cons z hs ih=>
  intro F h
  obtain ⟨F1,F2,rfl,h1,h2⟩:=Zx hf h
  obtain ⟨F',R,hp,ho⟩:=ih h2
  exact ⟨F',F1++R,(iK _ hp).trans (by rw [←bn,←bn];exact kG _ mf),ho⟩
 | cons_cons z hs ih=>
  intro F h
  obtain ⟨F1,F2,rfl,h1,h2⟩:=Zx hf h
  obtain ⟨F',R,hp,ho⟩:=ih h2
  refine ⟨F1++F',R,(iK _ hp).trans (by rw [bn]),?_⟩
  exact h1.append ho
def Zz{g:α→List PV}(hN:∀x h,fN (x,h)=fv h 0 (g x))(hg:∀x,(g x).length=e)(hf:∀x,(f x).length=e)(h:ek t e (zs.map fN) Fz w v F1)(k:aN (ca f zs) Fz w (bz e zs) F2):ek t e ((zs.map Prod.fst).map f) Fz w v (v.ownBlock.toList++F2):=by
 obtain ⟨css,F',hrow,hll,hfz,rfl,hone⟩:=h
 have hlen:((zs.map Prod.fst).map f).length=(zs.map fN).length:=aP
 exact ⟨css,F2,wL,Zw hN hg hf hll k,fun g hg o=>by rw [hlen];exact hfz g hg o,rfl,hone⟩
def ZA(h:ek t e es Fz w v F):∃F',F=v.ownBlock.toList++F':=by
 obtain ⟨css,F',hrow,hll,hfz,rfl,hone⟩:=h
 exact ⟨F',rfl⟩
def Hq{x:α}:bW f (x::xs) jk=f x++bW f xs jk:=by
 unfold bW;rw [List.map_cons,List.flatten_cons,bn]
def ZB{α:Type}{f g:α→List PV}{fN:α×(Nat→Value)→List PV}{t e:Nat}(hN:∀x h,fN (x,h)=fv h 0 (g x))(hg:∀x,(g x).length=e)(hq:∀x,az (f x) (g x))(hb:∀x,aW (g x)){jk:List Value}{Fz:aD}{w:World}:∀{xss:List (List α)} {vs:List Value} {F:List Nat},aN (bW (fun xs=>[PV.sl (.own t e) (xs.map f)]) xss jk) Fz w vs F →
  ∃zss:List (List (α×(Nat→Value))),∃F1 F2,zss.map (List.map Prod.fst)=xss∧aN (bW (fun zs=>[PV.sl (.own t e) (zs.map fN)]) zss jk) Fz w vs F1∧aN (ca f zss.flatten) Fz w (bz e zss.flatten) F2∧F.Perm (F1++F2)
 | [],vs,F,h=>⟨[],F,[],rfl,h,⟨rfl,rfl⟩,by rw [gj]⟩
 | xs::xss,vs,F,h=>by
  rw [Hq] at h
  obtain ⟨v,vs',Fa,Fb,rfl,rfl,ho,h2⟩:=h
  obtain ⟨zs,A1,A2,e1,e2,e3,rfl⟩:=aqX hN hg hq hb (show ek t e (xs.map f) Fz w v Fa from ho)
  obtain ⟨zss,B1,B2,e4,e5,e6,hp⟩:=ZB hN hg hq hb h2
  refine ⟨zs::zss,A1++B1,A2++B2,by rw [List.map_cons,e1,e4],?_,?_,?_⟩
  ·rw [Hq];exact ⟨v,vs',A1,B1,rfl,rfl,e2,e5⟩
  ·rw [List.flatten_cons,Zv,zw];exact e3.append e6
  ·exact (iK _ hp).trans Hp
def aqY(hf:∀x,(f x).length=e):∀l:List (α×(Nat→Value)),(bz e l).length=(ca f l).length:=by
 intro l
 induction l with
 | nil=>rfl
 | cons z l ih=>
  show ((List.range e).map z.2++bz e l).length=(f z.1++ca f l).length
  simp [hf,ih]
def ZC{α:Type}{f g:α→List PV}{fN:α×(Nat→Value)→List PV}{t e:Nat}(hN:∀x h,fN (x,h)=fv h 0 (g x))(hg:∀x,(g x).length=e)(hf:∀x,(f x).length=e){jk:List Value}{Fz:aD}{w:World}:∀{zss:List (List (α×(Nat→Value)))} {vs:List Value} {F1 F2:List Nat},aN (bW (fun zs=>[PV.sl (.own t e) (zs.map fN)]) zss jk) Fz w vs F1→aN (ca f zss.flatten) Fz w (bz e zss.flatten) F2 →
  ∃F R,aN (bW (fun xs=>[PV.sl (.own t e) (xs.map f)]) (zss.map (List.map Prod.fst)) jk) Fz w vs F∧(F1++F2).Perm (F++R)
 | [],vs,F1,F2,h,k=>⟨F1,F2,h,List.Perm.refl _⟩
 | zs::zss,vs,F1,F2,h,k=>by
  rw [Hq] at h
  obtain ⟨v,vs',G1,Fb,rfl,rfl,ho,h2⟩:=h
  rw [List.flatten_cons,Zv,zw] at k
  obtain ⟨v1,v2,K1,K2,k1,rfl,k3,k4⟩:=k.split
  obtain ⟨rfl,rfl⟩:=List.append_inj k1 (by rw [k3.len];exact aqY hf zs)
  have ho:ek t e (zs.map fN) Fz w v G1:=ho
  obtain ⟨G',rfl⟩:=ZA ho
  have hb:=Zz hN hg hf ho k3
  obtain ⟨F,R,e1,hp⟩:=ZC hN hg hf h2 k4
  refine ⟨(v.ownBlock.toList++K1)++F,G'++R,?_,?_⟩
  ·rw [List.map_cons,Hq];exact ⟨v,vs',_,F,rfl,rfl,hb,e1⟩
  refine Hp.trans ?_
  refine (iK _ hp).trans ?_
  simp only [bn]
  refine iK _ ?_
  have p1:(G'++(K1++(F++R))).Perm ((K1++F)++(G'++R)):=by
   have:=(mf (l₁:=G') (l₂:=K1++F)).append_right R
   simpa only [bn] using this
  simpa only [bn] using p1
section
variable{P:Program}{n:Nat}{h0:Nat→Prop}{w0:World}{Fz0:aD}{σ:St}{Q:Exit→St→Prop}{c:Code}
def aqZ{q:ι→PV}{us:ι→List Value}{gs:ι→List PV}(hd:σ.b d=some (T,A++(p::B)))(hG:σ.s G=none)(hp:∀{Fz:aD} {w:World} {v:Value} {F:List Nat},p.own Fz w v F→∃i,∃F1 F2,(q i).own Fz w v F1∧aN (gs i) Fz w (us i) F2∧F.Perm (F1++F2))
  (h:∀i,SW P n h0 w0 Fz0 c ((σ.setB d (some (T,A++(q i::B)))).set G (some (RV.gh (us i) (gs i)))) Q):SW P n h0 w0 Fz0 c σ Q:=fun a w hc=>by
 obtain ⟨φ,Fz,Fp,hc⟩:=hc
 obtain ⟨cur,h1,h2⟩:=hc.box d _ hd
 obtain ⟨g1,g2,g3⟩:=hc.bxb d _ hd
 obtain ⟨v1,v2,F1,F2,k1,k2,k3,v,vs',E1,E2,rfl,rfl,ho,kB⟩:=h2.split
 obtain ⟨i,P1,P2,m1,m2,m3⟩:=hp ho
 have hnew:aN (A++(q i::B)) Fz w cur.toList (F1++(P1++E2)):=by
  rw [k1]
  exact k3.append ⟨v,vs',P1,E2,rfl,rfl,m1,kB⟩
 have c2:=hc.pullB hd
 have hnd:=c2.nod 0
 simp only [if_true] at hnd
 have em:mv Fp (2 * d+2) 0=Fp (2 * d+2)++Fp 0:=gz
 have k2':Fp (2 * d+2)=F1++(E1++E2):=k2
 rw [em,k2'] at hnd
 rw [k2'] at em
 have hperm:(φ d::(F1++(E1++E2)++Fp 0)).Perm ((F1++(P1++E2))++φ d::(P2++Fp 0)):=by
  refine (List.Perm.trans ?_ List.perm_middle.symm)
  refine List.Perm.cons _ ?_
  simp only [bn]
  refine iK _ ?_
  refine (kG _ m3).trans ?_
  simp only [bn]
  refine iK _ ?_
  rw [←bn,←bn]
  exact kG _ mf
 have c3:=c2.pushB (d:=d) (g:=φ d) (t:=T) (cs:=A++(q i::B)) (F:=F1++(P1++E2)) (X:=P2++Fp 0) mc h1 hnew g2
  (fun x hx=>by
   simp only [if_true]
   rw [em]
   exact hperm.mem_iff.2 hx) (hperm.nodup_iff.1 hnd) (.inl rfl)
 have hn3:=c3.nod 0
 have c4:=c3.pushG (G:=G) (F:=P2) (X:=Fp 0) m2 (fun b hb=>by simp only [eG];rw [if_neg ab];simpa using hb) (by
  simp only [eG] at hn3
  rw [if_neg ab] at hn3
  simpa using hn3)
 exact h i a w (bB.eqv ⟨_,_,_,c4⟩ (fun i=>by
  simp only [St.set_s,St.setB_s]) (fun e=>by
  simp only [St.setB_b,St.set_b]
  split<;>rfl))
def ZD{q:PV}(hd:σ.b d=some (T,A++(q::B)))(hG:σ.s G=some (RV.gh us gs))(hp:∀{Fz:aD} {w:World} {v:Value} {F1 F2:List Nat},q.own Fz w v F1→aN gs Fz w us F2→∃F R,p.own Fz w v F∧(F1++F2).Perm (F++R))
  (h:SW P n h0 w0 Fz0 c ((σ.set G none).setB d (some (T,A++(p::B)))) Q):SW P n h0 w0 Fz0 c σ Q:=fun a w hc=>by
 obtain ⟨φ,Fz,Fp,hc⟩:=hc
 have hg0:aN gs Fz w us (Fp (2 * G+1)):=hc.slot G _ hG
 have c1:=hc.pull G
 have e0:mv Fp (2 * G+1) 0=Fp (2 * G+1)++Fp 0:=gz
 obtain ⟨cur,h1,h2⟩:=c1.box d _ hd
 obtain ⟨g1,g2,g3⟩:=c1.bxb d _ hd
 obtain ⟨v1,v2,F1,F2,k1,k2,k3,v,vs',E1,E2,rfl,rfl,ho,kB⟩:=h2.split
 obtain ⟨F,R,m1,m2⟩:=hp ho hg0
 have hnew:aN (A++(p::B)) Fz w cur.toList (F1++(F++E2)):=by
  rw [k1]
  exact k3.append ⟨v,vs',F,E2,rfl,rfl,m1,kB⟩
 have c2:=c1.pullB (d:=d) hd
 generalize hFp1:mv Fp (2 * G+1)=Fp1 at c1 c2 e0 h2 g3 k2
 have hnd:=c2.nod 0
 simp only [if_true] at hnd
 have em:mv Fp1 (2 * d+2) 0=Fp1 (2 * d+2)++Fp1 0:=gz
 have k2':Fp1 (2 * d+2)=F1++(E1++E2):=k2
 rw [em,k2',e0] at hnd
 rw [k2',e0] at em
 have hperm:(φ d::(F1++(E1++E2)++(Fp (2 * G+1)++Fp 0))).Perm ((F1++(F++E2))++φ d::(R++Fp 0)):=by
  refine (List.Perm.trans ?_ List.perm_middle.symm)
  refine List.Perm.cons _ ?_
  simp only [bn]
  refine iK _ ?_
  have p1:(E1++(E2++(Fp (2 * G+1)++Fp 0))).Perm ((E1++Fp (2 * G+1))++(E2++Fp 0)):=by
   have:=Hp (a:=E1) (b:=E2) (c:=Fp (2 * G+1)) (d:=Fp 0)
   simpa only [bn] using this
  refine p1.trans ((kG _ m2).trans ?_)
  have:=Hp (a:=F) (b:=R) (c:=E2) (d:=Fp 0)
  simpa only [bn] using this
 have c3:=c2.pushB (d:=d) (g:=φ d) (t:=T) (cs:=A++(p::B)) (F:=F1++(F++E2)) (X:=R++Fp 0) mc h1 hnew g2
  (fun x hx=>by
   simp only [if_true]
   rw [em]
   exact hperm.mem_iff.2 hx) (hperm.nodup_iff.1 hnd) (.inl rfl)
 exact h a w (bB.eqv ⟨_,_,_,c3⟩ (fun i=>rfl) (fun e=>by
  simp only [St.setB_b,St.set_b]
  split<;>rfl))
def ZE{q:ι→List PV}{us:ι→List Value}{gs:ι→List PV}(hd:σ.b d=some (T,cs))(hG:σ.s G=none)(hp:∀{Fz:aD} {w:World} {vs:List Value} {F:List Nat},aN cs Fz w vs F→∃i,∃F1 F2,aN (q i) Fz w vs F1∧aN (gs i) Fz w (us i) F2∧F.Perm (F1++F2))
  (h:∀i,SW P n h0 w0 Fz0 c ((σ.setB d (some (T,q i))).set G (some (RV.gh (us i) (gs i)))) Q):SW P n h0 w0 Fz0 c σ Q:=fun a w hc=>by
 obtain ⟨φ,Fz,Fp,hc⟩:=hc
 obtain ⟨cur,h1,h2⟩:=hc.box d _ hd
 obtain ⟨g1,g2,g3⟩:=hc.bxb d _ hd
 obtain ⟨i,P1,P2,m1,m2,m3⟩:=hp h2
 have c2:=hc.pullB hd
 have hnd:=c2.nod 0
 simp only [if_true] at hnd
 have em:mv Fp (2 * d+2) 0=Fp (2 * d+2)++Fp 0:=gz
 rw [em] at hnd
 have hperm:(φ d::(Fp (2 * d+2)++Fp 0)).Perm (P1++φ d::(P2++Fp 0)):=by
  refine (List.Perm.trans ?_ List.perm_middle.symm)
  refine List.Perm.cons _ ?_
  rw [←bn]
  exact kG _ m3
 have c3:=c2.pushB (d:=d) (g:=φ d) (t:=T) (cs:=q i) (F:=P1) (X:=P2++Fp 0) mc h1 m1 g2
  (fun x hx=>by
   simp only [if_true]
   rw [em]
   exact hperm.mem_iff.2 hx) (hperm.nodup_iff.1 hnd) (.inl rfl)
 have hn3:=c3.nod 0
 have c4:=c3.pushG (G:=G) (F:=P2) (X:=Fp 0) m2 (fun b hb=>by simp only [eG];rw [if_neg ab];simpa using hb) (by
  simp only [eG] at hn3
  rw [if_neg ab] at hn3
  simpa using hn3)
 exact h i a w (bB.eqv ⟨_,_,_,c4⟩ (fun i=>by
  simp only [St.set_s,St.setB_s]) (fun e=>by
  simp only [St.setB_b,St.set_b]
  split<;>rfl))
def ZF(hd:σ.b d=some (T,cs))(hG:σ.s G=some (RV.gh us gs))(hp:∀{Fz:aD} {w:World} {vs:List Value} {F1 F2:List Nat},aN cs Fz w vs F1→aN gs Fz w us F2→∃F R,aN ps Fz w vs F∧(F1++F2).Perm (F++R))
  (h:SW P n h0 w0 Fz0 c ((σ.set G none).setB d (some (T,ps))) Q):SW P n h0 w0 Fz0 c σ Q:=fun a w hc=>by
 obtain ⟨φ,Fz,Fp,hc⟩:=hc
 have hg0:aN gs Fz w us (Fp (2 * G+1)):=hc.slot G _ hG
 have c1:=hc.pull G
 have e0:mv Fp (2 * G+1) 0=Fp (2 * G+1)++Fp 0:=gz
 obtain ⟨cur,h1,h2⟩:=c1.box d _ hd
 obtain ⟨g1,g2,g3⟩:=c1.bxb d _ hd
 obtain ⟨F,R,m1,m2⟩:=hp h2 hg0
 have c2:=c1.pullB (d:=d) hd
 generalize hFp1:mv Fp (2 * G+1)=Fp1 at c1 c2 e0 h2 g3 m2
 have hnd:=c2.nod 0
 simp only [if_true] at hnd
 have em:mv Fp1 (2 * d+2) 0=Fp1 (2 * d+2)++Fp1 0:=gz
 rw [em,e0] at hnd
 rw [e0] at em
 have hperm:(φ d::(Fp1 (2 * d+2)++(Fp (2 * G+1)++Fp 0))).Perm (F++φ d::(R++Fp 0)):=by
  refine (List.Perm.trans ?_ List.perm_middle.symm)
  refine List.Perm.cons _ ?_
  rw [←bn,←bn]
  exact kG _ m2
 have c3:=c2.pushB (d:=d) (g:=φ d) (t:=T) (cs:=ps) (F:=F) (X:=R++Fp 0) mc h1 m1 g2
  (fun x hx=>by
   simp only [if_true]
   rw [em]
   exact hperm.mem_iff.2 hx) (hperm.nodup_iff.1 hnd) (.inl rfl)
 exact h a w (bB.eqv ⟨_,_,_,c3⟩ (fun i=>rfl) (fun e=>by
  simp only [St.setB_b,St.set_b]
  split<;>rfl))
def ZG{g:α→List PV}{xss:List (List α)}(hd:σ.b d=some (T,bW (fun xs=>[PV.sl (.own t e) (xs.map f)]) xss jk))(hG:σ.s G=none)(hN:∀x h,fN (x,h)=fv h 0 (g x))(hg:∀x,(g x).length=e)(hq:∀x,az (f x) (g x))(hb:∀x,aW (g x))
  (h:∀zss:List (List (α×(Nat→Value))),zss.map (List.map Prod.fst)=xss→SW P n h0 w0 Fz0 c ((σ.setB d (some (T,bW (fun zs=>[PV.sl (.own t e) (zs.map fN)]) zss jk))).set G (some (RV.gh (bz e zss.flatten) (ca f zss.flatten)))) Q):SW P n h0 w0 Fz0 c σ Q:=
 ZE (ι:={zss:List (List (α×(Nat→Value))) // zss.map (List.map Prod.fst)=xss}) (q:=fun i=>bW (fun zs=>[PV.sl (.own t e) (zs.map fN)]) i.1 jk) (us:=fun i=>bz e i.1.flatten) (gs:=fun i=>ca f i.1.flatten) hd hG
  (fun hh=>by
   obtain ⟨zss,F1,F2,e1,e2,e3,e4⟩:=ZB hN hg hq hb hh
   exact ⟨⟨zss,e1⟩,F1,F2,e2,e3,e4⟩) (fun i=>h i.1 i.2)
def aq0{g:α→List PV}{zss:List (List (α×(Nat→Value)))}{ws:List (α×(Nat→Value))}(hd:σ.b d=some (T,bW (fun zs=>[PV.sl (.own t e) (zs.map fN)]) zss jk))(hG:σ.s G=some (RV.gh (bz e ws) (ca f ws)))(hN:∀x h,fN (x,h)=fv h 0 (g x))(hg:∀x,(g x).length=e)(hf:∀x,(f x).length=e)(hs:zss.flatten.Sublist ws)
  (h:SW P n h0 w0 Fz0 c ((σ.set G none).setB d (some (T,bW (fun xs=>[PV.sl (.own t e) (xs.map f)]) (zss.map (List.map Prod.fst)) jk))) Q):SW P n h0 w0 Fz0 c σ Q:=
 ZF hd hG (fun {Fz w vs F1 F2} h1 h2=>by
  obtain ⟨K,R0,hp0,k⟩:=Zy hf hs h2
  obtain ⟨F,R,e1,hp⟩:=ZC hN hg hf h1 k
  refine ⟨F,R++R0,e1,?_⟩
  refine (iK _ hp0).trans ?_
  rw [←bn,←bn]
  exact kG _ hp) h
end
end
section
def nk(f:α→PV)(z:α×Value):List PV:=[PV.nv z.2 (f z.1)]
def ZH{α:Type}{f:α→PV}{Fz:aD}{w:World}:∀{xs:List α} {css:List Value} {F:List Nat},cO 1 (xs.map fun x=>[f x]) Fz w css F→∃zs:List (α×Value),zs.map Prod.fst=xs∧cO 1 (zs.map (nk f)) Fz w css F
 | [],css,F,h=>⟨[],rfl,h⟩
 | x::xs,css,F,h=>by
  obtain ⟨c,d,F1,F2,rfl,rfl,hl,h1,h2⟩:=h
  obtain ⟨zs,e1,e2⟩:=ZH h2
  obtain ⟨v,vs',A,B,rfl,rfl,ho,hn⟩:=h1
  exact ⟨(x,v)::zs,Mk,v::vs',d,A++B,F2,rfl,rfl,hl,⟨v,vs',A,B,rfl,rfl,⟨rfl,ho⟩,hn⟩,e2⟩
def ZI{α:Type}{f:α→PV}{Fz:aD}{w:World}:∀{zs:List (α×Value)} {css:List Value} {F:List Nat},cO 1 (zs.map (nk f)) Fz w css F→cO 1 ((zs.map Prod.fst).map fun x=>[f x]) Fz w css F
 | [],css,F,h=>h
 | z::zs,css,F,h=>by
  obtain ⟨c,d,F1,F2,rfl,rfl,hl,h1,h2⟩:=h
  obtain ⟨v,vs',A,B,rfl,rfl,ho,hn⟩:=h1
  exact ⟨v::vs',d,A++B,F2,rfl,rfl,hl,⟨v,vs',A,B,rfl,rfl,ho.2,hn⟩,ZI h2⟩
def ZJ{e:Nat}{Fz:aD}{w:World}:∀{es:List (List PV)} {css:List Value} {F:List Nat},cO e es Fz w css F→∀{k:Nat} {ps:List PV},es[k]?=some ps→∃vs,co ps Fz w vs
 | [],css,F,h,k,ps,hk=>by simp at hk
 | cs::es,css,F,h,k,ps,hk=>by
  obtain ⟨c,d,F1,F2,rfl,rfl,hl,h1,h2⟩:=h
  cases k with
  | zero=>simp at hk;subst hk;exact ⟨c,h1.rel⟩
  | succ k=>exact ZJ h2 (by simpa using hk)
def aq1{f:α→PV}(h:ek t 1 (xs.map fun x=>[f x]) Fz w v F):∃zs:List (α×Value),zs.map Prod.fst=xs∧ek t 1 (zs.map (nk f)) Fz w v F:=by
 obtain ⟨css,F',hrow,hll,hfz,rfl,hone⟩:=h
 obtain ⟨zs,e1,e2⟩:=ZH hll
 have hlen:(zs.map (nk f)).length=(xs.map fun x=>[f x]).length:=FO
 exact ⟨zs,e1,css,F',wL,e2,fun g hg o=>by rw [hlen];exact hfz g hg o,rfl,hone⟩
def aq2{f:α→PV}{zs:List (α×Value)}(h:ek t 1 (zs.map (nk f)) Fz w v F):ek t 1 ((zs.map Prod.fst).map fun x=>[f x]) Fz w v F:=by
 obtain ⟨css,F',hrow,hll,hfz,rfl,hone⟩:=h
 have hlen:((zs.map Prod.fst).map fun x=>[f x]).length=(zs.map (nk f)).length:=aP
 exact ⟨css,F',wL,ZI hll,fun g hg o=>by rw [hlen];exact hfz g hg o,rfl,hone⟩
def az.nv1(h:az [p] qs):az [PV.nv u p] qs:=by
 cases qs with
 | nil=>exact h
 | cons q l=>exact ⟨PV.nv_to h.1,h.2⟩
def aq3{f:α→PV}{g:α→List PV}{fl:Fl}{zs:List (α×Value)}(hz:zs.map Prod.fst=xs)(h:∀x,az [f x] (g x)):(PV.sl fl (zs.map (nk f))).To (PV.sl .v (xs.map g)):=by
 subst hz
 rw [List.map_map]
 refine PV.to_map fun z=>?_
 exact az.nv1 (h z.1)
def aq4{zs:List (α×Value)}(hz:zs.map Prod.fst=xs)(hk:k < xs.length):∃z,zs[k]?=some z∧z.1=xs[k]:=by
 subst hz
 rw [aX] at hk
 exact ⟨zs[k],List.getElem?_eq_getElem hk,by rw [List.getElem_map]⟩
section
variable{P:Program}{n:Nat}{h0:Nat→Prop}{w0:World}{Fz0:aD}{σ:St}{Q:Exit→St→Prop}{c:Code}
def Hr{q:ι→PV}(hd:σ.b d=some (T,A++(p::B)))(hp:∀{Fz:aD} {w:World} {v:Value} {F:List Nat},p.own Fz w v F→∃i,(q i).own Fz w v F)
  (h:∀i,SW P n h0 w0 Fz0 c (σ.setB d (some (T,A++(q i::B)))) Q):SW P n h0 w0 Fz0 c σ Q:=fun a w hc=>by
 obtain ⟨φ,Fz,Fp,hc⟩:=hc
 obtain ⟨cur,h1,h2⟩:=hc.box d _ hd
 obtain ⟨v1,v2,F1,F2,k1,k2,k3,v,vs',E1,E2,rfl,rfl,ho,kB⟩:=h2.split
 obtain ⟨i,hi⟩:=hp ho
 refine h i a w ⟨φ,Fz,Fp,hc.rebox hd fun cur' _ hh=>?_⟩
 have:cur'=cur:=by
  rw [h1] at hh
  injection hh with hh
  injection hh with hh
  exact hh.symm
 subst this
 rw [k1,k2]
 exact k3.append ⟨v,vs',E1,E2,rfl,rfl,hi,kB⟩
def aq5{f:α→PV}(hd:σ.b d=some (T,A++(PV.sl (.own t 1) (xs.map fun x=>[f x])::B)))
  (h:∀zs:List (α×Value),zs.map Prod.fst=xs→SW P n h0 w0 Fz0 c (σ.setB d (some (T,A++(PV.sl (.own t 1) (zs.map (nk f))::B)))) Q):SW P n h0 w0 Fz0 c σ Q:=
 Hr (ι:={zs:List (α×Value) // zs.map Prod.fst=xs}) (q:=fun z=>PV.sl (.own t 1) (z.1.map (nk f))) hd (fun ho=>by
  obtain ⟨zs,e1,e2⟩:=aq1 ho
  exact ⟨⟨zs,e1⟩,e2⟩) fun z=>h z.1 z.2
def aq6{f:α→PV}{zs:List (α×Value)}(hz:zs.map Prod.fst=xs)(hd:σ.b d=some (T,A++(PV.sl (.own t 1) (zs.map (nk f))::B)))
  (h:SW P n h0 w0 Fz0 c (σ.setB d (some (T,A++(PV.sl (.own t 1) (xs.map fun x=>[f x])::B)))) Q):SW P n h0 w0 Fz0 c σ Q:=
 Hr (ι:=Unit) (q:=fun _=>PV.sl (.own t 1) (xs.map fun x=>[f x])) hd (fun ho=>⟨(),by subst hz;exact aq2 ho⟩) fun _=>h
def aq7{f:α→PV}{q:α→PV}{zs:List (α×Value)}{z:α×Value}(hs:σ.s s=some (RV.sv false [PV.val z.2]))(hd:σ.b d=some (T,A++(PV.sl (.own t 1) (zs.map (nk f))::B)))(hk:zs[k]?=some z)(hq:∀{x},(f x).To (q x))(hb:∀{x},(q x).Bor)
  (h:SW P n h0 w0 Fz0 c (σ.set s (some (RV.sv false [PV.nv z.2 (q z.1)]))) Q):SW P n h0 w0 Fz0 c σ Q:=fun a w hc=>by
 obtain ⟨x,v⟩:=z
 obtain ⟨φ,Fz,Fp,hc⟩:=hc
 obtain ⟨cur,h1,h2⟩:=hc.box d _ hd
 obtain ⟨v1,v2,F1,F2,k1,k2,k3,u,vs',E1,E2,rfl,rfl,ho,kB⟩:=h2.split
 have ho:ek t 1 (zs.map (nk f)) Fz w u E1:=ho
 obtain ⟨css,F',hrow,hll,hfz,rfl,hone⟩:=ho
 obtain ⟨us,hu⟩:=ZJ hll (k:=k) (ps:=nk f (x,v)) (by rw [List.getElem?_map,hk];rfl)
 obtain ⟨u',_,rfl,hu,_⟩:=hu
 obtain ⟨rfl,hu⟩:=hu
 have hv:bX false [PV.val u'] Fz w (a.tmps.getD s undef) (Fp (2 * s+1)):=hc.slot s _ hs
 obtain ⟨hag,y,ys,G1,G2,hy1,hF,hy,hnil,rfl⟩:=hv
 subst hnil
 have c1:=(hc.pull s).reslot (s:=s) (rv:=RV.sv false [PV.nv u' (q x)]) (by
  have:mv Fp (2 * s+1) (2 * s+1)=[]:=gz
  rw [this]
  obtain ⟨⟨rfl,hone'⟩,rfl⟩:=hy
  exact ⟨hag,y,[],[],[],hy1,rfl,⟨rfl,hb (hq hu)⟩,rfl,rfl⟩)
 exact h a w (bB.eqv ⟨φ,Fz,_,c1⟩ (fun i=>by
  simp only [St.set_s]
  split<;>rfl) (fun d=>rfl))
def hR(gs:List PV)(us:List Value)(qs:List PV)(us':List Value):Prop:=∀{Fz:aD} {w:World} {F:List Nat},aN gs Fz w us F→∃F' R,aN qs Fz w us' F'∧F.Perm (F'++R)
def hR.nil:hR gs us [] []:=fun {_ _ F} _=>⟨[],F,⟨rfl,rfl⟩,List.Perm.refl _⟩
def hR.keep(h:hR gs us qs us'):hR (p::gs) (u::us) (p::qs) (u::us'):=fun {Fz w F} k=>by
 obtain ⟨v,vs,F1,F2,e1,rfl,h1,h2⟩:=k
 injection e1 with e1 e2
 subst e1 e2
 obtain ⟨F',R,h3,h4⟩:=h h2
 exact ⟨F1++F',R,⟨u,us',F1,F',rfl,rfl,h1,h3⟩,by rw [bn];exact iK _ h4⟩
def hR.drop(h:hR gs us qs us'):hR (p::gs) (u::us) qs us':=fun {Fz w F} k=>by
 obtain ⟨v,vs,F1,F2,e1,rfl,h1,h2⟩:=k
 injection e1 with e1 e2
 subst e1 e2
 obtain ⟨F',R,h3,h4⟩:=h h2
 refine ⟨F',F1++R,h3,?_⟩
 refine (iK F1 h4).trans ?_
 rw [←bn,←bn]
 exact kG _ mf
def hR.lit{x:Value}(hx:x.oneCell'=true)(h:hR gs us qs us'):hR gs us (PV.val x::qs) (x::us'):=fun {Fz w F} k=>by
 obtain ⟨F',R,h3,h4⟩:=h k
 exact ⟨F',R,⟨x,us',[],F',rfl,rfl,⟨⟨rfl,hx⟩,rfl⟩,h3⟩,h4⟩
def ZK{e:Nat}{ps:List PV}{Fz:aD}{w:World}:∀{es:List (List PV)} {css:List Value} {F:List Nat},cO e (es++[ps]) Fz w css F→∃c1 c2 Fa Fb,css=c1++c2∧F=Fa++Fb∧c2.length=e∧cO e es Fz w c1 Fa∧aN ps Fz w c2 Fb
 | [],css,F,h=>by
  obtain ⟨c,d,F1,F2,rfl,rfl,hl,h1,rfl,rfl⟩:=h
  exact ⟨[],c,[],F1,aP,aP,hl,⟨rfl,rfl⟩,h1⟩
 | x::es,css,F,h=>by
  obtain ⟨c,d,F1,F2,rfl,rfl,hl,h1,h2⟩:=h
  obtain ⟨c1,c2,Fa,Fb,rfl,rfl,h3,h4,h5⟩:=ZK h2
  exact ⟨c++c1,c2,F1++Fa,Fb,aP,aP,h3,⟨c,c1,F1,Fa,rfl,rfl,hl,h1,h4⟩,h5⟩
def ZL{e:Nat}{ps:List PV}{Fz:aD}{w:World}{c2:List Value}{Fb:List Nat}(hl:c2.length=e)(h5:aN ps Fz w c2 Fb):∀{es:List (List PV)} {c1:List Value} {Fa:List Nat},cO e es Fz w c1 Fa→cO e (es++[ps]) Fz w (c1++c2) (Fa++Fb)
 | [],c1,Fa,h=>by
  obtain ⟨rfl,rfl⟩:=h
  exact ⟨c2,[],Fb,[],aP,aP,hl,h5,rfl,rfl⟩
 | x::es,c1,Fa,h=>by
  obtain ⟨c,d,F1,F2,rfl,rfl,hl',h1,h2⟩:=h
  exact ⟨c,d++c2,F1,F2++Fb,aP,aP,hl',h1,ZL hl h5 h2⟩
def aq8(hn:Nm ps us')(hs:hR gs us qs us')(h:(PV.sl (.own t e) (es++[ps])).own Fz w v F1)(k:aN gs Fz w us F2):∃F R,(PV.sl (.own t e) (es++[qs])).own Fz w v F∧(F1++F2).Perm (F++R):=by
 have h:ek t e (es++[ps]) Fz w v F1:=h
 obtain ⟨css,F',hrow,hll,hfz,rfl,hone⟩:=h
 obtain ⟨c1,c2,Fa,Fb,rfl,rfl,hl,h4,h5⟩:=ZK hll
 obtain rfl:c2=us':=hn h5.rel
 obtain ⟨F'',R,h6,h7⟩:=hs k
 have hlen:(es++[qs]).length=(es++[ps]).length:=aP
 refine ⟨v.ownBlock.toList++(Fa++F''),Fb++R,⟨c1++c2,Fa++F'',wL,ZL hl h6 h4,fun g hg o=>by rw [hlen];exact hfz g hg o,rfl,hone⟩,?_⟩
 simp only [bn]
 refine iK _ (iK _ ?_)
 refine (iK Fb h7).trans ?_
 rw [←bn,←bn]
 exact kG _ mf
end
end
section
def ZM(hf:∀x,(f x).length=e){rs:List (α×(Nat→Value))}(hp:(ys++rs).Perm zs)(h:aN (ca f zs) Fz w (bz e zs) F):∃F' R,F.Perm (F'++R)∧aN (ca f ys) Fz w (bz e ys) F':=by
 obtain ⟨F1,k1,k2⟩:=aqD hf hp.symm h
 obtain ⟨F',R,k3,k4⟩:=Zy hf (List.sublist_append_left ys rs) k2
 exact ⟨F',R,k1.trans k3,k4⟩
def aq9{g:α→List PV}(hN:∀x h,fN (x,h)=fv h 0 (g x))(hg:∀x,(g x).length=e)(hf:∀x,(f x).length=e){rs:List (α×(Nat→Value))}(hp:(ys++rs).Perm zs)(hx:ys.map Prod.fst=xs)(h:(PV.sl (.own t e) (ys.map fN)).own Fz w v F1)(k:aN (ca f zs) Fz w (bz e zs) F2) :
  ∃F R,(PV.sl (.own t e) (xs.map f)).own Fz w v F∧(F1++F2).Perm (F++R):=by
 subst hx
 obtain ⟨F',R,k1,k2⟩:=ZM hf hp k
 have h:ek t e (ys.map fN) Fz w v F1:=h
 have h2:=Zz hN hg hf h k2
 obtain ⟨F3,rfl⟩:=ZA h
 refine ⟨_,F3++R,h2,?_⟩
 simp only [bn]
 refine iK _ ?_
 refine (iK F3 k1).trans ?_
 rw [←bn,←bn]
 exact kG _ mf
section
variable{P:Program}{n:Nat}{h0:Nat→Prop}{w0:World}{Fz0:aD}{σ:St}{Q:Exit→St→Prop}{c:Code}
def ZN{g:α→List PV}(x:α)(hd:σ.b d=some (t,f x))(hG:σ.s G=none)(hN:∀x h,fN (x,h)=fv h 0 (g x))(hg:∀x,(g x).length=e)(hq:az (f x) (g x))(hb:aW (g x))
  (h:∀k:Nat→Value,SW P n h0 w0 Fz0 c ((σ.setB d (some (t,fN (x,k)))).set G (some (RV.gh (bz e [(x,k)]) (ca f [(x,k)])))) Q):SW P n h0 w0 Fz0 c σ Q:=
 ZE (ι:=Nat→Value) (q:=fun k=>fN (x,k)) (us:=fun k=>bz e [(x,k)]) (gs:=fun k=>ca f [(x,k)]) hd hG (fun {Fz w vs F} ho=>by
  have hl:vs.length=e:=by rw [ho.len,hq.len,hg]
  obtain ⟨k,hk⟩:=NL hl
  refine ⟨k,[],F,?_,?_,List.Perm.refl _⟩
  ·rw [hN,Hj,hg,←List.range_eq_range',←hk]
   exact Hi hb (hq.rel ho.rel)
  ·have:bz e [(x,k)]=vs:=by simp [bz,hk]
   rw [this]
   have:ca f [(x,k)]=f x:=by simp [ca]
   rw [this];exact ho) h
def ZO{g:α→List PV}(rs:List (α×(Nat→Value)))(xs:List α)(hd:σ.b d=some (T,A++(PV.sl (.own t e) (ys.map fN)::B)))(hG:σ.s G=some (RV.gh (bz e zs) (ca f zs)))(hN:∀x h,fN (x,h)=fv h 0 (g x))(hg:∀x,(g x).length=e)(hf:∀x,(f x).length=e)(hp:(ys++rs).Perm zs)(hx:ys.map Prod.fst=xs)
  (h:SW P n h0 w0 Fz0 c ((σ.set G none).setB d (some (T,A++(PV.sl (.own t e) (xs.map f)::B)))) Q):SW P n h0 w0 Fz0 c σ Q:=
 ZD hd hG (fun h1 k=>aq9 hN hg hf hp hx h1 k) h
def ara{g:α→List PV}(rs:List (α×(Nat→Value)))(xs:List α)(hd:σ.b d=some (t,bW fN ys jk))(hG:σ.s G=some (RV.gh (bz e zs) (ca f zs)))(hN:∀x h,fN (x,h)=fv h 0 (g x))(hg:∀x,(g x).length=e)(hf:∀x,(f x).length=e)(hp:(ys++rs).Perm zs)(hx:ys.map Prod.fst=xs)
  (h:SW P n h0 w0 Fz0 c ((σ.set G none).setB d (some (t,bW f xs jk))) Q):SW P n h0 w0 Fz0 c σ Q:=
 ZF hd hG (fun {Fz w vs F1 F2} h1 k=>by
  subst hx
  obtain ⟨F',R,k1,k2⟩:=ZM hf hp k
  obtain ⟨us,hu,hvs⟩:=NM hN hg (zs:=ys) (js:=jk.map PV.val) h1.rel
  have hju:aN (jk.map PV.val) Fz w us []:=aW.own (fun p hp=>by obtain ⟨v,_,rfl⟩:=List.mem_map.1 hp;exact PV.bor_val _) hvs
  have hall:aN (bW f (ys.map Prod.fst) jk) Fz w vs F':=by
   have:=k2.append hju
   rw [gj,←hu] at this
   have e2:bW f (ys.map Prod.fst) jk=ca f ys++jk.map PV.val:=by unfold bW ca;rw [List.map_map];rfl
   rw [e2];exact this
  refine ⟨F',F1++R,hall,?_⟩
  refine (iK F1 k1).trans ?_
  rw [←bn,←bn]
  exact kG _ mf) h
end
section
variable{P:Program}{n:Nat}{h0:Nat→Prop}{w0:World}{Fz0:aD}{σ:St}{Q:Exit→St→Prop}{c:Code}
def ZP{r r':RV}(hs:σ.s s=some r)(he:r=r')(h:SW P n h0 w0 Fz0 c (σ.set s (some r')) Q):SW P n h0 w0 Fz0 c σ Q:=fun a w hc=>by
 subst he
 obtain ⟨φ,Fz,Fp,hc⟩:=hc
 exact h a w ⟨φ,Fz,Fp,hc.reslot (hc.slot s _ hs)⟩
def arb(hd:σ.b d=some (T,A++(p::B)))(h:∀v:Value,SW P n h0 w0 Fz0 c (σ.setB d (some (T,A++(PV.nv v p::B)))) Q):SW P n h0 w0 Fz0 c σ Q:=
 Hr (ι:=Value) (q:=fun v=>PV.nv v p) hd (fun {Fz w v F} ho=>⟨v,rfl,ho⟩) h
def arc(hd:σ.b d=some (T,A++(PV.nv v p::B)))(h:SW P n h0 w0 Fz0 c (σ.setB d (some (T,A++(p::B)))) Q):SW P n h0 w0 Fz0 c σ Q:=
 Hr (ι:=Unit) (q:=fun _=>p) hd (fun ho=>⟨(),ho.2⟩) fun _=>h
def ard{q:PV}(hd:σ.b d=some (T,A++(PV.nv v p::B)))(hG:σ.s G=none)(hq:p.To q)(hb:q.Bor)
  (h:SW P n h0 w0 Fz0 c ((σ.setB d (some (T,A++(q::B)))).set G (some (RV.gh [v] [p]))) Q):SW P n h0 w0 Fz0 c σ Q:=
 aqZ (G:=G) (ι:=Unit) (q:=fun _=>q) (us:=fun _=>[v]) (gs:=fun _=>[p]) hd hG (fun {Fz w v' F} ho=>by
  obtain ⟨rfl,ho⟩:=ho
  exact ⟨(),[],F,hb (hq (p.toRel ho)),⟨v',[],F,[],rfl,aP,ho,rfl,rfl⟩,aP⟩) fun _=>h
end
def Hs(P:Program)(T:TypeId)(f:Nat):Option (Nat×TypeId):=match P.underlying T with
 | some (.struct fs)=>(fs[f]?).map fun fd=>(fd.offset,fd.type)
 | _=>none
def ZQ{P:Program}{n:Nat}{ft f off:Nat}{g:Option (Nat×Bool)}{ag:Bool}(hd:d < n)(hF:Hs P T f=some (off,ft))(hT:dk P ft=some (ag,k))(h1:ag=false→k=1)(hk:off+k≤cs.length)(hq:(cs.drop off).take k=qs) :
  Loc P n ⟨some d,.field T (.tmp s) f,ty,pos,af,g⟩ ⟨[(s,RV.sv true cs)],[],[(s,none),(d,some (RV.sv ag qs))],[],none⟩:=by
 intro h0 w0 Fz0 σ a w K Q hc hr _ _ h5
 obtain ⟨φ,Fz,Fp,hc⟩:=hc
 subst hq
 have hv:bX true cs Fz w (a.tmps.getD s undef) (Fp (2 * s+1)):=hc.slot s _ hr.1
 obtain ⟨hag,ho⟩:=hv
 generalize hx:a.tmps.getD s undef=x at hag ho
 obtain ⟨vals,rfl⟩:∃vals,x = .agg vals:=by cases x<;>simp [qZ] at hag;exact ⟨_,rfl⟩
 have hcells:(Value.agg vals).cells.toList=vals.toList:=rfl
 rw [hcells] at ho
 obtain ⟨F1,F2,F3,eF,o1,o2,o3⟩:=ho.seg off k hk
 have hl:vals.toList.length=cs.length:=ho.len
 obtain ⟨v,e1,e2⟩:∃v,(part ft vals off).run P w = .ok v w∧bX ag ((cs.drop off).take k) Fz w v F2:=by
  obtain ⟨t1,t2⟩:=MZ hT w
  cases ag with
  | true=>
   refine ⟨.agg (vals.extract off (off+k)),?_,rfl,?_⟩
   ·simp only [part,Sem.run_bind,t1,t2,Result.andThen_ok,if_true,Sem.run_pure]
   ·show aN _ Fz w (vals.extract off (off+k)).toList F2
    have:(vals.extract off (off+k)).toList=(vals.toList.drop off).take k:=by
     rw [Array.toList_extract,List.extract_eq_take_drop];congr 1;omega
    rw [this];exact o2
  | false=>
   have hk1:=h1 rfl
   subst hk1
   have hlt:off < vals.size:=by
    have:vals.toList.length=vals.size:=aP
    omega
   have hget:vals[off]?=some vals[off]:=by simp [hlt]
   have hdt:(vals.toList.drop off).take 1=[vals[off]]:=by
    rw [List.drop_eq_getElem_cons (by simpa using hlt)];simp
   rw [hdt] at o2
   have hone:=o2.one vals[off] aP
   refine ⟨vals[off],?_,?_⟩
   ·simp only [part,Sem.run_bind,t1,Result.andThen_ok,hget]
    simp [Sem.run_pure]
   ·have hc1:vals[off].cells.toList=[vals[off]]∧qZ vals[off]=false:=by
     cases hv:vals[off]<;>rw [hv] at hone<;>simp_all [Value.oneCell',Value.cells,qZ]
    exact ⟨hc1.2,by rw [hc1.1];exact o2⟩
 have c1:=hc.pull s
 have hm0:mv Fp (2 * s+1) 0=Fp (2 * s+1)++Fp 0:=gz
 have hnd:=c1.nod 0
 rw [hm0,eF] at hnd
 have c2:=c1.push (i:=d) (rv:=RV.sv ag ((cs.drop off).take k)) (v:=v) (F:=F2) (X:=[]) hd e2 (fun b hb=>by
   rw [hm0,eF]
   simp only [gj] at hb
   simp [hb]) (by
   rw [gj]
   simp only [dH] at hnd
   exact hnd.1.2.1.1)
 refine eo (v:=v) (w':=w) ?_ (h5 _ _ (bB.eqv ⟨_,_,_,c2⟩ (fun j=>rfl) (fun e=>rfl)))
 have hs':a.eval (.tmp s) = .agg vals:=hx
 unfold execOp
 unfold Hs at hF
 split at hF
 ·rename_i fs hu
  obtain ⟨fd,hfd,hfe⟩:=Option.map_eq_some_iff.1 hF
  simp only [Prod.mk.injEq] at hfe
  obtain ⟨rfl,rfl⟩:=hfe
  simp only [Instr.field,hs',Sem.run_bind,run_underlying hu,Result.andThen_ok,hfd,asAgg,Sem.run_pure,e1]
 ·cases hF
def kO(e:Nat)(u:Value)(lo len:Nat):Value:=match u with
 | .slice (some ⟨b,o,q⟩) _ c=>.slice (if c=lo then some ⟨b,o,q⟩ else some ⟨b,o+lo * e,q⟩) len (c - lo)
 | v=>v
def NQ{g c lo len:Nat}:kO e (.slice (some ⟨g,0,none⟩) m c) lo len = .slice (some ⟨g,if c=lo then 0 else lo * e,none⟩) len (c - lo):=by
 unfold kO
 dsimp only
 split<;>simp
def ZR(h:Nat→Value):∀{ps:List PV} {i:Nat},aW ps→aW (fv h i ps)
 | [],_,hb=>hb
 | p::ps,i,hb=>aW.cons (PV.bor_nv (hb p List.mem_cons_self)) (ZR h fun q hq=>hb q (List.mem_cons_of_mem _ hq))
def ru(e:Nat)(zs:List (α×(Nat→Value)))(jk:List Value):List Value:=(bz e zs++jk).drop ((zs.length - 1) * e)
def gM(zs:List α)(i:Nat):List α:=zs.take i++zs.drop (i+1)
def NR{zs:List α}(h:i < zs.length):(gM zs i).length=zs.length - 1:=by
 unfold gM;rw [bV,cj,lp];omega
def oj{α:Type}{e:Nat}:∀{zs:List (α×(Nat→Value))},(bz e zs).length=zs.length * e
 | []=>by simp [bz]
 | z::zs=>by
  have:bz e (z::zs)=(List.range e).map z.2++bz e zs:=rfl
  rw [this,bV,oj,aX,List.length_range,List.length_cons,Nat.succ_mul];omega
def are(hz:zs.length=m)(hm:0 < m)(hj:m * e+jk.length=cp * e):(m - 1) * e+(ru e zs jk).length=cp * e:=by
 unfold ru
 have h1:(m - 1) * e≤m * e:=Nat.mul_le_mul_right _ ab
 rw [lp,bV,oj,hz]
 omega
section
variable{P:Program}{n:Nat}
def ZS{E bs D j:Nat}{lo hi:Option Operand}{g:Option (Nat×Bool)}{q r:Int}(hd:d < n)(hT:fF P T=some (E,e,bs))
  (hlo:wX lo (i=0) (RV.int q)) (hhi:wX hi (j=m) (RV.int r)) (hq:q=(i:Int)) (hr:r=(j:Int)) (hij:i≤j) (hj:j≤m) :
  Loc P n ⟨some d,.slice T (.tmp s) lo hi none,ty,pos,af,g⟩ ⟨(s,RV.sc u)::(G,RV.gat u D m cp)::(zh lo (RV.int q)++zh hi (RV.int r)),[],[(d,some (RV.sc (kO e u i (j - i))))],[],none⟩:=by
 subst hq hr
 intro h0 w0 Fz0 σ a w K Q hc hr _ _ h5
 obtain ⟨φ,Fz,Fp,hc⟩:=hc
 obtain ⟨⟨eu,hmc,hcx⟩,_⟩:=hc.slot G _ hr.2.1
 have ev:=(hc.one_ hr.1).1
 obtain ⟨hu,inf,hinf,hsz,_⟩:=rg hT
 have es':a.eval (.tmp s) = .slice (some ⟨φ D,0,none⟩) m cp:=Mm
 have hlo':lo.map a.eval=(lo.map fun _=>(.int .i64 (i:Int):Value)):=by
  cases lo with
  | none=>rfl
  | some x=>exact congrArg some (hc.sc hr.2.2.left hlo)
 have hhi':hi.map a.eval=(hi.map fun _=>(.int .i64 (j:Int):Value)):=by
  cases hi with
  | none=>rfl
  | some x=>exact congrArg some (hc.sc hr.2.2.right hhi)
 have e1:kO e u i (j - i) = .slice (if cp=i then some ⟨φ D,0,none⟩ else (some ⟨φ D,0,none⟩:Option Addr).map (·.add (i * e))) (j - i) (cp - i):=by
  rw [eu]
  unfold kO
  dsimp only
  split<;>simp [rh]
 refine eo (v:=kO e u i (j - i)) (w':=w) ?_ (h5 _ _ (hc.put0 hd (bX.of_sc (by rw [e1];rfl))))
 rw [e1]
 unfold execOp
 have hb:(Instr.sliceBounds true m cp (lo.map a.eval) (hi.map a.eval) none).run P w = .ok (i,j,cp) w:=by
  rw [hlo',hhi']
  have b1:(0:Int)≤(j:Int)∧(j:Int)≤(cp:Int):=ab
  have b2:(0:Int)≤(i:Int)∧(i:Int)≤(j:Int):=ab
  cases lo<;>cases hi<;>simp only [wX] at hlo hhi<;>simp [Instr.sliceBounds,Instr.sliceBound,asIntOf,b1,b2, *]<;>omega
 simp only [Instr.sliceAt,Instr.slice,es',Sem.run_bind,run_underlying hu,Result.andThen_ok,Option.map_none,hb,sizeOf,typeInfo,run_program,hinf,hsz,Sem.run_pure]
def arf{x D E bs:Nat}{gd:Option (Nat×Bool)}{g:α→List PV}(hd:d < n)(hT:fF P t=some (E,e,bs))(he:0 < e)(hN:∀x h,fN (x,h)=fv h 0 (g x))(hg:∀x,(g x).length=e)(hb:∀x,aW (g x))(hz:zs.length=m)(hi:i < m)(hj:m * e+jk.length=cp * e)(hdG:Nat.beq d G=false) :
  Loc P n ⟨some d,.call { callee:=.builtin .append,args := #[.tmp s,.tmp x],argTypes := #[t,t] },ty,pos,af,gd⟩ ⟨[(s,RV.sc (kO e u 0 (i - 0))),(x,RV.sc (kO e u (i+1) (m - (i+1)))),(G,RV.gat u D m cp)],[(D,(E,bW fN zs jk))],[(d,some (RV.sc (kO e u 0 (m - 1)))),(G,some (RV.gat (kO e u 0 (m - 1)) D (m - 1) cp))],[(D,some (E,bW fN (gM zs i) (ru e zs jk)))],none⟩:=by
 intro h0 w0 Fz0 σ a w K Q hc hr hrb _ h5
 obtain ⟨φ,Fz,Fp,hc⟩:=hc
 obtain ⟨⟨eu,hmc,hcx⟩,_⟩:=hc.slot G _ hr.2.2.1
 have ev:=(hc.one_ hr.1).1
 have ex:=(hc.one_ hr.2.1).1
 obtain ⟨hu,inf,hinf,hsz,_⟩:=rg hT
 subst hz
 have hbs:σ.b D=some (E,bW fN zs jk):=hrb.1
 obtain ⟨cur,hgc,ho⟩:=hc.box D _ hbs
 obtain ⟨k1,k2,k3⟩:=hc.bxb D _ hbs
 have hone:=ho.one
 obtain ⟨us,hus,hvs⟩:=NM hN hg (zs:=zs) (js:=jk.map PV.val) ho.rel
 have huj:us=jk:=by
  have hk:∀(l:List Value) (us:List Value),co (l.map PV.val) Fz w us→us=l:=by
   intro l
   induction l with
   | nil=>intro us h;exact h
   | cons v l ih=>
    intro us h
    obtain ⟨v',vs',rfl,h1,h2⟩:=h
    rw [ih _ h2,h1.1]
  exact hk _ _ hvs
 subst huj
 generalize hA:zs.take i=A
 generalize hB:zs.drop (i+1)=B
 have hzs:zs=A++(zs[i]::B):=by rw [←hA,←hB,←List.drop_eq_getElem_cons hi,hO]
 have hAl:A.length=i:=by rw [←hA,cj];omega
 have hBl:B.length=zs.length - (i+1):=by rw [←hB,lp]
 have hval:bz e zs=bz e A++((List.range e).map zs[i].2++bz e B):=by
  conv=>lhs;rw [hzs]
  rw [zw];rfl
 have hcl:cur.toList.length=cp * e:=by rw [hus,bV,oj];exact hj
 have hcs:cur.size=cp * e:=by rw [←hcl];simp
 have hnl:(bz e B).length=(zs.length - (i+1)) * e:=by rw [oj,hBl]
 have hoff:(i+1) * e+(bz e B).length=zs.length * e:=by rw [hnl,←Nat.add_mul];congr 1;omega
 have hcell:∀j v,(bz e B)[j]?=some v→w.cell? ((⟨φ D,if cp=i+1 then 0 else (i+1) * e,none⟩:Addr).add j)=some v:=by
  intro j v hv
  have hjl:=(List.getElem?_eq_some_iff.1 hv).1
  have hne:¬cp=i+1:=by
   intro e'
   have:zs.length≤i+1:=ab
   have:B.length=0:=ab
   rw [oj,this] at hjl;omega
  rw [if_neg hne,rh]
  have hq:=cell_of_row w (φ D) ((i+1) * e+j) cur E (0,0) hgc
  have hq2:w.cell? ⟨φ D,(i+1) * e+j,none⟩=cur.toList[(i+1) * e+j]?:=by rw [hq];simp
  rw [hq2,hus,hval]
  rw [List.getElem?_append_left (by simp only [bV,aX,List.length_range,oj,hAl];rw [oj] at hjl;have:=Nat.add_mul i 1 e;omega)]
  rw [List.getElem?_append_right (by rw [oj,hAl];have:=Nat.add_mul i 1 e;omega),List.getElem?_append_right (by rw [oj,hAl];simp only [aX,List.length_range];have:=Nat.add_mul i 1 e;omega)]
  rw [←hv]
  congr 1
  rw [oj,hAl];simp only [aX,List.length_range];have:=Nat.add_mul i 1 e;omega
 have h1:∀v∈bz e B,v.oneCell'=true:=fun v hv=>hone v (by rw [hus,hval];simp [hv])
 have hroom:i+(zs.length - (i+1))≤cp:=ab
 have hfit:i * inf.size+(bz e B).length≤cur.size:=by rw [hsz,hnl,hcs,←Nat.add_mul];exact Nat.mul_le_mul_right _ hroom
 have hrun:=run_append_room (P:=P) w t ty E inf hu hinf (φ D) i cp cur hgc ⟨φ D,if cp=i+1 then 0 else (i+1) * e,none⟩ (zs.length - (i+1)) (cp - (i+1)) (bz e B) (by rw [hnl,hsz]) hcell h1 hroom hfit
 rw [hsz] at hrun
 have hs1:a.eval (.tmp s) = .slice (some ⟨φ D,0,none⟩) i cp:=by
  have:a.eval (.tmp s)=kO e u 0 (i - 0):=ev
  rw [this,eu,NQ]
  simp
 have hs2:a.eval (.tmp x) = .slice (some ⟨φ D,if cp=i+1 then 0 else (i+1) * e,none⟩) (zs.length - (i+1)) (cp - (i+1)):=by
  have:a.eval (.tmp x)=kO e u (i+1) (zs.length - (i+1)):=ex
  rw [this,eu,NQ]
 have hres:kO e u 0 (zs.length - 1) = .slice (some ⟨φ D,0,none⟩) (i+(zs.length - (i+1))) cp:=by
  rw [eu,NQ,show i+(zs.length - (i+1))=zs.length - 1 by omega]
  simp
 have hidx:i+(zs.length - (i+1))=zs.length - 1:=ab
 have c1:=hc.pullB hbs
 generalize hFp1:(fun x=>if x=0 then φ D::mv Fp (2 * D+2) 0 else mv Fp (2 * D+2) x)=Fp1 at c1
 have e0:Fp1 0=φ D::(Fp (2 * D+2)++Fp 0):=by rw [←hFp1];simp [mv]
 generalize hcur:(cur.toList.take (i * e)++bz e B++cur.toList.drop (i * e+(bz e B).length)).toArray=cur' at hrun
 have hw:(w.setRow (φ D) cur').heap.size=w.heap.size:=size_setRow _ _ _
 have hset:(w.setRow (φ D) cur').heap[φ D]?=some (.cells cur' E (0,0)):=setRow_heap w (φ D) cur _ E _ hgc
 have hoth:∀i,i≠φ D→(w.setRow (φ D) cur').heap[i]?=w.heap[i]?:=fun i hi=>setRow_other w (φ D) i _ hi
 have hkeep:iL Fz w Fz (w.setRow (φ D) cur'):=fun i o hio=>⟨hio,World.cell?_of_block (hoth i fun e=>k2 o (e▸hio))⟩
 have c2:=c1.world (w':=w.setRow (φ D) cur') (Fz':=Fz) (X:=Fp1 0) rfl rfl rfl ab
  (fun i hi hi0=>⟨hoth i fun e=>hi0 (by rw [e,e0];simp),fun o ho=>ho⟩) hkeep (fun i o hio=>by rw [hw];exact hc.fzl i o hio)
  (fun i hi=>.inl hi) (c1.nod 0)
 have hlist:cur'.toList=bz e (gM zs i)++ru e zs us:=by
  rw [←hcur]
  show cur.toList.take (i * e)++bz e B++cur.toList.drop (i * e+(bz e B).length)=_
  unfold gM ru
  rw [hA,hB,zw,←hus]
  have t1:cur.toList.take (i * e)=bz e A:=by
   rw [hus,hval,bn]
   exact List.take_left' (by rw [oj,hAl])
  rw [t1,hnl,←Nat.add_mul,show i+(zs.length - (i+1))=zs.length - 1 by omega]
 have hrel:=ho.rel.mono hkeep
 have hnew:aN (bW fN (gM zs i) (ru e zs us)) Fz (w.setRow (φ D) cur') cur'.toList []:=by
  rw [hlist]
  unfold bW
  have hr1:co ((zs.map fN).flatten) Fz (w.setRow (φ D) cur') (bz e zs):=by
   obtain ⟨v1,v2,q1,q2,q3⟩:=co.split (show co ((zs.map fN).flatten++us.map PV.val) Fz (w.setRow (φ D) cur') cur.toList from hrel)
   rw [hus] at q1
   have:=List.append_inj q1 (by
    have hl1:=q2.len
    rw [hl1,oj]
    have:∀l:List (α×(Nat→Value)),(l.map fN).flatten.length=l.length * e:=by
     intro l
     induction l with
     | nil=>simp
     | cons z l ih=>
      rw [List.map_cons,List.flatten_cons,bV,ih,List.length_cons,Nat.succ_mul,show fN z=fv z.2 0 (g z.1) from hN z.1 z.2]
      have:∀(ps:List PV) (i:Nat),(fv z.2 i ps).length=ps.length:=by
       intro ps
       induction ps with
       | nil=>intro i;rfl
       | cons p ps ih=>intro i;simp [fv,ih]
      rw [this,hg];omega
    rw [this])
   rw [this.1];exact q2
  rw [hzs,bo,List.flatten_append,List.map_cons,List.flatten_cons,zw] at hr1
  obtain ⟨v1,v2,q1,q2,q3⟩:=co.split hr1
  obtain ⟨v3,v4,q4,q5,q6⟩:=co.split q3
  have hfl:∀l:List (α×(Nat→Value)),(l.map fN).flatten.length=l.length * e:=by
   intro l
   induction l with
   | nil=>simp
   | cons z l ih=>
    rw [List.map_cons,List.flatten_cons,bV,ih,List.length_cons,Nat.succ_mul,show fN z=fv z.2 0 (g z.1) from hN z.1 z.2]
    have:∀(ps:List PV) (i:Nat),(fv z.2 i ps).length=ps.length:=by
     intro ps
     induction ps with
     | nil=>intro i;rfl
     | cons p ps ih=>intro i;simp [fv,ih]
    rw [this,hg];omega
  have hfz:(fN zs[i]).length=e:=by have:=hfl [zs[i]];simpa using this
  obtain ⟨rfl,hv2⟩:=List.append_inj q1 (by rw [q2.len,hfl,oj])
  have hv2:(List.range e).map zs[i].2++bz e B=v2:=hv2
  rw [q4] at hv2
  obtain ⟨_,rfl⟩:=List.append_inj hv2 (by rw [q5.len,hfz];simp)
  have hrB:co (((gM zs i).map fN).flatten) Fz (w.setRow (φ D) cur') (bz e (gM zs i)):=by
   unfold gM
   rw [hA,hB,bo,List.flatten_append,zw]
   exact q2.append q6
  have hbor:aW ((gM zs i).map fN).flatten:=by
   intro p hp
   obtain ⟨l,hl,hp⟩:=List.mem_flatten.1 hp
   obtain ⟨z,_,rfl⟩:=List.mem_map.1 hl
   rw [show fN z=fv z.2 0 (g z.1) from hN z.1 z.2] at hp
   exact ZR z.2 (hb z.1) p hp
  have hoj:aN ((ru e zs us).map PV.val) Fz (w.setRow (φ D) cur') (ru e zs us) []:=BV fun v hv=>hone v (by
   unfold ru at hv
   rw [←hus] at hv
   exact List.mem_of_mem_drop hv)
  have:=(hbor.own hrB).append hoj
  rwa [gj] at this
 have c3:=c2.pushB (d:=D) (g:=φ D) (t:=E) (cs:=bW fN (gM zs i) (ru e zs us)) (F:=[]) (X:=Fp 0) mc hset hnew k2
  (fun x hx=>by
   simp only [if_true]
   rw [e0]
   simp only [List.nil_append,jq,ff] at hx ⊢
   rcases hx with hx|hx
   ·exact .inl hx
   ·exact .inr (.inr hx))
  (by
   have hnd:=c1.nod 0
   rw [e0] at hnd
   simp only [List.nil_append]
   rw [kf] at hnd ⊢
   exact ⟨fun hh=>hnd.1 (by simp [hh]),(List.nodup_append.1 hnd.2).2.1⟩) (.inl rfl)
 have c4:=(c3.pull G).reslot (s:=G) (rv:=RV.gat (kO e u 0 (zs.length - 1)) D (zs.length - 1) cp) ⟨⟨hres.trans (by rw [hidx];simp),ab,hcx⟩,gz⟩
 have c5:=c4.put0 (d:=d) (r:=RV.sc (kO e u 0 (zs.length - 1))) (v:=kO e u 0 (zs.length - 1)) hd (bX.of_sc (by rw [hres];rfl))
 refine eo (v:=kO e u 0 (zs.length - 1)) (w':=w.setRow (φ D) cur') ?_ (h5 _ _ (bB.eqv c5 (fun k=>?_) (fun k=>?_)))
 ·rw [hres]
  have es':a.eval (.tmp s)=a.tmps.getD s undef:=rfl
  have ex':a.eval (.tmp x)=a.tmps.getD x undef:=rfl
  unfold execOp
  simp only [resolve,invoke,builtin,Sem.run_bind,Sem.run_pure,Result.andThen_ok,List.map_toArray,List.map_cons,List.map_nil,hs1,hs2,hrun]
 ·show bK [(d,_),(G,_)] σ.s k=_
  have hne:¬d=G:=fun e=>by rw [e] at hdG;simp at hdG
  simp only [bK,St.set,St.setB]
  cases hkd:Nat.beq k d<;>cases hkG:Nat.beq k G
  ·rfl
  ·rfl
  ·rfl
  ·exact absurd ((Nat.eq_of_beq_eq_true hkd).symm.trans (Nat.eq_of_beq_eq_true hkG)) hne
 ·show bK [(D,_)] σ.b k=_
  simp only [bK,St.set,St.setB]
  cases hkd:Nat.beq k D<;>rfl
end
end
section
section
variable{P:Program}{n:Nat}{h0:Nat→Prop}{w0:World}{Fz0:aD}{σ:St}{Q:Exit→St→Prop}{c:Code}
def vf(qs:List PV)(hd:σ.b d=some (t,cs))(ht:az cs qs)(hb:aW qs)(h:SW P n h0 w0 Fz0 c (σ.setB d (some (t,qs))) Q):SW P n h0 w0 Fz0 c σ Q:=fun a w hc=>by
 obtain ⟨φ,Fz,Fp,hc⟩:=hc
 obtain ⟨cur,h1,h2⟩:=hc.box d _ hd
 obtain ⟨k1,k2,k3⟩:=hc.bxb d _ hd
 have c1:=hc.pullB hd
 have hn:=c1.nod 0
 rw [if_pos rfl] at hn
 have c2:=c1.pushB (d:=d) (g:=φ d) (t:=t) (cs:=qs) (F:=[]) (X:=mv Fp (2 * d+2) 0) mc h1 (hb.own (ht.rel h2.rel)) k2 (fun b hb=>by rw [if_pos rfl];simpa using hb) yO (.inl rfl)
 exact h a w (bB.eqv ⟨_,_,_,c2⟩ (fun i=>rfl) (fun e=>by
  simp only [St.setB_b]
  split<;>rfl))
end
end
end Go.Proofs.YtmekkgdboplbjaaGreatDoor.M
namespace Go.Proofs.YtmekkgdboplbjaaGreatDoor.M
open Go Go.RowKit
section
section
variable{P:Program}{n:Nat}{h0:Nat→Prop}{w0:World}{Fz0:aD}{σ:St}{Q:Exit→St→Prop}{c:Code}
end
section
variable{P:Program}{n:Nat}{t d s x E e bs b bt:Nat}{ty:TypeId}{pos:String}{af:Array Edge}{g:Option (Nat×Bool)}{z u:Value}{es ys:List (List PV)}{A B cs:List PV}{r:PV}
end
end
end Go.Proofs.YtmekkgdboplbjaaGreatDoor.M
namespace Go.Proofs.YtmekkgdboplbjaaGreatDoor.M
open Go Go.RowKit
variable{Fz:aD}{w:World}{gm:Nat}{T:TypeId}{ms:_}{T2:TypeId}{r:Int}{u:an}
section
def xe(ok:Bool)(v:Value):Prop:=if ok then v = .nilIface else ∃t p,v = .iface t p
def xe.one{ok:Bool}{v:Value}(h:xe ok v):v.oneCell'=true:=by
 unfold xe at h
 split at h
 ·subst h;rfl
 ·obtain ⟨t,p,rfl⟩:=h;rfl
def PV.err(ok:Bool):PV where
 rel _ _ v:=xe ok v
 own _ _ v F:=xe ok v∧F=[]
 one h:=h.one
 toRel h:=h.1
 relMono h _:=h
 ownMono h _ _:=h
 lt h:=oV
def PV.bor_err(x:Bool):(PV.err x).Bor:=fun h=>⟨h,rfl⟩
def pY(g:Nat)(ok:Value→Prop)(Fz:aD)(w:World):Prop:=Fz g 0∧∃v,w.cell? ⟨g,0,none⟩=some v∧ok v
def pY.mono{g:Nat}{ok:Value→Prop}{Fz':aD}{w':World}(h:pY g ok Fz w)(k:iL Fz w Fz' w'):pY g ok Fz' w':=by
 obtain ⟨h1,v,h2,h3⟩:=h
 obtain ⟨k1,k2⟩:=k g 0 h1
 exact ⟨k1,v,k2.trans h2,h3⟩
def Ht(v:Value):Prop:=v = .nilIface∨∃t p,v = .iface t p
def arh(P:Program)(g:Nat)(hg:P.globalNamed "internal/strconv.uint64pow10" = some g)(gm gs gr:Nat):pW where
 rel Fz w:=(Zr P g hg).rel Fz w∧pY gm (fun v=>∃m,v = .int .i64 m) Fz w∧pY gs Ht Fz w∧pY gr Ht Fz w
 mono h k:=⟨(Zr P g hg).mono h.1 k,h.2.1.mono k,h.2.2.1.mono k,h.2.2.2.mono k⟩
section
variable{P:Program}{G:pW}{f:FuncId}
def vg{x:Value}{qs:List (Bool×List PV)}{vs:List Value}(hx:x.oneCell'=true)(h:fg qs Fz w vs []):fg ((false,[PV.val x])::qs) Fz w (x::vs) []:=⟨x,vs,[],[],rfl,rfl,bX.of_sc hx,h⟩
def Co{w':World}{vs:List Value}{q1 q2:Bool×List PV}{qs:List (Bool×List PV)}(hz:∀b o,Fz b o→b < w.heap.size)(hb:Below w.heap.size w w')(ho:fg (q1::q2::qs) Fz w' vs []):∃v Fz' F,Ending.returned (.tuple vs.toArray) = .returned v∧Below w.heap.size w w' ∧
  (∀b o,b < w.heap.size→(Fz' b o↔Fz b o))∧(∀b o,Fz' b o→b < w'.heap.size)∧(∀φ,(aA (q1::q2::qs)).holds φ Fz' w' v F)∧F.Nodup∧∀b,b∈F→w.heap.size≤b∧b < w'.heap.size:=
 ⟨_,Fz,[],rfl,hb,fun _ _ _=>Iff.rfl,fun b o h=>Nat.lt_of_lt_of_le (hz b o h) hb.size,fun _=>⟨_,rfl,ho⟩,List.nodup_nil,fun b hb=>by simp at hb⟩
def ari(w:World)(k:Nat):Below w.heap.size w (w.drewN k):=by
 refine ⟨rfl,rfl,rfl,Nat.le_refl _,fun b hb=>rfl⟩
def arj(hm:∀{Fz w},G.rel Fz w→pY gm (fun v=>∃m,v = .int .i64 m) Fz w)
  (c:∀(s sep:ByteArray) (m:Int) (w:World),s.size < 4294967281→w.cell? ⟨gm,0,none⟩=some (.int .i64 m) →
   Calls P f #[.string s,.string sep] w fun e w'=>e = .returned (.tuple #[.string ⟨(Lib.cut s.data.toList sep.data.toList).1.toArray⟩,.string ⟨(Lib.cut s.data.toList sep.data.toList).2.1.toArray⟩,.bool (Lib.cut s.data.toList sep.data.toList).2.2])∧∃n,w'=w.drewN n)
  {s sep:an} (hs:s.length < 4294967281):et P G f [(false,[PV.val (.string (B s))]),(false,[PV.val (.string (B sep))])]
   (aA [(false,[PV.val (.string (B (Lib.cut s sep).1))]),(false,[PV.val (.string (B (Lib.cut s sep).2.1))]),(false,[PV.val (.bool (Lib.cut s sep).2.2)])]):=by
 intro w vs Fz hz hG hr
 obtain ⟨v,vs',rfl,h1,v2,vs2,rfl,h2,rfl⟩:=hr
 obtain rfl:v = .string (B s):=jF.sc h1
 obtain rfl:v2 = .string (B sep):=jF.sc h2
 obtain ⟨_,v,hv,m,rfl⟩:=hm hG
 refine (c (B s) (B sep) m w hs hv).mono ?_
 rintro e w' ⟨rfl,n,rfl⟩
 exact Co (vs:=[_,_,_]) hz (ari w n) (vg rfl (vg rfl (vg rfl ⟨rfl,rfl⟩)))
def ark(c:∀(s p:ByteArray) (w:World),Calls P f #[.string s,.string p] w fun e w'=>e = .returned (.tuple #[.string ⟨(Lib.trimPrefix s.data.toList p.data.toList).toArray⟩,.bool (Lib.hasPrefix s.data.toList p.data.toList)])∧w'=w)
  {s p:an}:aE P f [(false,[PV.val (.string (B s))]),(false,[PV.val (.string (B p))])] (aA [(false,[PV.val (.string (B (Lib.trimPrefix s p)))]),(false,[PV.val (.bool (Lib.hasPrefix s p))])]):=by
 intro w vs Fz hz hr
 obtain ⟨v,vs',rfl,h1,v2,vs2,rfl,h2,rfl⟩:=hr
 obtain rfl:v = .string (B s):=jF.sc h1
 obtain rfl:v2 = .string (B p):=jF.sc h2
 refine (c (B s) (B p) w).mono ?_
 rintro e w' ⟨rfl,rfl⟩
 exact Co (vs:=[_,_]) hz (Below.refl _ _) (vg rfl (vg rfl ⟨rfl,rfl⟩))
def ZT{e:an→List PV}(he:∀x,e x=[PV.val (.string (B x))]){Fz:aD}{w:World}:∀ws:List an,cO 1 (ws.map e) Fz w (ws.map fun x=>.string (B x)) []
 | []=>⟨rfl,rfl⟩
 | x::r=>⟨[.string (B x)],_,[],[],rfl,rfl,rfl,by rw [he];exact ⟨_,[],[],[],rfl,rfl,⟨⟨rfl,rfl⟩,rfl⟩,rfl,rfl⟩,ZT he r⟩
def arl{E:Nat}{e:an→List PV}(he:∀x,e x=[PV.val (.string (B x))]){ws:List an}(hz:∀b o,Fz b o→b < w.heap.size)(hl:ws.length≤maxLen) :
  ∃v Fz' F,Ending.returned (.slice (some ⟨w.heap.size,0,none⟩) ws.length ws.length) = .returned v∧Below w.heap.size w (w.alloc (.cells (ws.map fun x=>Value.string (B x)).toArray E)) ∧
  (∀b o,b < w.heap.size→(Fz' b o↔Fz b o))∧(∀b o,Fz' b o→b < (w.alloc (.cells (ws.map fun x=>Value.string (B x)).toArray E)).heap.size)∧(∀φ,(aA [(false,[PV.sl (.own E 1) (ws.map e)])]).holds φ Fz' (w.alloc (.cells (ws.map fun x=>Value.string (B x)).toArray E)) v F)∧F.Nodup∧∀b,b∈F→w.heap.size≤b∧b < (w.alloc (.cells (ws.map fun x=>Value.string (B x)).toArray E)).heap.size:=by
 have hsz:(w.alloc (.cells (ws.map fun x=>Value.string (B x)).toArray E)).heap.size=w.heap.size+1:=Array.size_push _
 have hsl:ek E 1 (ws.map e) (fun b o=>Fz b o∨(b=w.heap.size∧o < ws.length)) (w.alloc (.cells (ws.map fun x=>Value.string (B x)).toArray E)) (.slice (some ⟨w.heap.size,0,none⟩) ws.length ws.length) [w.heap.size]:=by
  refine ⟨_,[],?_,ZT he ws,?_,yM,?_⟩
  ·have:=World.ownsRow_lit (base:=0) (e:=E) (size:=1) w (ws.map fun x=>Value.string (B x)).toArray ws.length (Nat.zero_le _) hl aP
   rw [aX]
   simpa using this
  ·intro g hg o
   simp [Value.ownBlock] at hg
   subst hg
   rw [aX,Nat.mul_one]
   constructor
   ·rintro (h|⟨_,h⟩)
    ·have:=hz _ _ h;omega
    ·exact h
   ·intro h;exact .inr ⟨rfl,h⟩
  ·intro g hg cur t' o hc x hx
   simp [Value.ownBlock] at hg
   subst hg
   rw [heap_alloc_new] at hc
   simp only [Option.some.injEq,Obj.cells.injEq] at hc
   rw [←hc.1] at hx
   obtain ⟨y,_,rfl⟩:=List.mem_map.1 yQ
   rfl
 refine ⟨_,fun b o=>Fz b o∨(b=w.heap.size∧o < ws.length),[w.heap.size],rfl,?_,?_,?_,fun _=>bX.of_atom (p:=PV.sl (.own E 1) (ws.map e)) hsl,aP,?_⟩
 ·exact (Below.refl _ _).alloc (Nat.le_refl _) _
 ·intro b o hb
  constructor
  ·rintro (h|⟨h,_⟩)
   ·exact h
   ·omega
  ·exact .inl
 ·rintro b o (h|⟨h,_⟩)
  ·have:=hz _ _ h;omega
  ·omega
 ·intro b hb
  rw [List.mem_singleton] at hb
  omega
def arm{E:Nat}{e:an→List PV}(he:∀x,e x=[PV.val (.string (B x))])(hm:∀{Fz w},G.rel Fz w→pY gm (fun v=>∃m,v = .int .i64 m) Fz w)
  (c:∀(s sep:ByteArray) (m:Int) (w:World),s.size < 4294967281→w.cell? ⟨gm,0,none⟩=some (.int .i64 m)→1≤sep.size →
   Calls P f #[.string s,.string sep] w fun e w'=>e = .returned (.slice (some ⟨w.heap.size,0,none⟩) (Lib.countB s sep+1) (Lib.countB s sep+1))∧w'=w.alloc (.cells ((Lib.splitB sep 0 (Lib.countB s sep) s).map Value.string).toArray E))
  {s sep:an} {ws:List an} (hs:s.length < 4294967281) (h1:1≤sep.length) (hw:Lib.splitK sep 0 (Lib.count s sep) s=ws):et P G f [(false,[PV.val (.string (B s))]),(false,[PV.val (.string (B sep))])] (aA [(false,[PV.sl (.own E 1) (ws.map e)])]):=by
 intro w vs Fz hz hG hr
 obtain ⟨v,vs',rfl,h1',v2,vs2,rfl,h2,rfl⟩:=hr
 obtain rfl:v = .string (B s):=jF.sc h1'
 obtain rfl:v2 = .string (B sep):=jF.sc h2
 obtain ⟨_,v,hv,m,rfl⟩:=hm hG
 have hd:=Lib.splitB_data (B sep) 0 (Lib.countB (B s) (B sep)) (B s)
 have hd':(Lib.splitB (B sep) 0 (Lib.countB (B s) (B sep)) (B s)).map (·.data.toList)=ws:=hd.trans hw
 have hlen:=Lib.splitB_all (B sep) h1 0 _ (B s) rfl
 have hle:=Lib.countB_le (B sep) h1 (B s).size (B s) (Nat.le_refl _)
 have hwl:ws.length=Lib.countB (B s) (B sep)+1:=by rw [←hd',aX,hlen]
 have hcs:(Lib.splitB (B sep) 0 (Lib.countB (B s) (B sep)) (B s)).map Value.string=ws.map fun x=>Value.string (B x):=by
  rw [←hd',List.map_map];exact List.map_congr_left fun x _=>rfl
 have hc:=c (B s) (B sep) m w hs hv h1
 rw [hcs,←hwl] at hc
 refine hc.mono ?_
 rintro e w' ⟨rfl,rfl⟩
 have hss:(B s).size=s.length:=rfl
 exact arl he hz (by show ws.length≤9223372036854775807;omega)
def kk(s:an):Int:=match Lib.atoiAll s with
 | .ok v=>v
 | Lib.NumEnd.syntax=>0
 | .range=>Lib.atoiSat s
def pZ(s:an):Bool:=match Lib.atoiAll s with
 | .ok _=>true
 | _=>false
def arn{gs gr t:Nat}(hsy:∀{Fz w},G.rel Fz w→pY gs Ht Fz w)(hrg:∀{Fz w},G.rel Fz w→pY gr Ht Fz w)
  (c0:∀(s:ByteArray) (v:Int) (w:World),s.size≤9223372036854775806→Lib.atoiAll s.data.toList = .ok v→Calls P f #[.string s] w fun e w'=>e = .returned (.tuple #[.int .i64 v,.nilIface])∧Below w.heap.size w w')
  (c1:∀(s:ByteArray) (ev:Value) (w:World),s.size≤281474976710656→Lib.atoiAll s.data.toList=Lib.NumEnd.syntax→w.cell? ⟨gs,0,none⟩=some ev→(ev = .nilIface∨∃te pe,ev = .iface te pe)→Calls P f #[.string s] w fun e w'=>∃N,e = .returned (.tuple #[.int .i64 0,.iface t (.pointer (some ⟨N,0,none⟩))])∧Below w.heap.size w w')
  (c2:∀(s:ByteArray) (ev:Value) (w:World),s.size≤281474976710656→Lib.atoiAll s.data.toList = .range→w.cell? ⟨gr,0,none⟩=some ev→(ev = .nilIface∨∃te pe,ev = .iface te pe)→Calls P f #[.string s] w fun e w'=>∃N,e = .returned (.tuple #[.int .i64 (Lib.atoiSat s.data.toList),.iface t (.pointer (some ⟨N,0,none⟩))])∧Below w.heap.size w w')
  {s:an} (hs:s.length≤281474976710656):et P G f [(false,[PV.val (.string (B s))])] (aA [(false,[PV.val (vI (kk s))]),(false,[PV.err (pZ s)])]):=by
 intro w vs Fz hz hG hr
 obtain ⟨v,vs',rfl,h1',rfl⟩:=hr
 obtain rfl:v = .string (B s):=jF.sc h1'
 have hss:(B s).size=s.length:=rfl
 have he:∀{ok:Bool} {x:Value} {w':World},xe ok x→fg [(false,[PV.err ok])] Fz w' [x] []:=fun h=>⟨_,[],[],[],rfl,rfl,bX.of_atom (p:=PV.err _) ⟨h,rfl⟩,rfl,rfl⟩
 rcases ha:Lib.atoiAll s with v|_|_
 ·refine (c0 (B s) v w ab ha).mono ?_
  rintro e w' ⟨rfl,hb⟩
  have e1:kk s=v:=Mn
  have e2:pZ s=true:=Ml
  rw [e1,e2]
  exact Co (vs:=[_,_]) hz hb (vg rfl (he rfl))
 ·obtain ⟨_,ev,hv,hk⟩:=hsy hG
  refine (c1 (B s) ev w ab ha hv hk).mono ?_
  rintro e w' ⟨N,rfl,hb⟩
  have e1:kk s=0:=Mn
  have e2:pZ s=false:=Ml
  rw [e1,e2]
  exact Co (vs:=[_,_]) hz hb (vg rfl (he ⟨_,_,rfl⟩))
 ·obtain ⟨_,ev,hv,hk⟩:=hrg hG
  refine (c2 (B s) ev w ab ha hv hk).mono ?_
  rintro e w' ⟨N,rfl,hb⟩
  have e1:kk s=Lib.atoiSat s:=Mn
  have e2:pZ s=false:=Ml
  rw [e1,e2]
  exact Co (vs:=[_,_]) hz hb (vg rfl (he ⟨_,_,rfl⟩))
def aro(hT:P.underlying T=some (.interface ms))(w:World):(Op.equal T .nilIface .nilIface).run P w = .ok true w:=by
 have h:∀d:Nat,(Op.equalIn (d+1) T .nilIface .nilIface).run P w = .ok true w:=fun d=>by simp [Op.equalIn,run_underlying hT]
 exact h 9999
def arp{t:TypeId}{p:Value}(hT:P.underlying T=some (.interface ms))(w:World):(Op.equal T (.iface t p) .nilIface).run P w = .ok false w:=by
 have h:∀d:Nat,(Op.equalIn (d+1) T (.iface t p) .nilIface).run P w = .ok false w:=fun d=>by simp [Op.equalIn,run_underlying hT]
 exact h 9999
def arq{n k d:Nat}{ty:TypeId}{pos:String}{af:Array Edge}{g:Option (Nat×Bool)}{ok:Bool}(hT:P.underlying T=some (.interface ms))(hd:d < n:=by decide):Loc P n ⟨some d,.binOp .neq T (.tmp k) (.const .nilIface) T2,ty,pos,af,g⟩ ⟨[(k,RV.sv false [PV.err ok])],[],[(d,some (RV.bool (!ok)))],[],none⟩:=by
 intro h0 w0 Fz0 σ a w K Q hc hr _ _ h5
 obtain ⟨φ,Fz,Fp,hc⟩:=hc
 have h:=(bX.atom (hc.slot k _ hr.1)).1
 refine eo (v:=.bool (!ok)) (w':=w) ?_ (h5 _ _ (hc.put0 hd (bX.of_sc rfl)))
 unfold xe at h
 have e1:a.eval (.tmp k)=a.tmps.getD k undef:=rfl
 have e2:a.eval (.const .nilIface) = .nilIface:=rfl
 unfold execOp
 cases ok with
 | true=>
  rw [if_pos rfl] at h
  simp [e1,e2,h,Sem.run_bind,eqGuard_nil_constR,binOp,aro hT]
 | false=>
  rw [if_neg aP] at h
  obtain ⟨t,p,h⟩:=h
  have e3:∀w,Sem.run P (eqGuard .neq T (.tmp k) (.const .nilIface) (.iface t p) .nilIface) w = .ok () w:=fun w=>by simp [eqGuard]
  simp [e1,e2,h,Sem.run_bind,e3,binOp,arp hT]
def ars{n:Nat}{x y:Operand}{d:Nat}{ty:TypeId}{pos:String}{af:Array Edge}{g:Option (Nat×Bool)}{i j:Int}{k:IntKind}(hj:k.wrap (i - j)=r)(hx:bN x (RV.sc (.int k i)):=by first|exact True.intro|exact bq rfl)(hy:bN y (RV.sc (.int k j)):=by first|exact True.intro|exact bq rfl)(hd:d < n:=by decide):Loc P n ⟨some d,.binOp .sub T x y T2,ty,pos,af,g⟩ ⟨bw x (RV.sc (.int k i))++bw y (RV.sc (.int k j)),[],[(d,some (RV.sc (.int k r)))],[],none⟩:=
 jb hd hx hy rfl fun w=>by simp [eqGuard,binOp,Op.intArith,hj]
def ZU{s:an}{k:Nat}(h:k < s.length):∃b,(B s)[((k:Nat):Int).toNat]?=some b∧((b.toNat:Nat):Int)=((s[k].toNat:Nat):Int):=by
 have h':k < (B s).size:=h
 exact ⟨s[k],by rw [Int.toNat_natCast,getElem?_pos (B s) k h'];rfl,rfl⟩
section
variable{n x y d:Nat}{T ty:TypeId}{pos:String}{af:Array Edge}{g:Option (Nat×Bool)}{s:an}{k:Nat}
def sX(hlt:k < s.length)(hS:P.underlying T=some .string)(hd:d < n:=by decide):Loc P n ⟨some d,.index T (.tmp x) (.tmp y),ty,pos,af,g⟩ ⟨[(x,RV.str s),(y,RV.int (k:Int))],[],[(d,some (RV.sc (.int .u8 ((s[k].toNat:Nat):Int))))],[],none⟩:=
 Zi (x:=.tmp x) (y:=.tmp y) (k:=.i64) hS True.intro True.intro ab (ZU hlt) hd
def NS(hlt:0 < s.length)(hS:P.underlying T=some .string)(hd:d < n:=by decide):Loc P n ⟨some d,.index T (.tmp x) (.const (.int .i64 0)),ty,pos,af,g⟩ ⟨[(x,RV.str s)],[],[(d,some (RV.sc (.int .u8 ((s[0].toNat:Nat):Int))))],[],none⟩:=
 Zi (x:=.tmp x) (y:=.const (.int .i64 0)) (k:=.i64) (i:=0) hS True.intro (bq rfl) ab (ZU (k:=0) hlt) hd
def art{v:Int}(h:48≤v∧v≤255)(hd:d < n:=by decide):Loc P n ⟨some d,.binOp .sub T (.tmp x) (.const (.int .u8 48)) T2,ty,pos,af,g⟩ ⟨[(x,RV.sc (.int .u8 v))],[],[(d,some (RV.sc (.int .u8 (v - 48))))],[],none⟩:=
 ars (x:=.tmp x) (y:=.const (.int .u8 48)) (IntWalk.u8_in _ ab) True.intro (bq rfl) hd
def ZV{a b:Nat}{q:Int}(i j:Nat)(hS:P.underlying T=some .string)(hq:q=(i:Int))(hr:r=(j:Int))(hij:i≤j)(hj:j≤s.length)(hu:(s.take j).drop i=u)(hd:d < n:=by decide):Loc P n ⟨some d,.slice T (.tmp x) (some (.tmp a)) (some (.tmp b)) none,ty,pos,af,g⟩ ⟨(x,RV.str s)::[(a,RV.int q),(b,RV.int r)],[],[(d,some (RV.str u))],[],none⟩:=
 Hm (lo:=some (.tmp a)) (hi:=some (.tmp b)) (i:=i) (j:=j) (q:=q) (r:=r) hS True.intro True.intro hq hr hij hj hu hd
def sSh{b:Nat}(j:Nat)(hS:P.underlying T=some .string)(hr:r=(j:Int))(hj:j≤s.length)(hu:(s.take j).drop 0=u)(hd:d < n:=by decide):Loc P n ⟨some d,.slice T (.tmp x) none (some (.tmp b)) none,ty,pos,af,g⟩ ⟨(x,RV.str s)::[(b,RV.int r)],[],[(d,some (RV.str u))],[],none⟩:=
 Hm (lo:=none) (hi:=some (.tmp b)) (i:=0) (j:=j) (q:=0) (r:=r) hS rfl True.intro rfl hr (Nat.zero_le _) hj hu hd
def ZW{a:Nat}{q:Int}(i:Nat)(hS:P.underlying T=some .string)(hq:q=(i:Int))(hi:i≤s.length)(hu:(s.take s.length).drop i=u)(hd:d < n:=by decide):Loc P n ⟨some d,.slice T (.tmp x) (some (.tmp a)) none none,ty,pos,af,g⟩ ⟨(x,RV.str s)::[(a,RV.int q)],[],[(d,some (RV.str u))],[],none⟩:=
 Hm (lo:=some (.tmp a)) (hi:=none) (i:=i) (j:=s.length) (q:=q) (r:=(s.length:Int)) hS True.intro rfl hq rfl hi (Nat.le_refl _) hu hd
def sSc(hS:P.underlying T=some .string)(hi:1≤s.length)(hu:(s.take s.length).drop 1=u)(hd:d < n:=by decide):Loc P n ⟨some d,.slice T (.tmp x) (some (.const (.int .i64 1))) none none,ty,pos,af,g⟩ ⟨(x,RV.str s)::[],[],[(d,some (RV.str u))],[],none⟩:=
 Hm (lo:=some (.const (.int .i64 1))) (hi:=none) (i:=1) (j:=s.length) (q:=1) (r:=(s.length:Int)) hS (bq rfl) rfl rfl rfl hi (Nat.le_refl _) hu hd
end
end
end
def arw{P:Program}{G:pW}{f:FuncId}(hm:∀{Fz w},G.rel Fz w→pY gm (fun v=>∃m,v = .int .i64 m) Fz w)
  (c:∀(s old new:ByteArray) (m:Int) (w:World),s.size < 4294967281→w.cell? ⟨gm,0,none⟩=some (.int .i64 m)→1≤old.size→s.size+Lib.countB s old * new.size≤140737488355328 →
   Calls P f #[.string s,.string old,.string new] w fun e w'=>e = .returned (.string ⟨(Lib.replaceAll s.data.toList old.data.toList new.data.toList).toArray⟩)∧Below w.heap.size w w')
  {s old new:an} (hs:s.length < 4294967281) (h1:1≤old.length) (hl:s.length+Lib.count s old * new.length≤140737488355328):et P G f [(false,[PV.val (.string (B s))]),(false,[PV.val (.string (B old))]),(false,[PV.val (.string (B new))])] (aA [(false,[PV.val (.string (B (Lib.replaceAll s old new)))])]):=by
 intro w vs Fz hz hG hr
 obtain ⟨v,vs',rfl,h1',v2,vs2,rfl,h2,v3,vs3,rfl,h3,rfl⟩:=hr
 obtain rfl:v = .string (B s):=jF.sc h1'
 obtain rfl:v2 = .string (B old):=jF.sc h2
 obtain rfl:v3 = .string (B new):=jF.sc h3
 obtain ⟨_,v,hv,m,rfl⟩:=hm hG
 refine (c (B s) (B old) (B new) m w hs hv h1 hl).mono ?_
 rintro e w' ⟨rfl,hb⟩
 exact Cn hz hb
end Go.Proofs.YtmekkgdboplbjaaGreatDoor.M
