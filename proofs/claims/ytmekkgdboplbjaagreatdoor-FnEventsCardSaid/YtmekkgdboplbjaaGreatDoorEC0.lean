/- The logic. No condition. -/
import Derived.Test.YtmekkgdboplbjaaGreatDoorEB0
import Derived.KernelRfl
import Derived.Laws.Strings3
import Derived.Laws.BytesString
import Derived.Laws.Concat
import Derived.Lib.LaidTab
import Derived.Lib.Join
import Derived.Lib.ItoaNum
import Derived.Lib.ItoaLen
import Derived.Sort.Grow
import Derived.Deep.Draws
import Derived.ProofKit
import Derived.OpenShut
import Derived.Carry
import Derived.Below
import Derived.ChangeSame
import Derived.ChangeArms
import Derived.WideKeyArgs
import Derived.Deep.Slices
set_option linter.all false
namespace Go.Proofs.YtmekkgdboplbjaaGreatDoor.M
open Go Go.RowKit
section
section
variable{P:Program}{n:Nat}{h0:Nat→Prop}{w0:World}{Fz0:aA}{ops:Array Oper}{σ σ0:St}{QS:St→Prop}{Q:Exit→St→Prop}{o:Oper}{l:List Oper}{acc:List (Nat×aN)}{c:Code}
def rA{L:aN}(y:au P n ops QS l (σ.app L))(h1:bl L.rs σ.s:=by repeat (first|exact True.intro|refine And.intro rfl ?_))(h2:bl L.rb σ.b:=by repeat (first|exact True.intro|refine And.intro rfl ?_))(x:Loc P n o L)(hg:o.guard=none:=by exact rfl)(ha:L.al=none:=by exact rfl):au P n ops QS (o::l) σ:=
 au.step h1 h2 (cc.of hg x) (fun d hd=>by rw [ha] at hd;cases hd) y
def rB{L:aN}{g s:Nat}{b c:Bool}(hb:c=b)(y:au P n ops QS l (σ.app ⟨(s,RV.bool c)::L.rs,L.rb,L.ws,L.wb,L.al⟩))(hg:o.guard=some (g,b):=by exact rfl)(hs:(ops[g]?).bind (·.dst)=some s:=by exact rfl)(h1:bl ((s,RV.bool c)::L.rs) σ.s:=by repeat (first|exact True.intro|refine And.intro rfl ?_))(h2:bl L.rb σ.b:=by repeat (first|exact True.intro|refine And.intro rfl ?_))(x:Loc P n o L)(hlt:s < n:=by decide)(ha:L.al=none:=by exact rfl):au P n ops QS (o::l) σ:=
 au.step (L:=⟨(s,RV.bool c)::L.rs,L.rb,L.ws,L.wb,L.al⟩) h1 h2 (cc.yes hg hs hlt hb x) (fun d hd=>by have hd:L.al=some d:=hd;rw [ha] at hd;cases hd) y
def dA{L:aN}(m:Nat)(y:bO P n ops σ0 (fun _ _=>True) QS l (acc++[(m,L)]) (σ.app L))(h1:bl L.rs σ.s:=by repeat (first|exact True.intro|refine And.intro rfl ?_))(h2:bl L.rb σ.b:=by repeat (first|exact True.intro|refine And.intro rfl ?_))(x:Loc P n o L)(hg:o.guard=none:=by exact rfl)(ha:L.al=none:=by exact rfl)(h4:qK m o L acc=true:=by kernel_rfl):bO P n ops σ0 (fun _ _=>True) QS (o::l) acc σ:=
 bO.step m h1 h2 (cc.of hg x) (fun d hd=>by rw [ha] at hd;cases hd) h4 y
def dB{L:aN}{g s:Nat}{b c:Bool}(m:Nat)(hb:c=b)(y:bO P n ops σ0 (fun _ _=>True) QS l (acc++[(m,⟨(s,RV.bool c)::L.rs,L.rb,L.ws,L.wb,L.al⟩)]) (σ.app ⟨(s,RV.bool c)::L.rs,L.rb,L.ws,L.wb,L.al⟩))(hg:o.guard=some (g,b):=by exact rfl)(hs:(ops[g]?).bind (·.dst)=some s:=by exact rfl)(h1:bl ((s,RV.bool c)::L.rs) σ.s:=by repeat (first|exact True.intro|refine And.intro rfl ?_))(h2:bl L.rb σ.b:=by repeat (first|exact True.intro|refine And.intro rfl ?_))(x:Loc P n o L)(hlt:s < n:=by decide)(ha:L.al=none:=by exact rfl)
  (h4:qK m o ⟨(s,RV.bool c)::L.rs,L.rb,L.ws,L.wb,L.al⟩ acc=true:=by kernel_rfl):bO P n ops σ0 (fun _ _=>True) QS (o::l) acc σ:=
 bO.step (L:=⟨(s,RV.bool c)::L.rs,L.rb,L.ws,L.wb,L.al⟩) m h1 h2 (cc.yes hg hs hlt hb x) (fun d hd=>by have hd:L.al=some d:=hd;rw [ha] at hd;cases hd) h4 y
def dF{g s d:Nat}{c:Bool}(m:Nat)(hb:c=false)(y:bO P n ops σ0 (fun _ _=>True) QS l (acc++[(m,⟨[(s,RV.bool c)],[],[(d,some RV.und)],[],none⟩)]) (σ.app ⟨[(s,RV.bool c)],[],[(d,some RV.und)],[],none⟩))(hg:o.guard=some (g,true):=by exact rfl)(hs:(ops[g]?).bind (·.dst)=some s:=by exact rfl)(hlt:s < n:=by decide)(hd:o.dst=some d:=by exact rfl)
  (h1:σ.s s=some (RV.bool c):=by exact rfl) (h4:qK m o ⟨[(s,RV.bool c)],[],[(d,some RV.und)],[],none⟩ acc=true:=by kernel_rfl):bO P n ops σ0 (fun _ _=>True) QS (o::l) acc σ:=
 bO.step (L:=⟨[(s,RV.bool c)],[],[(d,some RV.und)],[],none⟩) m ⟨h1,True.intro⟩ True.intro (cc.no hg hs hlt hb hd) fY h4 y
def dT{g s d:Nat}{c:Bool}(m:Nat)(hb:c=true)(y:bO P n ops σ0 (fun _ _=>True) QS l (acc++[(m,⟨[(s,RV.bool c)],[],[(d,some RV.und)],[],none⟩)]) (σ.app ⟨[(s,RV.bool c)],[],[(d,some RV.und)],[],none⟩))(hg:o.guard=some (g,false):=by exact rfl)(hs:(ops[g]?).bind (·.dst)=some s:=by exact rfl)(hlt:s < n:=by decide)(hd:o.dst=some d:=by exact rfl)
  (h1:σ.s s=some (RV.bool c):=by exact rfl) (h4:qK m o ⟨[(s,RV.bool c)],[],[(d,some RV.und)],[],none⟩ acc=true:=by kernel_rfl):bO P n ops σ0 (fun _ _=>True) QS (o::l) acc σ:=
 bO.step (L:=⟨[(s,RV.bool c)],[],[(d,some RV.und)],[],none⟩) m ⟨h1,True.intro⟩ True.intro (cc.no hg hs hlt hb hd) fY h4 y
def dU{g s d:Nat}{b:Bool}(m:Nat)(y:bO P n ops σ0 (fun _ _=>True) QS l (acc++[(m,⟨[(s,RV.und)],[],[(d,some RV.und)],[],none⟩)]) (σ.app ⟨[(s,RV.und)],[],[(d,some RV.und)],[],none⟩))(hg:o.guard=some (g,b):=by exact rfl)(hs:(ops[g]?).bind (·.dst)=some s:=by exact rfl)(hd:o.dst=some d:=by exact rfl)
  (h1:σ.s s=some RV.und:=by exact rfl) (h4:qK m o ⟨[(s,RV.und)],[],[(d,some RV.und)],[],none⟩ acc=true:=by kernel_rfl):bO P n ops σ0 (fun _ _=>True) QS (o::l) acc σ:=
 bO.step (L:=⟨[(s,RV.und)],[],[(d,some RV.und)],[],none⟩) m ⟨h1,True.intro⟩ True.intro (cc.noU hg hs hd) fY h4 y
def sO(l:List (Nat×RV))(b:List (Nat×(Nat×List PV)))(h:SW P n h0 w0 Fz0 c (St.of l b) Q)(hl:bl l σ.s:=by repeat (first|exact True.intro|refine And.intro rfl ?_))(hb:bl b σ.b:=by repeat (first|exact True.intro|refine And.intro rfl ?_)):SW P n h0 w0 Fz0 c σ Q:=amo hl hb h
def wO(m:List (Nat×RV))(b:List (Nat×(Nat×List PV)))(h:mH P n h0 w0 Fz0 ops l (St.of m b) Q)(hl:bl m σ.s:=by repeat (first|exact True.intro|refine And.intro rfl ?_))(hb:bl b σ.b:=by repeat (first|exact True.intro|refine And.intro rfl ?_)):mH P n h0 w0 Fz0 ops l σ Q:=amw hl hb h
def wA{L:aN}(y:mH P n h0 w0 Fz0 ops l (σ.app L) Q)(h1:bl L.rs σ.s:=by repeat (first|exact True.intro|refine And.intro rfl ?_))(h2:bl L.rb σ.b:=by repeat (first|exact True.intro|refine And.intro rfl ?_))(x:Loc P n o L)(hg:o.guard=none:=by exact rfl)(ha:L.al=none:=by exact rfl):mH P n h0 w0 Fz0 ops (o::l) σ Q:=
 amv h1 h2 (cc.of hg x) (fun d hd=>by rw [ha] at hd;cases hd) y
end
section
variable{P:Program}{n:Nat}{d x:Nat}{ty:TypeId}{pos:String}{af:Array Edge}{g:Option (Nat×Bool)}
def cM{r r':RV}(hc:Cp r r')(hd:d < n:=by decide):Loc P n ⟨some d,.move (.tmp x),ty,pos,af,g⟩ ⟨[(x,r)],[],[(d,some r')],[],none⟩:=lS (.inl rfl) hd hc
def cA{r r':RV}(hc:Cp r r')(hd:d < n:=by decide):Loc P n ⟨some d,.assign (.tmp x),ty,pos,af,g⟩ ⟨[(x,r)],[],[(d,some r')],[],none⟩:=lS (.inr rfl) hd hc
def sM{v:Value}(hd:d < n:=by decide):Loc P n ⟨some d,.move (.tmp x),ty,pos,af,g⟩ ⟨[(x,RV.sc v)],[],[(d,some (RV.sc v))],[],none⟩:=cM Cp.sc hd
def sA{v:Value}(hd:d < n:=by decide):Loc P n ⟨some d,.assign (.tmp x),ty,pos,af,g⟩ ⟨[(x,RV.sc v)],[],[(d,some (RV.sc v))],[],none⟩:=cA Cp.sc hd
def vM{cs:List PV}(ag:Bool)(qs:List PV)(ht:aJ cs qs:=by repeat' (first|exact True.intro|exact PV.To.refl _|exact PV.to_none|apply And.intro))(hb:aF qs:=by repeat (first|exact aF.nil|refine aF.cons (PV.bor_val _) ?_|refine aF.cons (PV.bor_sl _) ?_|refine aF.cons (PV.bor_lo _ _) ?_))(hd:d < n:=by decide) :
  Loc P n ⟨some d,.move (.tmp x),ty,pos,af,g⟩ ⟨[(x,RV.sv ag cs)],[],[(d,some (RV.sv ag qs))],[],none⟩:=cM (Cp.sv ht hb) hd
def vA{cs:List PV}(ag:Bool)(qs:List PV)(ht:aJ cs qs:=by repeat' (first|exact True.intro|exact PV.To.refl _|exact PV.to_none|apply And.intro))(hb:aF qs:=by repeat (first|exact aF.nil|refine aF.cons (PV.bor_val _) ?_|refine aF.cons (PV.bor_sl _) ?_|refine aF.cons (PV.bor_lo _ _) ?_))(hd:d < n:=by decide) :
  Loc P n ⟨some d,.assign (.tmp x),ty,pos,af,g⟩ ⟨[(x,RV.sv ag cs)],[],[(d,some (RV.sv ag qs))],[],none⟩:=cA (Cp.sv ht hb) hd
def tM{r:RV}(hd:d < n:=by decide):Loc P n ⟨some d,.move (.tmp x),ty,pos,af,g⟩ ⟨[(x,r)],[],[(x,none),(d,some r)],[],none⟩:=wa (.inl rfl) hd
def tA{r:RV}(hd:d < n:=by decide):Loc P n ⟨some d,.assign (.tmp x),ty,pos,af,g⟩ ⟨[(x,r)],[],[(x,none),(d,some r)],[],none⟩:=wa (.inr rfl) hd
def kM{v:Value}(h:v.oneCell'=true:=by exact rfl)(hd:d < n:=by decide):Loc P n ⟨some d,.move (.const v),ty,pos,af,g⟩ ⟨[],[],[(d,some (RV.sc v))],[],none⟩:=nw (.inl rfl) hd (bi h)
def kA{v:Value}(h:v.oneCell'=true:=by exact rfl)(hd:d < n:=by decide):Loc P n ⟨some d,.assign (.const v),ty,pos,af,g⟩ ⟨[],[],[(d,some (RV.sc v))],[],none⟩:=nw (.inr rfl) hd (bi h)
def lD{T p b off t:Nat}{ag:Bool}{k:Nat}{cs:List PV}(qs:List PV)(hT:dg P T=some (ag,k))(h1:ag=false→k=1:=by first|exact fun _=>rfl|exact fun h=>nomatch h)(hk:off+k≤cs.length:=by exact Nat.le_of_ble_eq_true rfl)(ht:aJ ((cs.drop off).take k) qs:=by repeat' (first|exact True.intro|exact PV.To.refl _|exact PV.to_none|apply And.intro))
  (hb:aF qs:=by repeat (first|exact aF.nil|refine aF.cons (PV.bor_val _) ?_|refine aF.cons (PV.bor_sl _) ?_|refine aF.cons (PV.bor_lo _ _) ?_)) (hd:d < n:=by decide) :
  Loc P n ⟨some d,.load T (.tmp p),ty,pos,af,g⟩ ⟨[(p,RV.ptr b off)],[(b,(t,cs))],[(d,some (RV.sv ag qs))],[],none⟩:=jB hd hT h1 hk ht hb
def lE{T p:Nat}{ag:Bool}{k:Nat}{cs:List PV}(qs:List PV)(hT:dg P T=some (ag,k))(h1:ag=false→k=1:=by first|exact fun _=>rfl|exact fun h=>nomatch h)(hk:k≤cs.length:=by exact Nat.le_of_ble_eq_true rfl)(ht:aJ (cs.take k) qs:=by repeat' (first|exact True.intro|exact PV.To.refl _|exact PV.to_none|apply And.intro))
  (hb:aF qs:=by repeat (first|exact aF.nil|refine aF.cons (PV.bor_val _) ?_|refine aF.cons (PV.bor_sl _) ?_|refine aF.cons (PV.bor_lo _ _) ?_)) (hd:d < n:=by decide) :
  Loc P n ⟨some d,.load T (.tmp p),ty,pos,af,g⟩ ⟨[(p,RV.eptr cs)],[],[(d,some (RV.sv ag qs))],[],none⟩:=sz hd hT h1 hk ht hb
def lF{T p b off f fo:Nat}(hT:cd P T f=some fo)(hd:d < n:=by decide):Loc P n ⟨some d,.fieldAddr T (.tmp p) f,ty,pos,af,g⟩ ⟨[(p,RV.ptr b off)],[],[(d,some (RV.ptr b (off+fo)))],[],none⟩:=FK hd hT
def lN{T E e bs s m:Nat}{o:Fl}{es:List (List PV)}(hT:fy P T=some (E,e,bs))(hm:es.length=m:=by first|exact bf _|exact rfl)(hd:d < n:=by decide) :
  Loc P n ⟨some d,.call { callee:=.builtin .len,args := #[.tmp s],argTypes := #[T] },ty,pos,af,g⟩ ⟨[(s,RV.slc o es)],[],[(d,some (RV.int (m:Int)))],[],none⟩:=amd hd hT hm
def nT{T:TypeId}{b:Bool}(hd:d < n:=by decide):Loc P n ⟨some d,.unOp .not T (.tmp x),ty,pos,af,g⟩ ⟨[(x,RV.bool b)],[],[(d,some (RV.bool !b))],[],none⟩:=amc hd
def bj{c x y:Operand}{b:Bool}{r:RV}(hg:b=true)(hc:bG c (RV.bool b):=by exact True.intro)(hz:bG x r:=by first|exact True.intro|exact bi rfl)(hcp:Cp r r:=by exact Cp.sc)(hd:d < n:=by decide):Loc P n ⟨some d,.pick c x y,ty,pos,af,g⟩ ⟨bm c (RV.bool b)++bm x r,[],[(d,some r)],[],none⟩:=We (z:=x) hd (by rw [hg];rfl) hc hz hcp
def aR{c x y:Operand}{b:Bool}{r:RV}(hg:b=false)(hc:bG c (RV.bool b):=by exact True.intro)(hz:bG y r:=by first|exact True.intro|exact bi rfl)(hcp:Cp r r:=by exact Cp.sc)(hd:d < n:=by decide):Loc P n ⟨some d,.pick c x y,ty,pos,af,g⟩ ⟨bm c (RV.bool b)++bm y r,[],[(d,some r)],[],none⟩:=We (z:=y) hd (by rw [hg];rfl) hc hz hcp
def cL{f:Nat}{args:Array Operand}{tys:Array TypeId}{r:RV}(qs as_:List (Bool×List PV))(hf:aE P f=true)(hok:mE args.toList qs:=by repeat' (first|exact True.intro|exact bi rfl|exact Wc|apply And.intro))
  (hto:mF qs as_:=by repeat' (first|exact True.intro|exact rfl|exact PV.To.refl _|exact PV.to_none|apply And.intro)) (hs:aQ P f as_ r) (hd:d < n:=by decide):Loc P n ⟨some d,.call { callee:=.value (.func f),args:=args,argTypes:=tys },ty,pos,af,g⟩ ⟨kH args.toList qs,[],[(d,some r)],[],none⟩:=yu hd hf hok hto hs
section
variable{T T2:TypeId}{x y:Operand}{i j:Int}
def yG(hx:bG x (RV.int i):=by first|exact True.intro|exact bi rfl)(hy:bG y (RV.int j):=by first|exact True.intro|exact bi rfl)(hd:d < n:=by decide):Loc P n ⟨some d,.binOp .lss T x y T2,ty,pos,af,g⟩ ⟨bm x (RV.int i)++bm y (RV.int j),[],[(d,some (RV.bool (decide (i < j))))],[],none⟩:=al5 hd hx hy
def kf(hx:bG x (RV.int i):=by first|exact True.intro|exact bi rfl)(hy:bG y (RV.int j):=by first|exact True.intro|exact bi rfl)(hd:d < n:=by decide):Loc P n ⟨some d,.binOp .leq T x y T2,ty,pos,af,g⟩ ⟨bm x (RV.int i)++bm y (RV.int j),[],[(d,some (RV.bool (decide (i≤j))))],[],none⟩:=al6 hd hx hy
def jE(hx:bG x (RV.int i):=by first|exact True.intro|exact bi rfl)(hy:bG y (RV.int j):=by first|exact True.intro|exact bi rfl)(hd:d < n:=by decide):Loc P n ⟨some d,.binOp .gtr T x y T2,ty,pos,af,g⟩ ⟨bm x (RV.int i)++bm y (RV.int j),[],[(d,some (RV.bool (decide (i > j))))],[],none⟩:=al7 hd hx hy
def kJ(hx:bG x (RV.int i):=by first|exact True.intro|exact bi rfl)(hy:bG y (RV.int j):=by first|exact True.intro|exact bi rfl)(hd:d < n:=by decide):Loc P n ⟨some d,.binOp .geq T x y T2,ty,pos,af,g⟩ ⟨bm x (RV.int i)++bm y (RV.int j),[],[(d,some (RV.bool (decide (i≥j))))],[],none⟩:=al8 hd hx hy
def iZ(hx:bG x (RV.int i):=by first|exact True.intro|exact bi rfl)(hy:bG y (RV.int j):=by first|exact True.intro|exact bi rfl)(hd:d < n:=by decide):Loc P n ⟨some d,.binOp .eql T x y T2,ty,pos,af,g⟩ ⟨bm x (RV.int i)++bm y (RV.int j),[],[(d,some (RV.bool (i==j)))],[],none⟩:=al9 hd hx hy
def ig(hx:bG x (RV.int i):=by first|exact True.intro|exact bi rfl)(hy:bG y (RV.int j):=by first|exact True.intro|exact bi rfl)(hd:d < n:=by decide):Loc P n ⟨some d,.binOp .neq T x y T2,ty,pos,af,g⟩ ⟨bm x (RV.int i)++bm y (RV.int j),[],[(d,some (RV.bool (i != j)))],[],none⟩:=ama hd hx hy
def jF(hx:bG x (RV.int i):=by first|exact True.intro|exact bi rfl)(hy:bG y (RV.int j):=by first|exact True.intro|exact bi rfl)(h:ee (i+j):=by unfold ee;omega)(hd:d < n:=by decide):Loc P n ⟨some d,.binOp .add T x y T2,ty,pos,af,g⟩ ⟨bm x (RV.int i)++bm y (RV.int j),[],[(d,some (RV.int (i+j)))],[],none⟩:=LJ hd hx hy h
def jo(hx:bG x (RV.int i):=by first|exact True.intro|exact bi rfl)(hy:bG y (RV.int j):=by first|exact True.intro|exact bi rfl)(h:ee (i - j):=by unfold ee;omega)(hd:d < n:=by decide):Loc P n ⟨some d,.binOp .sub T x y T2,ty,pos,af,g⟩ ⟨bm x (RV.int i)++bm y (RV.int j),[],[(d,some (RV.int (i - j)))],[],none⟩:=amb hd hx hy h
end
end
end
section
section
variable{P:Program}{n:Nat}
section
variable{T:TypeId}{x y:Operand}{i j:Int}{k:IntKind}{w:World}
def amI:Sem.run P (do eqGuard .leq T x y (.int k i) (.int k j);binOp .leq T (.int k i) (.int k j):Sem Value) w = .ok (.bool (decide (i≤j))) w:=qB
def amJ:Sem.run P (do eqGuard .geq T x y (.int k i) (.int k j);binOp .geq T (.int k i) (.int k j):Sem Value) w = .ok (.bool (decide (i≥j))) w:=qB
def amK:Sem.run P (do eqGuard .eql T x y (.int k i) (.int k j);binOp .eql T (.int k i) (.int k j):Sem Value) w = .ok (.bool (i==j)) w:=qB
def amL:Sem.run P (do eqGuard .neq T x y (.int k i) (.int k j);binOp .neq T (.int k i) (.int k j):Sem Value) w = .ok (.bool (i != j)) w:=qB
end
section
variable{T T2:TypeId}{x y:Operand}{d:Nat}{ty:TypeId}{pos:String}{af:Array Edge}{g:Option (Nat×Bool)}{i j:Int}{k:IntKind}
def amM(hx:bG x (RV.sc (.int k i)):=by first|exact True.intro|exact bi rfl)(hy:bG y (RV.sc (.int k j)):=by first|exact True.intro|exact bi rfl)(hd:d < n:=by decide):Loc P n ⟨some d,.binOp .leq T x y T2,ty,pos,af,g⟩ ⟨bm x (RV.sc (.int k i))++bm y (RV.sc (.int k j)),[],[(d,some (RV.bool (decide (i≤j))))],[],none⟩:=gJ hd hx hy rfl fun _=>amI
def amN(hx:bG x (RV.sc (.int k i)):=by first|exact True.intro|exact bi rfl)(hy:bG y (RV.sc (.int k j)):=by first|exact True.intro|exact bi rfl)(hd:d < n:=by decide):Loc P n ⟨some d,.binOp .geq T x y T2,ty,pos,af,g⟩ ⟨bm x (RV.sc (.int k i))++bm y (RV.sc (.int k j)),[],[(d,some (RV.bool (decide (i≥j))))],[],none⟩:=gJ hd hx hy rfl fun _=>amJ
def Mo(hx:bG x (RV.sc (.int k i)):=by first|exact True.intro|exact bi rfl)(hy:bG y (RV.sc (.int k j)):=by first|exact True.intro|exact bi rfl)(hd:d < n:=by decide):Loc P n ⟨some d,.binOp .eql T x y T2,ty,pos,af,g⟩ ⟨bm x (RV.sc (.int k i))++bm y (RV.sc (.int k j)),[],[(d,some (RV.bool (i==j)))],[],none⟩:=gJ hd hx hy rfl fun _=>amK
def amO(hx:bG x (RV.sc (.int k i)):=by first|exact True.intro|exact bi rfl)(hy:bG y (RV.sc (.int k j)):=by first|exact True.intro|exact bi rfl)(hd:d < n:=by decide):Loc P n ⟨some d,.binOp .neq T x y T2,ty,pos,af,g⟩ ⟨bm x (RV.sc (.int k i))++bm y (RV.sc (.int k j)),[],[(d,some (RV.bool (i != j)))],[],none⟩:=gJ hd hx hy rfl fun _=>amL
def uu{src dst:TypeId}{k2:IntKind}(hS:P.underlying src=some (.int k))(hD:P.underlying dst=some (.int k2))(hj:k2.wrap i=j)(hx:bG x (RV.sc (.int k i)):=by first|exact True.intro|exact bi rfl)(hd:d < n:=by decide) :
  Loc P n ⟨some d,.convert src dst x,ty,pos,af,g⟩ ⟨bm x (RV.sc (.int k i)),[],[(d,some (RV.sc (.int k2 j)))],[],none⟩:=by
 intro h0 w0 Fz0 σ a w K Q h1 h2 _ _ h5
 obtain ⟨φ,Fz,Fp,hc⟩:=h1
 have ex:=hc.sc h2 hx
 refine ez (v:=.int k2 j) (w':=w) ?_ (h5 _ _ (hc.put0 hd (ce.of_sc rfl)))
 unfold execOp
 simp [ex,convert,run_underlying hS,run_underlying hD,Conv.intToInt,hj]
def WR{s:ByteArray}(hS:P.underlying T=some .string)(hx:bG x (RV.sc (.string s)):=by first|exact True.intro|exact bi rfl)(hy:bG y (RV.sc (.int k i)):=by first|exact True.intro|exact bi rfl)(hi:0≤i)(hb:∃b,s[i.toNat]?=some b∧((b.toNat:Nat):Int)=j)(hd:d < n:=by decide) :
  Loc P n ⟨some d,.index T x y,ty,pos,af,g⟩ ⟨bm x (RV.sc (.string s))++bm y (RV.sc (.int k i)),[],[(d,some (RV.sc (.int .u8 j)))],[],none⟩:=by
 intro h0 w0 Fz0 σ a w K Q h1 h2 _ _ h5
 obtain ⟨φ,Fz,Fp,hc⟩:=h1
 have ex:=hc.sc h2.left hx
 have ey:=hc.sc h2.right hy
 obtain ⟨b,hb,rfl⟩:=hb
 refine ez (v:=.int .u8 (b.toNat:Nat)) (w':=w) ?_ (h5 _ _ (hc.put0 hd (ce.of_sc rfl)))
 unfold execOp
 simp [ex,ey,Instr.index,asIntOf,run_underlying hS,hi,hb]
end
section
variable{h0:Nat→Prop}{w0:World}{Fz0:aA}{σ:St}{Q:Exit→St→Prop}{c1 c2:Code}
end
end
end
section
def ls:List Value→List PV→List PV
 | u::us,p::ps=>PV.nv u p::ls us ps
 | _,_=>[]
def Ge{Fz:aA}{w:World}:∀{ps:List PV} {us:List Value},aF ps→ci ps Fz w us→aP (ls us ps) Fz w us []
 | [],us,_,h=>by
  have h:us=[]:=h
  subst h;exact ⟨rfl,rfl⟩
 | p::ps,us,hb,h=>by
  obtain ⟨v,vs,rfl,h1,h2⟩:=h
  exact ⟨v,vs,[],[],rfl,rfl,⟨rfl,hb p aM h1⟩,Ge (fun q hq=>hb q (by simp [hq])) h2⟩
def fm(h:Nat→Value):Nat→List PV→List PV
 | _,[]=>[]
 | i,p::ps=>PV.nv (h i) p::fm h (i+1) ps
def Gf(h:Nat→Value):∀(ps:List PV) (i:Nat),fm h i ps=ls ((List.range' i ps.length).map h) ps
 | [],i=>rfl
 | p::ps,i=>by rw [fm,Gf h ps (i+1)];rfl
def br{α:Type}(e:Nat)(zs:List (α×(Nat→Value))):List Value:=(zs.map fun z=>(List.range e).map z.2).flatten
def bY{α:Type}(f:α→List PV)(zs:List (α×(Nat→Value))):List PV:=(zs.map fun z=>f z.1).flatten
def WS:∀{us vs:List Value} {ps qs:List PV},us.length=ps.length→ls (us++vs) (ps++qs)=ls us ps++ls vs qs
 | [],vs,[],qs,_=>rfl
 | u::us,vs,p::ps,qs,h=>by
  simp only [List.cons_append,ls]
  rw [WS ou]
def Mp{e:Nat}{us:List Value}(h:us.length=e):∃k:Nat→Value,us=(List.range e).map k:=by
 refine ⟨fun i=>us.getD i undef,?_⟩
 subst h
 apply List.ext_getElem
 ·simp
 ·intro i h1 h2
  simp [h1]
def WT{α:Type}{g:α→List PV}{fN:α×(Nat→Value)→List PV}{e:Nat}(hN:∀x h,fN (x,h)=fm h 0 (g x))(hg:∀x,(g x).length=e)(jk:List PV):∀(xs:List α) (us:List Value),us.length=xs.length * e+jk.length →
  ∃(zs:List (α×(Nat→Value))) (vs:List Value),zs.map Prod.fst=xs∧us=br e zs++vs∧vs.length=jk.length∧ls us ((xs.map g).flatten++jk)=(zs.map fN).flatten++ls vs jk
 | [],us,h=>⟨[],us,rfl,rfl,ou,rfl⟩
 | x::xs,us,h=>by
  have hs:(x::xs).length * e=e+xs.length * e:=by rw [List.length_cons,Nat.succ_mul];omega
  obtain ⟨k,hk⟩:=Mp (e:=e) (us:=us.take e) fb
  obtain ⟨zs,vs,e1,e2,e3,e4⟩:=WT hN hg jk xs (us.drop e) vX
  refine ⟨(x,k)::zs,vs,La,?_,e3,?_⟩
  ·rw [←ic e us,hk,e2]
   simp [br,bB]
  ·rw [←ic e us]
   have:((x::xs).map g).flatten++jk=g x++((xs.map g).flatten++jk):=aM
   rw [this,WS (by rw [hg,cI];omega),e4,hk]
   simp only [List.map_cons,List.flatten_cons,bB]
   rw [hN,Gf,hg,List.range_eq_range']
def WU{α:Type}{f g:α→List PV}(h:∀x,aJ (f x) (g x)):∀(xs:List α) {js:List PV},aJ ((xs.map f).flatten++js) ((xs.map g).flatten++js)
 | [],js=>aJ.refl js
 | x::xs,js=>by
  have k:∀{ps qs rs ss:List PV},aJ ps qs→aJ rs ss→aJ (ps++rs) (qs++ss):=by
   intro ps
   induction ps with
   | nil=>intro qs rs ss h1 h2;cases qs with
    | nil=>exact h2
    | cons q qs=>exact h1.elim
   | cons p ps ih=>intro qs rs ss h1 h2;cases qs with
    | nil=>exact h1.elim
    | cons q qs=>exact ⟨h1.1,ih h1.2 h2⟩
  simp only [List.map_cons,List.flatten_cons,bB]
  exact k (h x) (WU h xs)
def amP{α:Type}{g:α→List PV}(h:∀x,aF (g x))(xs:List α)(jk:List Value):aF ((xs.map g).flatten++jk.map PV.val):=fun p hp=>by
 rcases List.mem_append.1 hp with hp|hp
 ·obtain ⟨cs,hcs,hp⟩:=List.mem_flatten.1 hp
  obtain ⟨x,_,rfl⟩:=List.mem_map.1 hcs
  exact h x p hp
 ·obtain ⟨v,_,rfl⟩:=List.mem_map.1 hp
  exact PV.bor_val _
def WV{Fz:aA}{w:World}:∀{jk us vs:List Value} {F:List Nat},aP (ls us (jk.map PV.val)) Fz w vs F→us.length=jk.length→aP (jk.map PV.val) Fz w vs F
 | [],us,vs,F,h,hl=>by
  have:us=[]:=kC hl
  subst this;exact h
 | j::jk,[],vs,F,h,hl=>by simp at hl
 | j::jk,u::us,vs,F,h,hl=>by
  obtain ⟨v,vs',F1,F2,rfl,rfl,h1,h2⟩:=h
  exact ⟨v,vs',F1,F2,rfl,rfl,h1.2,WV h2 ym⟩
def amQ{α:Type}{f:α→List PV}{e:Nat}(hf:∀x,(f x).length=e){Fz:aA}{w:World}{zs ys:List (α×(Nat→Value))}(hp:zs.Perm ys):∀{F:List Nat},aP (bY f zs) Fz w (br e zs) F→∃F',F.Perm F'∧aP (bY f ys) Fz w (br e ys) F':=by
 have hone:∀{z:α×(Nat→Value)} {l:List (α×(Nat→Value))} {F:List Nat},aP (bY f (z::l)) Fz w (br e (z::l)) F→∃F1 F2,F=F1++F2∧aP (f z.1) Fz w ((List.range e).map z.2) F1∧aP (bY f l) Fz w (br e l) F2:=by
  intro z l F h
  have h:aP (f z.1++bY f l) Fz w ((List.range e).map z.2++br e l) F:=h
  obtain ⟨v1,v2,F1,F2,e1,rfl,h1,h2⟩:=h.split
  have hl:((List.range e).map z.2).length=v1.length:=by rw [h1.len,hf];simp
  obtain ⟨rfl,rfl⟩:=List.append_inj e1 hl
  exact ⟨F1,F2,rfl,h1,h2⟩
 induction hp with
 | nil=>intro F h;exact ⟨F,List.Perm.refl _,h⟩
 | cons z _ ih=>
  intro F h
  obtain ⟨F1,F2,rfl,h1,h2⟩:=hone h
  obtain ⟨F',k1,k2⟩:=ih h2
  exact ⟨F1++F',iH F1 k1,h1.append k2⟩
 | swap z y l=>
  intro F h
  obtain ⟨F1,F2,rfl,h1,h2⟩:=hone h
  obtain ⟨F3,F4,rfl,h3,h4⟩:=hone h2
  refine ⟨F3++(F1++F4),?_,h3.append (h1.append h4)⟩
  rw [←bB,←bB]
  exact kD _ lR
 | trans _ _ ih1 ih2=>
  intro F h
  obtain ⟨F1,k1,h1⟩:=ih1 h
  obtain ⟨F2,k2,h2⟩:=ih2 h1
  exact ⟨F2,k1.trans k2,h2⟩
section
variable{P:Program}{n:Nat}{h0:Nat→Prop}{w0:World}{Fz0:aA}{σ:St}{Q:Exit→St→Prop}{c:Code}{ops:Array Oper}
def BD{d t G:Nat}{cs qs:List PV}(hd:σ.b d=some (t,cs))(hG:σ.s G=none)(hq:aJ cs qs)(hb:aF qs)(h:∀us:List Value,(∃Fz w,ci cs Fz w us)→SW P n h0 w0 Fz0 c ((σ.setB d (some (t,ls us qs))).set G (some (RV.gh us cs))) Q):SW P n h0 w0 Fz0 c σ Q:=fun a w hc=>by
 obtain ⟨φ,Fz,Fp,hc⟩:=hc
 obtain ⟨cur,h1,h2⟩:=hc.box d _ hd
 have k0:=hc.pull G
 have e0:∀i rv,(σ.set G none).s i=some rv→i≠G∧σ.s i=some rv:=fun i rv hi=>by
  rw [St.set_s] at hi
  split at hi
  ·cases hi
  ·rename_i hne;exact ⟨hne,hi⟩
 have hne:mv Fp (2 * G+1) (2 * d+2)=Fp (2 * d+2):=by
  simp only [mv];rw [if_neg ab,if_neg ab]
 have hgn:mv Fp (2 * G+1) (2 * G+1)=[]:=go
 generalize hFp1:mv Fp (2 * G+1)=Fp1 at k0 hne hgn
 refine h cur.toList ⟨Fz,w,h2.rel⟩ a w ⟨φ,Fz,nz Fp1 (2 * d+2) (2 * G+1),?_⟩
 have hsub:∀r b,b∈nz Fp1 (2 * d+2) (2 * G+1) r→∃r',b∈Fp1 r':=fun r b hb=>by
  rcases LU hb with ⟨_,k⟩|⟨_,_,k⟩
  ·exact ⟨_,k⟩
  ·exact ⟨_,k⟩
 exact { k0 with
  slot:=fun i rv hi=>by
   rw [St.set_s] at hi
   split at hi
   ·rename_i e
    subst e
    injection hi with hi
    subst hi
    show aP cs Fz w cur.toList (nz Fp1 (2 * d+2) (2 * i+1) (2 * i+1))
    simp only [nz,if_true]
    rw [hne];exact h2
   ·rename_i e
    have:=k0.slot i rv (by rw [St.set_s,if_neg e];exact hi)
    simp only [nz]
    rw [if_neg ab,if_neg ab]
    exact this
  box:=fun e bx he=>by
   rw [St.set_b,St.setB_b] at he
   split at he
   ·rename_i e';subst e';injection he with he;subst he
    refine ⟨cur,h1,?_⟩
    simp only [nz]
    rw [if_neg ab,if_pos (by trivial)]
    exact Ge hb (hq.rel h2.rel)
   ·rename_i e'
    obtain ⟨cur',k1,k2⟩:=k0.box e bx he
    refine ⟨cur',k1,?_⟩
    simp only [nz]
    rw [if_neg ab,if_neg ab]
    exact k2
  bxb:=fun e bx he=>by
   have:∃z,(σ.set G none).b e=some z:=by
    rw [St.set_b,St.setB_b] at he
    split at he
    ·rename_i e';subst e';exact ⟨_,hd⟩
    ·exact ⟨_,he⟩
   obtain ⟨z,hz⟩:=this
   obtain ⟨g1,g2,g3⟩:=k0.bxb e z hz
   exact ⟨g1,g2,fun r hr=>by obtain ⟨r',h'⟩:=hsub r _ hr;exact g3 r' h'⟩
  inj:=fun e e' c1 c2 he he'=>by
   have f:∀x y,((σ.setB d (some (t,ls cur.toList qs))).set G (some (RV.gh cur.toList cs))).b x=some y→∃z,(σ.set G none).b x=some z:=by
    intro x y hx
    rw [St.set_b,St.setB_b] at hx
    split at hx
    ·rename_i e';subst e';exact ⟨_,hd⟩
    ·exact ⟨_,hx⟩
   obtain ⟨z1,f1⟩:=f _ _ he
   obtain ⟨z2,f2⟩:=f _ _ he'
   exact k0.inj e e' z1 z2 f1 f2
  dis:=amy k0.dis
  nod:=amz k0.nod
  low:=fun r b hb=>by obtain ⟨r',h'⟩:=hsub r b hb;exact k0.low r' b h' }
def amR{d t G e:Nat}{α:Type}{f g:α→List PV}{fN:α×(Nat→Value)→List PV}{xs:List α}{jk:List Value}(hd:σ.b d=some (t,bU f xs jk))(hG:σ.s G=none)(hN:∀x h,fN (x,h)=fm h 0 (g x))(hg:∀x,(g x).length=e)(hq:∀x,aJ (f x) (g x))(hb:∀x,aF (g x))
  (h:∀zs:List (α×(Nat→Value)),zs.map Prod.fst=xs→SW P n h0 w0 Fz0 c ((σ.setB d (some (t,bU fN zs jk))).set G (some (RV.gh (br e zs) (bY f zs)))) Q):SW P n h0 w0 Fz0 c σ Q:=by
 refine BD hd hG (WU hq xs) (amP hb xs jk) fun us hus=>?_
 intro a w hc
 have hfl:∀x,(f x).length=e:=fun x=>by rw [(hq x).len];exact hg x
 have hlen:us.length=xs.length * e+(jk.map PV.val).length:=by
  obtain ⟨_,_,hr⟩:=hus
  rw [hr.len];unfold bU
  rw [bJ,yy (e:=e) (fun cs hcs=>by obtain ⟨x,_,rfl⟩:=List.mem_map.1 hcs;exact hfl x),bf]
 obtain ⟨zs,vs,e1,e2,e3,e4⟩:=WT hN hg (jk.map PV.val) xs us hlen
 have hvl:(br e zs).length=(bY f zs).length:=by
  unfold br bY
  rw [yy (e:=e) (fun cs hcs=>by obtain ⟨x,_,rfl⟩:=List.mem_map.1 hcs;exact hfl x.1)]
  have:∀l:List (α×(Nat→Value)),(l.map fun z=>(List.range e).map z.2).flatten.length=l.length * e:=by
   intro l;induction l with
   | nil=>simp
   | cons z l ih=>rw [List.map_cons,List.flatten_cons,bJ,ih,List.length_cons,Nat.succ_mul];simp;omega
  rw [this,bf]
 have hfm:bY f zs=(xs.map f).flatten:=by unfold bY;rw [←e1,List.map_map];rfl
 refine h zs e1 a w ?_
 obtain ⟨φ,Fz,Fp,hc⟩:=hc
 refine ⟨φ,Fz,Fp,{ hc with slot:=fun i rv hi=>?_,box:=fun b bx hb'=>?_,bxb:=fun b bx hb'=>?_,inj:=fun b b' c1 c2 hb1 hb2=>?_ }⟩
 ·rw [St.set_s] at hi
  split at hi
  ·rename_i hiG
   injection hi with hi
   subst hi
   have:=hc.slot i _ (by rw [St.set_s,if_pos hiG])
   have this:aP (bU f xs jk) Fz w us (Fp (2 * i+1)):=this
   unfold bU at this
   rw [e2] at this
   obtain ⟨v1,v2,F1,F2,k1,k2,k3,k4⟩:=this.split
   have hF2:F2=[]:=by
    have:∀(jk:List Value) (v2:List Value) (G2:List Nat),aP (jk.map PV.val) Fz w v2 G2→G2=[]:=by
     intro jk
     induction jk with
     | nil=>intro v2 G2 h;exact h.2
     | cons j jk ih=>
      intro v2 G2 h
      obtain ⟨v,vs',F1,F2,_,rfl,h1,h2⟩:=h
      rw [ih _ _ h2,h1.2];rfl
    exact this _ _ _ k4
   obtain ⟨rfl,rfl⟩:=List.append_inj k1 (by rw [hvl,k3.len,hfm])
   show aP (bY f zs) Fz w (br e zs) (Fp (2 * i+1))
   rw [k2,hF2,fV,hfm];exact k3
  ·rename_i hiG
   exact hc.slot i rv (by rw [St.set_s,if_neg hiG];exact hi)
 ·rw [St.set_b,St.setB_b] at hb'
  split at hb'
  ·rename_i hbd
   injection hb' with hb'
   subst hb'
   obtain ⟨cur,k1,k2⟩:=hc.box b (t,ls us ((xs.map g).flatten++jk.map PV.val)) (by rw [St.set_b,St.setB_b,if_pos hbd])
   refine ⟨cur,k1,?_⟩
   have k2:aP (ls us ((xs.map g).flatten++jk.map PV.val)) Fz w cur.toList (Fp (2 * b+2)):=k2
   rw [e4] at k2
   obtain ⟨v1,v2,F1,F2,q1,q2,q3,q4⟩:=k2.split
   rw [q1,q2]
   exact q3.append (WV q4 (by rw [e3,bf]))
  ·rename_i hbd
   exact hc.box b bx (by rw [St.set_b,St.setB_b,if_neg hbd];exact hb')
 ·have:∃z,((σ.setB d (some (t,ls us ((xs.map g).flatten++jk.map PV.val)))).set G (some (RV.gh us (bU f xs jk)))).b b=some z:=by
   rw [St.set_b,St.setB_b] at hb' ⊢
   split at hb'
   ·rename_i hbd;rw [if_pos hbd];exact ⟨_,rfl⟩
   ·rename_i hbd;rw [if_neg hbd];exact ⟨_,hb'⟩
  obtain ⟨z,hz⟩:=this
  exact hc.bxb b z hz
 ·have:∀x y,((σ.setB d (some (t,bU fN zs jk))).set G (some (RV.gh (br e zs) (bY f zs)))).b x=some y→∃z,((σ.setB d (some (t,ls us ((xs.map g).flatten++jk.map PV.val)))).set G (some (RV.gh us (bU f xs jk)))).b x=some z:=by
   intro x y hx
   rw [St.set_b,St.setB_b] at hx ⊢
   split at hx
   ·rename_i hbd;rw [if_pos hbd];exact ⟨_,rfl⟩
   ·rename_i hbd;rw [if_neg hbd];exact ⟨_,hx⟩
  obtain ⟨z1,f1⟩:=this _ _ hb1
  obtain ⟨z2,f2⟩:=this _ _ hb2
  exact hc.inj b b' z1 z2 f1 f2
def Mq{α:Type}{g:α→List PV}{fN:α×(Nat→Value)→List PV}{e:Nat}(hN:∀x h,fN (x,h)=fm h 0 (g x))(hg:∀x,(g x).length=e){Fz:aA}{w:World}:∀{zs:List (α×(Nat→Value))} {js:List PV} {us:List Value},ci ((zs.map fN).flatten++js) Fz w us→∃vs,us=br e zs++vs∧ci js Fz w vs
 | [],js,us,h=>⟨us,rfl,h⟩
 | z::zs,js,us,h=>by
  have hk:∀(ps:List PV) (i:Nat) (k:Nat→Value) (vs:List Value),ci (fm k i ps) Fz w vs→vs=(List.range' i ps.length).map k:=by
   intro ps
   induction ps with
   | nil=>intro i k vs h;exact h
   | cons p ps ih=>
    intro i k vs h
    obtain ⟨v,vs',rfl,h1,h2⟩:=h
    rw [ih _ _ _ h2,h1.1];rfl
  simp only [List.map_cons,List.flatten_cons,bB] at h
  obtain ⟨v1,v2,rfl,h1,h2⟩:=h.split
  obtain ⟨vs,rfl,h3⟩:=Mq hN hg h2
  obtain ⟨x,k⟩:=z
  rw [hN] at h1
  have:=hk _ _ _ _ h1
  rw [hg] at this
  refine ⟨vs,?_,h3⟩
  rw [this]
  simp [br,List.range_eq_range']
def WW{T T2:TypeId}{x y:Operand}{d:Nat}{ty:TypeId}{pos:String}{af:Array Edge}{g:Option (Nat×Bool)}{k k2:IntKind}{i j:Int}{m:Nat}(hm:j=(m:Int))(hb:m≤k.bits)(hx:bG x (RV.sc (.int k i)):=by first|exact True.intro|exact bi rfl)(hy:bG y (RV.sc (.int k2 j)):=by first|exact True.intro|exact bi rfl)(hd:d < n:=by decide) :
  Loc P n ⟨some d,.binOp .shr T x y T2,ty,pos,af,g⟩ ⟨bm x (RV.sc (.int k i))++bm y (RV.sc (.int k2 j)),[],[(d,some (RV.sc (.int k (i.fdiv (2 ^ m)))))],[],none⟩:=by
 subst hm
 refine gJ hd hx hy rfl fun w=>?_
 have h1:¬(m:Int) < 0:=ab
 simp [eqGuard,binOp,Op.shift,h1,Nat.min_eq_left hb]
def WX{i:Int}:i.fdiv (2 ^ 1)=i / 2:=by rw [Int.fdiv_eq_ediv_of_nonneg _ aj];rfl
end
end
section
def pp(L:Nat→Prop)(r r':RV):Prop:=∀{φ:Nat→Nat} {Fz:aA} {w:World} {v:Value} {F:List Nat},(∀b o,Fz b o→L b)→r.holds φ Fz w v F→r'.holds φ Fz w v []
def pp.sv{L:Nat→Prop}{ag:Bool}{cs qs:List PV}(ht:am L cs qs)(hb:aF qs):pp L (RV.sv ag cs) (RV.sv ag qs):=fun hz h=>⟨h.1,hb.own (ht.rel hz h.2.rel)⟩
def pp.ptr{L:Nat→Prop}{d off:Nat}:pp L (RV.ptr d off) (RV.ptr d off):=fun _ h=>⟨h.1,rfl⟩
def qR(L:Nat→Prop):List (Nat×RV)→List (Nat×RV)→Prop
 | [],[]=>True
 | p::l,q::l'=>(p.1=q.1∧pp L p.2 q.2)∧qR L l l'
 | _,_=>False
def qR.cons{L:Nat→Prop}{i:Nat}{r r':RV}{l l':List (Nat×RV)}(h:pp L r r')(k:qR L l l'):qR L ((i,r)::l) ((i,r')::l'):=⟨⟨rfl,h⟩,k⟩
def qR.at_{L:Nat→Prop}{i:Nat}{r':RV}:∀{l l':List (Nat×RV)},qR L l l'→lk l' i=some r'→∃r,lk l i=some r∧pp L r r'
 | [],[],_,h=>by cases h
 | (j,r)::l,(j',q)::l',k,h=>by
  obtain ⟨⟨e,k1⟩,k2⟩:=k
  dsimp only at e
  subst e
  rw [lk,beq_eq] at h ⊢
  by_cases hx:i=j
  ·rw [decide_eq_true hx] at h ⊢
   simp only [cond_true,Option.some.injEq] at h ⊢
   subst h
   exact ⟨r,rfl,k1⟩
  ·rw [decide_eq_false hx] at h ⊢
   simp only [cond_false] at h ⊢
   exact qR.at_ k2 h
section
variable{P:Program}{n:Nat}{h0:Nat→Prop}{w0:World}{Fz0:aA}{Q:Exit→St→Prop}{c:Code}
end
end
section
section
variable{P:Program}{n:Nat}{h0:Nat→Prop}{w0:World}{Fz0:aA}
section
variable{σ:St}{a:Act}{w:World}{φ:Nat→Nat}{Fz:aA}{Fp:Nat→List Nat}
def bP.ghost(h:bP h0 w0 Fz0 n σ a w φ Fz Fp){i:Nat}{rv:RV}{F X:List Nat}(hv:rv.holds φ Fz w (a.tmps.getD i undef) F)(hX:∀b,b∈F++X→b∈Fp 0)(hn:(F++X).Nodup) :
  bP h0 w0 Fz0 n (σ.set i (some rv)) a w φ Fz (dz Fp (2 * i+1) F X) where
 bel:=h.bel
 dfr:=h.dfr
 siz:=h.siz
 hlt:=h.hlt
 fz0:=h.fz0
 fzl:=h.fzl
 slot j rv' hj:=by
  rw [St.set_s] at hj
  split at hj
  ·rename_i hji
   subst hji
   injection hj with hj
   subst hj
   unfold dz
   rw [if_pos rfl];exact hv
  ·rename_i hne
   unfold dz
   rw [if_neg ab,if_neg ab]
   exact h.slot j rv' hj
 box d cs hd:=by
  obtain ⟨cur,h1,h2⟩:=h.box d cs hd
  refine ⟨cur,h1,?_⟩
  unfold dz
  rw [if_neg ab,if_neg ab];exact h2
 bxb d cs hd:=by
  obtain ⟨h1,h2,h3⟩:=h.bxb d cs hd
  refine ⟨h1,h2,fun r hr=>?_⟩
  rcases pj hr with ⟨_,hr⟩|⟨_,_,hr⟩|⟨_,_,hr⟩
  ·exact h3 0 (hX _ om)
  ·exact h3 0 (hX _ om)
  ·exact h3 _ hr
 inj d d' cs cs':=h.inj d d' cs cs'
 dis:=FD ab hX hn h.dis
 nod:=FE hn h.nod
 low r b hb:=by
  rcases pj hb with ⟨_,hr⟩|⟨_,_,hr⟩|⟨_,_,hr⟩
  ·exact h.low 0 b (hX _ om)
  ·exact h.low 0 b (hX _ om)
  ·exact h.low _ b hr
end
section
variable{ops:Array Oper}{Q:Exit→St→Prop}
end
def wk(r r':RV):Prop:=∀{φ:Nat→Nat} {Fz:aA} {w:World} {v:Value} {F:List Nat},r.holds φ Fz w v F→r'.holds φ Fz w v F
def wk.refl{r:RV}:wk r r:=fun h=>h
def wk.sv{ag:Bool}{cs qs:List PV}(h:ir cs qs):wk (RV.sv ag cs) (RV.sv ag qs):=fun hh=>⟨hh.1,h hh.2⟩
def wl(f:Nat→Option RV)(G:Nat):List (Nat×RV)→Prop
 | []=>True
 | p::l'=>(Nat.beq p.1 G=false∧∃r,f p.1=some r∧wk r p.2)∧wl f G l'
def wl.cons{f:Nat→Option RV}{G i:Nat}{r r':RV}{l':List (Nat×RV)}(h1:Nat.beq i G=false)(h2:f i=some r)(h3:wk r r')(k:wl f G l'):wl f G ((i,r')::l'):=⟨⟨h1,r,h2,h3⟩,k⟩
def wl.at_{f:Nat→Option RV}{G i:Nat}{r':RV}:∀{l':List (Nat×RV)},wl f G l'→(i,r')∈l'→i≠G∧∃r,f i=some r∧wk r r'
 | [],_,h=>by simp at h
 | p::l',k,h=>by
  rcases List.mem_cons.1 h with rfl|h
  ·exact ⟨fun e=>by have:=k.1.1;dsimp only at this;rw [e] at this;simp at this,k.1.2⟩
  ·exact wl.at_ k.2 h
variable{Q:Exit→St→Prop}{c:Code}
def WY{σ:St}{s:Nat}{ag:Bool}{cs:List PV}(qs:List PV)(hs:σ.s s=some (RV.sv ag cs))(ht:aJ cs qs)(hb:aF qs)(h:SW P n h0 w0 Fz0 c (σ.set s (some (RV.sv ag qs))) Q):SW P n h0 w0 Fz0 c σ Q:=fun a w hc=>by
 obtain ⟨φ,Fz,Fp,hc⟩:=hc
 have hv:ce ag cs Fz w (a.tmps.getD s undef) (Fp (2 * s+1)):=hc.slot s _ hs
 have c1:=(hc.pull s).reslot (s:=s) (rv:=RV.sv ag qs) (by
  have:mv Fp (2 * s+1) (2 * s+1)=[]:=go
  rw [this]
  exact ⟨hv.1,hb.own (ht.rel hv.2.rel)⟩)
 exact h a w (bC.eqv ⟨φ,Fz,_,c1⟩ (fun i=>by
  simp only [St.set_s]
  split<;>rfl) (fun d=>rfl))
def sJ(L:Nat→Prop):List (Nat×(Nat×List PV))→List (Nat×(Nat×List PV))→Prop
 | [],[]=>True
 | p::b,q::b'=>(p.1=q.1∧p.2.1=q.2.1∧am L p.2.2 q.2.2∧aF q.2.2)∧sJ L b b'
 | _,_=>False
def sJ.cons{L:Nat→Prop}{d t:Nat}{cs qs:List PV}{b b':List (Nat×(Nat×List PV))}(h1:am L cs qs)(h2:aF qs)(k:sJ L b b'):sJ L ((d,(t,cs))::b) ((d,(t,qs))::b'):=⟨⟨rfl,rfl,h1,h2⟩,k⟩
def sJ.at_{L:Nat→Prop}{d t:Nat}{qs:List PV}:∀{b b':List (Nat×(Nat×List PV))},sJ L b b'→lk b' d=some (t,qs)→∃cs,lk b d=some (t,cs)∧am L cs qs∧aF qs
 | [],[],_,h=>by cases h
 | (j,(s,r))::l,(j',(s',q))::l',k,h=>by
  obtain ⟨⟨e,e2,k1⟩,k2⟩:=k
  dsimp only at e e2 k1
  subst e e2
  rw [lk,beq_eq] at h ⊢
  by_cases hx:d=j
  ·rw [decide_eq_true hx] at h ⊢
   simp only [cond_true,Option.some.injEq,Prod.mk.injEq] at h ⊢
   obtain ⟨rfl,rfl⟩:=h
   exact ⟨r,⟨rfl,rfl⟩,k1⟩
  ·rw [decide_eq_false hx] at h ⊢
   simp only [cond_false] at h ⊢
   exact sJ.at_ k2 h
def amS{l:List (Nat×RV)}{b:List (Nat×(Nat×List PV))}(l':(Nat→Prop)→List (Nat×RV))(b':(Nat→Prop)→List (Nat×(Nat×List PV)))(hl:∀L,qR L l (l' L))(hb:∀L,sJ L b (b' L))(h:∀(B:Nat→Prop) (w1:World) (Fz1:aA),SW P n B w1 Fz1 c (St.of (l' B) (b' B)) Q):SW P n h0 w0 Fz0 c (St.of l b) Q:=fun a w hc=>by
 obtain ⟨φ,Fz,Fp,hc⟩:=hc
 obtain ⟨B,hB⟩:∃B:Nat→Prop,B=fun x=>x < w.heap.size∧∀d bx,lk b d=some bx→x≠φ d:=⟨_,rfl⟩
 have hBi:∀x,B x↔(x < w.heap.size∧∀d bx,lk b d=some bx→x≠φ d):=fun x=>by rw [hB]
 have hz:∀x o,Fz x o→B x:=fun x o ho=>(hBi x).2 ⟨hc.fzl x o ho,fun d bx hd e=>(hc.bxb d bx hd).2.1 o (e▸ho)⟩
 have hin:∀x,h0 x→B x:=fun x hx=>(hBi x).2 ⟨hc.hlt x hx,fun d bx hd e=>(hc.bxb d bx hd).1 (e▸hx)⟩
 have hbx:∀d bx,lk (b' B) d=some bx→∃cs,lk b d=some (bx.1,cs)∧am B cs bx.2∧aF bx.2:=fun d bx hd=>(hb B).at_ hd
 have hk:bC B w Fz n (St.of (l' B) (b' B)) a w:=⟨φ,Fz,fun _=>[],{
  bel:=ov.refl _ _
  dfr:=hc.dfr
  siz:=hc.siz
  hlt:=fun x hx=>((hBi x).1 hx).1
  fz0:=fun _ _ _=>Iff.rfl
  fzl:=hc.fzl
  slot:=fun i rv hi=>by
   obtain ⟨r,hr,hlow⟩:=(hl B).at_ (show lk (l' B) i=some rv from hi)
   exact hlow hz (hc.slot i r hr)
  box:=fun d bx hd=>by
   obtain ⟨cs,k1,k2,k3⟩:=hbx d bx hd
   obtain ⟨cur,q1,q2⟩:=hc.box d _ k1
   exact ⟨cur,q1,k3.own (k2.rel hz q2.rel)⟩
  bxb:=fun d bx hd=>by
   obtain ⟨cs,k1,_⟩:=hbx d bx hd
   exact ⟨fun hx=>((hBi _).1 hx).2 d _ k1 rfl,(hc.bxb d _ k1).2.1,fun _ hr=>nomatch hr⟩
  inj:=fun d d' c1 c2 h1 h2=>by
   obtain ⟨_,k1,_⟩:=hbx d c1 h1
   obtain ⟨_,k2,_⟩:=hbx d' c2 h2
   exact hc.inj d d' _ _ k1 k2
  dis:=fun _ _ _ _ hb=>nomatch hb
  nod:=fun _=>List.nodup_nil
  low:=fun _ _ hb=>nomatch hb }⟩
 refine wp_mono (h B w Fz a w hk) fun e a' w' ⟨τ,hq,hc'⟩=>⟨τ,hq,?_⟩
 obtain ⟨φ',Fz',Fp',c'⟩:=hc'
 exact ⟨φ',Fz',Fp',{
  bel:=hc.bel.trans ⟨c'.bel.os,c'.bel.tape,c'.bel.output,c'.bel.size,fun k hk'=>c'.bel.block k (hin k hk')⟩
  dfr:=c'.dfr
  siz:=c'.siz
  hlt:=fun x hx=>Nat.lt_of_lt_of_le (hc.hlt x hx) c'.bel.size
  fz0:=fun x o hx=>(c'.fz0 x o (hin x hx)).trans (hc.fz0 x o hx)
  fzl:=c'.fzl
  slot:=c'.slot
  box:=c'.box
  bxb:=fun d cs hd=>⟨fun hh=>(c'.bxb d cs hd).1 (hin _ hh),(c'.bxb d cs hd).2⟩
  inj:=c'.inj
  dis:=c'.dis
  nod:=c'.nod
  low:=fun r x hx=>⟨fun hh=>(c'.low r x hx).1 (hin _ hh),(c'.low r x hx).2⟩ }⟩
end
end
section
def Mr(P:Program)(f:FuncId)(t:Nat)(args:List (Bool×List PV))(cs:List PV):Prop:=
 ∀(w:World) (vs:List Value) (Fz:aA),(∀b o,Fz b o→b < w.heap.size)→gq args Fz w vs→Calls P f vs.toArray w fun e w'=>∃g Fz' cur,e = .returned (.pointer (some ⟨g,0,none⟩))∧Below w.heap.size w w' ∧
  (∀b o,b < w.heap.size→(Fz' b o↔Fz b o))∧(∀b o,Fz' b o→b < w'.heap.size)∧w.heap.size≤g∧w'.heap[g]?=some (.cells cur t (0,0))∧(∀o,¬Fz' g o)∧aP cs Fz' w' cur.toList []
def Ms(rs t:Nat)(cs:List PV)(τ:St):Prop:=∃D,τ.s rs=some (RV.ptr D 0)∧τ.b D=some (t,cs)
def amT(rs t:Nat)(cs:List PV):Exit→St→Prop
 | .normal,τ=>Ms rs t cs τ
 | .ret,τ=>Ms rs t cs τ
 | _,_=>False
section
variable{P:Program}{n:Nat}{h0:Nat→Prop}{w0:World}{Fz0:aA}
def amU{f:FuncId}{fn:Func}{c:Code}{args:List (Bool×List PV)}{rs t:Nat}{cs:List PV}(hf:P.funcs[f]?=some fn)(hb:fn.body=some c)(hres0:fn.results.toList=[.tmp rs])(hn:args.length≤fn.ntmps)(hbor:∀q,q∈args→aF q.2)(hbc:aF cs)
  (h:∀(h0:Nat→Prop) (w0:World) (Fz0:aA),SW P fn.ntmps h0 w0 Fz0 c (St.of (iK 0 args) []) (amT rs t cs)):Mr P f t args cs:=by
 intro w vs Fz hz hrel
 have hvl:=hrel.len
 refine calls_of_wp hf hb ?_
 have hc:bC (fun b=>b < w.heap.size) w Fz fn.ntmps (St.of (iK 0 args) []) { tmps:=vs.toArray++Array.replicate (fn.ntmps - vs.toArray.size) undef,defers:=[] } w:=by
  refine ⟨fun _=>0,Fz,fun _=>[],⟨ov.refl _ _,rfl,iV,fun _ hb=>hb,fun _ _ _=>Iff.rfl,hz,fun i rv hi=>?_,fun d cs hd=>sw,fun d cs hd=>sw,fun d d' cs cs' hd=>sw,fun _ _ _ b hb=>Fh,fun _=>List.nodup_nil,fun _ b hb=>Fh⟩⟩
  obtain ⟨j,v,e1,e2,e3,e4⟩:=BorT.own (φ:=fun _=>0) hbor hrel hi
  rw [Nat.zero_add] at e1
  subst e1
  have:(vs.toArray++Array.replicate (fn.ntmps - vs.toArray.size) undef).getD i undef=v:=by
   rw [Array.getD_eq_getD_getElem?,Array.getElem?_append_left Fc]
   simp [e3]
  rw [this];exact e4
 refine wp_mono (h _ w Fz _ w hc) fun e a' w' ⟨τ,hq,hc'⟩=>?_
 obtain ⟨φ,Fz',Fp,hc'⟩:=hc'
 have hres:Ms rs t cs τ→a'.defers=[]∧∃v,(results fn a'.tmps).run P w' = .ok v w'∧∃g Fz' cur,Ending.returned v = .returned (.pointer (some ⟨g,0,none⟩))∧Below w.heap.size w w' ∧
   (∀b o,b < w.heap.size→(Fz' b o↔Fz b o))∧(∀b o,Fz' b o→b < w'.heap.size)∧w.heap.size≤g∧w'.heap[g]?=some (.cells cur t (0,0))∧(∀o,¬Fz' g o)∧aP cs Fz' w' cur.toList []:=by
  rintro ⟨D,k1,k2⟩
  have hp:=(hc'.slot rs _ k1).1
  obtain ⟨cur,q1,q2⟩:=hc'.box D _ k2
  obtain ⟨m1,m2,m3⟩:=hc'.bxb D _ k2
  refine ⟨hc'.dfr,?_⟩
  rw [LP]
  have erun:Sem.run P (fn.results.mapM (sC a'.tmps)) w' = .ok #[.pointer (some ⟨φ D,0,none⟩)] w':=by
   rw [Array.mapM_eq_mapM_toList,hres0]
   simp only [map_eq_pure_bind,List.mapM_cons,List.mapM_nil,sC,Sem.run_bind,Sem.run_pure,Result.andThen_ok,hp]
  simp only [Sem.run_bind,erun,Result.andThen_ok,Sem.run_pure]
  exact ⟨_,rfl,φ D,Fz',cur,rfl,⟨hc'.bel.os,hc'.bel.tape,hc'.bel.output,hc'.bel.size,hc'.bel.block⟩,hc'.fz0,hc'.fzl,Nat.le_of_not_lt m1,q1,m2,hbc.own q2.rel⟩
 cases e with
 | normal=>exact hres hq
 | ret=>exact hres hq
 | _=>exact hq.elim
def amV{f d t:Nat}{args:Array Operand}{tys:Array TypeId}{ty:TypeId}{pos:String}{af:Array Edge}{g:Option (Nat×Bool)}{qs as_:List (Bool×List PV)}{cs:List PV}(hd:d < n)(hf:aE P f=true)(hok:mE args.toList qs)(hto:mF qs as_)(hs:Mr P f t as_ cs) :
  Loc P n ⟨some d,.call { callee:=.value (.func f),args:=args,argTypes:=tys },ty,pos,af,g⟩ ⟨kH args.toList qs,[],[(d,some (RV.ptr d 0))],[(d,some (t,cs))],some d⟩:=by
 intro h0 w0 Fz0 σ a w K Q hc hr _ h4 h5
 obtain ⟨φ,Fz,Fp,hc⟩:=hc
 have hrel:=hto.rel (hc.relT hr hok)
 unfold Oper.wp
 rw [Mj hf,Oper.upon_enter]
 refine (hs w _ Fz hc.fzl hrel).mono ?_
 rintro e w' ⟨G,Fz',cur,rfl,hbl,hz1,hz2,hG,hg,hgz,ho⟩
 refine h5 _ _ ?_
 have hglt:G < w'.heap.size:=(Array.getElem?_eq_some_iff.1 hg).1
 have k:=(hc.drop d).world (w':=w') (Fz':=Fz') (X:=[G]) hbl.os hbl.tape hbl.output hbl.size (fun b hb' _=>⟨hbl.block b hb',fun o ho=>(hz1 b o hb').1 ho⟩)
  (fun b o ho=>⟨(hz1 b o (hc.fzl b o ho)).2 ho,World.cell?_of_block (hbl.block b (hc.fzl b o ho))⟩) hz2 (fun b hb'=>.inr (by
   rw [List.mem_singleton] at hb';subst hb';exact ⟨hG,hglt⟩)) aM
 have k2:=k.pushB (d:=d) (g:=G) (t:=t) (cs:=cs) (F:=[]) (X:=[]) nr hg ho hgz (fun b hb=>by simpa using hb) aM (.inr (h4 d rfl))
 have k3:=k2.push (i:=d) (rv:=RV.ptr d 0) (v:=.pointer (some ⟨G,0,none⟩)) (F:=[]) (X:=[]) hd ⟨aM,rfl⟩ (fun b hb=>nomatch hb) aM
 exact bC.eqv ⟨_,_,_,k3⟩ (fun i=>rfl) (fun e=>by
  show bZ [(d,some (t,cs))] σ.b e=_
  rw [St.set_b,St.setB_b,St.setB_b]
  simp only [bZ,beq_eq]
  by_cases he:e=d<;>simp [he])
end
def pq{P:Program}{n x d b off:Nat}{ty:TypeId}{pos:String}{af:Array Edge}{g:Option (Nat×Bool)}(hd:d < n):Loc P n ⟨some d,.nilCheck (.tmp x),ty,pos,af,g⟩ ⟨[(x,RV.ptr b off)],[],[(d,some (RV.ptr b off))],[],none⟩:=by
 intro h0 w0 Fz0 σ a w K Q h1 h2 _ _ h5
 obtain ⟨φ,Fz,Fp,hc⟩:=h1
 have ex:=(hc.slot x _ h2.1).1
 refine ez (v:=.pointer (some ⟨φ b,off,none⟩)) (w':=w) ?_ (h5 _ _ (hc.put0 hd (r:=RV.ptr b off) ⟨rfl,rfl⟩))
 unfold execOp
 simp only [Act.eval,ex,Sem.run_pure]
def pp.phi{L:Nat→Prop}{D g:Nat}:pp L (RV.phi D g) (RV.phi D g):=fun _ h=>⟨h.1,rfl⟩
section
variable{P:Program}{n:Nat}{h0:Nat→Prop}{w0:World}{Fz0:aA}{σ:St}{Q:Exit→St→Prop}{c:Code}
def amW{d t:Nat}{cs:List PV}(cs':List PV)(hd:σ.b d=some (t,cs))(ho:ir cs cs')(h:SW P n h0 w0 Fz0 c (σ.setB d (some (t,cs'))) Q):SW P n h0 w0 Fz0 c σ Q:=fun a w hc=>by
 obtain ⟨φ,Fz,Fp,hc⟩:=hc
 exact h a w ⟨φ,Fz,Fp,hc.rebox hd fun _ k _=>ho k⟩
end
def Gg(x y:Int):Int:=IntKind.i64.wrap (x * y)
def wm(x y:Int):Int:=IntKind.i64.wrap (x+y)
def sK(x y:Int):Int:=IntKind.i64.wrap (BitVec.ofInt 64 x &&& BitVec.ofInt 64 y).toNat
def Gh(x y:Int):Int:=IntKind.i64.wrap (BitVec.ofInt 64 x ^^^ BitVec.ofInt 64 y).toNat
def WZ{x:Int}{m:Nat}(hm:m < 2 ^ 62):0≤sK x (m:Int)∧sK x (m:Int)≤m:=by
 have e:(BitVec.ofInt 64 (m:Int)).toNat=m:=by
  rw [BitVec.toNat_ofInt]
  omega
 have h:(BitVec.ofInt 64 x &&& BitVec.ofInt 64 (m:Int)).toNat≤m:=by
  rw [BitVec.toNat_and,e];exact Nat.and_le_right
 unfold sK
 rw [IntWalk.i64_in _ ab]
 omega
section
variable{P:Program}{n:Nat}{T T2:TypeId}{x y:Operand}{d:Nat}{ty:TypeId}{pos:String}{af:Array Edge}{g:Option (Nat×Bool)}{i j:Int}
def Xa(hd:d < n)(hx:bG x (RV.int i))(hy:bG y (RV.int j)):Loc P n ⟨some d,.binOp .mul T x y T2,ty,pos,af,g⟩ ⟨bm x (RV.int i)++bm y (RV.int j),[],[(d,some (RV.int (Gg i j)))],[],none⟩:=
 gJ hd hx hy rfl fun w=>by simp [eqGuard,binOp,Op.intArith,Gg]
def Gi(hd:d < n)(hx:bG x (RV.int i))(hy:bG y (RV.int j)):Loc P n ⟨some d,.binOp .add T x y T2,ty,pos,af,g⟩ ⟨bm x (RV.int i)++bm y (RV.int j),[],[(d,some (RV.int (wm i j)))],[],none⟩:=
 gJ hd hx hy rfl fun w=>by simp [eqGuard,binOp,Op.intArith,wm]
def Mt(hd:d < n)(hx:bG x (RV.int i))(hy:bG y (RV.int j)):Loc P n ⟨some d,.binOp .and T x y T2,ty,pos,af,g⟩ ⟨bm x (RV.int i)++bm y (RV.int j),[],[(d,some (RV.int (sK i j)))],[],none⟩:=
 gJ hd hx hy rfl fun w=>by simp [eqGuard,binOp,Op.intBits,IntKind.bits];unfold sK;rw [BitVec.toNat_and,BitVec.toNat_ofInt,BitVec.toNat_ofInt];rfl
def Xb(hd:d < n)(hx:bG x (RV.int i))(hy:bG y (RV.int j)):Loc P n ⟨some d,.binOp .xor T x y T2,ty,pos,af,g⟩ ⟨bm x (RV.int i)++bm y (RV.int j),[],[(d,some (RV.int (Gh i j)))],[],none⟩:=
 gJ hd hx hy rfl fun w=>by simp [eqGuard,binOp,Op.intBits,IntKind.bits];unfold Gh;rw [BitVec.toNat_xor,BitVec.toNat_ofInt,BitVec.toNat_ofInt];rfl
end
end
section
abbrev av:=List UInt8
abbrev B(l:av):ByteArray:=⟨l.toArray⟩
abbrev RV.str(l:av):RV:=RV.sc (.string (B l))
section
variable{P:Program}{n:Nat}{T T2:TypeId}{x y:Operand}{d:Nat}{ty:TypeId}{pos:String}{af:Array Edge}{g:Option (Nat×Bool)}{s t:av}
def amX{w:World}(h:s.length+t.length≤9223372036854775807):Sem.run P (do eqGuard .add T x y (.string (B s)) (.string (B t));binOp .add T (.string (B s)) (.string (B t)):Sem Value) w = .ok (.string (B (s++t))) w:=by
 have e:=run_string_add_sum (P:=P) w (B s) (B t) h
 rw [ByteArray.mk_append_mk] at e
 simp [eqGuard,binOp,e]
def fA(hx:bG x (RV.str s):=by first|exact True.intro|exact bi rfl)(hy:bG y (RV.str t):=by first|exact True.intro|exact bi rfl)(h:s.length+t.length≤9223372036854775807:=by (try simp only [bJ,List.length_cons,List.length_nil]);omega)(hd:d < n:=by decide):Loc P n ⟨some d,.binOp .add T x y T2,ty,pos,af,g⟩ ⟨bm x (RV.str s)++bm y (RV.str t),[],[(d,some (RV.str (s++t)))],[],none⟩:=
 gJ hd hx hy rfl fun w=>amX h
def qS(hx:bG x (RV.str s):=by first|exact True.intro|exact bi rfl)(hy:bG y (RV.str t):=by first|exact True.intro|exact bi rfl)(hd:d < n:=by decide):Loc P n ⟨some d,.binOp .eql T x y T2,ty,pos,af,g⟩ ⟨bm x (RV.str s)++bm y (RV.str t),[],[(d,some (RV.bool (s==t)))],[],none⟩:=
 gJ hd hx hy rfl fun w=>by simp [eqGuard,binOp,Op.stringOp,ByteArray.toList_mk]
def qT(hx:bG x (RV.str s):=by first|exact True.intro|exact bi rfl)(hy:bG y (RV.str t):=by first|exact True.intro|exact bi rfl)(hd:d < n:=by decide):Loc P n ⟨some d,.binOp .neq T x y T2,ty,pos,af,g⟩ ⟨bm x (RV.str s)++bm y (RV.str t),[],[(d,some (RV.bool (!(s==t))))],[],none⟩:=
 gJ hd hx hy rfl fun w=>by simp [eqGuard,binOp,Op.stringOp,ByteArray.toList_mk]
def pt(hT:P.underlying T=some .string){k:Nat}(hd:d < n:=by decide):Loc P n ⟨some d,.call { callee:=.builtin .len,args := #[.tmp k],argTypes := #[T] },ty,pos,af,g⟩ ⟨[(k,RV.str s)],[],[(d,some (RV.int (s.length:Int)))],[],none⟩:=
 ame (b:=B s) hd hT
def Gj{s:ByteArray}{lo hi:Option Value}(w:World)(hT:P.underlying T=some .string):Sem.run P (Instr.sliceAt T (.string s) lo hi none) w=Sem.run P (Instr.slice T (.string s) lo hi none) w:=by
 simp only [Instr.sliceAt,Sem.run_bind,run_underlying hT,Result.andThen_ok]
def Gk{lo hi:Option Operand}{k:Nat}{i j:Nat}{q r:Int}(hT:P.underlying T=some .string)(hlo:wg lo (i=0) (RV.int q))(hhi:wg hi (j=s.length) (RV.int r))(hq:q=(i:Int))(hr:r=(j:Int))(hij:i≤j)(hj:j≤s.length){u:av}(hu:(s.take j).drop i=u)(hd:d < n:=by decide) :
  Loc P n ⟨some d,.slice T (.tmp k) lo hi none,ty,pos,af,g⟩ ⟨(k,RV.str s)::(yB lo (RV.int q)++yB hi (RV.int r)),[],[(d,some (RV.str u))],[],none⟩:=by
 subst hq hr hu
 have e:∀a b:Nat,(B s).extract a b=B ((s.drop a).take (b - a)):=ByteArray.extract_mk s
 have hsz:(B s).size=s.length:=rfl
 intro h0 w0 Fz0 σ a w K Q hc hr _ _ h5
 obtain ⟨φ,Fz,Fp,hc⟩:=hc
 have ev:a.eval (.tmp k) = .string (B s):=(hc.one_ hr.1).1
 have hres:(s.take j).drop i=(s.drop i).take (j - i):=by rw [List.take_drop,Nat.add_sub_cancel' hij]
 refine ez (v:=.string (B ((s.take j).drop i))) (w':=w) ?_ (h5 _ _ (hc.put0 hd (ce.of_sc rfl)))
 rw [hres]
 unfold execOp
 cases lo with
 | none=>
  have hi0:i=0:=hlo
  subst hi0
  cases hi with
  | none=>
   have hj0:j=s.length:=hhi
   subst hj0
   simp only [Option.map_none,ev,Gj _ hT,run_slice_string_all _ _ _ hT,e,hsz,Sem.run_bind,Result.andThen_ok,Sem.run_pure]
  | some y=>
   have ey:=hc.sc hr.2 hhi
   have hc2:(0:Int)≤(j:Int)∧(j:Int)≤((B s).size:Int):=by rw [hsz];omega
   simp only [Option.map_none,Option.map_some,Gj _ hT,ev,ey,run_slice_string_to_if _ _ _ _ _ hT,if_pos hc2,e,Sem.run_bind,Result.andThen_ok,Sem.run_pure,Int.toNat_natCast]
 | some x=>
  have ex:=hc.sc hr.2.left hlo
  cases hi with
  | none=>
   have hj0:j=s.length:=hhi
   subst hj0
   have hc2:(0:Int)≤(i:Int)∧(i:Int)≤((B s).size:Int):=by rw [hsz];omega
   simp only [Option.map_none,Option.map_some,Gj _ hT,ev,ex,run_slice_string_from_if _ _ _ _ _ hT,if_pos hc2,e,Sem.run_bind,Result.andThen_ok,Sem.run_pure,Int.toNat_natCast]
   rfl
  | some y=>
   have ey:=hc.sc hr.2.right hhi
   simp only [Option.map_none,Option.map_some,Gj _ hT,ev,ex,ey,run_slice_string _ _ _ _ _ _ _ hT (by omega:(0:Int)≤(i:Int)) (by omega:(i:Int)≤(j:Int)) (by rw [hsz];omega:(j:Int)≤((B s).size:Int)),e,Sem.run_bind,Result.andThen_ok,Sem.run_pure,Int.toNat_natCast]
def ii(xs:List Int):av:=xs.map fun n=>UInt8.ofNat n.toNat
def Xc:∀(ns:List Int) (s:av),ns.foldl (fun r n=>r.push (UInt8.ofNat n.toNat)) (B s)=B (s++ii ns)
 | [],s=>by simp [ii]
 | n::ns,s=>by
  rw [List.foldl_cons,show (B s).push (UInt8.ofNat n.toNat)=B (s++[UInt8.ofNat n.toNat]) from by apply ByteArray.ext;simp [ByteArray.push],Xc ns]
  simp [ii]
def Xd{T D e k:Nat}{xs:List Int}{o:Fl}{f:Int→List PV}(hS:P.underlying T=some (.slice e))(he:P.underlying e=some (.int .u8))(hD:P.underlying D=some .string)(hf:∀x,f x=[PV.val (.int .u8 x)])(hd:d < n:=by decide) :
  Loc P n ⟨some d,.convert T D (.tmp k),ty,pos,af,g⟩ ⟨[(k,RV.slc o (xs.map f))],[],[(d,some (RV.str (ii xs)))],[],none⟩:=by
 intro h0 w0 Fz0 σ a w K Q hc hr _ _ h5
 obtain ⟨φ,Fz,Fp,hc⟩:=hc
 obtain ⟨ad,c,e',u,ev,h1,h2,h3,h4,h6⟩:=hc.slrel hr.1
 have es':a.eval (.tmp k) = .slice ad xs.length c:=by rw [←bf (f:=f)];exact ev
 refine ez (v:=.string (B (ii xs))) (w':=w) ?_ (h5 _ _ (hc.put0 hd (ce.of_sc rfl)))
 unfold execOp
 simp only [es',Sem.run_bind,run_convert_bytes_string _ _ _ _ _ _ _ hS he hD]
 rcases h4 with h4|⟨b,off,rfl,h4⟩
 ·have hx:xs=[]:=by simpa using h4
  subst hx
  cases ad with
  | none=>simp [Conv.bytesToString,ii];rfl
  | some ad=>
   rw [run_bytesToString w ad _ c [] (by simp [loadCells,loadCellsFrom])]
   simp [ii];rfl
 ·have hcells:∀(j:Nat) v,(xs.map (Value.int .u8))[j]?=some v→w.cell? ((⟨b,off,none⟩:Addr).add j)=some v:=by
   intro j v hv
   rw [List.getElem?_map,Option.map_eq_some_iff] at hv
   obtain ⟨x,hx,rfl⟩:=hv
   have hj:j < xs.length:=(List.getElem?_eq_some_iff.1 hx).1
   have hm:(xs.map f)[j]?=some [PV.val (.int .u8 x)]:=by rw [List.getElem?_map,hx,←hf];rfl
   have he1:e'=1:=(h3 _ (List.mem_of_getElem? hm)).symm
   subst he1
   have hu:=(h6 j _ 0 _ hm rfl).1
   have:=(h4 j 0 (by simpa using hj) aj).2
   rw [hu] at this
   rw [ow]
   simpa using this
  have hl:=run_loadCells_list (P:=P) (w:=w) ⟨b,off,none⟩ (xs.map (Value.int .u8)) hcells
  rw [bf] at hl
  rw [run_bytesToString w _ _ c xs hl]
  have:=Xc xs []
  rw [show (B []:ByteArray)=ByteArray.empty from rfl,List.nil_append] at this
  simp [this]
def Mu{T D e k:Nat}{z:Int}{o:Fl}(hS:P.underlying T=some (.slice e))(he:P.underlying e=some (.int .u8))(hD:P.underlying D=some .string)(hd:d < n:=by decide) :
  Loc P n ⟨some d,.convert T D (.tmp k),ty,pos,af,g⟩ ⟨[(k,RV.slc o [[PV.val (.int .u8 z)]])],[],[(d,some (RV.str (ii [z])))],[],none⟩:=
 Xd (xs:=[z]) (f:=fun x=>[PV.val (.int .u8 x)]) hS he hD (fun _=>rfl) hd
def amY{i j:Int}(hx:bG x (RV.int i):=by first|exact True.intro|exact bi rfl)(hy:bG y (RV.int j):=by first|exact True.intro|exact bi rfl)(hj:j≠0:=by omega)(h:ee (i.tdiv j):=by unfold ee;omega)(hd:d < n:=by decide):Loc P n ⟨some d,.binOp .quo T x y T2,ty,pos,af,g⟩ ⟨bm x (RV.int i)++bm y (RV.int j),[],[(d,some (RV.int (i.tdiv j)))],[],none⟩:=
 gJ hd hx hy rfl fun w=>by
  have e:IntKind.i64.wrap (i.tdiv j)=i.tdiv j:=IntWalk.i64_in _ h
  simp [eqGuard,binOp,Op.intDiv,hj,e]
def Mv{i:Int}{k:Nat}(h:ee (-i):=by unfold ee;omega)(hd:d < n:=by decide):Loc P n ⟨some d,.unOp .neg T (.tmp k),ty,pos,af,g⟩ ⟨[(k,RV.int i)],[],[(d,some (RV.int (-i)))],[],none⟩:=by
 intro h0 w0 Fz0 σ a w K Q hc hr _ _ h5
 obtain ⟨φ,Fz,Fp,hc⟩:=hc
 have es':a.eval (.tmp k) = .int .i64 i:=(hc.one_ hr.1).1
 have e:IntKind.i64.wrap (-i) = -i:=IntWalk.i64_in _ h
 refine ez (v:=.int .i64 (-i)) (w':=w) ?_ (h5 _ _ (hc.put0 hd (ce.of_sc rfl)))
 unfold execOp
 simp [es',Op.unary,Op.intArith,e]
end
structure pu where
 rel:aA→World→Prop
 mono:∀{Fz Fz':aA} {w w':World},rel Fz w→gX Fz w Fz' w'→rel Fz' w'
def RV.glob(G:pu):RV where
 holds _ Fz w _ F:=G.rel Fz w∧F=[]
 men _:=false
 mono h k _ _:=⟨G.mono h.1 k,h.2⟩
 lt h:=oj
def gu(P:Program)(G:pu)(f:FuncId)(args:List (Bool×List PV))(r:RV):Prop:=
 ∀(w:World) (vs:List Value) (Fz:aA),(∀b o,Fz b o→b < w.heap.size)→G.rel Fz w→gq args Fz w vs→Calls P f vs.toArray w fun e w'=>∃v Fz' F,e = .returned v∧Below w.heap.size w w' ∧
  (∀b o,b < w.heap.size→(Fz' b o↔Fz b o))∧(∀b o,Fz' b o→b < w'.heap.size)∧(∀φ,r.holds φ Fz' w' v F)∧F.Nodup∧∀b,b∈F→w.heap.size≤b∧b < w'.heap.size
def aQ.g{P:Program}{G:pu}{f:FuncId}{args:List (Bool×List PV)}{r:RV}(h:aQ P f args r):gu P G f args r:=fun w vs Fz hz _ hr=>h w vs Fz hz hr
section
variable{P:Program}{n:Nat}{G:pu}
def amZ{f d:Nat}{args:Array Operand}{tys:Array TypeId}{ty:TypeId}{pos:String}{af:Array Edge}{g:Option (Nat×Bool)}{qs as_:List (Bool×List PV)}{r:RV}(hd:d < n)(hf:aE P f=true)(hok:mE args.toList qs)(hto:mF qs as_)(hs:gu P G f as_ r) :
  Loc P n ⟨some d,.call { callee:=.value (.func f),args:=args,argTypes:=tys },ty,pos,af,g⟩ ⟨(7000,RV.glob G)::kH args.toList qs,[],[(d,some r)],[],none⟩:=by
 intro h0 w0 Fz0 σ a w K Q hc hr _ _ h5
 obtain ⟨φ,Fz,Fp,hc⟩:=hc
 have hG:G.rel Fz w:=(hc.slot 7000 _ hr.1).1
 have hrel:=hto.rel (hc.relT hr.2 hok)
 unfold Oper.wp
 rw [Mj hf,Oper.upon_enter]
 refine (hs w _ Fz hc.fzl hG hrel).mono ?_
 rintro e w' ⟨v,Fz',F,rfl,hb,hz1,hz2,hv,hn,hF⟩
 refine h5 _ _ ?_
 have k:=hc.world (w':=w') (Fz':=Fz') (X:=F) hb.os hb.tape hb.output hb.size (fun b hb' _=>⟨hb.block b hb',fun o ho=>(hz1 b o hb').1 ho⟩)
  (fun b o ho=>⟨(hz1 b o (hc.fzl b o ho)).2 ho,World.cell?_of_block (hb.block b (hc.fzl b o ho))⟩) hz2 (fun b hb'=>.inr (hF b hb')) hn
 exact ⟨φ,Fz',_,k.push (i:=d) (rv:=r) (v:=v) (F:=F) (X:=[]) hd (hv φ) (fun b hb=>by simpa using hb) EW⟩
def lX{f:FuncId}{fn:Func}{c:Code}{args rs:List (Bool×List PV)}(hf:P.funcs[f]?=some fn)(hb:fn.body=some c)(hn:args.length≤fn.ntmps)(hbor:∀q,q∈args→aF q.2)
  (h:∀(h0:Nat→Prop) (w0:World) (Fz0:aA),SW P fn.ntmps h0 w0 Fz0 c (St.of ((7000,RV.glob G)::iK 0 args) []) (yx P fn.results.toList rs)):gu P G f args (aB rs):=by
 intro w vs Fz hz hG hrel
 refine LQ hf hb hn hbor w Fz ?_ vs hz hrel
 intro a w' hc
 obtain ⟨φ,Fz',Fp,hc⟩:=hc
 have hG':G.rel Fz' w':=G.mono hG fun b o hb=>⟨(hc.fz0 b o (hz b o hb)).2 hb,World.cell?_of_block (hc.bel.block b (hz b o hb))⟩
 have k:=hc.pull 7000
 refine h _ w Fz a w' ⟨φ,Fz',_,{ k with slot:=fun i rv hi=>?_ }⟩
 by_cases h7:i=7000
 ·subst h7
  have e:(St.of ((7000,RV.glob G)::iK 0 args) []).s 7000=some (RV.glob G):=rfl
  rw [e] at hi
  injection hi with hi
  subst hi
  exact ⟨hG',go⟩
 ·have e:(St.of ((7000,RV.glob G)::iK 0 args) []).s i=(St.of (iK 0 args) []).s i:=by
   simp [St.of,lk,beq_eq,h7]
  rw [e] at hi
  exact k.slot i rv (by rw [St.set_s,if_neg h7];exact hi)
end
section
variable{P:Program}{G:pu}{f:FuncId}
def am0{w w':World}(h:∃k os,w'=Sort.grow (w.drewN k) os):Below w.heap.size w w':=by
 obtain ⟨k,os,rfl⟩:=h
 exact ⟨rfl,rfl,rfl,by simp [Sort.grow,World.drewN],fun b hb=>by simp [Sort.grow,World.drewN,Array.getElem?_append_left hb]⟩
def Gl{w w':World}{Fz:aA}{s:av}(hz:∀b o,Fz b o→b < w.heap.size)(hb:Below w.heap.size w w'):∃v Fz' F,Ending.returned (.string (B s)) = .returned v∧Below w.heap.size w w' ∧
  (∀b o,b < w.heap.size→(Fz' b o↔Fz b o))∧(∀b o,Fz' b o→b < w'.heap.size)∧(∀φ,(RV.str s).holds φ Fz' w' v F)∧F.Nodup∧∀b,b∈F→w.heap.size≤b∧b < w'.heap.size:=
 ⟨_,Fz,[],rfl,hb,fun _ _ _=>Iff.rfl,fun b o h=>Nat.lt_of_lt_of_le (hz b o h) hb.size,fun _=>ce.of_sc rfl,List.nodup_nil,fun b hb=>by simp at hb⟩
def lm.sc{v x:Value}{Fz:aA}{w:World}(h:lm false [PV.val x] Fz w v):v=x:=(ce.sc ⟨h.1,(aF.cons (PV.bor_val _) aF.nil).own h.2⟩).1
def lm.sl{v:Value}{es:List (List PV)}{Fz:aA}{w:World}(h:lm false [PV.sl .v es] Fz w v):qH es Fz w v:=
 (ce.atom (p:=PV.sl .v es) ⟨h.1,(aF.cons (PV.bor_sl _) aF.nil).own h.2⟩).1
def am1(tab:∀{Fz w},G.rel Fz w→Lib.TabIs P w "internal/strconv.uint64pow10" .u64 Lib.pow10Tab)
  (c:∀(n:Int),-9223372036854775808≤n→n≤9223372036854775807→∀(w:World),Lib.TabIs P w "internal/strconv.uint64pow10" .u64 Lib.pow10Tab→Calls P f #[.int .i64 n] w fun e w'=>e = .returned (.string ⟨(Lib.itoa n).toArray⟩)∧∃k os,w'=Sort.grow (w.drewN k) os)
  {n:Int} (hn:ee n):gu P G f [(false,[PV.val (vI n)])] (aB [(false,[PV.val (.string (B (Lib.itoa n)))])]):=by
 intro w vs Fz hz hG hr
 obtain ⟨v,vs',rfl,h1,rfl⟩:=hr
 have e:v=vI n:=lm.sc h1
 subst e
 refine (c n hn.1 hn.2 w (tab hG)).mono ?_
 rintro e w' ⟨rfl,hw⟩
 exact Gl hz (am0 hw)
def ja(xs:List av)(sep:av):av:=Lib.join xs sep
def am2{e:av→List PV}(he:∀x,e x=[PV.val (.string (B x))])
  (c0:∀(a:Option Addr) (c:Nat) (sep:ByteArray) (w:World),Calls P f #[.slice a 0 c,.string sep] w fun e w'=>e = .returned (.string ⟨#[]⟩)∧w'=w)
  (c:∀(bk o c:Nat) (xs:List ByteArray) (sep:ByteArray) (w:World),(∀(j:Nat) x,xs[j]?=some x→w.cell? ⟨bk,o+j,none⟩=some (.string x))→bk < w.heap.size→xs.length≤140737488355328→xs.length≤c→(Lib.join (xs.map (·.data.toList)) sep.data.toList).length≤140737488355328 →
   Calls P f #[.slice (some ⟨bk,o,none⟩) xs.length c,.string sep] w fun e w'=>e = .returned (.string ⟨(Lib.join (xs.map (·.data.toList)) sep.data.toList).toArray⟩)∧Below w.heap.size w w')
  {xs:List av} {sep:av} (hx:xs.length≤140737488355328) (hl:(ja xs sep).length≤140737488355328):aQ P f [(false,[PV.sl .v (xs.map e)]),(false,[PV.val (.string (B sep))])] (aB [(false,[PV.val (.string (B (ja xs sep)))])]):=by
 intro w vs Fz hz hr
 obtain ⟨v,vs',rfl,h1,v2,vs2,rfl,h2,rfl⟩:=hr
 have e2:v2 = .string (B sep):=lm.sc h2
 subst e2
 obtain ⟨ad,cp,e',u,rfl,k1,k2,k3,k4,k5⟩:=lm.sl h1
 have em:(xs.map B).map (·.data.toList)=xs:=by rw [List.map_map];exact List.map_id _
 rw [bf] at k1 k4 ⊢
 rcases k4 with k4|⟨b,off,rfl,k4⟩
 ·have hx:xs=[]:=by simpa using k4
  subst hx
  refine (c0 ad cp (B sep) w).mono ?_
  rintro e w' ⟨rfl,rfl⟩
  exact Gl (s:=[]) hz (Below.refl _ _)
 ·have hc:∀(j:Nat) x,(xs.map B)[j]?=some x→w.cell? ⟨b,off+j,none⟩=some (.string x)∧Fz b (off+j):=by
   intro j x hj
   rw [List.getElem?_map,Option.map_eq_some_iff] at hj
   obtain ⟨y,hy,rfl⟩:=hj
   have hlt:j < xs.length:=(List.getElem?_eq_some_iff.1 hy).1
   have hm:(xs.map e)[j]?=some [PV.val (.string (B y))]:=by rw [List.getElem?_map,hy,←he];rfl
   have he1:e'=1:=(k3 _ (List.mem_of_getElem? hm)).symm
   subst he1
   have hu:=(k5 j _ 0 _ hm rfl).1
   have:=k4 j 0 hlt aj
   rw [hu] at this
   simpa using this.symm
  by_cases h0:xs=[]
  ·subst h0
   refine (c0 (some ⟨b,off,none⟩) cp (B sep) w).mono ?_
   rintro e w' ⟨rfl,rfl⟩
   exact Gl (s:=[]) hz (Below.refl _ _)
  ·have hlt:0 < xs.length:=List.length_pos_iff.2 h0
   have hb:b < w.heap.size:=hz b _ (hc 0 (B (xs[0])) (by simp [hlt])).2
   have:=c b off cp (xs.map B) (B sep) w (fun j x hj=>(hc j x hj).1) hb Be (by simpa using k1) (by rw [em];exact hl)
   rw [em,bf] at this
   refine this.mono ?_
   rintro e w' ⟨rfl,hw⟩
   exact Gl hz hw
def am3{Fz Fz':aA}{w w':World}{g:Nat}{nm:String}{k:IntKind}{zs:List Int}(hg:P.globalNamed nm=some g)(hz:0 < zs.length)(h:(∀o,Fz g o)∧Lib.TabIs P w nm k zs)(hk:gX Fz w Fz' w'):(∀o,Fz' g o)∧Lib.TabIs P w' nm k zs:=by
 refine ⟨fun o=>(hk g o (h.1 o)).1,?_⟩
 have hc:∀o,w'.cell? ⟨g,o,none⟩=w.cell? ⟨g,o,none⟩:=fun o=>(hk g o (h.1 o)).2
 have h2:=h.2
 unfold Lib.TabIs World.var? at h2 ⊢
 rw [hg] at h2 ⊢
 simp only [Option.bind_some] at h2 ⊢
 cases hw:w.heap[g]? with
 | none=>rw [hw] at h2;cases h2
 | some o=>
  cases o with
  | cells cs t fr=>
   rw [hw] at h2
   injection h2 with h2
   have hc1:∀o,w.cell? ⟨g,o,none⟩=cs[o]?:=fun o=>by simp [World.cell?,hw]
   have h0:(w'.cell? ⟨g,0,none⟩).isSome=true:=by rw [hc,hc1,h2];simp [hz]
   cases hw':w'.heap[g]? with
   | none=>simp [World.cell?,hw'] at h0
   | some o'=>
    cases o' with
    | cells cs' t' fr'=>
     have hc2:∀o,w'.cell? ⟨g,o,none⟩=cs'[o]?:=fun o=>by simp [World.cell?,hw']
     rw [←h2]
     show some cs'=some cs
     congr 1
     apply Array.ext_getElem?
     intro i
     rw [←hc2,hc,hc1]
    | _=>simp [World.cell?,hw'] at h0
  | _=>rw [hw] at h2;cases h2
def Xe(P:Program)(g:Nat)(hg:P.globalNamed "internal/strconv.uint64pow10" = some g):pu where
 rel Fz w:=(∀o,Fz g o)∧Lib.TabIs P w "internal/strconv.uint64pow10" .u64 Lib.pow10Tab
 mono h k:=am3 hg aj h k
end
end
end Go.Proofs.YtmekkgdboplbjaaGreatDoor.M
namespace Go.Proofs.YtmekkgdboplbjaaGreatDoor.M
open Go Go.RowKit Go.ChangeShapes Go.WideShapes
section
section
variable{H:Type}{enc:TypeId×Value→H}{P:Program}{W W':World}
def Xf{sp:Nat→Bool}(hl:laidOutB P=true)(hsame:∀p:MemPlace,p.block < W.heap.size→W.sameAt W' p):∀{ts:List TypeId} {vs:List Value} {ds:List (DataW H)} {ps:List MemPlace},(ts.all fun t=>P.readableRec t&&Nat.blt t P.types.size)=true →
  DataW.TrodAll enc P W 0 (fun _=>true) true ts vs ds ps→(∀p∈ps,p.block < W.heap.size)→(∀p∈ps,sp p.block=true)→DataW.TrodAll enc P W' 0 sp true ts vs ds ps
 | [],vs,ds,ps,_,h,_,_=>by
  obtain ⟨rfl,rfl,rfl⟩:=trodAll_nil h
  exact trodAll_mk0
 | t::ts,vs,ds,ps,ht,h,hlt,hs=>by
  obtain ⟨v,vs',d,ds',p,q,rfl,rfl,rfl,h1,h2⟩:=trodAll_cons h
  rw [List.all_cons,aX,aX,Nat.blt_eq] at ht
  exact trodAll_cons_mk (WideElems.Trod_stays hl ht.1.1 ht.1.2 h1 (fun x hx=>hsame x (hlt x gC)) (fun x hx=>hs x gC))
   (Xf hl hsame ht.2 h2 (fun x hx=>hlt x gC) (fun x hx=>hs x gC))
def am4{f:Func}{s:ChangeSpec}{args:Array Value}{ds gs:List (DataW H)}{before:List MemPlace}{k:FuncId}{bt:TypeId}(hl:laidOutB P=true)(hr:(f.params.toList.all fun t=>P.readableRec t&&Nat.blt t P.types.size)=true)
  (hW:DataW.Whole enc P f.params.toList s.vars false W args.toList ds gs before) (hv:s.vars=[]) (hrt:f.resultTypes = #[bt]) (hbt:P.underlying bt=some .bool) (hfn:s.fn H (ds++gs)={ results:=[.lit (.bool true)],args:=ds })
  (hcall:Calls P k args W fun e w'=>e = .returned (.bool true)∧Below W.heap.size W w') :
  Calls P k args W fun e W'=>∃v,e = .returned v∧s.post enc P f false true false false W args v W':=by
 refine hcall.mono fun e W' ⟨he,hb⟩=>⟨_,he,?_⟩
 have hlt:∀p∈before,p.block < W.heap.size:=fun p hp=>hW.lt p hp
 have hW':=hW
 obtain ⟨pa,q,hA,hV,rfl,hz,hn⟩:=hW
 rw [hv] at hV
 obtain ⟨rfl,rfl⟩:=trodVars_none hV
 have hres:∀(b:Nat) (sp:Nat→Bool) (hd:Bool),DataW.TrodAll enc P W' b sp hd f.resultTypes.toList ((Value.bool true).resultList f.resultTypes.size) (s.fn H (ds++[])).results []:=by
  intro b sp hd
  rw [hfn,hrt]
  exact trodAll_cons_mk (p':=[]) (shut_bool hbt _) trodAll_mk0
 have hargs:∀sp:Nat→Bool,(∀p∈pa++[],sp p.block=true)→DataW.TrodAll enc P W' 0 sp true f.params.toList args.toList (s.fn H (ds++[])).args pa:=by
  intro sp hs
  rw [hfn]
  exact Xf hl (fun p hp=>hb.same hp) hr hA (fun p hp=>hlt p Bg) (fun p hp=>hs p Bg)
 have hvars:∀sp:Nat→Bool,DataW.TrodVars enc P W' sp s.vars (s.fn H (ds++[])).vars []:=by
  intro sp
  rw [hfn,hv]
  exact rfl
 have hold:∀p∈pa++[],(fun b=>decide (b < W.heap.size)) p.block=true:=fun p hp=>by simpa using hlt p hp
 have hok:∀(j:Nat) (t:TypeId) (r:Value),f.resultTypes[j]?=some t→((Value.bool true).resultList f.resultTypes.size)[j]?=some r→Value.okWide P W' .any 0 t r:=ok_one hrt rfl (okWide_bool_mk hbt _)
 refine ⟨ds,[],pa++[],[],pa,[],hW',hres _ _ _,hargs _ hold,hvars _,World.keptBut_mono (fun p hp=>⟨hp,?_⟩) (hb.frame (· ∈ pa++[])),fun h=>by cases h⟩
 simpa using hp
def wn(w:World):aA:=fun b _=>b < w.heap.size
def yH(P:Program)(T:TypeId){α:Type}(f:α→List PV)(g:α→Prop):Prop:=
 ∀{H:Type} (enc:TypeId×Value→H) (w:World) (sp:Nat→Bool) (held:Bool) (n:Nat) (cs:List Value) (x:DataW H×List MemPlace),DataW.trod enc P w 0 sp held n T cs=some x→∃a,ci (f a) (wn w) w cs∧g a
def am5{T E e:TypeId}{α:Type}{f:α→List PV}(hu:P.underlying T=some (.slice E))(hc:P.cellsOf E=e)(he:0 < e){g:α→Prop}(hf:yH P E f g)(hlen:∀a,(f a).length=e):yH P T (fun xs:List α=>[PV.sl .v (xs.map f)]) fun xs=>∀x∈xs,g x:=by
 intro H enc w sp held n cs x hx
 subst hc
 rcases Deep.open_slice hu hx with ⟨rfl,_⟩|⟨a,len,cap,m,n',D,Pl,rfl,_,hlc,hcm,hm,_,hel⟩
 ·exact ⟨[],⟨_,[],rfl,⟨⟨none,0,0,fun _ _=>undef,rfl,Nat.le_refl _,Nat.zero_le _,aM,.inl rfl,aM⟩,True.intro⟩,rfl⟩,aM⟩
 ·have hlm:len≤m:=by rw [hm];split<;>omega
  have key:∀i,i < len→∃(y:α×List Value),w.cells? 0 (a.add (i * P.cellsOf E)) (P.cellsOf E)=some y.2∧ci (f y.1) (wn w) w y.2∧g y.1:=by
   intro i hi
   obtain ⟨cs',h1,h2⟩:=hel i ab
   obtain ⟨y,hy⟩:=hf enc w sp held n' cs' _ h2
   exact ⟨(y,cs'),h1,hy⟩
  by_cases hl0:len=0
  ·subst hl0
   exact ⟨[],⟨_,[],rfl,⟨⟨some a,cap,0,fun _ _=>undef,rfl,Nat.zero_le _,hcm,aM,.inl rfl,aM⟩,True.intro⟩,rfl⟩,aM⟩
  ·obtain ⟨y0,_,_⟩:=key 0 ab
   have:Inhabited (α×List Value):=⟨y0⟩
   obtain ⟨F,hF⟩:=Deep.choose_lt key
   obtain ⟨b,off,spt⟩:=a
   have hspt:spt=none:=by
    obtain ⟨_,h2,h3⟩:=World.cells?_some (hF 0 ab).1
    have h4:=h3 0 he
    rw [List.getElem?_eq_getElem (by rw [h2];exact he),Nat.zero_mul] at h4
    cases spt with
    | none=>rfl
    | some s=>simp [Addr.add,World.cell?] at h4;split at h4<;>simp at h4
   subst hspt
   have hcell:∀i j,i < len→j < P.cellsOf E→w.cell? ⟨b,off+(i * P.cellsOf E+j),none⟩=some ((F i).2.getD j undef):=by
    intro i j hi hj
    obtain ⟨_,h2,h3⟩:=World.cells?_some (hF i hi).1
    have h4:=h3 j hj
    rw [ow,ow,Nat.add_assoc] at h4
    rw [h4,List.getD_eq_getElem?_getD,List.getElem?_eq_getElem (by rw [h2];exact hj)];rfl
   refine ⟨(List.range len).map fun i=>(F i).1,⟨_,[],rfl,⟨⟨some ⟨b,off,none⟩,cap,P.cellsOf E,fun i j=>(F i).2.getD j undef,aM,by simpa using hlc,hcm,?_,.inr ⟨b,off,rfl,?_⟩,?_⟩,True.intro⟩,rfl⟩,?_⟩
   ·intro cs hcs
    obtain ⟨y,_,rfl⟩:=List.mem_map.1 hcs
    exact hlen y
   ·intro i j hi hj
    have hi':i < len:=vT
    have h:=hcell i j hi' hj
    exact ⟨World.block_lt_of_cell? w _ h,h⟩
   ·intro i cs j p hi hj
    have hi':i < len:=by have:=(List.getElem?_eq_some_iff.1 hi).1;simpa using this
    simp [hi'] at hi
    subst hi
    obtain ⟨v,hv,hr⟩:=(hF i hi').2.1.at_ hj
    show p.rel _ _ ((F i).2.getD j undef)
    rw [List.getD_eq_getElem?_getD,hv];exact hr
   ·intro y hy
    obtain ⟨i,hi,rfl⟩:=List.mem_map.1 hy
    exact (hF i (List.mem_range.1 hi)).2.2
def am6{T:TypeId}{ag:Bool}{k:Nat}{α:Type}{f:α→List PV}{g:α→Prop}(hT:dg P T=some (ag,k))(hs:yH P T f g){w:World}{r:Reach}{b0:Nat}{v:Value}{d:DataW H}{ps:List MemPlace}(hval:Value.okWide P w r b0 T v)(h:DataW.Trod enc P w 0 (fun _=>true) true T v d ps) :
  ∃a,lm ag (f a) (wn w) w v∧g a:=by
 obtain ⟨n,hn⟩:=h
 obtain ⟨a,ha,hg⟩:=hs enc w _ _ n _ _ hn
 refine ⟨a,⟨?_,ha⟩,hg⟩
 unfold dg at hT
 cases hu:P.underlying T with
 | none=>rw [hu] at hT;cases hT
 | some dd=>
  cases hi:P.info? T with
  | none=>rw [hu,hi] at hT;cases hT
  | some i=>
   rw [hu,hi] at hT
   simp only [Option.some.injEq,Prod.mk.injEq] at hT
   obtain ⟨hT,_⟩:=hT
   unfold Value.okWide at hval
   rw [hu] at hval
   cases dd<;>simp only at hT hval<;>subst hT<;>first
    | (obtain ⟨cs,rfl,_⟩:=hval;rfl)
    | (cases v<;>first|rfl|(simp [Cell.okWide,Cell.ok,hu] at hval))
end
end
end Go.Proofs.YtmekkgdboplbjaaGreatDoor.M
namespace Go.Proofs.YtmekkgdboplbjaaGreatDoor.M
open Go Go.RowKit
section
section
variable{P:Program}{n d:Nat}{ty:TypeId}{pos:String}{af:Array Edge}{g:Option (Nat×Bool)}{G:pu}
def gL{f:Nat}{args:Array Operand}{tys:Array TypeId}{r:RV}(qs as_:List (Bool×List PV))(hf:aE P f=true)(hok:mE args.toList qs:=by repeat' (first|exact True.intro|exact bi rfl|exact Wc|apply And.intro))
  (hto:mF qs as_:=by repeat' (first|exact True.intro|exact rfl|exact PV.To.refl _|exact PV.to_none|apply And.intro)) (hs:gu P G f as_ r) (hd:d < n:=by decide):Loc P n ⟨some d,.call { callee:=.value (.func f),args:=args,argTypes:=tys },ty,pos,af,g⟩ ⟨(7000,RV.glob G)::kH args.toList qs,[],[(d,some r)],[],none⟩:=amZ hd hf hok hto hs
end
def am7{P:Program}{G:pu}{W:World}{f:FuncId}{vs:List Value}{qs:List (Bool×List PV)}(hs:gu P G f qs (aB [(false,[PV.val (.bool true)])]))(hG:G.rel (wn W) W)(hr:gq qs (wn W) W vs):Calls P f vs.toArray W fun e w'=>e = .returned (.bool true)∧Below W.heap.size W w':=
 (hs W vs (wn W) (fun _ _ h=>h) hG hr).mono fun e w' ⟨v,Fz',F,he,hb,_,_,hv,_⟩=>⟨by rw [he,(ce.sc (hv fun _=>0)).1],hb⟩
end
section
section
variable{h0:Nat→Prop}{n:Nat}{w0 w:World}{Fz0 Fz:aA}{σ:St}{a:Act}{φ:Nat→Nat}{Fp:Nat→List Nat}{P:Program}{c:Code}{Q:Exit→St→Prop}
end
end
end Go.Proofs.YtmekkgdboplbjaaGreatDoor.M
namespace Go.Proofs.YtmekkgdboplbjaaGreatDoor.M
open Go
section
inductive gM(s:Nat→Option RV):List Nat→List (Nat×RV)→Prop
 | nil:gM s [] []
 | cons {k:Nat} {v:RV} {ks:List Nat} {l:List (Nat×RV)} (h:s k=some v) (t:gM s ks l):gM s (k::ks) ((k,v)::l)
def gM.rd{s:Nat→Option RV}{ks:List Nat}{l:List (Nat×RV)}(h:gM s ks l):bl l s:=by
 induction h with
 | nil=>exact True.intro
 | cons h _ ih=>exact And.intro h ih
inductive kK(b:Nat→Option (Nat×List PV)):List Nat→List (Nat×(Nat×List PV))→Prop
 | nil:kK b [] []
 | cons {k:Nat} {v:Nat×List PV} {ks:List Nat} {l:List (Nat×(Nat×List PV))} (h:b k=some v) (t:kK b ks l):kK b (k::ks) ((k,v)::l)
def kK.rd{b:Nat→Option (Nat×List PV)}{ks:List Nat}{l:List (Nat×(Nat×List PV))}(h:kK b ks l):bl l b:=by
 induction h with
 | nil=>exact True.intro
 | cons h _ ih=>exact And.intro h ih
def qq:(∀{p:Prop} [Decidable p],(decide p=true)=p)∧(∀{p:Prop} [Decidable p],decide p=false↔¬p)∧(∀{α:Type} [BEq α] [LawfulBEq α] {a b:α},(a != b)=true↔a≠b)∧(∀{α:Type} [BEq α] [LawfulBEq α] {a b:α},(a==b)=true↔a=b)∧(∀{b:Bool},((!b)=true)=(b=false))∧(∀{b:Bool},((!b)=false)=(b=true))∧(∀{α:Type} {a b:α},(a≠b)=¬a=b)∧(∀{α:Type} [BEq α] [LawfulBEq α] {a b:α},(a != b)=false↔a=b)∧(∀{α:Type} [BEq α] [LawfulBEq α] {a b:α},(a==b)=false↔a≠b):=
 ⟨q1,q2,q3,q4,q5,q6,q7,q8,q9⟩
def Xg{L:Nat→Prop}{a b:List PV}(h:ax L a)(k:ax L b):ax L (List.append a b):=ax.app h k
def lc{G:Prop}(h:G:=by repeat' (first|with_reducible (first|exact qL.nil|exact ax.nil|exact ax.vals|exact PV.lcl_val|exact PV.lcl_any|exact RV.lcl_hdr|exact RV.lcl_ptr|exact RV.lcl_gat|exact RV.lcl_phi|apply qL.cons|apply ax.cons|apply RV.lcl_nm|apply RV.lcl_sv|apply RV.lcl_gh|apply PV.lcl_nv|apply PV.lcl_own|apply ax.flat|apply ax.app|apply Xg|refine ax.map fun _=>?_)|apply ax.cons|apply qL.cons|exact ax.nil|refine ax.map fun _=>?_)):G:=h
def aI{a b:Prop}(x:a)(y:b):a∧b:=⟨x,y⟩
def tI:True:=True.intro
def nl{a b:Nat}(h:Nat.ble a b=true):a≤b:=Nat.le_of_ble_eq_true h
section
variable{P:Program}{n:Nat}{h0:Nat→Prop}{w0:World}{Fz0:aA}{c x y:Code}{σ:St}{Q:Exit→St→Prop}
def sP(ks bs:List Nat){l:List (Nat×RV)}{b:List (Nat×(Nat×List PV))}(h:SW P n h0 w0 Fz0 c (St.of l b) Q)(hl:gM σ.s ks l:=by repeat (first|exact gM.nil|apply gM.cons rfl))(hb:kK σ.b bs b:=by repeat (first|exact kK.nil|apply kK.cons rfl)):SW P n h0 w0 Fz0 c σ Q:=sO l b h hl.rd hb.rd
def sS{id:Nat}{ops:Array Oper}(ks bs:List Nat){l:List (Nat×RV)}{b:List (Nat×(Nat×List PV))}(h:au P n ops (fun τ=>yv (fun τ=>SW P n h0 w0 Fz0 y τ Q) Q .normal τ) ops.toList (St.of l b))(hl:gM σ.s ks l:=by repeat (first|exact gM.nil|apply gM.cons rfl))(hb:kK σ.b bs b:=by repeat (first|exact kK.nil|apply kK.cons rfl)):SW P n h0 w0 Fz0 (.seq (.region id ops false) y) σ Q:=FQ (sO l b (yw h) hl.rd hb.rd)
def sG{id:Nat}{ops:Array Oper}(ks bs:List Nat){l:List (Nat×RV)}{b:List (Nat×(Nat×List PV))}(h:au P n ops (fun τ=>Q .normal τ) ops.toList (St.of l b))(hl:gM σ.s ks l:=by repeat (first|exact gM.nil|apply gM.cons rfl))(hb:kK σ.b bs b:=by repeat (first|exact kK.nil|apply kK.cons rfl)):SW P n h0 w0 Fz0 (.region id ops false) σ Q:=sO l b (yw h) hl.rd hb.rd
def sL{ι:Type}(ks bs:List Nat)(I:ι→Prop){l0:List (Nat×RV)}{b0:List (Nat×(Nat×List PV))}(l:ι→List (Nat×RV))(b:ι→List (Nat×(Nat×List PV)))(m:ι→Nat)(i0:ι)(h0':I i0)(hl:bl (l i0) σ.s)(hb:bl (b i0) σ.b)
  (round:∀i,I i→SW P n h0 w0 Fz0 c (St.of (l0++l i) (b0++b i)) (yv (fun τ=>∃j,I j∧m j < m i∧(bl l0 τ.s∧bl b0 τ.b)∧bl (l j) τ.s∧bl (b j) τ.b) Q)) (hl0:gM σ.s ks l0:=by repeat (first|exact gM.nil|apply gM.cons rfl)) (hb0:kK σ.b bs b0:=by repeat (first|exact kK.nil|apply kK.cons rfl)):SW P n h0 w0 Fz0 (.loop c) σ Q:=amp I l b m i0 h0' hl0.rd hb0.rd hl hb round
def sR{id:Nat}{ops:Array Oper}(h:au P n ops (fun τ=>yv (fun τ=>SW P n h0 w0 Fz0 y τ Q) Q .normal τ) ops.toList σ):SW P n h0 w0 Fz0 (.seq (.region id ops false) y) σ Q:=FQ (yw h)
end
section
variable{P:Program}{n:Nat}{ops:Array Oper}{σ:St}{QS:St→Prop}{l:List Oper}{d x:Nat}{ty:TypeId}{pos:String}{af:Array Edge}
def rM{v:Value}(y:au P n ops QS l (σ.app ⟨[(x,RV.sc v)],[],[(d,some (RV.sc v))],[],none⟩))(h1:bl [(x,RV.sc v)] σ.s:=by repeat (first|exact True.intro|refine And.intro rfl ?_))(hd:d < n:=by decide):au P n ops QS (⟨some d,.move (.tmp x),ty,pos,af,none⟩::l) σ:=rA y h1 True.intro (sM hd) rfl rfl
def rS{v:Value}(y:au P n ops QS l (σ.app ⟨[(x,RV.sc v)],[],[(d,some (RV.sc v))],[],none⟩))(h1:bl [(x,RV.sc v)] σ.s:=by repeat (first|exact True.intro|refine And.intro rfl ?_))(hd:d < n:=by decide):au P n ops QS (⟨some d,.assign (.tmp x),ty,pos,af,none⟩::l) σ:=rA y h1 True.intro (sA hd) rfl rfl
def rK{v:Value}(y:au P n ops QS l (σ.app ⟨[],[],[(d,some (RV.sc v))],[],none⟩))(h:v.oneCell'=true:=by exact rfl)(hd:d < n:=by decide):au P n ops QS (⟨some d,.assign (.const v),ty,pos,af,none⟩::l) σ:=rA y True.intro True.intro (kA h hd) rfl rfl
end
end
end Go.Proofs.YtmekkgdboplbjaaGreatDoor.M
namespace Go.Proofs.YtmekkgdboplbjaaGreatDoor.M
open Go Go.RowKit
section
inductive pv:List PV→List PV→Prop
 | nil:pv [] []
 | val {v:Value} {l m:List PV} (h:pv l m):pv (PV.val v::l) (PV.val v::m)
 | sl {o:Fl} {es:List (List PV)} {l m:List PV} (h:pv l m):pv (PV.sl o es::l) (PV.sl o es::m)
def pv.eq{l m:List PV}(h:pv l m):l=m:=by
 induction h with
 | nil=>rfl
 | val _ ih=>rw [ih]
 | sl _ ih=>rw [ih]
inductive jG(b:Nat→Option (Nat×List PV)):List Nat→List (Nat×(Nat×List PV))→Prop
 | nil:jG b [] []
 | cons {k T:Nat} {cs ds:List PV} {ks:List Nat} {l:List (Nat×(Nat×List PV))} (h:b k=some (T,cs)) (e:pv cs ds) (t:jG b ks l):jG b (k::ks) ((k,(T,ds))::l)
 | any {k T:Nat} {cs:List PV} {ks:List Nat} {l:List (Nat×(Nat×List PV))} (h:b k=some (T,cs)) (t:jG b ks l):jG b (k::ks) ((k,(T,cs))::l)
def jG.rd{b:Nat→Option (Nat×List PV)}{ks:List Nat}{l:List (Nat×(Nat×List PV))}(h:jG b ks l):bl l b:=by
 induction h with
 | nil=>exact True.intro
 | cons h e _ ih=>exact And.intro (e.eq▸h) ih
 | any h _ ih=>exact And.intro h ih
section
variable{P:Program}{n:Nat}{h0:Nat→Prop}{w0:World}{Fz0:aA}{c x y:Code}{σ:St}{Q:Exit→St→Prop}
def sQ(ks bs:List Nat){l:List (Nat×RV)}{b:List (Nat×(Nat×List PV))}(h:SW P n h0 w0 Fz0 c (St.of l b) Q)(hl:gM σ.s ks l:=by repeat (first|exact gM.nil|apply gM.cons rfl))(hb:jG σ.b bs b:=by repeat (first|exact jG.nil|refine jG.cons rfl KK ?_|apply jG.any rfl)):SW P n h0 w0 Fz0 c σ Q:=sO l b h hl.rd hb.rd
def sT{id:Nat}{ops:Array Oper}(ks bs:List Nat){l:List (Nat×RV)}{b:List (Nat×(Nat×List PV))}(h:au P n ops (fun τ=>yv (fun τ=>SW P n h0 w0 Fz0 y τ Q) Q .normal τ) ops.toList (St.of l b))(hl:gM σ.s ks l:=by repeat (first|exact gM.nil|apply gM.cons rfl))(hb:jG σ.b bs b:=by repeat (first|exact jG.nil|refine jG.cons rfl KK ?_|apply jG.any rfl)):SW P n h0 w0 Fz0 (.seq (.region id ops false) y) σ Q:=FQ (sO l b (yw h) hl.rd hb.rd)
def sH{id:Nat}{ops:Array Oper}(ks bs:List Nat){l:List (Nat×RV)}{b:List (Nat×(Nat×List PV))}(h:au P n ops (fun τ=>Q .normal τ) ops.toList (St.of l b))(hl:gM σ.s ks l:=by repeat (first|exact gM.nil|apply gM.cons rfl))(hb:jG σ.b bs b:=by repeat (first|exact jG.nil|refine jG.cons rfl KK ?_|apply jG.any rfl)):SW P n h0 w0 Fz0 (.region id ops false) σ Q:=sO l b (yw h) hl.rd hb.rd
def nx{ι:Type}{I:ι→Prop}{m:ι→Nat}{M:Nat}{C D:Prop}{E F:ι→Prop}(j:ι)(a:I j)(b:m j < M:=by first|omega|(dsimp only;omega))(c:C:=by repeat (first|exact True.intro|refine And.intro rfl ?_))(d:D:=by repeat (first|exact True.intro|refine And.intro rfl ?_))(e:E j:=by repeat (first|exact True.intro|refine And.intro rfl ?_))(f:F j:=by repeat (first|exact True.intro|refine And.intro rfl ?_)):∃j,I j∧m j < M∧(C∧D)∧E j∧F j:=⟨j,a,b,⟨c,d⟩,e,f⟩
def sF{f:FuncId}{fn:Func}{c:Code}{args rs:List (Bool×List PV)}(hf:P.funcs[f]?=some fn)(h:∀(h0:Nat→Prop) (w0:World) (Fz0:aA),SW P fn.ntmps h0 w0 Fz0 c (St.of (iK 0 args) []) (yx P fn.results.toList rs))(hb:fn.body=some c:=by exact rfl)(hn:args.length≤fn.ntmps:=by exact Nat.le_of_ble_eq_true rfl)
  (hbor:FR args:=by repeat (first|with_reducible exact jm|with_reducible refine jn (by repeat (first|with_reducible exact aF.nil|with_reducible refine aF.cons (PV.bor_val _) ?_|with_reducible refine aF.cons (PV.bor_sl _) ?_|with_reducible refine aF.cons (PV.bor_lo _ _) ?_)) ?_)):aQ P f args (aB rs):=amr hf hb hn hbor h
def sn(s j:Nat){ag:Bool}{cs:List PV}{o:Fl}{es:List (List PV)}{m:Nat}(h:m≤9223372036854775807→SW P n h0 w0 Fz0 c σ Q)(hs:σ.s s=some (RV.sv ag cs):=by exact rfl)(hj:cs[j]?=some (PV.sl o es):=by exact rfl)(hm:es.length=m:=by first|exact bf _|exact rfl):SW P n h0 w0 Fz0 c σ Q:=amu hs hj fun k=>h (hm▸k)
def sj(s:Nat){o:Fl}{es:List (List PV)}{m:Nat}(h:m≤9223372036854775807→SW P n h0 w0 Fz0 c σ Q)(hs:σ.s s=some (RV.slc o es):=by exact rfl)(hm:es.length=m:=by first|exact bf _|exact rfl):SW P n h0 w0 Fz0 c σ Q:=amq hs fun k=>h (hm▸k)
def sc{t:Nat}{b:Bool}{A B:Prop}(h1:A→SW P n h0 w0 Fz0 x σ Q)(h2:B→SW P n h0 w0 Fz0 y σ Q)(ht:σ.s t=some (RV.bool b):=by exact rfl)(u1:b=true→A:=by first|(intro h;simp only [qq] at h;exact h)|exact id)(u2:b=false→B:=by first|(intro h;simp only [qq] at h;exact h)|exact id):SW P n h0 w0 Fz0 (.cond (.tmp t) x y) σ Q:=LO ht (fun k=>h1 (u1 k)) (fun k=>h2 (u2 k))
def cH{t:Nat}(h1:SW P n h0 w0 Fz0 x σ Q)(ht:σ.s t=some (RV.bool true):=by exact rfl):SW P n h0 w0 Fz0 (.cond (.tmp t) x y) σ Q:=LO ht (fun _=>h1) (fun k=>nomatch k)
def gv{t:Nat}(h1:SW P n h0 w0 Fz0 y σ Q)(ht:σ.s t=some (RV.bool false):=by exact rfl):SW P n h0 w0 Fz0 (.cond (.tmp t) x y) σ Q:=LO ht (fun k=>nomatch k) (fun _=>h1)
end
section
variable{P:Program}{n:Nat}{ops:Array Oper}{σ σ0:St}{QS:St→Prop}{l:List Oper}{o:Oper}{acc:List (Nat×aN)}{C:Nat→aN→Prop}
def cx(s:Nat){b:Bool}{A B:Prop}(h1:b=true→A→au P n ops QS l σ)(h2:b=false→B→au P n ops QS l σ)(ht:σ.s s=some (RV.bool b):=by exact rfl)(u1:b=true→A:=by first|(intro h;simp only [qq] at h;exact h)|exact id)(u2:b=false→B:=by first|(intro h;simp only [qq] at h;exact h)|exact id):au P n ops QS l σ:=au.cases ht (fun k=>h1 k (u1 k)) (fun k=>h2 k (u2 k))
def dx(s:Nat){b:Bool}{A B:Prop}(h1:b=true→A→bO P n ops σ0 C QS l acc σ)(h2:b=false→B→bO P n ops σ0 C QS l acc σ)(ht:σ.s s=some (RV.bool b):=by exact rfl)(u1:b=true→A:=by first|(intro h;simp only [qq] at h;exact h)|exact id)(u2:b=false→B:=by first|(intro h;simp only [qq] at h;exact h)|exact id):bO P n ops σ0 C QS l acc σ:=bO.cases ht (fun k=>h1 k (u1 k)) (fun k=>h2 k (u2 k))
inductive Hd(H:Prop):Prop
 | mk (h:H):Hd H
def Hd.g{H:Prop}:Hd H→H:=fun x=>by cases x with|mk h=>exact h
abbrev ae(G H:Prop):=Hd H→G
def ah{G H:Prop}(w:ae G H)(h:H):G:=w ⟨h⟩
def zt{c:Bool}{G H:Prop}(g:c=true)(h:H)(w:c=true→Hd H→G:=by intro g_ h_;(repeat (first|refine au.s0t g_ ?_|refine au.su ?_));exact h_.g):G:=w g ⟨h⟩
def zf{c:Bool}{G H:Prop}(g:c=false)(h:H)(w:c=false→Hd H→G:=by intro g_ h_;(repeat (first|refine au.s0f g_ ?_|refine au.su ?_));exact h_.g):G:=w g ⟨h⟩
def rX{L:aN}(y:au P n ops QS l (σ.app L))(h1:bl L.rs σ.s:=by repeat (first|exact True.intro|refine And.intro rfl ?_))(h2:bl L.rb σ.b:=by repeat (first|exact True.intro|refine And.intro rfl ?_))(x:Loc P n o L)(hg:o.guard=none:=by exact rfl)(ha:∀d,L.al=some d→cV d σ:=by refine sD ?_;repeat (first|exact cV.of_ rfl|refine cV.app ?_ rfl)):au P n ops QS (o::l) σ:=au.step h1 h2 (cc.of hg x) ha y
def dX{L:aN}(m:Nat)(y:bO P n ops σ0 C QS l (acc++[(m,L)]) (σ.app L))(h1:bl L.rs σ.s:=by repeat (first|exact True.intro|refine And.intro rfl ?_))(h2:bl L.rb σ.b:=by repeat (first|exact True.intro|refine And.intro rfl ?_))(x:Loc P n o L)(hg:o.guard=none:=by exact rfl)(ha:∀d,L.al=some d→cV d σ0:=by exact fY)(h4:qK m o L acc=true:=by kernel_rfl)(hC:C acc.length L:=by show (List.all _ _)=true;kernel_rfl):bO P n ops σ0 C QS (o::l) acc σ:=bO.stepC m h1 h2 (cc.of hg x) ha h4 hC y
end
def rb{b c:Bool}(h:b=c):some (RV.bool b)=some (RV.bool c)∧True:=⟨eG h,True.intro⟩
def lcE{L:Nat→Prop}:∀cs,cs∈([]:List (List PV))→ax L cs:=fun _ h=>nomatch h
def lcF{L:Nat→Prop}:∀cs,cs∈([]:List (List PV))→ln L cs:=fun _ h=>nomatch h
def lq{G:Prop}(h:G:=by repeat' (first|with_reducible (first|exact ax.nil|exact ax.vals|exact ln.nil|exact PV.lcl_val|exact PV.lclr_val|exact PV.lcl_any|exact RV.lcl_hdr|exact RV.lcl_ptr|exact RV.lcl_gat|exact RV.lcl_phi|exact aF.nil|exact PV.bor_val _|exact PV.bor_sl _|exact PV.bor_lo _ _|exact PV.bor_any|exact PV.bor_clo _ _|exact PV.bor_ep _|apply PV.bor_nv|exact jm|exact am.nil|exact PV.tob_refl|exact ir.nil|exact OTo.refl|exact OTo.lo|apply ax.cons|apply ln.cons|apply aF.cons|apply jn|apply am.cons|apply ir.cons|apply RV.lcl_nm|apply RV.lcl_sv|apply RV.lcl_gh|apply PV.lcl_nv|apply PV.lcl_own|apply PV.lcl_lo|apply PV.lclr_lo|apply ax.flat|apply ax.app|apply Xg|refine ax.map fun _=>?_|refine ln.map fun _=>?_|refine PV.tob_map (fun _=>Nat.le_of_ble_eq_true rfl) (fun _=>?_)|exact True.intro|exact qL.nil|apply qL.cons)|apply ax.cons|apply ln.cons|apply am.cons|apply aF.cons|apply jn|exact ax.nil|exact ln.nil|exact am.nil|exact aF.nil|exact jm|exact lcE|exact lcF|apply ir.cons|apply RV.lcl_sv|exact RV.lcl_ptr|exact True.intro|exact Or.inl rfl|(refine Or.inl ?_;simp [lT];done)|refine Or.inr ?_|refine And.intro rfl ?_|refine And.intro ?_ ?_|exact rfl|refine ax.map fun _=>?_)):G:=h
end
section
def Gm{α:Type}{f g:α→List PV}{fN:α×(Nat→Value)→List PV}{e:Nat}(hN:∀x h,fN (x,h)=fm h 0 (g x))(hg:∀x,(g x).length=e)(hq:∀x,aJ (f x) (g x))(hb:∀x,aF (g x)){Fz:aA}{w:World}:∀{xs:List α} {css:List Value} {F:List Nat},cG e (xs.map f) Fz w css F →
  ∃zs:List (α×(Nat→Value)),zs.map Prod.fst=xs∧css=br e zs∧cG e (zs.map fN) Fz w css []∧aP (bY f zs) Fz w (br e zs) F
 | [],css,F,h=>by
  obtain ⟨rfl,rfl⟩:=h
  exact ⟨[],rfl,rfl,⟨rfl,rfl⟩,⟨rfl,rfl⟩⟩
 | x::xs,css,F,h=>by
  obtain ⟨c,d,F1,F2,rfl,rfl,hl,h1,h2⟩:=h
  obtain ⟨zs,e1,e2,e3,e4⟩:=Gm hN hg hq hb h2
  obtain ⟨k,hk⟩:=Mp hl
  refine ⟨(x,k)::zs,La,?_,?_,?_⟩
  ·rw [hk,e2];rfl
  ·refine ⟨c,d,[],[],rfl,rfl,hl,?_,e3⟩
   rw [hN,Gf,hg,←List.range_eq_range',←hk]
   exact Ge (hb x) ((hq x).rel h1.rel)
  ·have:aP (f x++bY f zs) Fz w (c++br e zs) (F1++F2):=h1.append e4
   rw [hk] at this;exact this
section
variable{P:Program}{n:Nat}{h0:Nat→Prop}{w0:World}{Fz0:aA}{σ:St}{Q:Exit→St→Prop}{c:Code}
def Xh{s t e G:Nat}{α:Type}{f g:α→List PV}{fN:α×(Nat→Value)→List PV}{xs:List α}(hs:σ.s s=some (RV.sv false [PV.sl (.own t e) (xs.map f)]))(hsG:Nat.beq s G=false)(hG:σ.s G=none)(hN:∀x h,fN (x,h)=fm h 0 (g x))(hg:∀x,(g x).length=e)(hq:∀x,aJ (f x) (g x))(hb:∀x,aF (g x))
  (h:∀zs:List (α×(Nat→Value)),zs.map Prod.fst=xs→SW P n h0 w0 Fz0 c ((σ.set s (some (RV.sv false [PV.sl .v (zs.map fN)]))).set G (some (RV.gh (br e zs) (bY f zs)))) Q):SW P n h0 w0 Fz0 c σ Q:=fun a w hc=>by
 rw [beq_eq,decide_eq_false_iff_not] at hsG
 obtain ⟨φ,Fz,Fp,hc⟩:=hc
 have hv:ce false [PV.sl (.own t e) (xs.map f)] Fz w (a.tmps.getD s undef) (Fp (2 * s+1)):=hc.slot s _ hs
 obtain ⟨hag,v,vs',F1,F2,hv1,hF,ho,hnil,rfl⟩:=hv
 subst hnil
 have ho:dR t e (xs.map f) Fz w v F1:=ho
 obtain ⟨css,F',hrow,hll,hfz,rfl,hone⟩:=ho
 obtain ⟨zs,e1,e2,e3,e4⟩:=Gm hN hg hq hb hll
 have hlen:(zs.map fN).length=(xs.map f).length:=Ex
 have hsl:dR t e (zs.map fN) Fz w v (v.ownBlock.toList++[]):=⟨css,[],vR,e3,fun g hg o=>by rw [hlen];exact hfz g hg o,rfl,hone⟩
 have c1:=hc.pull s
 have e0:mv Fp (2 * s+1) 0=Fp (2 * s+1)++Fp 0:=go
 have es:mv Fp (2 * s+1) (2 * s+1)=[]:=go
 have hnd:=c1.nod 0
 rw [e0,hF,fV] at hnd
 rw [hF,fV] at e0
 have c2:=c1.reslot (s:=s) (rv:=RV.sv false [PV.sl .v (zs.map fN)]) (by
  rw [es]
  exact ⟨hag,v,[],[],[],hv1,rfl,⟨hsl.rel,rfl⟩,rfl,rfl⟩)
 have c3:=c2.pushG (G:=G) (us:=br e zs) (cs:=bY f zs) (F:=F') (X:=Fp 0) e4 (fun b hb=>by
   rw [e0]
   rcases List.mem_append.1 hb with hb|hb
   ·simp [hb]
   ·simp [hb])
  (by
   rw [bB] at hnd
   exact (List.nodup_append.1 hnd).2.1)
 exact h zs e1 a w (bC.eqv ⟨_,_,_,c3⟩ (fun i=>by
  simp only [St.set_s]
  split
  ·rfl
  ·split<;>rfl) (fun d=>rfl))
def ana{G H e:Nat}{α:Type}{f:α→List PV}{ys zs:List (α×(Nat→Value))}(hG:σ.s G=some (RV.gh (br e ys) (bY f ys)))(hH:σ.s H=some (RV.gh (br e zs) (bY f zs)))(hGH:Nat.beq G H=false)(h:SW P n h0 w0 Fz0 c ((σ.set H none).set G (some (RV.gh (br e (ys++zs)) (bY f (ys++zs))))) Q):SW P n h0 w0 Fz0 c σ Q:=fun a w hc=>by
 rw [beq_eq,decide_eq_false_iff_not] at hGH
 obtain ⟨φ,Fz,Fp,hc⟩:=hc
 have h1:aP (bY f ys) Fz w (br e ys) (Fp (2 * G+1)):=hc.slot G _ hG
 have h2:aP (bY f zs) Fz w (br e zs) (Fp (2 * H+1)):=hc.slot H _ hH
 have ho:aP (bY f (ys++zs)) Fz w (br e (ys++zs)) (Fp (2 * G+1)++Fp (2 * H+1)):=by
  have e1:bY f (ys++zs)=bY f ys++bY f zs:=by simp [bY]
  have e2:br e (ys++zs)=br e ys++br e zs:=by simp [br]
  rw [e1,e2];exact h1.append h2
 have c1:=hc.pull H
 have c2:=c1.pull G
 have e1:mv Fp (2 * H+1) (2 * G+1)=Fp (2 * G+1):=VG
 have e2:mv (mv Fp (2 * H+1)) (2 * G+1) 0=Fp (2 * G+1)++(Fp (2 * H+1)++Fp 0):=by
  rw [←e1];simp [mv]
 have hnd:=c2.nod 0
 rw [e2] at hnd
 have c3:=c2.pushG (G:=G) (F:=Fp (2 * G+1)++Fp (2 * H+1)) (X:=Fp 0) ho (fun b hb=>by rw [e2,←bB];exact hb) (by rw [bB];exact hnd)
 exact h a w (bC.eqv ⟨_,_,_,c3⟩ (fun i=>by
  simp only [St.set_s]
  split
  ·rfl
  ·rfl) (fun d=>rfl))
def Mw{d t G e:Nat}{α:Type}{f:α→List PV}{z:α×(Nat→Value)}{zs:List (α×(Nat→Value))}{ps:List PV}(hd:σ.b d=some (t,ps))(hn:Nm ps ((List.range e).map z.2))(hf:∀x,(f x).length=e)(hG:σ.s G=some (RV.gh (br e (z::zs)) (bY f (z::zs))))
  (h:SW P n h0 w0 Fz0 c ((σ.setB d (some (t,f z.1))).set G (some (RV.gh (br e zs) (bY f zs)))) Q):SW P n h0 w0 Fz0 c σ Q:=fun a w hc=>by
 obtain ⟨φ,Fz,Fp,hc⟩:=hc
 have hg0:aP (f z.1++bY f zs) Fz w ((List.range e).map z.2++br e zs) (Fp (2 * G+1)):=hc.slot G _ hG
 obtain ⟨v1,v2,F1,F2,k1,k2,k3,k4⟩:=hg0.split
 obtain ⟨rfl,rfl⟩:=List.append_inj k1 (by rw [k3.len,hf];simp)
 have c1:=hc.pull G
 have e0:mv Fp (2 * G+1) 0=Fp (2 * G+1)++Fp 0:=go
 obtain ⟨cur,h1,h2⟩:=c1.box d (t,ps) hd
 obtain ⟨g1,g2,g3⟩:=c1.bxb d (t,ps) hd
 have hu:cur.toList=(List.range e).map z.2:=hn h2.rel
 have c2:=c1.pullB (d:=d) (cs:=(t,ps)) hd
 generalize hFp1:mv Fp (2 * G+1)=Fp1 at c1 c2 e0 h2 g3
 have hnd:=c2.nod 0
 simp only [if_true] at hnd
 have em:mv Fp1 (2 * d+2) 0=Fp1 (2 * d+2)++Fp1 0:=go
 rw [em,e0,k2] at hnd
 rw [k2] at e0
 have c3:=c2.pushB (d:=d) (g:=φ d) (t:=t) (cs:=f z.1) (F:=F1) (X:=F2++Fp 0) nr h1 (by rw [hu];exact k3) g2
  (fun x hx=>by
   simp only [if_true]
   rw [em,e0]
   rcases List.mem_append.1 hx with hx|hx
   ·simp [hx]
   ·rcases List.mem_cons.1 hx with rfl|hx
    ·simp
    ·rcases List.mem_append.1 hx with hx|hx<;>simp [hx])
  (by
   simp only [jl,eS] at hnd
   obtain ⟨m0,m1⟩:=hnd
   have m2:=(List.nodup_append.1 m1).2.1
   rw [bB,df] at m2
   rw [df]
   refine ⟨m2.1,List.nodup_cons.2 ⟨fun hh=>?_,m2.2.1⟩,fun x hx y hy e=>?_⟩
   ·rcases List.mem_append.1 hh with hh|hh
    ·exact m0 (.inr (.inl (.inr hh)))
    ·exact m0 (.inr (.inr hh))
   ·rcases List.mem_cons.1 hy with rfl|hy
    ·exact m0 (.inr (.inl (.inl (e▸hx))))
    ·exact m2.2.2 x hx y hy e)
  (.inl rfl)
 have hn3:=c3.nod 0
 have c4:=c3.pushG (G:=G) (F:=F2) (X:=Fp 0) k4 (fun b hb=>by simp only [dz];rw [if_neg ab];simpa using hb) (by
  simp only [dz] at hn3
  rw [if_neg ab] at hn3
  simpa using hn3)
 exact h a w (bC.eqv ⟨_,_,_,c4⟩ (fun i=>by
  simp only [St.set_s,St.setB_s]
  split<;>rfl) (fun e=>by
  simp only [St.setB_b,St.set_b]
  split<;>rfl))
def yI{d T t e G:Nat}{A B:List PV}{α:Type}{f g:α→List PV}{fN:α×(Nat→Value)→List PV}{xs:List α}(hd:σ.b d=some (T,A++(PV.sl (.own t e) (xs.map f)::B)))(hG:σ.s G=none)(hN:∀x h,fN (x,h)=fm h 0 (g x))(hg:∀x,(g x).length=e)(hq:∀x,aJ (f x) (g x))(hb:∀x,aF (g x))
  (h:∀zs:List (α×(Nat→Value)),zs.map Prod.fst=xs→SW P n h0 w0 Fz0 c ((σ.setB d (some (T,A++(PV.sl .v (zs.map fN)::B)))).set G (some (RV.gh (br e zs) (bY f zs)))) Q):SW P n h0 w0 Fz0 c σ Q:=fun a w hc=>by
 obtain ⟨φ,Fz,Fp,hc⟩:=hc
 obtain ⟨cur,h1,h2⟩:=hc.box d _ hd
 obtain ⟨g1,g2,g3⟩:=hc.bxb d _ hd
 obtain ⟨v1,v2,F1,F2,k1,k2,k3,v,vs',E1,E2,rfl,rfl,ho,kB⟩:=h2.split
 have ho:dR t e (xs.map f) Fz w v E1:=ho
 obtain ⟨css,F',hrow,hll,hfz,rfl,hone⟩:=ho
 obtain ⟨zs,e1,e2,e3,e4⟩:=Gm hN hg hq hb hll
 have hlen:(zs.map fN).length=(xs.map f).length:=Ex
 have hsl:dR t e (zs.map fN) Fz w v (v.ownBlock.toList++[]):=⟨css,[],vR,e3,fun g hg o=>by rw [hlen];exact hfz g hg o,rfl,hone⟩
 have hnew:aP (A++(PV.sl .v (zs.map fN)::B)) Fz w cur.toList (F1++([]++E2)):=by
  rw [k1]
  exact k3.append ⟨v,vs',[],E2,rfl,rfl,⟨hsl.rel,rfl⟩,kB⟩
 rw [List.nil_append] at hnew
 have c2:=hc.pullB hd
 have hnd:=c2.nod 0
 simp only [if_true] at hnd
 have em:mv Fp (2 * d+2) 0=Fp (2 * d+2)++Fp 0:=go
 have k2':Fp (2 * d+2)=F1++(v.ownBlock.toList++F'++E2):=k2
 rw [em,k2'] at hnd
 rw [k2'] at em
 have hperm:(φ d::(F1++(v.ownBlock.toList++F'++E2)++Fp 0)).Perm ((F1++E2)++φ d::(F'++(v.ownBlock.toList++Fp 0))):=by
  refine (List.Perm.trans ?_ List.perm_middle.symm)
  refine List.Perm.cons _ ?_
  simp only [bB]
  refine iH _ ?_
  show (v.ownBlock.toList++(F'++(E2++Fp 0))).Perm (E2++(F'++(v.ownBlock.toList++Fp 0)))
  have p1:((v.ownBlock.toList++F')++(E2++Fp 0)).Perm ((F'++v.ownBlock.toList)++(E2++Fp 0)):=kD _ lR
  have p2:((F'++v.ownBlock.toList)++(E2++Fp 0)).Perm (E2++((F'++v.ownBlock.toList)++Fp 0)):=by
   rw [←bB,←bB]
   exact kD _ lR
  have p3:=p1.trans p2
  simpa using p3
 have c3:=c2.pushB (d:=d) (g:=φ d) (t:=T) (cs:=A++(PV.sl .v (zs.map fN)::B)) (F:=F1++E2) (X:=F'++(v.ownBlock.toList++Fp 0)) nr h1 hnew g2
  (fun x hx=>by
   simp only [if_true]
   rw [em]
   exact hperm.mem_iff.2 hx) (hperm.nodup_iff.1 hnd) (.inl rfl)
 have hn3:=c3.nod 0
 have c4:=c3.pushG (G:=G) (F:=F') (X:=v.ownBlock.toList++Fp 0) e4 (fun b hb=>by simp only [dz];rw [if_neg ab];simpa using hb) (by
  simp only [dz] at hn3
  rw [if_neg ab] at hn3
  simpa using hn3)
 exact h zs e1 a w (bC.eqv ⟨_,_,_,c4⟩ (fun i=>by
  simp only [St.set_s,St.setB_s]) (fun e=>by
  simp only [St.setB_b,St.set_b]
  split<;>rfl))
end
end
section
def anb{α:Type}{f g:α→List PV}{fN:α×(Nat→Value)→List PV}{t e:Nat}(hN:∀x h,fN (x,h)=fm h 0 (g x))(hg:∀x,(g x).length=e)(hq:∀x,aJ (f x) (g x))(hb:∀x,aF (g x)){Fz:aA}{w:World}{xs:List α}{v:Value}{F:List Nat}(h:dR t e (xs.map f) Fz w v F) :
  ∃zs:List (α×(Nat→Value)),∃F1 F2,zs.map Prod.fst=xs∧dR t e (zs.map fN) Fz w v F1∧aP (bY f zs) Fz w (br e zs) F2∧F=F1++F2:=by
 obtain ⟨css,F',hrow,hll,hfz,rfl,hone⟩:=h
 obtain ⟨zs,e1,e2,e3,e4⟩:=Gm hN hg hq hb hll
 have hlen:(zs.map fN).length=(xs.map f).length:=Ex
 exact ⟨zs,v.ownBlock.toList++[],F',e1,⟨css,[],vR,e3,fun g hg o=>by rw [hlen];exact hfz g hg o,rfl,hone⟩,e4,aM⟩
def Xi{α:Type}{f:α→List PV}{ys zs:List (α×(Nat→Value))}:bY f (ys++zs)=bY f ys++bY f zs:=by simp [bY]
def yJ{α:Type}{e:Nat}{ys zs:List (α×(Nat→Value))}:br e (ys++zs)=br e ys++br e zs:=by simp [br]
def Gn{α:Type}{a b c d:List α}:(a++b++(c++d)).Perm (a++c++(b++d)):=by
 simp only [bB]
 refine iH _ ?_
 rw [←bB,←bB]
 exact kD _ lR
def Xj{α:Type}{f g:α→List PV}{fN:α×(Nat→Value)→List PV}{e:Nat}(hN:∀x h,fN (x,h)=fm h 0 (g x))(hg:∀x,(g x).length=e)(hf:∀x,(f x).length=e){Fz:aA}{w:World}:∀{zs:List (α×(Nat→Value))} {css:List Value} {F1 F2:List Nat},cG e (zs.map fN) Fz w css F1→aP (bY f zs) Fz w (br e zs) F2→cG e ((zs.map Prod.fst).map f) Fz w css F2
 | [],css,F1,F2,h,k=>by
  obtain ⟨rfl,rfl⟩:=h
  obtain ⟨_,rfl⟩:=k
  exact ⟨rfl,rfl⟩
 | z::zs,css,F1,F2,h,k=>by
  obtain ⟨c,d,Fa,Fb,rfl,rfl,hl,h1,h2⟩:=h
  have k:aP (f z.1++bY f zs) Fz w ((List.range e).map z.2++br e zs) F2:=k
  obtain ⟨v1,v2,G1,G2,k1,k2,k3,k4⟩:=k.split
  obtain ⟨rfl,rfl⟩:=List.append_inj k1 (by rw [k3.len,hf];simp)
  have hc:c=(List.range e).map z.2:=by
   have hr:=h1.rel
   rw [show fN z=fm z.2 0 (g z.1) from hN z.1 z.2] at hr
   have hk:∀(ps:List PV) (i:Nat) (vs:List Value),ci (fm z.2 i ps) Fz w vs→vs=(List.range' i ps.length).map z.2:=by
    intro ps
    induction ps with
    | nil=>intro i vs h;exact h
    | cons p ps ih=>
     intro i vs h
     obtain ⟨v,vs',rfl,h1,h2⟩:=h
     rw [ih _ _ h2,h1.1];rfl
   rw [hk _ _ _ hr,hg,←List.range_eq_range']
  subst hc
  exact ⟨_,d,G1,G2,rfl,k2,hl,k3,Xj hN hg hf h2 k4⟩
def Xk{α:Type}{f:α→List PV}{e:Nat}(hf:∀x,(f x).length=e){Fz:aA}{w:World}{z:α×(Nat→Value)}{l:List (α×(Nat→Value))}{F:List Nat}(h:aP (bY f (z::l)) Fz w (br e (z::l)) F):∃F1 F2,F=F1++F2∧aP (f z.1) Fz w ((List.range e).map z.2) F1∧aP (bY f l) Fz w (br e l) F2:=by
 have h:aP (f z.1++bY f l) Fz w ((List.range e).map z.2++br e l) F:=h
 obtain ⟨v1,v2,F1,F2,e1,rfl,h1,h2⟩:=h.split
 obtain ⟨rfl,rfl⟩:=List.append_inj e1 (by rw [h1.len,hf];simp)
 exact ⟨F1,F2,rfl,h1,h2⟩
def Xl{α:Type}{f:α→List PV}{e:Nat}(hf:∀x,(f x).length=e){Fz:aA}{w:World}{ys zs:List (α×(Nat→Value))}(hs:ys.Sublist zs):∀{F:List Nat},aP (bY f zs) Fz w (br e zs) F→∃F' R,F.Perm (F'++R)∧aP (bY f ys) Fz w (br e ys) F':=by
 induction hs with
 | slnil=>exact fun h=>⟨_,[],by rw [fV],h⟩
 | cons z hs ih=>
  intro F h
  obtain ⟨F1,F2,rfl,h1,h2⟩:=Xk hf h
  obtain ⟨F',R,hp,ho⟩:=ih h2
  exact ⟨F',F1++R,(iH _ hp).trans (by rw [←bB,←bB];exact kD _ lR),ho⟩
 | cons_cons z hs ih=>
  intro F h
  obtain ⟨F1,F2,rfl,h1,h2⟩:=Xk hf h
  obtain ⟨F',R,hp,ho⟩:=ih h2
  refine ⟨F1++F',R,(iH _ hp).trans (by rw [bB]),?_⟩
  exact h1.append ho
def Xm{α:Type}{f g:α→List PV}{fN:α×(Nat→Value)→List PV}{t e:Nat}(hN:∀x h,fN (x,h)=fm h 0 (g x))(hg:∀x,(g x).length=e)(hf:∀x,(f x).length=e){Fz:aA}{w:World}{zs:List (α×(Nat→Value))}{v:Value}{F1 F2:List Nat}(h:dR t e (zs.map fN) Fz w v F1)(k:aP (bY f zs) Fz w (br e zs) F2):dR t e ((zs.map Prod.fst).map f) Fz w v (v.ownBlock.toList++F2):=by
 obtain ⟨css,F',hrow,hll,hfz,rfl,hone⟩:=h
 have hlen:((zs.map Prod.fst).map f).length=(zs.map fN).length:=aM
 exact ⟨css,F2,vR,Xj hN hg hf hll k,fun g hg o=>by rw [hlen];exact hfz g hg o,rfl,hone⟩
def Xn{t e:Nat}{es:List (List PV)}{Fz:aA}{w:World}{v:Value}{F:List Nat}(h:dR t e es Fz w v F):∃F',F=v.ownBlock.toList++F':=by
 obtain ⟨css,F',hrow,hll,hfz,rfl,hone⟩:=h
 exact ⟨F',rfl⟩
def Gp{α:Type}{f:α→List PV}{x:α}{xs:List α}{jk:List Value}:bU f (x::xs) jk=f x++bU f xs jk:=by
 unfold bU;rw [List.map_cons,List.flatten_cons,bB]
def Xo{α:Type}{f g:α→List PV}{fN:α×(Nat→Value)→List PV}{t e:Nat}(hN:∀x h,fN (x,h)=fm h 0 (g x))(hg:∀x,(g x).length=e)(hq:∀x,aJ (f x) (g x))(hb:∀x,aF (g x)){jk:List Value}{Fz:aA}{w:World}:∀{xss:List (List α)} {vs:List Value} {F:List Nat},aP (bU (fun xs=>[PV.sl (.own t e) (xs.map f)]) xss jk) Fz w vs F →
  ∃zss:List (List (α×(Nat→Value))),∃F1 F2,zss.map (List.map Prod.fst)=xss∧aP (bU (fun zs=>[PV.sl (.own t e) (zs.map fN)]) zss jk) Fz w vs F1∧aP (bY f zss.flatten) Fz w (br e zss.flatten) F2∧F.Perm (F1++F2)
 | [],vs,F,h=>⟨[],F,[],rfl,h,⟨rfl,rfl⟩,by rw [fV]⟩
 | xs::xss,vs,F,h=>by
  rw [Gp] at h
  obtain ⟨v,vs',Fa,Fb,rfl,rfl,ho,h2⟩:=h
  obtain ⟨zs,A1,A2,e1,e2,e3,rfl⟩:=anb hN hg hq hb (show dR t e (xs.map f) Fz w v Fa from ho)
  obtain ⟨zss,B1,B2,e4,e5,e6,hp⟩:=Xo hN hg hq hb h2
  refine ⟨zs::zss,A1++B1,A2++B2,by rw [List.map_cons,e1,e4],?_,?_,?_⟩
  ·rw [Gp];exact ⟨v,vs',A1,B1,rfl,rfl,e2,e5⟩
  ·rw [List.flatten_cons,Xi,yJ];exact e3.append e6
  ·exact (iH _ hp).trans Gn
def anc{α:Type}{f:α→List PV}{e:Nat}(hf:∀x,(f x).length=e):∀l:List (α×(Nat→Value)),(br e l).length=(bY f l).length:=by
 intro l
 induction l with
 | nil=>rfl
 | cons z l ih=>
  show ((List.range e).map z.2++br e l).length=(f z.1++bY f l).length
  simp [hf,ih]
def Xp{α:Type}{f g:α→List PV}{fN:α×(Nat→Value)→List PV}{t e:Nat}(hN:∀x h,fN (x,h)=fm h 0 (g x))(hg:∀x,(g x).length=e)(hf:∀x,(f x).length=e){jk:List Value}{Fz:aA}{w:World}:∀{zss:List (List (α×(Nat→Value)))} {vs:List Value} {F1 F2:List Nat},aP (bU (fun zs=>[PV.sl (.own t e) (zs.map fN)]) zss jk) Fz w vs F1→aP (bY f zss.flatten) Fz w (br e zss.flatten) F2 →
  ∃F R,aP (bU (fun xs=>[PV.sl (.own t e) (xs.map f)]) (zss.map (List.map Prod.fst)) jk) Fz w vs F∧(F1++F2).Perm (F++R)
 | [],vs,F1,F2,h,k=>⟨F1,F2,h,List.Perm.refl _⟩
 | zs::zss,vs,F1,F2,h,k=>by
  rw [Gp] at h
  obtain ⟨v,vs',G1,Fb,rfl,rfl,ho,h2⟩:=h
  rw [List.flatten_cons,Xi,yJ] at k
  obtain ⟨v1,v2,K1,K2,k1,rfl,k3,k4⟩:=k.split
  obtain ⟨rfl,rfl⟩:=List.append_inj k1 (by rw [k3.len];exact anc hf zs)
  have ho:dR t e (zs.map fN) Fz w v G1:=ho
  obtain ⟨G',rfl⟩:=Xn ho
  have hb:=Xm hN hg hf ho k3
  obtain ⟨F,R,e1,hp⟩:=Xp hN hg hf h2 k4
  refine ⟨(v.ownBlock.toList++K1)++F,G'++R,?_,?_⟩
  ·rw [List.map_cons,Gp];exact ⟨v,vs',_,F,rfl,rfl,hb,e1⟩
  refine Gn.trans ?_
  refine (iH _ hp).trans ?_
  simp only [bB]
  refine iH _ ?_
  have p1:(G'++(K1++(F++R))).Perm ((K1++F)++(G'++R)):=by
   have:=(lR (l₁:=G') (l₂:=K1++F)).append_right R
   simpa only [bB] using this
  simpa only [bB] using p1
section
variable{P:Program}{n:Nat}{h0:Nat→Prop}{w0:World}{Fz0:aA}{σ:St}{Q:Exit→St→Prop}{c:Code}
def ane{d T G:Nat}{A B:List PV}{p:PV}{ι:Type}{q:ι→PV}{us:ι→List Value}{gs:ι→List PV}(hd:σ.b d=some (T,A++(p::B)))(hG:σ.s G=none)(hp:∀{Fz:aA} {w:World} {v:Value} {F:List Nat},p.own Fz w v F→∃i,∃F1 F2,(q i).own Fz w v F1∧aP (gs i) Fz w (us i) F2∧F.Perm (F1++F2))
  (h:∀i,SW P n h0 w0 Fz0 c ((σ.setB d (some (T,A++(q i::B)))).set G (some (RV.gh (us i) (gs i)))) Q):SW P n h0 w0 Fz0 c σ Q:=fun a w hc=>by
 obtain ⟨φ,Fz,Fp,hc⟩:=hc
 obtain ⟨cur,h1,h2⟩:=hc.box d _ hd
 obtain ⟨g1,g2,g3⟩:=hc.bxb d _ hd
 obtain ⟨v1,v2,F1,F2,k1,k2,k3,v,vs',E1,E2,rfl,rfl,ho,kB⟩:=h2.split
 obtain ⟨i,P1,P2,m1,m2,m3⟩:=hp ho
 have hnew:aP (A++(q i::B)) Fz w cur.toList (F1++(P1++E2)):=by
  rw [k1]
  exact k3.append ⟨v,vs',P1,E2,rfl,rfl,m1,kB⟩
 have c2:=hc.pullB hd
 have hnd:=c2.nod 0
 simp only [if_true] at hnd
 have em:mv Fp (2 * d+2) 0=Fp (2 * d+2)++Fp 0:=go
 have k2':Fp (2 * d+2)=F1++(E1++E2):=k2
 rw [em,k2'] at hnd
 rw [k2'] at em
 have hperm:(φ d::(F1++(E1++E2)++Fp 0)).Perm ((F1++(P1++E2))++φ d::(P2++Fp 0)):=by
  refine (List.Perm.trans ?_ List.perm_middle.symm)
  refine List.Perm.cons _ ?_
  simp only [bB]
  refine iH _ ?_
  refine (kD _ m3).trans ?_
  simp only [bB]
  refine iH _ ?_
  rw [←bB,←bB]
  exact kD _ lR
 have c3:=c2.pushB (d:=d) (g:=φ d) (t:=T) (cs:=A++(q i::B)) (F:=F1++(P1++E2)) (X:=P2++Fp 0) nr h1 hnew g2
  (fun x hx=>by
   simp only [if_true]
   rw [em]
   exact hperm.mem_iff.2 hx) (hperm.nodup_iff.1 hnd) (.inl rfl)
 have hn3:=c3.nod 0
 have c4:=c3.pushG (G:=G) (F:=P2) (X:=Fp 0) m2 (fun b hb=>by simp only [dz];rw [if_neg ab];simpa using hb) (by
  simp only [dz] at hn3
  rw [if_neg ab] at hn3
  simpa using hn3)
 exact h i a w (bC.eqv ⟨_,_,_,c4⟩ (fun i=>by
  simp only [St.set_s,St.setB_s]) (fun e=>by
  simp only [St.setB_b,St.set_b]
  split<;>rfl))
def Xq{d T G:Nat}{A B:List PV}{p q:PV}{us:List Value}{gs:List PV}(hd:σ.b d=some (T,A++(q::B)))(hG:σ.s G=some (RV.gh us gs))(hp:∀{Fz:aA} {w:World} {v:Value} {F1 F2:List Nat},q.own Fz w v F1→aP gs Fz w us F2→∃F R,p.own Fz w v F∧(F1++F2).Perm (F++R))
  (h:SW P n h0 w0 Fz0 c ((σ.set G none).setB d (some (T,A++(p::B)))) Q):SW P n h0 w0 Fz0 c σ Q:=fun a w hc=>by
 obtain ⟨φ,Fz,Fp,hc⟩:=hc
 have hg0:aP gs Fz w us (Fp (2 * G+1)):=hc.slot G _ hG
 have c1:=hc.pull G
 have e0:mv Fp (2 * G+1) 0=Fp (2 * G+1)++Fp 0:=go
 obtain ⟨cur,h1,h2⟩:=c1.box d _ hd
 obtain ⟨g1,g2,g3⟩:=c1.bxb d _ hd
 obtain ⟨v1,v2,F1,F2,k1,k2,k3,v,vs',E1,E2,rfl,rfl,ho,kB⟩:=h2.split
 obtain ⟨F,R,m1,m2⟩:=hp ho hg0
 have hnew:aP (A++(p::B)) Fz w cur.toList (F1++(F++E2)):=by
  rw [k1]
  exact k3.append ⟨v,vs',F,E2,rfl,rfl,m1,kB⟩
 have c2:=c1.pullB (d:=d) hd
 generalize hFp1:mv Fp (2 * G+1)=Fp1 at c1 c2 e0 h2 g3 k2
 have hnd:=c2.nod 0
 simp only [if_true] at hnd
 have em:mv Fp1 (2 * d+2) 0=Fp1 (2 * d+2)++Fp1 0:=go
 have k2':Fp1 (2 * d+2)=F1++(E1++E2):=k2
 rw [em,k2',e0] at hnd
 rw [k2',e0] at em
 have hperm:(φ d::(F1++(E1++E2)++(Fp (2 * G+1)++Fp 0))).Perm ((F1++(F++E2))++φ d::(R++Fp 0)):=by
  refine (List.Perm.trans ?_ List.perm_middle.symm)
  refine List.Perm.cons _ ?_
  simp only [bB]
  refine iH _ ?_
  have p1:(E1++(E2++(Fp (2 * G+1)++Fp 0))).Perm ((E1++Fp (2 * G+1))++(E2++Fp 0)):=by
   have:=Gn (a:=E1) (b:=E2) (c:=Fp (2 * G+1)) (d:=Fp 0)
   simpa only [bB] using this
  refine p1.trans ((kD _ m2).trans ?_)
  have:=Gn (a:=F) (b:=R) (c:=E2) (d:=Fp 0)
  simpa only [bB] using this
 have c3:=c2.pushB (d:=d) (g:=φ d) (t:=T) (cs:=A++(p::B)) (F:=F1++(F++E2)) (X:=R++Fp 0) nr h1 hnew g2
  (fun x hx=>by
   simp only [if_true]
   rw [em]
   exact hperm.mem_iff.2 hx) (hperm.nodup_iff.1 hnd) (.inl rfl)
 exact h a w (bC.eqv ⟨_,_,_,c3⟩ (fun i=>rfl) (fun e=>by
  simp only [St.setB_b,St.set_b]
  split<;>rfl))
def Xr{d T G:Nat}{cs:List PV}{ι:Type}{q:ι→List PV}{us:ι→List Value}{gs:ι→List PV}(hd:σ.b d=some (T,cs))(hG:σ.s G=none)(hp:∀{Fz:aA} {w:World} {vs:List Value} {F:List Nat},aP cs Fz w vs F→∃i,∃F1 F2,aP (q i) Fz w vs F1∧aP (gs i) Fz w (us i) F2∧F.Perm (F1++F2))
  (h:∀i,SW P n h0 w0 Fz0 c ((σ.setB d (some (T,q i))).set G (some (RV.gh (us i) (gs i)))) Q):SW P n h0 w0 Fz0 c σ Q:=fun a w hc=>by
 obtain ⟨φ,Fz,Fp,hc⟩:=hc
 obtain ⟨cur,h1,h2⟩:=hc.box d _ hd
 obtain ⟨g1,g2,g3⟩:=hc.bxb d _ hd
 obtain ⟨i,P1,P2,m1,m2,m3⟩:=hp h2
 have c2:=hc.pullB hd
 have hnd:=c2.nod 0
 simp only [if_true] at hnd
 have em:mv Fp (2 * d+2) 0=Fp (2 * d+2)++Fp 0:=go
 rw [em] at hnd
 have hperm:(φ d::(Fp (2 * d+2)++Fp 0)).Perm (P1++φ d::(P2++Fp 0)):=by
  refine (List.Perm.trans ?_ List.perm_middle.symm)
  refine List.Perm.cons _ ?_
  rw [←bB]
  exact kD _ m3
 have c3:=c2.pushB (d:=d) (g:=φ d) (t:=T) (cs:=q i) (F:=P1) (X:=P2++Fp 0) nr h1 m1 g2
  (fun x hx=>by
   simp only [if_true]
   rw [em]
   exact hperm.mem_iff.2 hx) (hperm.nodup_iff.1 hnd) (.inl rfl)
 have hn3:=c3.nod 0
 have c4:=c3.pushG (G:=G) (F:=P2) (X:=Fp 0) m2 (fun b hb=>by simp only [dz];rw [if_neg ab];simpa using hb) (by
  simp only [dz] at hn3
  rw [if_neg ab] at hn3
  simpa using hn3)
 exact h i a w (bC.eqv ⟨_,_,_,c4⟩ (fun i=>by
  simp only [St.set_s,St.setB_s]) (fun e=>by
  simp only [St.setB_b,St.set_b]
  split<;>rfl))
def Xs{d T G:Nat}{ps cs:List PV}{us:List Value}{gs:List PV}(hd:σ.b d=some (T,cs))(hG:σ.s G=some (RV.gh us gs))(hp:∀{Fz:aA} {w:World} {vs:List Value} {F1 F2:List Nat},aP cs Fz w vs F1→aP gs Fz w us F2→∃F R,aP ps Fz w vs F∧(F1++F2).Perm (F++R))
  (h:SW P n h0 w0 Fz0 c ((σ.set G none).setB d (some (T,ps))) Q):SW P n h0 w0 Fz0 c σ Q:=fun a w hc=>by
 obtain ⟨φ,Fz,Fp,hc⟩:=hc
 have hg0:aP gs Fz w us (Fp (2 * G+1)):=hc.slot G _ hG
 have c1:=hc.pull G
 have e0:mv Fp (2 * G+1) 0=Fp (2 * G+1)++Fp 0:=go
 obtain ⟨cur,h1,h2⟩:=c1.box d _ hd
 obtain ⟨g1,g2,g3⟩:=c1.bxb d _ hd
 obtain ⟨F,R,m1,m2⟩:=hp h2 hg0
 have c2:=c1.pullB (d:=d) hd
 generalize hFp1:mv Fp (2 * G+1)=Fp1 at c1 c2 e0 h2 g3 m2
 have hnd:=c2.nod 0
 simp only [if_true] at hnd
 have em:mv Fp1 (2 * d+2) 0=Fp1 (2 * d+2)++Fp1 0:=go
 rw [em,e0] at hnd
 rw [e0] at em
 have hperm:(φ d::(Fp1 (2 * d+2)++(Fp (2 * G+1)++Fp 0))).Perm (F++φ d::(R++Fp 0)):=by
  refine (List.Perm.trans ?_ List.perm_middle.symm)
  refine List.Perm.cons _ ?_
  rw [←bB,←bB]
  exact kD _ m2
 have c3:=c2.pushB (d:=d) (g:=φ d) (t:=T) (cs:=ps) (F:=F) (X:=R++Fp 0) nr h1 m1 g2
  (fun x hx=>by
   simp only [if_true]
   rw [em]
   exact hperm.mem_iff.2 hx) (hperm.nodup_iff.1 hnd) (.inl rfl)
 exact h a w (bC.eqv ⟨_,_,_,c3⟩ (fun i=>rfl) (fun e=>by
  simp only [St.setB_b,St.set_b]
  split<;>rfl))
def Xt{d T t e G:Nat}{α:Type}{f g:α→List PV}{fN:α×(Nat→Value)→List PV}{xss:List (List α)}{jk:List Value}(hd:σ.b d=some (T,bU (fun xs=>[PV.sl (.own t e) (xs.map f)]) xss jk))(hG:σ.s G=none)(hN:∀x h,fN (x,h)=fm h 0 (g x))(hg:∀x,(g x).length=e)(hq:∀x,aJ (f x) (g x))(hb:∀x,aF (g x))
  (h:∀zss:List (List (α×(Nat→Value))),zss.map (List.map Prod.fst)=xss→SW P n h0 w0 Fz0 c ((σ.setB d (some (T,bU (fun zs=>[PV.sl (.own t e) (zs.map fN)]) zss jk))).set G (some (RV.gh (br e zss.flatten) (bY f zss.flatten)))) Q):SW P n h0 w0 Fz0 c σ Q:=
 Xr (ι:={zss:List (List (α×(Nat→Value))) // zss.map (List.map Prod.fst)=xss}) (q:=fun i=>bU (fun zs=>[PV.sl (.own t e) (zs.map fN)]) i.1 jk) (us:=fun i=>br e i.1.flatten) (gs:=fun i=>bY f i.1.flatten) hd hG
  (fun hh=>by
   obtain ⟨zss,F1,F2,e1,e2,e3,e4⟩:=Xo hN hg hq hb hh
   exact ⟨⟨zss,e1⟩,F1,F2,e2,e3,e4⟩) (fun i=>h i.1 i.2)
def anf{d T t e G:Nat}{α:Type}{f g:α→List PV}{fN:α×(Nat→Value)→List PV}{zss:List (List (α×(Nat→Value)))}{ws:List (α×(Nat→Value))}{jk:List Value}(hd:σ.b d=some (T,bU (fun zs=>[PV.sl (.own t e) (zs.map fN)]) zss jk))(hG:σ.s G=some (RV.gh (br e ws) (bY f ws)))(hN:∀x h,fN (x,h)=fm h 0 (g x))(hg:∀x,(g x).length=e)(hf:∀x,(f x).length=e)(hs:zss.flatten.Sublist ws)
  (h:SW P n h0 w0 Fz0 c ((σ.set G none).setB d (some (T,bU (fun xs=>[PV.sl (.own t e) (xs.map f)]) (zss.map (List.map Prod.fst)) jk))) Q):SW P n h0 w0 Fz0 c σ Q:=
 Xs hd hG (fun {Fz w vs F1 F2} h1 h2=>by
  obtain ⟨K,R0,hp0,k⟩:=Xl hf hs h2
  obtain ⟨F,R,e1,hp⟩:=Xp hN hg hf h1 k
  refine ⟨F,R++R0,e1,?_⟩
  refine (iH _ hp0).trans ?_
  rw [←bB,←bB]
  exact kD _ hp) h
end
end
section
def mL{α:Type}(f:α→PV)(z:α×Value):List PV:=[PV.nv z.2 (f z.1)]
def Xu{α:Type}{f:α→PV}{Fz:aA}{w:World}:∀{xs:List α} {css:List Value} {F:List Nat},cG 1 (xs.map fun x=>[f x]) Fz w css F→∃zs:List (α×Value),zs.map Prod.fst=xs∧cG 1 (zs.map (mL f)) Fz w css F
 | [],css,F,h=>⟨[],rfl,h⟩
 | x::xs,css,F,h=>by
  obtain ⟨c,d,F1,F2,rfl,rfl,hl,h1,h2⟩:=h
  obtain ⟨zs,e1,e2⟩:=Xu h2
  obtain ⟨v,vs',A,B,rfl,rfl,ho,hn⟩:=h1
  exact ⟨(x,v)::zs,La,v::vs',d,A++B,F2,rfl,rfl,hl,⟨v,vs',A,B,rfl,rfl,⟨rfl,ho⟩,hn⟩,e2⟩
def Xv{α:Type}{f:α→PV}{Fz:aA}{w:World}:∀{zs:List (α×Value)} {css:List Value} {F:List Nat},cG 1 (zs.map (mL f)) Fz w css F→cG 1 ((zs.map Prod.fst).map fun x=>[f x]) Fz w css F
 | [],css,F,h=>h
 | z::zs,css,F,h=>by
  obtain ⟨c,d,F1,F2,rfl,rfl,hl,h1,h2⟩:=h
  obtain ⟨v,vs',A,B,rfl,rfl,ho,hn⟩:=h1
  exact ⟨v::vs',d,A++B,F2,rfl,rfl,hl,⟨v,vs',A,B,rfl,rfl,ho.2,hn⟩,Xv h2⟩
def Xw{e:Nat}{Fz:aA}{w:World}:∀{es:List (List PV)} {css:List Value} {F:List Nat},cG e es Fz w css F→∀{k:Nat} {ps:List PV},es[k]?=some ps→∃vs,ci ps Fz w vs
 | [],css,F,h,k,ps,hk=>by simp at hk
 | cs::es,css,F,h,k,ps,hk=>by
  obtain ⟨c,d,F1,F2,rfl,rfl,hl,h1,h2⟩:=h
  cases k with
  | zero=>simp at hk;subst hk;exact ⟨c,h1.rel⟩
  | succ k=>exact Xw h2 (by simpa using hk)
def ang{α:Type}{f:α→PV}{t:Nat}{Fz:aA}{w:World}{xs:List α}{v:Value}{F:List Nat}(h:dR t 1 (xs.map fun x=>[f x]) Fz w v F):∃zs:List (α×Value),zs.map Prod.fst=xs∧dR t 1 (zs.map (mL f)) Fz w v F:=by
 obtain ⟨css,F',hrow,hll,hfz,rfl,hone⟩:=h
 obtain ⟨zs,e1,e2⟩:=Xu hll
 have hlen:(zs.map (mL f)).length=(xs.map fun x=>[f x]).length:=Ex
 exact ⟨zs,e1,css,F',vR,e2,fun g hg o=>by rw [hlen];exact hfz g hg o,rfl,hone⟩
def anh{α:Type}{f:α→PV}{t:Nat}{Fz:aA}{w:World}{zs:List (α×Value)}{v:Value}{F:List Nat}(h:dR t 1 (zs.map (mL f)) Fz w v F):dR t 1 ((zs.map Prod.fst).map fun x=>[f x]) Fz w v F:=by
 obtain ⟨css,F',hrow,hll,hfz,rfl,hone⟩:=h
 have hlen:((zs.map Prod.fst).map fun x=>[f x]).length=(zs.map (mL f)).length:=aM
 exact ⟨css,F',vR,Xv hll,fun g hg o=>by rw [hlen];exact hfz g hg o,rfl,hone⟩
def aJ.nv1{u:Value}{p:PV}{qs:List PV}(h:aJ [p] qs):aJ [PV.nv u p] qs:=by
 cases qs with
 | nil=>exact h
 | cons q l=>exact ⟨PV.nv_to h.1,h.2⟩
def ani{α:Type}{f:α→PV}{g:α→List PV}{fl:Fl}{zs:List (α×Value)}{xs:List α}(hz:zs.map Prod.fst=xs)(h:∀x,aJ [f x] (g x)):(PV.sl fl (zs.map (mL f))).To (PV.sl .v (xs.map g)):=by
 subst hz
 rw [List.map_map]
 refine PV.to_map fun z=>?_
 exact aJ.nv1 (h z.1)
def anj{α:Type}{zs:List (α×Value)}{xs:List α}{k:Nat}(hz:zs.map Prod.fst=xs)(hk:k < xs.length):∃z,zs[k]?=some z∧z.1=xs[k]:=by
 subst hz
 rw [bf] at hk
 exact ⟨zs[k],List.getElem?_eq_getElem hk,by rw [List.getElem_map]⟩
section
variable{P:Program}{n:Nat}{h0:Nat→Prop}{w0:World}{Fz0:aA}{σ:St}{Q:Exit→St→Prop}{c:Code}
def Gq{d T:Nat}{A B:List PV}{p:PV}{ι:Type}{q:ι→PV}(hd:σ.b d=some (T,A++(p::B)))(hp:∀{Fz:aA} {w:World} {v:Value} {F:List Nat},p.own Fz w v F→∃i,(q i).own Fz w v F)
  (h:∀i,SW P n h0 w0 Fz0 c (σ.setB d (some (T,A++(q i::B)))) Q):SW P n h0 w0 Fz0 c σ Q:=fun a w hc=>by
 obtain ⟨φ,Fz,Fp,hc⟩:=hc
 obtain ⟨cur,h1,h2⟩:=hc.box d _ hd
 obtain ⟨v1,v2,F1,F2,k1,k2,k3,v,vs',E1,E2,rfl,rfl,ho,kB⟩:=h2.split
 obtain ⟨i,hi⟩:=hp ho
 refine h i a w ⟨φ,Fz,Fp,hc.rebox hd fun cur' _ hh=>?_⟩
 have:cur'=cur:=by
  rw [h1] at hh
  injection hh with hh
  injection hh with hh
  exact hh.symm
 subst this
 rw [k1,k2]
 exact k3.append ⟨v,vs',E1,E2,rfl,rfl,hi,kB⟩
def ank{d T t:Nat}{A B:List PV}{α:Type}{f:α→PV}{xs:List α}(hd:σ.b d=some (T,A++(PV.sl (.own t 1) (xs.map fun x=>[f x])::B)))
  (h:∀zs:List (α×Value),zs.map Prod.fst=xs→SW P n h0 w0 Fz0 c (σ.setB d (some (T,A++(PV.sl (.own t 1) (zs.map (mL f))::B)))) Q):SW P n h0 w0 Fz0 c σ Q:=
 Gq (ι:={zs:List (α×Value) // zs.map Prod.fst=xs}) (q:=fun z=>PV.sl (.own t 1) (z.1.map (mL f))) hd (fun ho=>by
  obtain ⟨zs,e1,e2⟩:=ang ho
  exact ⟨⟨zs,e1⟩,e2⟩) fun z=>h z.1 z.2
def anl{d T t:Nat}{A B:List PV}{α:Type}{f:α→PV}{xs:List α}{zs:List (α×Value)}(hz:zs.map Prod.fst=xs)(hd:σ.b d=some (T,A++(PV.sl (.own t 1) (zs.map (mL f))::B)))
  (h:SW P n h0 w0 Fz0 c (σ.setB d (some (T,A++(PV.sl (.own t 1) (xs.map fun x=>[f x])::B)))) Q):SW P n h0 w0 Fz0 c σ Q:=
 Gq (ι:=Unit) (q:=fun _=>PV.sl (.own t 1) (xs.map fun x=>[f x])) hd (fun ho=>⟨(),by subst hz;exact anh ho⟩) fun _=>h
def anm{s d T t k:Nat}{A B:List PV}{α:Type}{f:α→PV}{q:α→PV}{zs:List (α×Value)}{z:α×Value}(hs:σ.s s=some (RV.sv false [PV.val z.2]))(hd:σ.b d=some (T,A++(PV.sl (.own t 1) (zs.map (mL f))::B)))(hk:zs[k]?=some z)(hq:∀{x},(f x).To (q x))(hb:∀{x},(q x).Bor)
  (h:SW P n h0 w0 Fz0 c (σ.set s (some (RV.sv false [PV.nv z.2 (q z.1)]))) Q):SW P n h0 w0 Fz0 c σ Q:=fun a w hc=>by
 obtain ⟨x,v⟩:=z
 obtain ⟨φ,Fz,Fp,hc⟩:=hc
 obtain ⟨cur,h1,h2⟩:=hc.box d _ hd
 obtain ⟨v1,v2,F1,F2,k1,k2,k3,u,vs',E1,E2,rfl,rfl,ho,kB⟩:=h2.split
 have ho:dR t 1 (zs.map (mL f)) Fz w u E1:=ho
 obtain ⟨css,F',hrow,hll,hfz,rfl,hone⟩:=ho
 obtain ⟨us,hu⟩:=Xw hll (k:=k) (ps:=mL f (x,v)) (by rw [List.getElem?_map,hk];rfl)
 obtain ⟨u',_,rfl,hu,_⟩:=hu
 obtain ⟨rfl,hu⟩:=hu
 have hv:ce false [PV.val u'] Fz w (a.tmps.getD s undef) (Fp (2 * s+1)):=hc.slot s _ hs
 obtain ⟨hag,y,ys,G1,G2,hy1,hF,hy,hnil,rfl⟩:=hv
 subst hnil
 have c1:=(hc.pull s).reslot (s:=s) (rv:=RV.sv false [PV.nv u' (q x)]) (by
  have:mv Fp (2 * s+1) (2 * s+1)=[]:=go
  rw [this]
  obtain ⟨⟨rfl,hone'⟩,rfl⟩:=hy
  exact ⟨hag,y,[],[],[],hy1,rfl,⟨rfl,hb (hq hu)⟩,rfl,rfl⟩)
 exact h a w (bC.eqv ⟨φ,Fz,_,c1⟩ (fun i=>by
  simp only [St.set_s]
  split<;>rfl) (fun d=>rfl))
def gY(gs:List PV)(us:List Value)(qs:List PV)(us':List Value):Prop:=∀{Fz:aA} {w:World} {F:List Nat},aP gs Fz w us F→∃F' R,aP qs Fz w us' F'∧F.Perm (F'++R)
def gY.nil{gs:List PV}{us:List Value}:gY gs us [] []:=fun {_ _ F} _=>⟨[],F,⟨rfl,rfl⟩,List.Perm.refl _⟩
def gY.keep{p:PV}{u:Value}{gs qs:List PV}{us us':List Value}(h:gY gs us qs us'):gY (p::gs) (u::us) (p::qs) (u::us'):=fun {Fz w F} k=>by
 obtain ⟨v,vs,F1,F2,e1,rfl,h1,h2⟩:=k
 injection e1 with e1 e2
 subst e1 e2
 obtain ⟨F',R,h3,h4⟩:=h h2
 exact ⟨F1++F',R,⟨u,us',F1,F',rfl,rfl,h1,h3⟩,by rw [bB];exact iH _ h4⟩
def gY.drop{p:PV}{u:Value}{gs qs:List PV}{us us':List Value}(h:gY gs us qs us'):gY (p::gs) (u::us) qs us':=fun {Fz w F} k=>by
 obtain ⟨v,vs,F1,F2,e1,rfl,h1,h2⟩:=k
 injection e1 with e1 e2
 subst e1 e2
 obtain ⟨F',R,h3,h4⟩:=h h2
 refine ⟨F',F1++R,h3,?_⟩
 refine (iH F1 h4).trans ?_
 rw [←bB,←bB]
 exact kD _ lR
def gY.lit{x:Value}{gs qs:List PV}{us us':List Value}(hx:x.oneCell'=true)(h:gY gs us qs us'):gY gs us (PV.val x::qs) (x::us'):=fun {Fz w F} k=>by
 obtain ⟨F',R,h3,h4⟩:=h k
 exact ⟨F',R,⟨x,us',[],F',rfl,rfl,⟨⟨rfl,hx⟩,rfl⟩,h3⟩,h4⟩
def Xx{e:Nat}{ps:List PV}{Fz:aA}{w:World}:∀{es:List (List PV)} {css:List Value} {F:List Nat},cG e (es++[ps]) Fz w css F→∃c1 c2 Fa Fb,css=c1++c2∧F=Fa++Fb∧c2.length=e∧cG e es Fz w c1 Fa∧aP ps Fz w c2 Fb
 | [],css,F,h=>by
  obtain ⟨c,d,F1,F2,rfl,rfl,hl,h1,rfl,rfl⟩:=h
  exact ⟨[],c,[],F1,aM,aM,hl,⟨rfl,rfl⟩,h1⟩
 | x::es,css,F,h=>by
  obtain ⟨c,d,F1,F2,rfl,rfl,hl,h1,h2⟩:=h
  obtain ⟨c1,c2,Fa,Fb,rfl,rfl,h3,h4,h5⟩:=Xx h2
  exact ⟨c++c1,c2,F1++Fa,Fb,aM,aM,h3,⟨c,c1,F1,Fa,rfl,rfl,hl,h1,h4⟩,h5⟩
def Xy{e:Nat}{ps:List PV}{Fz:aA}{w:World}{c2:List Value}{Fb:List Nat}(hl:c2.length=e)(h5:aP ps Fz w c2 Fb):∀{es:List (List PV)} {c1:List Value} {Fa:List Nat},cG e es Fz w c1 Fa→cG e (es++[ps]) Fz w (c1++c2) (Fa++Fb)
 | [],c1,Fa,h=>by
  obtain ⟨rfl,rfl⟩:=h
  exact ⟨c2,[],Fb,[],aM,aM,hl,h5,rfl,rfl⟩
 | x::es,c1,Fa,h=>by
  obtain ⟨c,d,F1,F2,rfl,rfl,hl',h1,h2⟩:=h
  exact ⟨c,d++c2,F1,F2++Fb,aM,aM,hl',h1,Xy hl h5 h2⟩
def ann{t e:Nat}{es:List (List PV)}{ps qs gs:List PV}{us us':List Value}(hn:Nm ps us')(hs:gY gs us qs us'){Fz:aA}{w:World}{v:Value}{F1 F2:List Nat}(h:(PV.sl (.own t e) (es++[ps])).own Fz w v F1)(k:aP gs Fz w us F2):∃F R,(PV.sl (.own t e) (es++[qs])).own Fz w v F∧(F1++F2).Perm (F++R):=by
 have h:dR t e (es++[ps]) Fz w v F1:=h
 obtain ⟨css,F',hrow,hll,hfz,rfl,hone⟩:=h
 obtain ⟨c1,c2,Fa,Fb,rfl,rfl,hl,h4,h5⟩:=Xx hll
 obtain rfl:c2=us':=hn h5.rel
 obtain ⟨F'',R,h6,h7⟩:=hs k
 have hlen:(es++[qs]).length=(es++[ps]).length:=aM
 refine ⟨v.ownBlock.toList++(Fa++F''),Fb++R,⟨c1++c2,Fa++F'',vR,Xy hl h6 h4,fun g hg o=>by rw [hlen];exact hfz g hg o,rfl,hone⟩,?_⟩
 simp only [bB]
 refine iH _ (iH _ ?_)
 refine (iH Fb h7).trans ?_
 rw [←bB,←bB]
 exact kD _ lR
end
end
section
def Xz{α:Type}{f:α→List PV}{e:Nat}(hf:∀x,(f x).length=e){Fz:aA}{w:World}{ys rs zs:List (α×(Nat→Value))}(hp:(ys++rs).Perm zs){F:List Nat}(h:aP (bY f zs) Fz w (br e zs) F):∃F' R,F.Perm (F'++R)∧aP (bY f ys) Fz w (br e ys) F':=by
 obtain ⟨F1,k1,k2⟩:=amQ hf hp.symm h
 obtain ⟨F',R,k3,k4⟩:=Xl hf (List.sublist_append_left ys rs) k2
 exact ⟨F',R,k1.trans k3,k4⟩
def ano{α:Type}{f g:α→List PV}{fN:α×(Nat→Value)→List PV}{t e:Nat}(hN:∀x h,fN (x,h)=fm h 0 (g x))(hg:∀x,(g x).length=e)(hf:∀x,(f x).length=e){ys rs zs:List (α×(Nat→Value))}(hp:(ys++rs).Perm zs){xs:List α}(hx:ys.map Prod.fst=xs){Fz:aA}{w:World}{v:Value}{F1 F2:List Nat}(h:(PV.sl (.own t e) (ys.map fN)).own Fz w v F1)(k:aP (bY f zs) Fz w (br e zs) F2) :
  ∃F R,(PV.sl (.own t e) (xs.map f)).own Fz w v F∧(F1++F2).Perm (F++R):=by
 subst hx
 obtain ⟨F',R,k1,k2⟩:=Xz hf hp k
 have h:dR t e (ys.map fN) Fz w v F1:=h
 have h2:=Xm hN hg hf h k2
 obtain ⟨F3,rfl⟩:=Xn h
 refine ⟨_,F3++R,h2,?_⟩
 simp only [bB]
 refine iH _ ?_
 refine (iH F3 k1).trans ?_
 rw [←bB,←bB]
 exact kD _ lR
section
variable{P:Program}{n:Nat}{h0:Nat→Prop}{w0:World}{Fz0:aA}{σ:St}{Q:Exit→St→Prop}{c:Code}
def XA{d t e G:Nat}{α:Type}{f g:α→List PV}{fN:α×(Nat→Value)→List PV}(x:α)(hd:σ.b d=some (t,f x))(hG:σ.s G=none)(hN:∀x h,fN (x,h)=fm h 0 (g x))(hg:∀x,(g x).length=e)(hq:aJ (f x) (g x))(hb:aF (g x))
  (h:∀k:Nat→Value,SW P n h0 w0 Fz0 c ((σ.setB d (some (t,fN (x,k)))).set G (some (RV.gh (br e [(x,k)]) (bY f [(x,k)])))) Q):SW P n h0 w0 Fz0 c σ Q:=
 Xr (ι:=Nat→Value) (q:=fun k=>fN (x,k)) (us:=fun k=>br e [(x,k)]) (gs:=fun k=>bY f [(x,k)]) hd hG (fun {Fz w vs F} ho=>by
  have hl:vs.length=e:=by rw [ho.len,hq.len,hg]
  obtain ⟨k,hk⟩:=Mp hl
  refine ⟨k,[],F,?_,?_,List.Perm.refl _⟩
  ·rw [hN,Gf,hg,←List.range_eq_range',←hk]
   exact Ge hb (hq.rel ho.rel)
  ·have:br e [(x,k)]=vs:=by simp [br,hk]
   rw [this]
   have:bY f [(x,k)]=f x:=by simp [bY]
   rw [this];exact ho) h
def XB{d T t e G:Nat}{A B:List PV}{α:Type}{f g:α→List PV}{fN:α×(Nat→Value)→List PV}{ys zs:List (α×(Nat→Value))}(rs:List (α×(Nat→Value)))(xs:List α)(hd:σ.b d=some (T,A++(PV.sl (.own t e) (ys.map fN)::B)))(hG:σ.s G=some (RV.gh (br e zs) (bY f zs)))(hN:∀x h,fN (x,h)=fm h 0 (g x))(hg:∀x,(g x).length=e)(hf:∀x,(f x).length=e)(hp:(ys++rs).Perm zs)(hx:ys.map Prod.fst=xs)
  (h:SW P n h0 w0 Fz0 c ((σ.set G none).setB d (some (T,A++(PV.sl (.own t e) (xs.map f)::B)))) Q):SW P n h0 w0 Fz0 c σ Q:=
 Xq hd hG (fun h1 k=>ano hN hg hf hp hx h1 k) h
def anp{d t e G:Nat}{α:Type}{f g:α→List PV}{fN:α×(Nat→Value)→List PV}{zs ys:List (α×(Nat→Value))}{jk:List Value}(rs:List (α×(Nat→Value)))(xs:List α)(hd:σ.b d=some (t,bU fN ys jk))(hG:σ.s G=some (RV.gh (br e zs) (bY f zs)))(hN:∀x h,fN (x,h)=fm h 0 (g x))(hg:∀x,(g x).length=e)(hf:∀x,(f x).length=e)(hp:(ys++rs).Perm zs)(hx:ys.map Prod.fst=xs)
  (h:SW P n h0 w0 Fz0 c ((σ.set G none).setB d (some (t,bU f xs jk))) Q):SW P n h0 w0 Fz0 c σ Q:=
 Xs hd hG (fun {Fz w vs F1 F2} h1 k=>by
  subst hx
  obtain ⟨F',R,k1,k2⟩:=Xz hf hp k
  obtain ⟨us,hu,hvs⟩:=Mq hN hg (zs:=ys) (js:=jk.map PV.val) h1.rel
  have hju:aP (jk.map PV.val) Fz w us []:=aF.own (fun p hp=>by obtain ⟨v,_,rfl⟩:=List.mem_map.1 hp;exact PV.bor_val _) hvs
  have hall:aP (bU f (ys.map Prod.fst) jk) Fz w vs F':=by
   have:=k2.append hju
   rw [fV,←hu] at this
   have e2:bU f (ys.map Prod.fst) jk=bY f ys++jk.map PV.val:=by unfold bU bY;rw [List.map_map];rfl
   rw [e2];exact this
  refine ⟨F',F1++R,hall,?_⟩
  refine (iH F1 k1).trans ?_
  rw [←bB,←bB]
  exact kD _ lR) h
end
section
variable{P:Program}{n:Nat}{h0:Nat→Prop}{w0:World}{Fz0:aA}{σ:St}{Q:Exit→St→Prop}{c:Code}
def XC{s:Nat}{r r':RV}(hs:σ.s s=some r)(he:r=r')(h:SW P n h0 w0 Fz0 c (σ.set s (some r')) Q):SW P n h0 w0 Fz0 c σ Q:=fun a w hc=>by
 subst he
 obtain ⟨φ,Fz,Fp,hc⟩:=hc
 exact h a w ⟨φ,Fz,Fp,hc.reslot (hc.slot s _ hs)⟩
def anq{d T:Nat}{A B:List PV}{p:PV}(hd:σ.b d=some (T,A++(p::B)))(h:∀v:Value,SW P n h0 w0 Fz0 c (σ.setB d (some (T,A++(PV.nv v p::B)))) Q):SW P n h0 w0 Fz0 c σ Q:=
 Gq (ι:=Value) (q:=fun v=>PV.nv v p) hd (fun {Fz w v F} ho=>⟨v,rfl,ho⟩) h
def anr{d T:Nat}{A B:List PV}{v:Value}{p:PV}(hd:σ.b d=some (T,A++(PV.nv v p::B)))(h:SW P n h0 w0 Fz0 c (σ.setB d (some (T,A++(p::B)))) Q):SW P n h0 w0 Fz0 c σ Q:=
 Gq (ι:=Unit) (q:=fun _=>p) hd (fun ho=>⟨(),ho.2⟩) fun _=>h
def ans{d T G:Nat}{A B:List PV}{v:Value}{p q:PV}(hd:σ.b d=some (T,A++(PV.nv v p::B)))(hG:σ.s G=none)(hq:p.To q)(hb:q.Bor)
  (h:SW P n h0 w0 Fz0 c ((σ.setB d (some (T,A++(q::B)))).set G (some (RV.gh [v] [p]))) Q):SW P n h0 w0 Fz0 c σ Q:=
 ane (G:=G) (ι:=Unit) (q:=fun _=>q) (us:=fun _=>[v]) (gs:=fun _=>[p]) hd hG (fun {Fz w v' F} ho=>by
  obtain ⟨rfl,ho⟩:=ho
  exact ⟨(),[],F,hb (hq (p.toRel ho)),⟨v',[],F,[],rfl,aM,ho,rfl,rfl⟩,aM⟩) fun _=>h
end
def Mx(P:Program)(T:TypeId)(f:Nat):Option (Nat×TypeId):=match P.underlying T with
 | some (.struct fs)=>(fs[f]?).map fun fd=>(fd.offset,fd.type)
 | _=>none
def ant{P:Program}{n:Nat}{T ft s d f off:Nat}{ty:TypeId}{pos:String}{af:Array Edge}{g:Option (Nat×Bool)}{ag:Bool}{k:Nat}{cs qs:List PV}(hd:d < n)(hF:Mx P T f=some (off,ft))(hT:dg P ft=some (ag,k))(h1:ag=false→k=1)(hk:off+k≤cs.length)(hq:(cs.drop off).take k=qs) :
  Loc P n ⟨some d,.field T (.tmp s) f,ty,pos,af,g⟩ ⟨[(s,RV.sv true cs)],[],[(s,none),(d,some (RV.sv ag qs))],[],none⟩:=by
 intro h0 w0 Fz0 σ a w K Q hc hr _ _ h5
 obtain ⟨φ,Fz,Fp,hc⟩:=hc
 subst hq
 have hv:ce true cs Fz w (a.tmps.getD s undef) (Fp (2 * s+1)):=hc.slot s _ hr.1
 obtain ⟨hag,ho⟩:=hv
 generalize hx:a.tmps.getD s undef=x at hag ho
 obtain ⟨vals,rfl⟩:∃vals,x = .agg vals:=by cases x<;>simp [qI] at hag;exact ⟨_,rfl⟩
 have hcells:(Value.agg vals).cells.toList=vals.toList:=rfl
 rw [hcells] at ho
 obtain ⟨F1,F2,F3,eF,o1,o2,o3⟩:=ho.seg off k hk
 have hl:vals.toList.length=cs.length:=ho.len
 obtain ⟨v,e1,e2⟩:∃v,(part ft vals off).run P w = .ok v w∧ce ag ((cs.drop off).take k) Fz w v F2:=by
  obtain ⟨t1,t2⟩:=LK hT w
  cases ag with
  | true=>
   refine ⟨.agg (vals.extract off (off+k)),?_,rfl,?_⟩
   ·simp only [part,Sem.run_bind,t1,t2,Result.andThen_ok,if_true,Sem.run_pure]
   ·show aP _ Fz w (vals.extract off (off+k)).toList F2
    have:(vals.extract off (off+k)).toList=(vals.toList.drop off).take k:=by
     rw [Array.toList_extract,List.extract_eq_take_drop];congr 1;omega
    rw [this];exact o2
  | false=>
   have hk1:=h1 rfl
   subst hk1
   have hlt:off < vals.size:=by
    have:vals.toList.length=vals.size:=aM
    omega
   have hget:vals[off]?=some vals[off]:=by simp [hlt]
   have hdt:(vals.toList.drop off).take 1=[vals[off]]:=by
    rw [List.drop_eq_getElem_cons (by simpa using hlt)];simp
   rw [hdt] at o2
   have hone:=o2.one vals[off] aM
   refine ⟨vals[off],?_,?_⟩
   ·simp only [part,Sem.run_bind,t1,Result.andThen_ok,hget]
    simp [Sem.run_pure]
   ·have hc1:vals[off].cells.toList=[vals[off]]∧qI vals[off]=false:=by
     cases hv:vals[off]<;>rw [hv] at hone<;>simp_all [Value.oneCell',Value.cells,qI]
    exact ⟨hc1.2,by rw [hc1.1];exact o2⟩
 have c1:=hc.pull s
 have hm0:mv Fp (2 * s+1) 0=Fp (2 * s+1)++Fp 0:=go
 have hnd:=c1.nod 0
 rw [hm0,eF] at hnd
 have c2:=c1.push (i:=d) (rv:=RV.sv ag ((cs.drop off).take k)) (v:=v) (F:=F2) (X:=[]) hd e2 (fun b hb=>by
   rw [hm0,eF]
   simp only [fV] at hb
   simp [hb]) (by
   rw [fV]
   simp only [df] at hnd
   exact hnd.1.2.1.1)
 refine ez (v:=v) (w':=w) ?_ (h5 _ _ (bC.eqv ⟨_,_,_,c2⟩ (fun j=>rfl) (fun e=>rfl)))
 have hs':a.eval (.tmp s) = .agg vals:=hx
 unfold execOp
 unfold Mx at hF
 split at hF
 ·rename_i fs hu
  obtain ⟨fd,hfd,hfe⟩:=Option.map_eq_some_iff.1 hF
  simp only [Prod.mk.injEq] at hfe
  obtain ⟨rfl,rfl⟩:=hfe
  simp only [Instr.field,hs',Sem.run_bind,run_underlying hu,Result.andThen_ok,hfd,asAgg,Sem.run_pure,e1]
 ·cases hF
def kL(e:Nat)(u:Value)(lo len:Nat):Value:=match u with
 | .slice (some ⟨b,o,q⟩) _ c=>.slice (if c=lo then some ⟨b,o,q⟩ else some ⟨b,o+lo * e,q⟩) len (c - lo)
 | v=>v
def My{e g m c lo len:Nat}:kL e (.slice (some ⟨g,0,none⟩) m c) lo len = .slice (some ⟨g,if c=lo then 0 else lo * e,none⟩) len (c - lo):=by
 unfold kL
 dsimp only
 split<;>simp
def XD(h:Nat→Value):∀{ps:List PV} {i:Nat},aF ps→aF (fm h i ps)
 | [],_,hb=>hb
 | p::ps,i,hb=>aF.cons (PV.bor_nv (hb p List.mem_cons_self)) (XD h fun q hq=>hb q (List.mem_cons_of_mem _ hq))
def qU{α:Type}(e:Nat)(zs:List (α×(Nat→Value)))(jk:List Value):List Value:=(br e zs++jk).drop ((zs.length - 1) * e)
def gw{α:Type}(zs:List α)(i:Nat):List α:=zs.take i++zs.drop (i+1)
def Mz{α:Type}{zs:List α}{i:Nat}(h:i < zs.length):(gw zs i).length=zs.length - 1:=by
 unfold gw;rw [bJ,cI,lj];omega
def nD{α:Type}{e:Nat}:∀{zs:List (α×(Nat→Value))},(br e zs).length=zs.length * e
 | []=>by simp [br]
 | z::zs=>by
  have:br e (z::zs)=(List.range e).map z.2++br e zs:=rfl
  rw [this,bJ,nD,bf,List.length_range,List.length_cons,Nat.succ_mul];omega
def anu{α:Type}{e cp m:Nat}{zs:List (α×(Nat→Value))}{jk:List Value}(hz:zs.length=m)(hm:0 < m)(hj:m * e+jk.length=cp * e):(m - 1) * e+(qU e zs jk).length=cp * e:=by
 unfold qU
 have h1:(m - 1) * e≤m * e:=Nat.mul_le_mul_right _ ab
 rw [lj,bJ,nD,hz]
 omega
section
variable{P:Program}{n:Nat}
def XE{T E e bs d s G D m cp i j:Nat}{lo hi:Option Operand}{ty:TypeId}{pos:String}{af:Array Edge}{g:Option (Nat×Bool)}{u:Value}{q r:Int}(hd:d < n)(hT:fy P T=some (E,e,bs))
  (hlo:wg lo (i=0) (RV.int q)) (hhi:wg hi (j=m) (RV.int r)) (hq:q=(i:Int)) (hr:r=(j:Int)) (hij:i≤j) (hj:j≤m) :
  Loc P n ⟨some d,.slice T (.tmp s) lo hi none,ty,pos,af,g⟩ ⟨(s,RV.sc u)::(G,RV.gat u D m cp)::(yB lo (RV.int q)++yB hi (RV.int r)),[],[(d,some (RV.sc (kL e u i (j - i))))],[],none⟩:=by
 subst hq hr
 intro h0 w0 Fz0 σ a w K Q hc hr _ _ h5
 obtain ⟨φ,Fz,Fp,hc⟩:=hc
 obtain ⟨⟨eu,hmc,hcx⟩,_⟩:=hc.slot G _ hr.2.1
 have ev:=(hc.one_ hr.1).1
 obtain ⟨hu,inf,hinf,hsz,_⟩:=sy hT
 have es':a.eval (.tmp s) = .slice (some ⟨φ D,0,none⟩) m cp:=Ld
 have hlo':lo.map a.eval=(lo.map fun _=>(.int .i64 (i:Int):Value)):=by
  cases lo with
  | none=>rfl
  | some x=>exact congrArg some (hc.sc hr.2.2.left hlo)
 have hhi':hi.map a.eval=(hi.map fun _=>(.int .i64 (j:Int):Value)):=by
  cases hi with
  | none=>rfl
  | some x=>exact congrArg some (hc.sc hr.2.2.right hhi)
 have e1:kL e u i (j - i) = .slice (if cp=i then some ⟨φ D,0,none⟩ else (some ⟨φ D,0,none⟩:Option Addr).map (·.add (i * e))) (j - i) (cp - i):=by
  rw [eu]
  unfold kL
  dsimp only
  split<;>simp [ow]
 refine ez (v:=kL e u i (j - i)) (w':=w) ?_ (h5 _ _ (hc.put0 hd (ce.of_sc (by rw [e1];rfl))))
 rw [e1]
 unfold execOp
 have hb:(Instr.sliceBounds true m cp (lo.map a.eval) (hi.map a.eval) none).run P w = .ok (i,j,cp) w:=by
  rw [hlo',hhi']
  have b1:(0:Int)≤(j:Int)∧(j:Int)≤(cp:Int):=ab
  have b2:(0:Int)≤(i:Int)∧(i:Int)≤(j:Int):=ab
  cases lo<;>cases hi<;>simp only [wg] at hlo hhi<;>simp [Instr.sliceBounds,Instr.sliceBound,asIntOf,b1,b2, *]<;>omega
 simp only [Instr.sliceAt,Instr.slice,es',Sem.run_bind,run_underlying hu,Result.andThen_ok,Option.map_none,hb,sizeOf,typeInfo,run_program,hinf,hsz,Sem.run_pure]
def anv{t d s x G D E e bs m cp i:Nat}{ty:TypeId}{pos:String}{af:Array Edge}{gd:Option (Nat×Bool)}{u:Value}{α:Type}{g:α→List PV}{fN:α×(Nat→Value)→List PV}{zs:List (α×(Nat→Value))}{jk:List Value}(hd:d < n)(hT:fy P t=some (E,e,bs))(he:0 < e)(hN:∀x h,fN (x,h)=fm h 0 (g x))(hg:∀x,(g x).length=e)(hb:∀x,aF (g x))(hz:zs.length=m)(hi:i < m)(hj:m * e+jk.length=cp * e)(hdG:Nat.beq d G=false) :
  Loc P n ⟨some d,.call { callee:=.builtin .append,args := #[.tmp s,.tmp x],argTypes := #[t,t] },ty,pos,af,gd⟩ ⟨[(s,RV.sc (kL e u 0 (i - 0))),(x,RV.sc (kL e u (i+1) (m - (i+1)))),(G,RV.gat u D m cp)],[(D,(E,bU fN zs jk))],[(d,some (RV.sc (kL e u 0 (m - 1)))),(G,some (RV.gat (kL e u 0 (m - 1)) D (m - 1) cp))],[(D,some (E,bU fN (gw zs i) (qU e zs jk)))],none⟩:=by
 intro h0 w0 Fz0 σ a w K Q hc hr hrb _ h5
 obtain ⟨φ,Fz,Fp,hc⟩:=hc
 obtain ⟨⟨eu,hmc,hcx⟩,_⟩:=hc.slot G _ hr.2.2.1
 have ev:=(hc.one_ hr.1).1
 have ex:=(hc.one_ hr.2.1).1
 obtain ⟨hu,inf,hinf,hsz,_⟩:=sy hT
 subst hz
 have hbs:σ.b D=some (E,bU fN zs jk):=hrb.1
 obtain ⟨cur,hgc,ho⟩:=hc.box D _ hbs
 obtain ⟨k1,k2,k3⟩:=hc.bxb D _ hbs
 have hone:=ho.one
 obtain ⟨us,hus,hvs⟩:=Mq hN hg (zs:=zs) (js:=jk.map PV.val) ho.rel
 have huj:us=jk:=by
  have hk:∀(l:List Value) (us:List Value),ci (l.map PV.val) Fz w us→us=l:=by
   intro l
   induction l with
   | nil=>intro us h;exact h
   | cons v l ih=>
    intro us h
    obtain ⟨v',vs',rfl,h1,h2⟩:=h
    rw [ih _ h2,h1.1]
  exact hk _ _ hvs
 subst huj
 generalize hA:zs.take i=A
 generalize hB:zs.drop (i+1)=B
 have hzs:zs=A++(zs[i]::B):=by rw [←hA,←hB,←List.drop_eq_getElem_cons hi,ic]
 have hAl:A.length=i:=by rw [←hA,cI];omega
 have hBl:B.length=zs.length - (i+1):=by rw [←hB,lj]
 have hval:br e zs=br e A++((List.range e).map zs[i].2++br e B):=by
  conv=>lhs;rw [hzs]
  rw [yJ];rfl
 have hcl:cur.toList.length=cp * e:=by rw [hus,bJ,nD];exact hj
 have hcs:cur.size=cp * e:=by rw [←hcl];simp
 have hnl:(br e B).length=(zs.length - (i+1)) * e:=by rw [nD,hBl]
 have hoff:(i+1) * e+(br e B).length=zs.length * e:=by rw [hnl,←Nat.add_mul];congr 1;omega
 have hcell:∀j v,(br e B)[j]?=some v→w.cell? ((⟨φ D,if cp=i+1 then 0 else (i+1) * e,none⟩:Addr).add j)=some v:=by
  intro j v hv
  have hjl:=(List.getElem?_eq_some_iff.1 hv).1
  have hne:¬cp=i+1:=by
   intro e'
   have:zs.length≤i+1:=ab
   have:B.length=0:=ab
   rw [nD,this] at hjl;omega
  rw [if_neg hne,ow]
  have hq:=cell_of_row w (φ D) ((i+1) * e+j) cur E (0,0) hgc
  have hq2:w.cell? ⟨φ D,(i+1) * e+j,none⟩=cur.toList[(i+1) * e+j]?:=by rw [hq];simp
  rw [hq2,hus,hval]
  rw [List.getElem?_append_left (by simp only [bJ,bf,List.length_range,nD,hAl];rw [nD] at hjl;have:=Nat.add_mul i 1 e;omega)]
  rw [List.getElem?_append_right (by rw [nD,hAl];have:=Nat.add_mul i 1 e;omega),List.getElem?_append_right (by rw [nD,hAl];simp only [bf,List.length_range];have:=Nat.add_mul i 1 e;omega)]
  rw [←hv]
  congr 1
  rw [nD,hAl];simp only [bf,List.length_range];have:=Nat.add_mul i 1 e;omega
 have h1:∀v∈br e B,v.oneCell'=true:=fun v hv=>hone v (by rw [hus,hval];simp [hv])
 have hroom:i+(zs.length - (i+1))≤cp:=ab
 have hfit:i * inf.size+(br e B).length≤cur.size:=by rw [hsz,hnl,hcs,←Nat.add_mul];exact Nat.mul_le_mul_right _ hroom
 have hrun:=run_append_room (P:=P) w t ty E inf hu hinf (φ D) i cp cur hgc ⟨φ D,if cp=i+1 then 0 else (i+1) * e,none⟩ (zs.length - (i+1)) (cp - (i+1)) (br e B) (by rw [hnl,hsz]) hcell h1 hroom hfit
 rw [hsz] at hrun
 have hs1:a.eval (.tmp s) = .slice (some ⟨φ D,0,none⟩) i cp:=by
  have:a.eval (.tmp s)=kL e u 0 (i - 0):=ev
  rw [this,eu,My]
  simp
 have hs2:a.eval (.tmp x) = .slice (some ⟨φ D,if cp=i+1 then 0 else (i+1) * e,none⟩) (zs.length - (i+1)) (cp - (i+1)):=by
  have:a.eval (.tmp x)=kL e u (i+1) (zs.length - (i+1)):=ex
  rw [this,eu,My]
 have hres:kL e u 0 (zs.length - 1) = .slice (some ⟨φ D,0,none⟩) (i+(zs.length - (i+1))) cp:=by
  rw [eu,My,show i+(zs.length - (i+1))=zs.length - 1 by omega]
  simp
 have hidx:i+(zs.length - (i+1))=zs.length - 1:=ab
 have c1:=hc.pullB hbs
 generalize hFp1:(fun x=>if x=0 then φ D::mv Fp (2 * D+2) 0 else mv Fp (2 * D+2) x)=Fp1 at c1
 have e0:Fp1 0=φ D::(Fp (2 * D+2)++Fp 0):=by rw [←hFp1];simp [mv]
 generalize hcur:(cur.toList.take (i * e)++br e B++cur.toList.drop (i * e+(br e B).length)).toArray=cur' at hrun
 have hw:(w.setRow (φ D) cur').heap.size=w.heap.size:=size_setRow _ _ _
 have hset:(w.setRow (φ D) cur').heap[φ D]?=some (.cells cur' E (0,0)):=setRow_heap w (φ D) cur _ E _ hgc
 have hoth:∀i,i≠φ D→(w.setRow (φ D) cur').heap[i]?=w.heap[i]?:=fun i hi=>setRow_other w (φ D) i _ hi
 have hkeep:gX Fz w Fz (w.setRow (φ D) cur'):=fun i o hio=>⟨hio,World.cell?_of_block (hoth i fun e=>k2 o (e▸hio))⟩
 have c2:=c1.world (w':=w.setRow (φ D) cur') (Fz':=Fz) (X:=Fp1 0) rfl rfl rfl ab
  (fun i hi hi0=>⟨hoth i fun e=>hi0 (by rw [e,e0];simp),fun o ho=>ho⟩) hkeep (fun i o hio=>by rw [hw];exact hc.fzl i o hio)
  (fun i hi=>.inl hi) (c1.nod 0)
 have hlist:cur'.toList=br e (gw zs i)++qU e zs us:=by
  rw [←hcur]
  show cur.toList.take (i * e)++br e B++cur.toList.drop (i * e+(br e B).length)=_
  unfold gw qU
  rw [hA,hB,yJ,←hus]
  have t1:cur.toList.take (i * e)=br e A:=by
   rw [hus,hval,bB]
   exact List.take_left' (by rw [nD,hAl])
  rw [t1,hnl,←Nat.add_mul,show i+(zs.length - (i+1))=zs.length - 1 by omega]
 have hrel:=ho.rel.mono hkeep
 have hnew:aP (bU fN (gw zs i) (qU e zs us)) Fz (w.setRow (φ D) cur') cur'.toList []:=by
  rw [hlist]
  unfold bU
  have hr1:ci ((zs.map fN).flatten) Fz (w.setRow (φ D) cur') (br e zs):=by
   obtain ⟨v1,v2,q1,q2,q3⟩:=ci.split (show ci ((zs.map fN).flatten++us.map PV.val) Fz (w.setRow (φ D) cur') cur.toList from hrel)
   rw [hus] at q1
   have:=List.append_inj q1 (by
    have hl1:=q2.len
    rw [hl1,nD]
    have:∀l:List (α×(Nat→Value)),(l.map fN).flatten.length=l.length * e:=by
     intro l
     induction l with
     | nil=>simp
     | cons z l ih=>
      rw [List.map_cons,List.flatten_cons,bJ,ih,List.length_cons,Nat.succ_mul,show fN z=fm z.2 0 (g z.1) from hN z.1 z.2]
      have:∀(ps:List PV) (i:Nat),(fm z.2 i ps).length=ps.length:=by
       intro ps
       induction ps with
       | nil=>intro i;rfl
       | cons p ps ih=>intro i;simp [fm,ih]
      rw [this,hg];omega
    rw [this])
   rw [this.1];exact q2
  rw [hzs,bK,List.flatten_append,List.map_cons,List.flatten_cons,yJ] at hr1
  obtain ⟨v1,v2,q1,q2,q3⟩:=ci.split hr1
  obtain ⟨v3,v4,q4,q5,q6⟩:=ci.split q3
  have hfl:∀l:List (α×(Nat→Value)),(l.map fN).flatten.length=l.length * e:=by
   intro l
   induction l with
   | nil=>simp
   | cons z l ih=>
    rw [List.map_cons,List.flatten_cons,bJ,ih,List.length_cons,Nat.succ_mul,show fN z=fm z.2 0 (g z.1) from hN z.1 z.2]
    have:∀(ps:List PV) (i:Nat),(fm z.2 i ps).length=ps.length:=by
     intro ps
     induction ps with
     | nil=>intro i;rfl
     | cons p ps ih=>intro i;simp [fm,ih]
    rw [this,hg];omega
  have hfz:(fN zs[i]).length=e:=by have:=hfl [zs[i]];simpa using this
  obtain ⟨rfl,hv2⟩:=List.append_inj q1 (by rw [q2.len,hfl,nD])
  have hv2:(List.range e).map zs[i].2++br e B=v2:=hv2
  rw [q4] at hv2
  obtain ⟨_,rfl⟩:=List.append_inj hv2 (by rw [q5.len,hfz];simp)
  have hrB:ci (((gw zs i).map fN).flatten) Fz (w.setRow (φ D) cur') (br e (gw zs i)):=by
   unfold gw
   rw [hA,hB,bK,List.flatten_append,yJ]
   exact q2.append q6
  have hbor:aF ((gw zs i).map fN).flatten:=by
   intro p hp
   obtain ⟨l,hl,hp⟩:=List.mem_flatten.1 hp
   obtain ⟨z,_,rfl⟩:=List.mem_map.1 hl
   rw [show fN z=fm z.2 0 (g z.1) from hN z.1 z.2] at hp
   exact XD z.2 (hb z.1) p hp
  have hoj:aP ((qU e zs us).map PV.val) Fz (w.setRow (φ D) cur') (qU e zs us) []:=Bp fun v hv=>hone v (by
   unfold qU at hv
   rw [←hus] at hv
   exact List.mem_of_mem_drop hv)
  have:=(hbor.own hrB).append hoj
  rwa [fV] at this
 have c3:=c2.pushB (d:=D) (g:=φ D) (t:=E) (cs:=bU fN (gw zs i) (qU e zs us)) (F:=[]) (X:=Fp 0) nr hset hnew k2
  (fun x hx=>by
   simp only [if_true]
   rw [e0]
   simp only [List.nil_append,kz,eS] at hx ⊢
   rcases hx with hx|hx
   ·exact .inl hx
   ·exact .inr (.inr hx))
  (by
   have hnd:=c1.nod 0
   rw [e0] at hnd
   simp only [List.nil_append]
   rw [jl] at hnd ⊢
   exact ⟨fun hh=>hnd.1 (by simp [hh]),(List.nodup_append.1 hnd.2).2.1⟩) (.inl rfl)
 have c4:=(c3.pull G).reslot (s:=G) (rv:=RV.gat (kL e u 0 (zs.length - 1)) D (zs.length - 1) cp) ⟨⟨hres.trans (by rw [hidx];simp),ab,hcx⟩,go⟩
 have c5:=c4.put0 (d:=d) (r:=RV.sc (kL e u 0 (zs.length - 1))) (v:=kL e u 0 (zs.length - 1)) hd (ce.of_sc (by rw [hres];rfl))
 refine ez (v:=kL e u 0 (zs.length - 1)) (w':=w.setRow (φ D) cur') ?_ (h5 _ _ (bC.eqv c5 (fun k=>?_) (fun k=>?_)))
 ·rw [hres]
  have es':a.eval (.tmp s)=a.tmps.getD s undef:=rfl
  have ex':a.eval (.tmp x)=a.tmps.getD x undef:=rfl
  unfold execOp
  simp only [resolve,invoke,builtin,Sem.run_bind,Sem.run_pure,Result.andThen_ok,List.map_toArray,List.map_cons,List.map_nil,hs1,hs2,hrun]
 ·show bZ [(d,_),(G,_)] σ.s k=_
  have hne:¬d=G:=fun e=>by rw [e] at hdG;simp at hdG
  simp only [bZ,St.set,St.setB]
  cases hkd:Nat.beq k d<;>cases hkG:Nat.beq k G
  ·rfl
  ·rfl
  ·rfl
  ·exact absurd ((Nat.eq_of_beq_eq_true hkd).symm.trans (Nat.eq_of_beq_eq_true hkG)) hne
 ·show bZ [(D,_)] σ.b k=_
  simp only [bZ,St.set,St.setB]
  cases hkd:Nat.beq k D<;>rfl
end
end
section
section
variable{P:Program}{n:Nat}{h0:Nat→Prop}{w0:World}{Fz0:aA}{σ:St}{Q:Exit→St→Prop}{c:Code}
end
def anw{P:Program}{T:TypeId}(h:P.underlying T=some (.int .u8)):yH P T (fun n:Int=>[PV.val (.int .u8 n)]) fun n=>0≤n∧n≤255:=by
 intro H enc w sp held n cs x hx
 obtain ⟨m,rfl,_,hw⟩:=DataW.trod_int h hx
 exact ⟨m,⟨_,[],rfl,⟨rfl,rfl⟩,rfl⟩,bounds_u8 hw⟩
end
end Go.Proofs.YtmekkgdboplbjaaGreatDoor.M
namespace Go.Proofs.YtmekkgdboplbjaaGreatDoor.M
open Go Go.RowKit
section
section
variable{P:Program}{n:Nat}{h0:Nat→Prop}{w0:World}{Fz0:aA}{σ:St}{Q:Exit→St→Prop}{c:Code}
end
section
variable{P:Program}{n:Nat}{t d s x E e bs b bt:Nat}{ty:TypeId}{pos:String}{af:Array Edge}{g:Option (Nat×Bool)}{z u:Value}{es ys:List (List PV)}{A B cs:List PV}{r:PV}
end
end
end Go.Proofs.YtmekkgdboplbjaaGreatDoor.M
