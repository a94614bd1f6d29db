/- The logic. No condition. -/
import Derived.Test.YtmekkgdboplbjaaGreatDoorPC0
import Derived.Lib.SplitLaws
import Derived.Lib.AtoiAll
import Derived.Lib.Strings
import Derived.Lib.Replace
set_option linter.all false
namespace Go.Proofs.YtmekkgdboplbjaaGreatDoor.M
open Go Go.RowKit
variable{α:Type}{e t:Nat}{v:Value}{d G T:Nat}{A B:List PV}{jk:List Value}{s:Nat}{p:PV}{ty:TypeId}{pos:String}{af:Array Edge}{m i cp:Nat}{f:α→List PV}{ys:List (α×(Nat→Value))}{zs:List (α×(Nat→Value))}{g:α→List PV}{fN:α×(Nat→Value)→List PV}
section
def aq6(hf:∀x,(f x).length=e){Fz:aC}{w:World}{rs:List (α×(Nat→Value))}(hp:(ys++rs).Perm zs){F:List Nat}(h:aN (cb f zs) Fz w (bz e zs) F):∃F' R,F.Perm (F'++R)∧aN (cb f ys) Fz w (bz e ys) F':=by obtain ⟨F1,k1,k2⟩:=avU hf hp.symm h;obtain ⟨F',R,k3,k4⟩:=adF hf (List.sublist_append_left ys rs) k2;exact ⟨F',R,k1.trans k3,k4⟩
def aA2(hN:∀x h,fN (x,h)=fX h 0 (g x))(hg:∀x,(g x).length=e)(hf:∀x,(f x).length=e){rs:List (α×(Nat→Value))}(hp:(ys++rs).Perm zs){xs:List α}(hx:ys.map Prod.fst=xs){Fz:aC}{w:World}{F1 F2:List Nat}(h:(PV.sl (.own t e) (ys.map fN)).own Fz w v F1)(k:aN (cb f zs) Fz w (bz e zs) F2) :
  ∃F R,(PV.sl (.own t e) (xs.map f)).own Fz w v F∧(F1++F2).Perm (F++R):=by
 subst hx;obtain ⟨F',R,k1,k2⟩:=aq6 hf hp k;have h:eG t e (ys.map fN) Fz w v F1:=h;have h2:=adG hN hg hf h k2;obtain ⟨F3,rfl⟩:=adH h;refine ⟨_,F3++R,h2,?_⟩;simp only [bn];refine jr _ ?_;refine (jr F3 k1).trans ?_;rw [←bn,←bn];exact lU _ ny
section
variable{P:Program}{n:Nat}{h0:Nat→Prop}{w0:World}{Fz0:aC}{σ:St}{Q:Exit→St→Prop}{c:Code}
def aq7(x:α)(hd:σ.b d=some (t,f x))(hG:σ.s G=none)(hN:∀x h,fN (x,h)=fX h 0 (g x))(hg:∀x,(g x).length=e)(hq:az (f x) (g x))(hb:aS (g x))
  (h:∀k:Nat→Value,SW P n h0 w0 Fz0 c ((σ.setB d (some (t,fN (x,k)))).set G (some (RV.gh (bz e [(x,k)]) (cb f [(x,k)])))) Q):SW P n h0 w0 Fz0 c σ Q:=
 adL (ι:=Nat→Value) (q:=fun k=>fN (x,k)) (us:=fun k=>bz e [(x,k)]) (gs:=fun k=>cb f [(x,k)]) hd hG (fun {Fz w vs F} ho=>by
  have hl:vs.length=e:=by rw [ho.len,hq.len,hg]
  obtain ⟨k,hk⟩:=Rr hl;refine ⟨k,[],F,?_,?_,List.Perm.refl _⟩
  ·rw [hN,JP,hg,←List.range_eq_range',←hk]
   exact JO hb (hq.rel ho.rel)
  ·have:bz e [(x,k)]=vs:=by simp [bz,hk]
   rw [this];have:cb f [(x,k)]=f x:=by simp [cb]
   rw [this];exact ho) h
def aq8(rs:List (α×(Nat→Value)))(xs:List α)(hd:σ.b d=some (T,A++(PV.sl (.own t e) (ys.map fN)::B)))(hG:σ.s G=some (RV.gh (bz e zs) (cb f zs)))(hN:∀x h,fN (x,h)=fX h 0 (g x))(hg:∀x,(g x).length=e)(hf:∀x,(f x).length=e)(hp:(ys++rs).Perm zs)(hx:ys.map Prod.fst=xs)
  (h:SW P n h0 w0 Fz0 c ((σ.set G none).setB d (some (T,A++(PV.sl (.own t e) (xs.map f)::B)))) Q):SW P n h0 w0 Fz0 c σ Q:=
 adK hd hG (fun h1 k=>aA2 hN hg hf hp hx h1 k) h
def aA3(rs:List (α×(Nat→Value)))(xs:List α)(hd:σ.b d=some (t,bX fN ys jk))(hG:σ.s G=some (RV.gh (bz e zs) (cb f zs)))(hN:∀x h,fN (x,h)=fX h 0 (g x))(hg:∀x,(g x).length=e)(hf:∀x,(f x).length=e)(hp:(ys++rs).Perm zs)(hx:ys.map Prod.fst=xs)
  (h:SW P n h0 w0 Fz0 c ((σ.set G none).setB d (some (t,bX f xs jk))) Q):SW P n h0 w0 Fz0 c σ Q:=
 adM hd hG (fun {Fz w vs F1 F2} h1 k=>by
  subst hx;obtain ⟨F',R,k1,k2⟩:=aq6 hf hp k;obtain ⟨us,hu,hvs⟩:=Rs hN hg (zs:=ys) (js:=jk.map PV.val) h1.rel;have hju:aN (jk.map PV.val) Fz w us []:=aS.own (fun p hp=>by obtain ⟨v,_,rfl⟩:=List.mem_map.1 hp;exact PV.bor_val _) hvs;have hall:aN (bX f (ys.map Prod.fst) jk) Fz w vs F':=by
   have:=k2.append hju;rw [fS,←hu] at this;have e2:bX f (ys.map Prod.fst) jk=cb f ys++jk.map PV.val:=by unfold bX cb;rw [List.map_map];rfl
   rw [e2];exact this
  refine ⟨F',F1++R,hall,?_⟩;refine (jr F1 k1).trans ?_;rw [←bn,←bn];exact lU _ ny) h
end
section
variable{P:Program}{n:Nat}{h0:Nat→Prop}{w0:World}{Fz0:aC}{σ:St}{Q:Exit→St→Prop}{c:Code}
def aq9{r r':RV}(hs:σ.s s=some r)(he:r=r')(h:SW P n h0 w0 Fz0 c (σ.set s (some r')) Q):SW P n h0 w0 Fz0 c σ Q:=fun a w hc=>by subst he;obtain ⟨φ,Fz,Fp,hc⟩:=hc;exact h a w ⟨φ,Fz,Fp,hc.reslot (hc.slot s _ hs)⟩
def aA4(hd:σ.b d=some (T,A++(p::B)))(h:∀v:Value,SW P n h0 w0 Fz0 c (σ.setB d (some (T,A++(PV.nv v p::B)))) Q):SW P n h0 w0 Fz0 c σ Q:=
 JZ (ι:=Value) (q:=fun v=>PV.nv v p) hd (fun {Fz w v F} ho=>⟨v,rfl,ho⟩) h
def aA5(hd:σ.b d=some (T,A++(PV.nv v p::B)))(h:SW P n h0 w0 Fz0 c (σ.setB d (some (T,A++(p::B)))) Q):SW P n h0 w0 Fz0 c σ Q:=
 JZ (ι:=Unit) (q:=fun _=>p) hd (fun ho=>⟨(),ho.2⟩) fun _=>h
def aA6{q:PV}(hd:σ.b d=some (T,A++(PV.nv v p::B)))(hG:σ.s G=none)(hq:p.To q)(hb:q.Bor)
  (h:SW P n h0 w0 Fz0 c ((σ.setB d (some (T,A++(q::B)))).set G (some (RV.gh [v] [p]))) Q):SW P n h0 w0 Fz0 c σ Q:=
 awf (G:=G) (ι:=Unit) (q:=fun _=>q) (us:=fun _=>[v]) (gs:=fun _=>[p]) hd hG (fun {Fz w v' F} ho=>by obtain ⟨rfl,ho⟩:=ho;exact ⟨(),[],F,hb (hq (p.toRel ho)),⟨v',[],F,[],rfl,aL,ho,rfl,rfl⟩,aL⟩) fun _=>h
end
def NO(P:Program)(T:TypeId)(f:Nat):Option (Nat×TypeId):=match P.underlying T with
 | some (.struct fs)=>(fs[f]?).map fun fd=>(fd.offset,fd.type)
 | _=>none
def ara{P:Program}{n:Nat}{ft f off:Nat}{g:Option (Nat×Bool)}{ag:Bool}{k:Nat}{cs qs:List PV}(hd:d < n)(hF:NO P T f=some (off,ft))(hT:dr P ft=some (ag,k))(h1:ag=false→k=1)(hk:off+k≤cs.length)(hq:(cs.drop off).take k=qs) :
  Loc P n ⟨some d,.field T (.tmp s) f,ty,pos,af,g⟩ ⟨[(s,RV.sv true cs)],[],[(s,none),(d,some (RV.sv ag qs))],[],none⟩:=by
 intro h0 w0 Fz0 σ a w K Q hc hr _ _ h5;obtain ⟨φ,Fz,Fp,hc⟩:=hc;subst hq;have hv:bY true cs Fz w (a.tmps.getD s undef) (Fp (2 * s+1)):=hc.slot s _ hr.1;obtain ⟨hag,ho⟩:=hv;generalize hx:a.tmps.getD s undef=x at hag ho;obtain ⟨vals,rfl⟩:∃vals,x = .agg vals:=by cases x<;>simp [th] at hag;exact ⟨_,rfl⟩
 have hcells:(Value.agg vals).cells.toList=vals.toList:=rfl;rw [hcells] at ho;obtain ⟨F1,F2,F3,eF,o1,o2,o3⟩:=ho.seg off k hk;have hl:vals.toList.length=cs.length:=ho.len;obtain ⟨v,e1,e2⟩:∃v,(part ft vals off).run P w = .ok v w∧bY ag ((cs.drop off).take k) Fz w v F2:=by
  obtain ⟨t1,t2⟩:=QB hT w;cases ag with
  | true=>
   refine ⟨.agg (vals.extract off (off+k)),?_,rfl,?_⟩;·simp only [part,Sem.run_bind,t1,t2,Result.andThen_ok,if_true,Sem.run_pure]
   ·show aN _ Fz w (vals.extract off (off+k)).toList F2
    have:(vals.extract off (off+k)).toList=(vals.toList.drop off).take k:=by rw [Array.toList_extract,List.extract_eq_take_drop];congr 1;omega
    rw [this];exact o2
  | false=>
   have hk1:=h1 rfl;subst hk1;have hlt:off < vals.size:=by have:vals.toList.length=vals.size:=aL;omega
   have hget:vals[off]?=some vals[off]:=by simp [hlt]
   have hdt:(vals.toList.drop off).take 1=[vals[off]]:=by rw [List.drop_eq_getElem_cons (by simpa using hlt)];simp
   rw [hdt] at o2;have hone:=o2.one vals[off] aL;refine ⟨vals[off],?_,?_⟩
   ·simp only [part,Sem.run_bind,t1,Result.andThen_ok,hget]
    simp [Sem.run_pure]
   ·have hc1:vals[off].cells.toList=[vals[off]]∧th vals[off]=false:=by cases hv:vals[off]<;>rw [hv] at hone<;>simp_all [Value.oneCell',Value.cells,th]
    exact ⟨hc1.2,by rw [hc1.1];exact o2⟩
 have c1:=hc.pull s;have hm0:mv Fp (2 * s+1) 0=Fp (2 * s+1)++Fp 0:=hI;have hnd:=c1.nod 0;rw [hm0,eF] at hnd;have c2:=c1.push (i:=d) (rv:=RV.sv ag ((cs.drop off).take k)) (v:=v) (F:=F2) (X:=[]) hd e2 (fun b hb=>by
   rw [hm0,eF];simp only [fS] at hb;simp [hb]) (by
   rw [fS];simp only [dD] at hnd;exact hnd.1.2.1.1)
 refine eH (v:=v) (w':=w) ?_ (h5 _ _ (bB.eqv ⟨_,_,_,c2⟩ (fun j=>rfl) (fun e=>rfl)));have hs':a.eval (.tmp s) = .agg vals:=hx;unfold execOp;unfold NO at hF;split at hF
 ·rename_i fs hu
  obtain ⟨fd,hfd,hfe⟩:=Option.map_eq_some_iff.1 hF;simp only [Prod.mk.injEq] at hfe;obtain ⟨rfl,rfl⟩:=hfe;simp only [Instr.field,hs',Sem.run_bind,run_underlying hu,Result.andThen_ok,hfd,asAgg,Sem.run_pure,e1]
 ·cases hF
def mu(e:Nat)(u:Value)(lo len:Nat):Value:=match u with
 | .slice (some ⟨b,o,q⟩) _ c=>.slice (if c=lo then some ⟨b,o,q⟩ else some ⟨b,o+lo * e,q⟩) len (c - lo)
 | v=>v
def XN{g c lo len:Nat}:mu e (.slice (some ⟨g,0,none⟩) m c) lo len = .slice (some ⟨g,if c=lo then 0 else lo * e,none⟩) len (c - lo):=by unfold mu;dsimp only;split<;>simp
def arb(h:Nat→Value):∀{ps:List PV} {i:Nat},aS ps→aS (fX h i ps)
 | [],_,hb=>hb
 | p::ps,i,hb=>aS.cons (PV.bor_nv (hb p List.mem_cons_self)) (arb h fun q hq=>hb q (List.mem_cons_of_mem _ hq))
def ui(e:Nat)(zs:List (α×(Nat→Value)))(jk:List Value):List Value:=(bz e zs++jk).drop ((zs.length - 1) * e)
def il(zs:List α)(i:Nat):List α:=zs.take i++zs.drop (i+1)
def XO{zs:List α}(h:i < zs.length):(il zs i).length=zs.length - 1:=by unfold il;rw [bv,cc,ll];omega
def pY{α:Type}{e:Nat}:∀{zs:List (α×(Nat→Value))},(bz e zs).length=zs.length * e
 | []=>by simp [bz]
 | z::zs=>by have:bz e (z::zs)=(List.range e).map z.2++bz e zs:=rfl;rw [this,bv,pY,aU,List.length_range,List.length_cons,Nat.succ_mul];omega
def aA7(hz:zs.length=m)(hm:0 < m)(hj:m * e+jk.length=cp * e):(m - 1) * e+(ui e zs jk).length=cp * e:=by unfold ui;have h1:(m - 1) * e≤m * e:=Nat.mul_le_mul_right _ ab;rw [ll,bv,pY,hz];omega
section
variable{P:Program}{n:Nat}
def arc{E bs D j:Nat}{lo hi:Option Operand}{g:Option (Nat×Bool)}{u:Value}{q r:Int}(hd:d < n)(hT:gu P T=some (E,e,bs))
  (hlo:yZ lo (i=0) (RV.int q)) (hhi:yZ hi (j=m) (RV.int r)) (hq:q=(i:Int)) (hr:r=(j:Int)) (hij:i≤j) (hj:j≤m) :
  Loc P n ⟨some d,.slice T (.tmp s) lo hi none,ty,pos,af,g⟩ ⟨(s,RV.sc u)::(G,RV.gat u D m cp)::(Bj lo (RV.int q)++Bj hi (RV.int r)),[],[(d,some (RV.sc (mu e u i (j - i))))],[],none⟩:=by
 subst hq hr;intro h0 w0 Fz0 σ a w K Q hc hr _ _ h5;obtain ⟨φ,Fz,Fp,hc⟩:=hc;obtain ⟨⟨eu,hmc,hcx⟩,_⟩:=hc.slot G _ hr.2.1;have ev:=(hc.one_ hr.1).1;obtain ⟨hu,inf,hinf,hsz,_⟩:=tk hT;have es':a.eval (.tmp s) = .slice (some ⟨φ D,0,none⟩) m cp:=PL;have hlo':lo.map a.eval=(lo.map fun _=>(.int .i64 (i:Int):Value)):=by
  cases lo with
  | none=>rfl
  | some x=>exact congrArg some (hc.sc hr.2.2.left hlo)
 have hhi':hi.map a.eval=(hi.map fun _=>(.int .i64 (j:Int):Value)):=by
  cases hi with
  | none=>rfl
  | some x=>exact congrArg some (hc.sc hr.2.2.right hhi)
 have e1:mu e u i (j - i) = .slice (if cp=i then some ⟨φ D,0,none⟩ else (some ⟨φ D,0,none⟩:Option Addr).map (·.add (i * e))) (j - i) (cp - i):=by rw [eu];unfold mu;dsimp only;split<;>simp [qo]
 refine eH (v:=mu e u i (j - i)) (w':=w) ?_ (h5 _ _ (hc.put0 hd (bY.of_sc (by rw [e1];rfl))));rw [e1];unfold execOp;have hb:(Instr.sliceBounds true m cp (lo.map a.eval) (hi.map a.eval) none).run P w = .ok (i,j,cp) w:=by rw [hlo',hhi'];have b1:(0:Int)≤(j:Int)∧(j:Int)≤(cp:Int):=ab;have b2:(0:Int)≤(i:Int)∧(i:Int)≤(j:Int):=ab;cases lo<;>cases hi<;>simp only [yZ] at hlo hhi<;>simp [Instr.sliceBounds,Instr.sliceBound,asIntOf,b1,b2, *]<;>omega
 simp only [Instr.sliceAt,Instr.slice,es',Sem.run_bind,run_underlying hu,Result.andThen_ok,Option.map_none,hb,sizeOf,typeInfo,run_program,hinf,hsz,Sem.run_pure]
def aA8{x D E bs:Nat}{gd:Option (Nat×Bool)}{u:Value}(hd:d < n)(hT:gu P t=some (E,e,bs))(he:0 < e)(hN:∀x h,fN (x,h)=fX h 0 (g x))(hg:∀x,(g x).length=e)(hb:∀x,aS (g x))(hz:zs.length=m)(hi:i < m)(hj:m * e+jk.length=cp * e)(hdG:Nat.beq d G=false) :
  Loc P n ⟨some d,.call { callee:=.builtin .append,args := #[.tmp s,.tmp x],argTypes := #[t,t] },ty,pos,af,gd⟩ ⟨[(s,RV.sc (mu e u 0 (i - 0))),(x,RV.sc (mu e u (i+1) (m - (i+1)))),(G,RV.gat u D m cp)],[(D,(E,bX fN zs jk))],[(d,some (RV.sc (mu e u 0 (m - 1)))),(G,some (RV.gat (mu e u 0 (m - 1)) D (m - 1) cp))],[(D,some (E,bX fN (il zs i) (ui e zs jk)))],none⟩:=by
 intro h0 w0 Fz0 σ a w K Q hc hr hrb _ h5;obtain ⟨φ,Fz,Fp,hc⟩:=hc;obtain ⟨⟨eu,hmc,hcx⟩,_⟩:=hc.slot G _ hr.2.2.1;have ev:=(hc.one_ hr.1).1;have ex:=(hc.one_ hr.2.1).1;obtain ⟨hu,inf,hinf,hsz,_⟩:=tk hT;subst hz;have hbs:σ.b D=some (E,bX fN zs jk):=hrb.1;obtain ⟨cur,hgc,ho⟩:=hc.box D _ hbs;obtain ⟨k1,k2,k3⟩:=hc.bxb D _ hbs;have hone:=ho.one;obtain ⟨us,hus,hvs⟩:=Rs hN hg (zs:=zs) (js:=jk.map PV.val) ho.rel;have huj:us=jk:=by
  have hk:∀(l:List Value) (us:List Value),cC (l.map PV.val) Fz w us→us=l:=by
   intro l;induction l with
   | nil=>intro us h;exact h
   | cons v l ih=>
    intro us h;obtain ⟨v',vs',rfl,h1,h2⟩:=h;rw [ih _ h2,h1.1]
  exact hk _ _ hvs
 subst huj;generalize hA:zs.take i=A;generalize hB:zs.drop (i+1)=B;have hzs:zs=A++(zs[i]::B):=by rw [←hA,←hB,←List.drop_eq_getElem_cons hi,iq]
 have hAl:A.length=i:=by rw [←hA,cc];omega
 have hBl:B.length=zs.length - (i+1):=by rw [←hB,ll]
 have hval:bz e zs=bz e A++((List.range e).map zs[i].2++bz e B):=by
  conv=>lhs;rw [hzs]
  rw [Bv];rfl
 have hcl:cur.toList.length=cp * e:=by rw [hus,bv,pY];exact hj
 have hcs:cur.size=cp * e:=by rw [←hcl];simp
 have hnl:(bz e B).length=(zs.length - (i+1)) * e:=by rw [pY,hBl]
 have hoff:(i+1) * e+(bz e B).length=zs.length * e:=by rw [hnl,←Nat.add_mul];congr 1;omega
 have hcell:∀j v,(bz e B)[j]?=some v→w.cell? ((⟨φ D,if cp=i+1 then 0 else (i+1) * e,none⟩:Addr).add j)=some v:=by
  intro j v hv;have hjl:=(List.getElem?_eq_some_iff.1 hv).1;have hne:¬cp=i+1:=by intro e';have:zs.length≤i+1:=ab;have:B.length=0:=ab;rw [pY,this] at hjl;omega
  rw [if_neg hne,qo];have hq:=cell_of_row w (φ D) ((i+1) * e+j) cur E (0,0) hgc;have hq2:w.cell? ⟨φ D,(i+1) * e+j,none⟩=cur.toList[(i+1) * e+j]?:=by rw [hq];simp
  rw [hq2,hus,hval];rw [List.getElem?_append_left (by simp only [bv,aU,List.length_range,pY,hAl];rw [pY] at hjl;have:=Nat.add_mul i 1 e;omega)];rw [List.getElem?_append_right (by rw [pY,hAl];have:=Nat.add_mul i 1 e;omega),List.getElem?_append_right (by rw [pY,hAl];simp only [aU,List.length_range];have:=Nat.add_mul i 1 e;omega)];rw [←hv];congr 1
  rw [pY,hAl];simp only [aU,List.length_range];have:=Nat.add_mul i 1 e;omega
 have h1:∀v∈bz e B,v.oneCell'=true:=fun v hv=>hone v (by rw [hus,hval];simp [hv]);have hroom:i+(zs.length - (i+1))≤cp:=ab;have hfit:i * inf.size+(bz e B).length≤cur.size:=by rw [hsz,hnl,hcs,←Nat.add_mul];exact Nat.mul_le_mul_right _ hroom
 have hrun:=run_append_room (P:=P) w t ty E inf hu hinf (φ D) i cp cur hgc ⟨φ D,if cp=i+1 then 0 else (i+1) * e,none⟩ (zs.length - (i+1)) (cp - (i+1)) (bz e B) (by rw [hnl,hsz]) hcell h1 hroom hfit;rw [hsz] at hrun;have hs1:a.eval (.tmp s) = .slice (some ⟨φ D,0,none⟩) i cp:=by have:a.eval (.tmp s)=mu e u 0 (i - 0):=ev;rw [this,eu,XN];simp
 have hs2:a.eval (.tmp x) = .slice (some ⟨φ D,if cp=i+1 then 0 else (i+1) * e,none⟩) (zs.length - (i+1)) (cp - (i+1)):=by have:a.eval (.tmp x)=mu e u (i+1) (zs.length - (i+1)):=ex;rw [this,eu,XN]
 have hres:mu e u 0 (zs.length - 1) = .slice (some ⟨φ D,0,none⟩) (i+(zs.length - (i+1))) cp:=by rw [eu,XN,show i+(zs.length - (i+1))=zs.length - 1 by omega];simp
 have hidx:i+(zs.length - (i+1))=zs.length - 1:=ab;have c1:=hc.pullB hbs;generalize hFp1:(fun x=>if x=0 then φ D::mv Fp (2 * D+2) 0 else mv Fp (2 * D+2) x)=Fp1 at c1;have e0:Fp1 0=φ D::(Fp (2 * D+2)++Fp 0):=by rw [←hFp1];simp [mv]
 generalize hcur:(cur.toList.take (i * e)++bz e B++cur.toList.drop (i * e+(bz e B).length)).toArray=cur' at hrun;have hw:(w.setRow (φ D) cur').heap.size=w.heap.size:=size_setRow _ _ _;have hset:(w.setRow (φ D) cur').heap[φ D]?=some (.cells cur' E (0,0)):=setRow_heap w (φ D) cur _ E _ hgc;have hoth:∀i,i≠φ D→(w.setRow (φ D) cur').heap[i]?=w.heap[i]?:=fun i hi=>setRow_other w (φ D) i _ hi;have hkeep:jt Fz w Fz (w.setRow (φ D) cur'):=fun i o hio=>⟨hio,World.cell?_of_block (hoth i fun e=>k2 o (e▸hio))⟩
 have c2:=c1.world (w':=w.setRow (φ D) cur') (Fz':=Fz) (X:=Fp1 0) rfl rfl rfl ab
  (fun i hi hi0=>⟨hoth i fun e=>hi0 (by rw [e,e0];simp),fun o ho=>ho⟩) hkeep (fun i o hio=>by rw [hw];exact hc.fzl i o hio)
  (fun i hi=>.inl hi) (c1.nod 0)
 have hlist:cur'.toList=bz e (il zs i)++ui e zs us:=by
  rw [←hcur];show cur.toList.take (i * e)++bz e B++cur.toList.drop (i * e+(bz e B).length)=_;unfold il ui;rw [hA,hB,Bv,←hus];have t1:cur.toList.take (i * e)=bz e A:=by rw [hus,hval,bn];exact List.take_left' (by rw [pY,hAl])
  rw [t1,hnl,←Nat.add_mul,show i+(zs.length - (i+1))=zs.length - 1 by omega]
 have hrel:=ho.rel.mono hkeep;have hnew:aN (bX fN (il zs i) (ui e zs us)) Fz (w.setRow (φ D) cur') cur'.toList []:=by
  rw [hlist];unfold bX;have hr1:cC ((zs.map fN).flatten) Fz (w.setRow (φ D) cur') (bz e zs):=by
   obtain ⟨v1,v2,q1,q2,q3⟩:=cC.split (show cC ((zs.map fN).flatten++us.map PV.val) Fz (w.setRow (φ D) cur') cur.toList from hrel);rw [hus] at q1;have:=List.append_inj q1 (by
    have hl1:=q2.len;rw [hl1,pY];have:∀l:List (α×(Nat→Value)),(l.map fN).flatten.length=l.length * e:=by
     intro l;induction l with
     | nil=>simp
     | cons z l ih=>
      rw [List.map_cons,List.flatten_cons,bv,ih,List.length_cons,Nat.succ_mul,show fN z=fX z.2 0 (g z.1) from hN z.1 z.2];have:∀(ps:List PV) (i:Nat),(fX z.2 i ps).length=ps.length:=by
       intro ps;induction ps with
       | nil=>intro i;rfl
       | cons p ps ih=>intro i;simp [fX,ih]
      rw [this,hg];omega
    rw [this])
   rw [this.1];exact q2
  rw [hzs,bj,List.flatten_append,List.map_cons,List.flatten_cons,Bv] at hr1;obtain ⟨v1,v2,q1,q2,q3⟩:=cC.split hr1;obtain ⟨v3,v4,q4,q5,q6⟩:=cC.split q3;have hfl:∀l:List (α×(Nat→Value)),(l.map fN).flatten.length=l.length * e:=by
   intro l;induction l with
   | nil=>simp
   | cons z l ih=>
    rw [List.map_cons,List.flatten_cons,bv,ih,List.length_cons,Nat.succ_mul,show fN z=fX z.2 0 (g z.1) from hN z.1 z.2];have:∀(ps:List PV) (i:Nat),(fX z.2 i ps).length=ps.length:=by
     intro ps;induction ps with
     | nil=>intro i;rfl
     | cons p ps ih=>intro i;simp [fX,ih]
    rw [this,hg];omega
  have hfz:(fN zs[i]).length=e:=by have:=hfl [zs[i]];simpa using this
  obtain ⟨rfl,hv2⟩:=List.append_inj q1 (by rw [q2.len,hfl,pY]);have hv2:(List.range e).map zs[i].2++bz e B=v2:=hv2;rw [q4] at hv2;obtain ⟨_,rfl⟩:=List.append_inj hv2 (by rw [q5.len,hfz];simp);have hrB:cC (((il zs i).map fN).flatten) Fz (w.setRow (φ D) cur') (bz e (il zs i)):=by unfold il;rw [hA,hB,bj,List.flatten_append,Bv];exact q2.append q6
  have hbor:aS ((il zs i).map fN).flatten:=by intro p hp;obtain ⟨l,hl,hp⟩:=List.mem_flatten.1 hp;obtain ⟨z,_,rfl⟩:=List.mem_map.1 hl;rw [show fN z=fX z.2 0 (g z.1) from hN z.1 z.2] at hp;exact arb z.2 (hb z.1) p hp
  have hoj:aN ((ui e zs us).map PV.val) Fz (w.setRow (φ D) cur') (ui e zs us) []:=Eh fun v hv=>hone v (by unfold ui at hv;rw [←hus] at hv;exact List.mem_of_mem_drop hv)
  have:=(hbor.own hrB).append hoj;rwa [fS] at this
 have c3:=c2.pushB (d:=D) (g:=φ D) (t:=E) (cs:=bX fN (il zs i) (ui e zs us)) (F:=[]) (X:=Fp 0) mF hset hnew k2
  (fun x hx=>by
   simp only [if_true];rw [e0];simp only [List.nil_append,ip,fm] at hx ⊢;rcases hx with hx|hx;·exact .inl hx
   ·exact .inr (.inr hx))
  (by have hnd:=c1.nod 0;rw [e0] at hnd;simp only [List.nil_append];rw [kg] at hnd ⊢;exact ⟨fun hh=>hnd.1 (by simp [hh]),(List.nodup_append.1 hnd.2).2.1⟩) (.inl rfl)
 have c4:=(c3.pull G).reslot (s:=G) (rv:=RV.gat (mu e u 0 (zs.length - 1)) D (zs.length - 1) cp) ⟨⟨hres.trans (by rw [hidx];simp),ab,hcx⟩,hI⟩;have c5:=c4.put0 (d:=d) (r:=RV.sc (mu e u 0 (zs.length - 1))) (v:=mu e u 0 (zs.length - 1)) hd (bY.of_sc (by rw [hres];rfl));refine eH (v:=mu e u 0 (zs.length - 1)) (w':=w.setRow (φ D) cur') ?_ (h5 _ _ (bB.eqv c5 (fun k=>?_) (fun k=>?_)))
 ·rw [hres]
  have es':a.eval (.tmp s)=a.tmps.getD s undef:=rfl;have ex':a.eval (.tmp x)=a.tmps.getD x undef:=rfl;unfold execOp;simp only [resolve,invoke,builtin,Sem.run_bind,Sem.run_pure,Result.andThen_ok,List.map_toArray,List.map_cons,List.map_nil,hs1,hs2,hrun]
 ·show bK [(d,_),(G,_)] σ.s k=_
  have hne:¬d=G:=fun e=>by rw [e] at hdG;simp at hdG
  simp only [bK,St.set,St.setB];cases hkd:Nat.beq k d<;>cases hkG:Nat.beq k G;·rfl
  ·rfl
  ·rfl
  ·exact absurd ((Nat.eq_of_beq_eq_true hkd).symm.trans (Nat.eq_of_beq_eq_true hkG)) hne
 ·show bK [(D,_)] σ.b k=_
  simp only [bK,St.set,St.setB];cases hkd:Nat.beq k D<;>rfl
end
end
section
section
variable{P:Program}{n:Nat}{h0:Nat→Prop}{w0:World}{Fz0:aC}{σ:St}{Q:Exit→St→Prop}{c:Code}
def yv{cs:List PV}(qs:List PV)(hd:σ.b d=some (t,cs))(ht:az cs qs)(hb:aS qs)(h:SW P n h0 w0 Fz0 c (σ.setB d (some (t,qs))) Q):SW P n h0 w0 Fz0 c σ Q:=fun a w hc=>by
 obtain ⟨φ,Fz,Fp,hc⟩:=hc;obtain ⟨cur,h1,h2⟩:=hc.box d _ hd;obtain ⟨k1,k2,k3⟩:=hc.bxb d _ hd;have c1:=hc.pullB hd;have hn:=c1.nod 0;rw [if_pos rfl] at hn;have c2:=c1.pushB (d:=d) (g:=φ d) (t:=t) (cs:=qs) (F:=[]) (X:=mv Fp (2 * d+2) 0) mF h1 (hb.own (ht.rel h2.rel)) k2 (fun b hb=>by rw [if_pos rfl];simpa using hb) Ba (.inl rfl);exact h a w (bB.eqv ⟨_,_,_,c2⟩ (fun i=>rfl) (fun e=>by simp only [St.setB_b];split<;>rfl))
end
def aA9{P:Program}{T:TypeId}(h:P.underlying T=some (.int .u8)):Bs P T (fun n:Int=>[PV.val (.int .u8 n)]) fun n=>0≤n∧n≤255:=by intro H enc w sp held n cs x hx;obtain ⟨m,rfl,_,hw⟩:=DataW.trod_int h hx;exact ⟨m,⟨_,[],rfl,⟨rfl,rfl⟩,rfl⟩,bounds_u8 hw⟩
end
end Go.Proofs.YtmekkgdboplbjaaGreatDoor.M
namespace Go.Proofs.YtmekkgdboplbjaaGreatDoor.M
open Go Go.RowKit
section
section
variable{P:Program}{n:Nat}{h0:Nat→Prop}{w0:World}{Fz0:aC}{σ:St}{Q:Exit→St→Prop}{c:Code}
end
section
variable{P:Program}{n:Nat}{t d s x E e bs b bt:Nat}{ty:TypeId}{pos:String}{af:Array Edge}{g:Option (Nat×Bool)}{z u:Value}{es ys:List (List PV)}{A B cs:List PV}{r:PV}
end
end
end Go.Proofs.YtmekkgdboplbjaaGreatDoor.M
namespace Go.Proofs.YtmekkgdboplbjaaGreatDoor.M
open Go Go.RowKit
variable{Fz:aC}{w:World}{gm:Nat}{T:TypeId}{ms:_}{T2:TypeId}{r q:Int}{u:am}
section
def AA(ok:Bool)(v:Value):Prop:=if ok then v = .nilIface else ∃t p,v = .iface t p
def AA.one{ok:Bool}{v:Value}(h:AA ok v):v.oneCell'=true:=by
 unfold AA at h;split at h;·subst h;rfl
 ·obtain ⟨t,p,rfl⟩:=h;rfl
def PV.err(ok:Bool):PV where
 rel _ _ v:=AA ok v
 own _ _ v F:=AA ok v∧F=[]
 one h:=h.one
 toRel h:=h.1
 relMono h _:=h
 ownMono h _ _:=h
 lt h:=qk
def PV.bor_err(x:Bool):(PV.err x).Bor:=fun h=>⟨h,rfl⟩
def se(g:Nat)(ok:Value→Prop)(Fz:aC)(w:World):Prop:=Fz g 0∧∃v,w.cell? ⟨g,0,none⟩=some v∧ok v
def se.mono{g:Nat}{ok:Value→Prop}{Fz':aC}{w':World}(h:se g ok Fz w)(k:jt Fz w Fz' w'):se g ok Fz' w':=by obtain ⟨h1,v,h2,h3⟩:=h;obtain ⟨k1,k2⟩:=k g 0 h1;exact ⟨k1,v,k2.trans h2,h3⟩
def NP(v:Value):Prop:=v = .nilIface∨∃t p,v = .iface t p
def aBa(P:Program)(g:Nat)(hg:P.globalNamed "internal/strconv.uint64pow10" = some g)(gm gs gr:Nat):rt where
 rel Fz w:=(ady P g hg).rel Fz w∧se gm (fun v=>∃m,v = .int .i64 m) Fz w∧se gs NP Fz w∧se gr NP Fz w
 mono h k:=⟨(ady P g hg).mono h.1 k,h.2.1.mono k,h.2.2.1.mono k,h.2.2.2.mono k⟩
section
variable{P:Program}{G:rt}{f:FuncId}
def yw{x:Value}{qs:List (Bool×List PV)}{vs:List Value}(hx:x.oneCell'=true)(h:fz qs Fz w vs []):fz ((false,[PV.val x])::qs) Fz w (x::vs) []:=⟨x,vs,[],[],rfl,rfl,bY.of_sc hx,h⟩
def HA{w':World}{vs:List Value}{q1 q2:Bool×List PV}{qs:List (Bool×List PV)}(hz:∀b o,Fz b o→b < w.heap.size)(hb:Below w.heap.size w w')(ho:fz (q1::q2::qs) Fz w' vs []):∃v Fz' F,Ending.returned (.tuple vs.toArray) = .returned v∧Below w.heap.size w w' ∧
  (∀b o,b < w.heap.size→(Fz' b o↔Fz b o))∧(∀b o,Fz' b o→b < w'.heap.size)∧(∀φ,(ay (q1::q2::qs)).holds φ Fz' w' v F)∧F.Nodup∧∀b,b∈F→w.heap.size≤b∧b < w'.heap.size:=
 ⟨_,Fz,[],rfl,hb,fun _ _ _=>Iff.rfl,fun b o h=>Nat.lt_of_lt_of_le (hz b o h) hb.size,fun _=>⟨_,rfl,ho⟩,List.nodup_nil,fun b hb=>by simp at hb⟩
def aBb(w:World)(k:Nat):Below w.heap.size w (w.drewN k):=by refine ⟨rfl,rfl,rfl,Nat.le_refl _,fun b hb=>rfl⟩
def aBc(hm:∀{Fz w},G.rel Fz w→se gm (fun v=>∃m,v = .int .i64 m) Fz w)
  (c:∀(s sep:ByteArray) (m:Int) (w:World),s.size < 4294967281→w.cell? ⟨gm,0,none⟩=some (.int .i64 m) →
   Calls P f #[.string s,.string sep] w fun e w'=>e = .returned (.tuple #[.string ⟨(Lib.cut s.data.toList sep.data.toList).1.toArray⟩,.string ⟨(Lib.cut s.data.toList sep.data.toList).2.1.toArray⟩,.bool (Lib.cut s.data.toList sep.data.toList).2.2])∧∃n,w'=w.drewN n)
  {s sep:am} (hs:s.length < 4294967281):eJ P G f [(false,[PV.val (.string (B s))]),(false,[PV.val (.string (B sep))])]
   (ay [(false,[PV.val (.string (B (Lib.cut s sep).1))]),(false,[PV.val (.string (B (Lib.cut s sep).2.1))]),(false,[PV.val (.bool (Lib.cut s sep).2.2)])]):=by
 intro w vs Fz hz hG hr;obtain ⟨v,vs',rfl,h1,v2,vs2,rfl,h2,rfl⟩:=hr;obtain rfl:v = .string (B s):=kK.sc h1;obtain rfl:v2 = .string (B sep):=kK.sc h2;obtain ⟨_,v,hv,m,rfl⟩:=hm hG;refine (c (B s) (B sep) m w hs hv).mono ?_;rintro e w' ⟨rfl,n,rfl⟩;exact HA (vs:=[_,_,_]) hz (aBb w n) (yw rfl (yw rfl (yw rfl ⟨rfl,rfl⟩)))
def aBd(c:∀(s p:ByteArray) (w:World),Calls P f #[.string s,.string p] w fun e w'=>e = .returned (.tuple #[.string ⟨(Lib.trimPrefix s.data.toList p.data.toList).toArray⟩,.bool (Lib.hasPrefix s.data.toList p.data.toList)])∧w'=w)
  {s p:am}:aD P f [(false,[PV.val (.string (B s))]),(false,[PV.val (.string (B p))])] (ay [(false,[PV.val (.string (B (Lib.trimPrefix s p)))]),(false,[PV.val (.bool (Lib.hasPrefix s p))])]):=by
 intro w vs Fz hz hr;obtain ⟨v,vs',rfl,h1,v2,vs2,rfl,h2,rfl⟩:=hr;obtain rfl:v = .string (B s):=kK.sc h1;obtain rfl:v2 = .string (B p):=kK.sc h2;refine (c (B s) (B p) w).mono ?_;rintro e w' ⟨rfl,rfl⟩;exact HA (vs:=[_,_]) hz (Below.refl _ _) (yw rfl (yw rfl ⟨rfl,rfl⟩))
def ard{e:am→List PV}(he:∀x,e x=[PV.val (.string (B x))]){Fz:aC}{w:World}:∀ws:List am,cX 1 (ws.map e) Fz w (ws.map fun x=>.string (B x)) []
 | []=>⟨rfl,rfl⟩
 | x::r=>⟨[.string (B x)],_,[],[],rfl,rfl,rfl,by rw [he];exact ⟨_,[],[],[],rfl,rfl,⟨⟨rfl,rfl⟩,rfl⟩,rfl,rfl⟩,ard he r⟩
def aBe{E:Nat}{e:am→List PV}(he:∀x,e x=[PV.val (.string (B x))]){ws:List am}(hz:∀b o,Fz b o→b < w.heap.size)(hl:ws.length≤maxLen) :
  ∃v Fz' F,Ending.returned (.slice (some ⟨w.heap.size,0,none⟩) ws.length ws.length) = .returned v∧Below w.heap.size w (w.alloc (.cells (ws.map fun x=>Value.string (B x)).toArray E)) ∧
  (∀b o,b < w.heap.size→(Fz' b o↔Fz b o))∧(∀b o,Fz' b o→b < (w.alloc (.cells (ws.map fun x=>Value.string (B x)).toArray E)).heap.size)∧(∀φ,(ay [(false,[PV.sl (.own E 1) (ws.map e)])]).holds φ Fz' (w.alloc (.cells (ws.map fun x=>Value.string (B x)).toArray E)) v F)∧F.Nodup∧∀b,b∈F→w.heap.size≤b∧b < (w.alloc (.cells (ws.map fun x=>Value.string (B x)).toArray E)).heap.size:=by
 have hsz:(w.alloc (.cells (ws.map fun x=>Value.string (B x)).toArray E)).heap.size=w.heap.size+1:=Array.size_push _;have hsl:eG E 1 (ws.map e) (fun b o=>Fz b o∨(b=w.heap.size∧o < ws.length)) (w.alloc (.cells (ws.map fun x=>Value.string (B x)).toArray E)) (.slice (some ⟨w.heap.size,0,none⟩) ws.length ws.length) [w.heap.size]:=by
  refine ⟨_,[],?_,ard he ws,?_,AY,?_⟩
  ·have:=World.ownsRow_lit (base:=0) (e:=E) (size:=1) w (ws.map fun x=>Value.string (B x)).toArray ws.length (Nat.zero_le _) hl aL
   rw [aU];simpa using this
  ·intro g hg o
   simp [Value.ownBlock] at hg;subst hg;rw [aU,Nat.mul_one];constructor
   ·rintro (h|⟨_,h⟩)
    ·have:=hz _ _ h;omega
    ·exact h
   ·intro h;exact .inr ⟨rfl,h⟩
  ·intro g hg cur t' o hc x hx
   simp [Value.ownBlock] at hg;subst hg;rw [heap_alloc_new] at hc;simp only [Option.some.injEq,Obj.cells.injEq] at hc;rw [←hc.1] at hx;obtain ⟨y,_,rfl⟩:=List.mem_map.1 Bb;rfl
 refine ⟨_,fun b o=>Fz b o∨(b=w.heap.size∧o < ws.length),[w.heap.size],rfl,?_,?_,?_,fun _=>bY.of_atom (p:=PV.sl (.own E 1) (ws.map e)) hsl,aL,?_⟩;·exact (Below.refl _ _).alloc (Nat.le_refl _) _
 ·intro b o hb
  constructor
  ·rintro (h|⟨h,_⟩)
   ·exact h
   ·omega
  ·exact .inl
 ·rintro b o (h|⟨h,_⟩)
  ·have:=hz _ _ h;omega
  ·omega
 ·intro b hb
  rw [List.mem_singleton] at hb;omega
def aBf{E:Nat}{e:am→List PV}(he:∀x,e x=[PV.val (.string (B x))])(hm:∀{Fz w},G.rel Fz w→se gm (fun v=>∃m,v = .int .i64 m) Fz w)
  (c:∀(s sep:ByteArray) (m:Int) (w:World),s.size < 4294967281→w.cell? ⟨gm,0,none⟩=some (.int .i64 m)→1≤sep.size →
   Calls P f #[.string s,.string sep] w fun e w'=>e = .returned (.slice (some ⟨w.heap.size,0,none⟩) (Lib.countB s sep+1) (Lib.countB s sep+1))∧w'=w.alloc (.cells ((Lib.splitB sep 0 (Lib.countB s sep) s).map Value.string).toArray E))
  {s sep:am} {ws:List am} (hs:s.length < 4294967281) (h1:1≤sep.length) (hw:Lib.splitK sep 0 (Lib.count s sep) s=ws):eJ P G f [(false,[PV.val (.string (B s))]),(false,[PV.val (.string (B sep))])] (ay [(false,[PV.sl (.own E 1) (ws.map e)])]):=by
 intro w vs Fz hz hG hr;obtain ⟨v,vs',rfl,h1',v2,vs2,rfl,h2,rfl⟩:=hr;obtain rfl:v = .string (B s):=kK.sc h1';obtain rfl:v2 = .string (B sep):=kK.sc h2;obtain ⟨_,v,hv,m,rfl⟩:=hm hG;have hd:=Lib.splitB_data (B sep) 0 (Lib.countB (B s) (B sep)) (B s);have hd':(Lib.splitB (B sep) 0 (Lib.countB (B s) (B sep)) (B s)).map (·.data.toList)=ws:=hd.trans hw;have hlen:=Lib.splitB_all (B sep) h1 0 _ (B s) rfl;have hle:=Lib.countB_le (B sep) h1 (B s).size (B s) (Nat.le_refl _);have hwl:ws.length=Lib.countB (B s) (B sep)+1:=by rw [←hd',aU,hlen]
 have hcs:(Lib.splitB (B sep) 0 (Lib.countB (B s) (B sep)) (B s)).map Value.string=ws.map fun x=>Value.string (B x):=by rw [←hd',List.map_map];exact List.map_congr_left fun x _=>rfl
 have hc:=c (B s) (B sep) m w hs hv h1;rw [hcs,←hwl] at hc;refine hc.mono ?_;rintro e w' ⟨rfl,rfl⟩;have hss:(B s).size=s.length:=rfl;exact aBe he hz (by show ws.length≤9223372036854775807;omega)
def lL(s:am):Int:=match Lib.atoiAll s with
 | .ok v=>v
 | Lib.NumEnd.syntax=>0
 | .range=>Lib.atoiSat s
def sf(s:am):Bool:=match Lib.atoiAll s with
 | .ok _=>true
 | _=>false
def aBg{gs gr t:Nat}(hsy:∀{Fz w},G.rel Fz w→se gs NP Fz w)(hrg:∀{Fz w},G.rel Fz w→se gr NP Fz w)
  (c0:∀(s:ByteArray) (v:Int) (w:World),s.size≤9223372036854775806→Lib.atoiAll s.data.toList = .ok v→Calls P f #[.string s] w fun e w'=>e = .returned (.tuple #[.int .i64 v,.nilIface])∧Below w.heap.size w w')
  (c1:∀(s:ByteArray) (ev:Value) (w:World),s.size≤281474976710656→Lib.atoiAll s.data.toList=Lib.NumEnd.syntax→w.cell? ⟨gs,0,none⟩=some ev→(ev = .nilIface∨∃te pe,ev = .iface te pe)→Calls P f #[.string s] w fun e w'=>∃N,e = .returned (.tuple #[.int .i64 0,.iface t (.pointer (some ⟨N,0,none⟩))])∧Below w.heap.size w w')
  (c2:∀(s:ByteArray) (ev:Value) (w:World),s.size≤281474976710656→Lib.atoiAll s.data.toList = .range→w.cell? ⟨gr,0,none⟩=some ev→(ev = .nilIface∨∃te pe,ev = .iface te pe)→Calls P f #[.string s] w fun e w'=>∃N,e = .returned (.tuple #[.int .i64 (Lib.atoiSat s.data.toList),.iface t (.pointer (some ⟨N,0,none⟩))])∧Below w.heap.size w w')
  {s:am} (hs:s.length≤281474976710656):eJ P G f [(false,[PV.val (.string (B s))])] (ay [(false,[PV.val (vI (lL s))]),(false,[PV.err (sf s)])]):=by
 intro w vs Fz hz hG hr;obtain ⟨v,vs',rfl,h1',rfl⟩:=hr;obtain rfl:v = .string (B s):=kK.sc h1';have hss:(B s).size=s.length:=rfl;have he:∀{ok:Bool} {x:Value} {w':World},AA ok x→fz [(false,[PV.err ok])] Fz w' [x] []:=fun h=>⟨_,[],[],[],rfl,rfl,bY.of_atom (p:=PV.err _) ⟨h,rfl⟩,rfl,rfl⟩;rcases ha:Lib.atoiAll s with v|_|_
 ·refine (c0 (B s) v w ab ha).mono ?_
  rintro e w' ⟨rfl,hb⟩;have e1:lL s=v:=PO;have e2:sf s=true:=PK;rw [e1,e2];exact HA (vs:=[_,_]) hz hb (yw rfl (he rfl))
 ·obtain ⟨_,ev,hv,hk⟩:=hsy hG
  refine (c1 (B s) ev w ab ha hv hk).mono ?_;rintro e w' ⟨N,rfl,hb⟩;have e1:lL s=0:=PO;have e2:sf s=false:=PK;rw [e1,e2];exact HA (vs:=[_,_]) hz hb (yw rfl (he ⟨_,_,rfl⟩))
 ·obtain ⟨_,ev,hv,hk⟩:=hrg hG
  refine (c2 (B s) ev w ab ha hv hk).mono ?_;rintro e w' ⟨N,rfl,hb⟩;have e1:lL s=Lib.atoiSat s:=PO;have e2:sf s=false:=PK;rw [e1,e2];exact HA (vs:=[_,_]) hz hb (yw rfl (he ⟨_,_,rfl⟩))
def aBh(hT:P.underlying T=some (.interface ms))(w:World):(Op.equal T .nilIface .nilIface).run P w = .ok true w:=by
 have h:∀d:Nat,(Op.equalIn (d+1) T .nilIface .nilIface).run P w = .ok true w:=fun d=>by simp [Op.equalIn,run_underlying hT]
 exact h 9999
def aBi{t:TypeId}{p:Value}(hT:P.underlying T=some (.interface ms))(w:World):(Op.equal T (.iface t p) .nilIface).run P w = .ok false w:=by
 have h:∀d:Nat,(Op.equalIn (d+1) T (.iface t p) .nilIface).run P w = .ok false w:=fun d=>by simp [Op.equalIn,run_underlying hT]
 exact h 9999
def aBj{n k d:Nat}{ty:TypeId}{pos:String}{af:Array Edge}{g:Option (Nat×Bool)}{ok:Bool}(hT:P.underlying T=some (.interface ms))(hd:d < n:=by decide):Loc P n ⟨some d,.binOp .neq T (.tmp k) (.const .nilIface) T2,ty,pos,af,g⟩ ⟨[(k,RV.sv false [PV.err ok])],[],[(d,some (RV.bool (!ok)))],[],none⟩:=by
 intro h0 w0 Fz0 σ a w K Q hc hr _ _ h5;obtain ⟨φ,Fz,Fp,hc⟩:=hc;have h:=(bY.atom (hc.slot k _ hr.1)).1;refine eH (v:=.bool (!ok)) (w':=w) ?_ (h5 _ _ (hc.put0 hd (bY.of_sc rfl)));unfold AA at h;have e1:a.eval (.tmp k)=a.tmps.getD k undef:=rfl;have e2:a.eval (.const .nilIface) = .nilIface:=rfl;unfold execOp;cases ok with
 | true=>
  rw [if_pos rfl] at h;simp [e1,e2,h,Sem.run_bind,eqGuard_nil_constR,binOp,aBh hT]
 | false=>
  rw [if_neg aL] at h;obtain ⟨t,p,h⟩:=h;have e3:∀w,Sem.run P (eqGuard .neq T (.tmp k) (.const .nilIface) (.iface t p) .nilIface) w = .ok () w:=fun w=>by simp [eqGuard]
  simp [e1,e2,h,Sem.run_bind,e3,binOp,aBi hT]
def aBk{n:Nat}{x y:Operand}{d:Nat}{ty:TypeId}{pos:String}{af:Array Edge}{g:Option (Nat×Bool)}{i j:Int}{k:IntKind}(hj:k.wrap (i - j)=r)(hx:bG x (RV.sc (.int k i)):=by first|exact True.intro|exact aY rfl)(hy:bG y (RV.sc (.int k j)):=by first|exact True.intro|exact aY rfl)(hd:d < n:=by decide):Loc P n ⟨some d,.binOp .sub T x y T2,ty,pos,af,g⟩ ⟨bl x (RV.sc (.int k i))++bl y (RV.sc (.int k j)),[],[(d,some (RV.sc (.int k r)))],[],none⟩:=
 ir hd hx hy rfl fun w=>by simp [eqGuard,binOp,Op.intArith,hj]
def are{s:am}{k:Nat}(h:k < s.length):∃b,(B s)[((k:Nat):Int).toNat]?=some b∧((b.toNat:Nat):Int)=((s[k].toNat:Nat):Int):=by have h':k < (B s).size:=h;exact ⟨s[k],by rw [Int.toNat_natCast,getElem?_pos (B s) k h'];rfl,rfl⟩
section
variable{n x y d:Nat}{T ty:TypeId}{pos:String}{af:Array Edge}{g:Option (Nat×Bool)}{s:am}{k:Nat}
def sX(hlt:k < s.length)(hS:P.underlying T=some .string)(hd:d < n:=by decide):Loc P n ⟨some d,.index T (.tmp x) (.tmp y),ty,pos,af,g⟩ ⟨[(x,RV.str s),(y,RV.int (k:Int))],[],[(d,some (RV.sc (.int .u8 ((s[k].toNat:Nat):Int))))],[],none⟩:=
 adn (x:=.tmp x) (y:=.tmp y) (k:=.i64) hS True.intro True.intro ab (are hlt) hd
def XP(hlt:0 < s.length)(hS:P.underlying T=some .string)(hd:d < n:=by decide):Loc P n ⟨some d,.index T (.tmp x) (.const (.int .i64 0)),ty,pos,af,g⟩ ⟨[(x,RV.str s)],[],[(d,some (RV.sc (.int .u8 ((s[0].toNat:Nat):Int))))],[],none⟩:=
 adn (x:=.tmp x) (y:=.const (.int .i64 0)) (k:=.i64) (i:=0) hS True.intro (aY rfl) ab (are (k:=0) hlt) hd
def aBl{v:Int}(h:48≤v∧v≤255)(hd:d < n:=by decide):Loc P n ⟨some d,.binOp .sub T (.tmp x) (.const (.int .u8 48)) T2,ty,pos,af,g⟩ ⟨[(x,RV.sc (.int .u8 v))],[],[(d,some (RV.sc (.int .u8 (v - 48))))],[],none⟩:=
 aBk (x:=.tmp x) (y:=.const (.int .u8 48)) (IntWalk.u8_in _ ab) True.intro (aY rfl) hd
def sS2{a b:Nat}(i j:Nat)(hS:P.underlying T=some .string)(hq:q=(i:Int))(hr:r=(j:Int))(hij:i≤j)(hj:j≤s.length)(hu:(s.take j).drop i=u)(hd:d < n:=by decide):Loc P n ⟨some d,.slice T (.tmp x) (some (.tmp a)) (some (.tmp b)) none,ty,pos,af,g⟩ ⟨(x,RV.str s)::[(a,RV.int q),(b,RV.int r)],[],[(d,some (RV.str u))],[],none⟩:=
 JV (lo:=some (.tmp a)) (hi:=some (.tmp b)) (i:=i) (j:=j) (q:=q) (r:=r) hS True.intro True.intro hq hr hij hj hu hd
def HB{b:Nat}(j:Nat)(hS:P.underlying T=some .string)(hr:r=(j:Int))(hj:j≤s.length)(hu:(s.take j).drop 0=u)(hd:d < n:=by decide):Loc P n ⟨some d,.slice T (.tmp x) none (some (.tmp b)) none,ty,pos,af,g⟩ ⟨(x,RV.str s)::[(b,RV.int r)],[],[(d,some (RV.str u))],[],none⟩:=
 JV (lo:=none) (hi:=some (.tmp b)) (i:=0) (j:=j) (q:=0) (r:=r) hS rfl True.intro rfl hr (Nat.zero_le _) hj hu hd
def HC{a:Nat}(i:Nat)(hS:P.underlying T=some .string)(hq:q=(i:Int))(hi:i≤s.length)(hu:(s.take s.length).drop i=u)(hd:d < n:=by decide):Loc P n ⟨some d,.slice T (.tmp x) (some (.tmp a)) none none,ty,pos,af,g⟩ ⟨(x,RV.str s)::[(a,RV.int q)],[],[(d,some (RV.str u))],[],none⟩:=
 JV (lo:=some (.tmp a)) (hi:=none) (i:=i) (j:=s.length) (q:=q) (r:=(s.length:Int)) hS True.intro rfl hq rfl hi (Nat.le_refl _) hu hd
def sSc(hS:P.underlying T=some .string)(hi:1≤s.length)(hu:(s.take s.length).drop 1=u)(hd:d < n:=by decide):Loc P n ⟨some d,.slice T (.tmp x) (some (.const (.int .i64 1))) none none,ty,pos,af,g⟩ ⟨(x,RV.str s)::[],[],[(d,some (RV.str u))],[],none⟩:=
 JV (lo:=some (.const (.int .i64 1))) (hi:=none) (i:=1) (j:=s.length) (q:=1) (r:=(s.length:Int)) hS (aY rfl) rfl rfl rfl hi (Nat.le_refl _) hu hd
def sXq(k:Nat)(hlt:k < s.length)(hS:P.underlying T=some .string)(hq:q=(k:Int))(hd:d < n:=by decide):Loc P n ⟨some d,.index T (.tmp x) (.tmp y),ty,pos,af,g⟩ ⟨[(x,RV.str s),(y,RV.int q)],[],[(d,some (RV.sc (.int .u8 ((s[k].toNat:Nat):Int))))],[],none⟩:=by subst hq;exact sX hlt hS hd
end
end
end
def aBo{P:Program}{G:rt}{f:FuncId}(hm:∀{Fz w},G.rel Fz w→se gm (fun v=>∃m,v = .int .i64 m) Fz w)
  (c:∀(s old new:ByteArray) (m:Int) (w:World),s.size < 4294967281→w.cell? ⟨gm,0,none⟩=some (.int .i64 m)→1≤old.size→s.size+Lib.countB s old * new.size≤140737488355328 →
   Calls P f #[.string s,.string old,.string new] w fun e w'=>e = .returned (.string ⟨(Lib.replaceAll s.data.toList old.data.toList new.data.toList).toArray⟩)∧Below w.heap.size w w')
  {s old new:am} (hs:s.length < 4294967281) (h1:1≤old.length) (hl:s.length+Lib.count s old * new.length≤140737488355328):eJ P G f [(false,[PV.val (.string (B s))]),(false,[PV.val (.string (B old))]),(false,[PV.val (.string (B new))])] (ay [(false,[PV.val (.string (B (Lib.replaceAll s old new)))])]):=by
 intro w vs Fz hz hG hr;obtain ⟨v,vs',rfl,h1',v2,vs2,rfl,h2,v3,vs3,rfl,h3,rfl⟩:=hr;obtain rfl:v = .string (B s):=kK.sc h1';obtain rfl:v2 = .string (B old):=kK.sc h2;obtain rfl:v3 = .string (B new):=kK.sc h3;obtain ⟨_,v,hv,m,rfl⟩:=hm hG;refine (c (B s) (B old) (B new) m w hs hv h1 hl).mono ?_;rintro e w' ⟨rfl,hb⟩;exact EA hz hb
end Go.Proofs.YtmekkgdboplbjaaGreatDoor.M
