/- Definitions and their laws. No condition. -/
import Derived.Test.YtmekkgdboplbjaaGreatDoorPE0
import Derived.Test.YtmekkgdboplbjaaGreatDoorPR0
set_option linter.all false
namespace Go.Proofs.YtmekkgdboplbjaaGreatDoor
open Go Go.RowKit M
set_option maxRecDepth 10000
variable{α:Type}{k:Nat}{s:Store}{id:Int}{i:Nat}{L:List (List bb)}{u:aJv}{r:Row}{v:bb}{l:List aJt}{f:Int}{q:aJt}{o:List Int}{e:au}{j:Nat}{a:aJs}{n:Int}{x:fg}{c:aO}{rows:List Row}{zn:aJs×(Nat→Value)}{p:Nat}{d:α}
def mw(id:Int)(v:bb):Bool:=decide (v.Id=id)&&decide (v.aJC = -1)
def la(id:Int)(l:List bb):Bool:=l.any (mw id)
def yx(s:Store)(i:Nat):List bb:=s.aJr.getD i []
def cW(s:Store)(id:Int):Int:=if s.aJr.any (la id) then ((s.aJr.findIdx (la id):Nat):Int) else -1
def qR(s:Store)(id:Int):Int:=if s.aJr.any (la id) then (((yx s (s.aJr.findIdx (la id))).findIdx (mw id):Nat):Int) else -1
def XV{P:α→Bool}{l:List α}(hk:k < l.length)(h:(l.take k).any P=false)(hy:P l[k]=true):l.findIdx P=k:=by rw [List.findIdx_eq hk];refine ⟨hy,fun j hj=>?_⟩;rw [List.any_eq_false] at h;have:=h l[j] abZ;simpa using this
def art(hi:i < s.aJr.length)(h1:(s.aJr.take i).any (la id)=false)(hk:k < s.aJr[i].length)(h2:(s.aJr[i].take k).any (mw id)=false)(hy:mw id s.aJr[i][k]=true):cW s id=(i:Int)∧qR s id=(k:Int):=by have ha:la id s.aJr[i]=true:=Ah hk hy;have hany:s.aJr.any (la id)=true:=Ah hi ha;have e1:=XV hi h1 ha;have e2:=XV hk h2 hy;unfold cW qR yx;rw [if_pos hany,if_pos hany,e1,List.getD_eq_getElem?_getD,List.getElem?_eq_getElem hi];exact ⟨rfl,by show ((s.aJr[i].findIdx (mw id):Nat):Int)=_;rw [e2]⟩
def aru(h:s.aJr.any (la id)=false):cW s id = -1∧qR s id = -1:=by unfold cW qR;rw [if_neg gJ,if_neg gJ];exact ⟨rfl,rfl⟩
def wq(h:0≤cW s id):∃i k:Nat,∃hi:i < s.aJr.length,∃hk:k < s.aJr[i].length,cW s id=(i:Int)∧qR s id=(k:Int)∧mw id s.aJr[i][k]=true:=by
 unfold cW at h;split at h
 ·rename_i ha
  obtain ⟨l,hl,hp⟩:=List.any_eq_true.1 ha;have hi:s.aJr.findIdx (la id) < s.aJr.length:=List.findIdx_lt_length_of_exists ⟨l,hl,hp⟩;have hpi:la id (s.aJr[s.aJr.findIdx (la id)])=true:=List.findIdx_getElem (w:=hi);obtain ⟨v,hv,hvp⟩:=List.any_eq_true.1 hpi;have hk:s.aJr[s.aJr.findIdx (la id)].findIdx (mw id) < s.aJr[s.aJr.findIdx (la id)].length:=List.findIdx_lt_length_of_exists ⟨v,hv,hvp⟩;refine ⟨_,_,hi,hk,?_,?_,List.findIdx_getElem (w:=hk)⟩;·unfold cW;rw [if_pos ha]
  ·unfold qR yx;rw [if_pos ha,List.getD_eq_getElem?_getD,List.getElem?_eq_getElem hi];rfl
 ·omega
def kz(l:List bb):Bool:=decide ((l.length:Int) < 4)
def lb(L:List (List bb)):Int:=if L.any kz then ((L.findIdx kz:Nat):Int) else -1
def arv(hk:k < L.length)(h:(L.take k).any kz=false)(hy:kz L[k]=true):lb L=(k:Int):=by unfold lb;rw [if_pos (Ah hk hy),XV hk h hy]
def arw(h:L.any kz=false):lb L = -1:=if_neg gJ
def XW(h:0≤lb L):∃r:Nat,∃hr:r < L.length,lb L=(r:Int)∧L[r].length < 4:=by
 unfold lb at h;split at h
 ·rename_i ha
  obtain ⟨l,hl,hp⟩:=List.any_eq_true.1 ha;have hr:L.findIdx kz < L.length:=List.findIdx_lt_length_of_exists ⟨l,hl,hp⟩;have hpi:kz L[L.findIdx kz]=true:=List.findIdx_getElem (w:=hr);refine ⟨_,hr,by unfold lb;rw [if_pos ha],?_⟩;have:∀l:List bb,kz l=true→l.length < 4:=fun l hl=>by unfold kz at hl;simp only [decide_eq_true_eq] at hl;omega
  exact this _ hpi
 ·omega
def nX(n:Int)(v:bb):bb:=⟨v.Id,v.Values,v.aJG,n⟩
def XX(s:Store)(i k:Int):bb:=(yx s i.toNat).getD k.toNat v0
def en(s:Store)(u:aJv):List (List bb):=if 0≤cW s u.Row.Id then s.aJr.set (cW s u.Row.Id).toNat ((yx s (cW s u.Row.Id).toNat).set (qR s u.Row.Id).toNat (nX (s.Now+1) (XX s (cW s u.Row.Id) (qR s u.Row.Id)))) else s.aJr
def hZ(s:Store)(u:aJv):List Int:=if 0≤cW s u.Row.Id then (XX s (cW s u.Row.Id) (qR s u.Row.Id)).Values else u.Row.Values
def le(s:Store)(u:aJv):List Int:=if u.Kind=3 then (hZ s u).set u.Field.toNat u.Value else hZ s u
def nY(s:Store)(u:aJv):bb:=⟨u.Row.Id,le s u,s.Now+1,-1⟩
def Dt(L:List (List bb))(r:Nat)(v:bb):List (List bb):=L.set r (L.getD r []++[v])
def lM(s:Store)(u:aJv):Bool:=((cv s&&ez u)&&decide (s.Now < 100000))&&(decide (0≤cW s u.Row.Id)==!decide (u.Kind=1)&&(decide (u.Kind=2)||decide (0≤lb s.aJr)))
def HD(s:Store)(u:aJv):Store:=⟨if u.Kind=2 then en s u else Dt (en s u) (lb s.aJr).toNat (nY s u),s.Now+1⟩
def fh(s:Store)(u:aJv):Store×Bool:=if lM s u then (HD s u,true) else (s,false)
def HE(h:lM s u=false):fh s u=(s,false):=if_neg gJ
def XY(h:lM s u=true):fh s u=(HD s u,true):=if_pos h
def AB(h:lM s u=true)(hk:u.Kind=2):fh s u=(⟨en s u,s.Now+1⟩,true):=by rw [XY h];unfold HD;rw [if_pos hk]
def Du{r:Nat}(h:lM s u=true)(hk:¬u.Kind=2)(hr:lb s.aJr=(r:Int)):fh s u=(⟨Dt (en s u) r (nY s u),s.Now+1⟩,true):=by rw [XY h];unfold HD;rw [if_neg hk,hr];rfl
def sg(hi:i < s.aJr.length)(hk:k < s.aJr[i].length)(h1:cW s u.Row.Id=(i:Int))(h2:qR s u.Row.Id=(k:Int)):en s u=s.aJr.set i (s.aJr[i].set k (nX (s.Now+1) s.aJr[i][k]))∧hZ s u=s.aJr[i][k].Values:=by
 have e1:yx s i=s.aJr[i]:=by unfold yx;simp [hi]
 unfold en hZ XX;rw [h1,h2,if_pos ab,if_pos ab,Int.toNat_natCast,Int.toNat_natCast,e1];simp [hk]
def wt(h:¬0≤cW s u.Row.Id):en s u=s.aJr∧hZ s u=u.Row.Values:=by unfold en hZ;rw [if_neg h,if_neg h];exact ⟨rfl,rfl⟩
def arx(s:Store)(u:aJv):(en s u).map List.length=s.aJr.map List.length:=by
 by_cases h:0≤cW s u.Row.Id
 ·obtain ⟨i,k,hi,hk,h1,h2,_⟩:=wq h
  rw [(sg hi hk h1 h2).1];apply List.ext_getElem;·simp
  ·intro j hj1 hj2
   simp only [List.getElem_map,List.getElem_set];split;·rename_i hij;subst hij;simp
   ·rfl
 ·rw [(wt h).1]
def Dv(s:Store)(u:aJv):(en s u).length=s.aJr.length:=by have:=congrArg List.length (arx s u);simpa using this
def NR(s:Store)(u:aJv)(hk:k < (en s u).length)(hk2:k < s.aJr.length):(en s u)[k].length=s.aJr[k].length:=by have h:=arx s u;have:=List.getElem_of_eq h (show k < ((en s u).map List.length).length by rw [aU];exact hk);simpa using this
def aB5(n:Int)(v:bb):dt (nX n v)=dt v:=by unfold nX dt;simp only [bf]
def NS{α:Type}{f:α→Nat}:∀{l:List α} {i:Nat} {x:α} (hi:i < l.length),((l.set i x).map f).sum+f l[i]=(l.map f).sum+f x
 | y::l,0,x,_=>by simp;omega
 | y::l,i+1,x,h=>by have:=NS (f:=f) (l:=l) (i:=i) (x:=x) qn;simp only [List.set_cons_succ,List.map_cons,List.sum_cons,List.getElem_cons_succ];omega
def ary(s:Store)(u:aJv):iH (en s u)=iH s.aJr:=by
 by_cases h:0≤cW s u.Row.Id
 ·obtain ⟨i,k,hi,hk,h1,h2,_⟩:=wq h
  rw [(sg hi hk h1 h2).1];have e1:=NS (f:=dg) (x:=s.aJr[i].set k (nX (s.Now+1) s.aJr[i][k])) hi;have e2:=NS (f:=dt) (x:=nX (s.Now+1) s.aJr[i][k]) hk;rw [aB5] at e2;have e3:dg (s.aJr[i].set k (nX (s.Now+1) s.aJr[i][k]))=dg s.aJr[i]:=by unfold dg;rw [List.length_set];omega
  unfold iH;rw [List.length_set];omega
 ·rw [(wt h).1]
def arz(s:Store)(u:aJv):(le s u).length≤cR s+jz u:=by
 have h0:(le s u).length=(hZ s u).length:=by unfold le;split<;>simp
 rw [h0];by_cases h:0≤cW s u.Row.Id
 ·obtain ⟨i,k,hi,hk,h1,h2,_⟩:=wq h
  rw [(sg hi hk h1 h2).2];have w1:=dW (f:=dg) hi;have w2:=dW (f:=dt) hk;have w3:dg s.aJr[i]=s.aJr[i].length+(s.aJr[i].map dt).sum:=rfl;have w4:dt s.aJr[i][k]=s.aJr[i][k].Values.length:=AU;unfold cR iH;simp only [bf];omega
 ·rw [(wt h).2]
  unfold jz jy;simp only [fL,bf];omega
def NT(hs:cv s=true)(h:0≤cW s u.Row.Id):(hZ s u).length=3:=by obtain ⟨i,k,hi,hk,h1,h2,_⟩:=wq h;rw [(sg hi hk h1 h2).2];have hv:=Dh hs hi hk;unfold fb at hv;rw [aR] at hv;exact Ai hv.1
def XZ(h:ez u=true)(hk:u.Kind=3):0≤u.Field∧u.Field≤2:=by unfold ez at h;rw [if_neg ab,if_neg ab,if_pos hk] at h;simp only [aR,aE,decide_eq_true_eq] at h;exact h.2.1
def NU(h1:cv s=true)(h2:ez u=true)(h3:s.Now < 100000)(h4:0≤cW s u.Row.Id↔¬u.Kind=1)(h5:u.Kind=2∨0≤lb s.aJr):lM s u=true:=by
 unfold lM;rw [h1,h2,decide_eq_true h3];have e1:(decide (0≤cW s u.Row.Id)==!decide (u.Kind=1))=true:=by by_cases a:0≤cW s u.Row.Id<;>by_cases b:u.Kind=1<;>simp_all
 have e2:(decide (u.Kind=2)||decide (0≤lb s.aJr))=true:=by rcases h5 with h|h<;>simp [h]
 rw [e1,e2];rfl
def AC(h:lM s u=true):cv s=true∧ez u=true∧s.Now < 100000∧(0≤cW s u.Row.Id↔¬u.Kind=1)∧(u.Kind=2∨0≤lb s.aJr):=by unfold lM at h;simp only [aR,Bool.or_eq_true,decide_eq_true_eq] at h;obtain ⟨⟨⟨h1,h2⟩,h3⟩,h4,h5⟩:=h;refine ⟨h1,h2,h3,?_,h5⟩;by_cases a:0≤cW s u.Row.Id<;>by_cases b:u.Kind=1<;>simp_all
def AD{r:Nat}(hr:r < L.length):Dt L r v=L.set r (L[r]++[v]):=by unfold Dt;simp [hr]
def arA{p:α→Bool}{key:α→Int}{l:List α}(h:fq d p (fun a b=>decide (key a < key b)) l=true):l.Pairwise (fun a b=>key a < key b):=by
 have step:∀j:Nat,(hj:j+1 < l.length)→key l[j] < key l[j+1]:=fun j hj=>by have h1:=List.all_eq_true.1 h (j+1) (List.mem_range.2 hj);rw [aR,fZ hj,show j+1 - 1=j from rfl,fZ (show j < l.length by omega)] at h1;have h2:=h1.2;simpa using h2
 have lt:∀(j i:Nat) (hj:j < l.length) (hi:i < j),key l[i] < key l[j]:=by
  intro j;induction j with
  | zero=>intro i _ hi;omega
  | succ j ih=>
   intro i hj hi;have h1:=step j hj;rcases Nat.lt_or_ge i j with h2|h2;·have:=ih i ab h2;omega
   ·have:i=j:=by omega
    subst this;exact h1
 rw [List.pairwise_iff_getElem];exact fun i j hi hj hij=>lt j i hj hij
def aB6{l:List Int}(h:∀x∈l,0≤x∧x≤23)(hp:l.Pairwise (· < ·)):fC l=true:=by
 unfold fC;rw [nw];intro i hi;have hi:=List.mem_range.1 hi;rw [List.pairwise_iff_getElem] at hp;refine Na.2 ?_;rw [show l.getD i 0=l[i] by simp [hi]];have:=h _ (List.getElem_mem hi);refine ⟨this.1,this.2,?_⟩;rcases Nat.eq_zero_or_pos i with h0|h0;·exact .inl h0
 ·right
  rw [show l.getD (i - 1) 0=l[i - 1]'(ab) by simp [show i - 1 < l.length by omega]];exact hp (i - 1) i ab hi ab
def aB7{l:List eT}{s:eT}{v:Int}(h:jW v s=false):jC (l++[s]) v=jC l v:=by
 unfold jC;rw [List.find?_append];cases hf:l.find? (jW v) with
 | some t=>rfl
 | none=>simp [h]
def aB8{l:List eT}{s:eT}{v:Int}(hl:∀t∈l,jW v t=false)(h:jW v s=true):jC (l++[s]) v=s.Set:=by unfold jC;rw [List.find?_append,List.find?_eq_none.2 (fun t ht=>by simp [hl t ht])];simp [h]
structure Ya(l:List aJt)(f:Int)(k:Nat)(out:List eT):Prop where
 none:k=0→out=[]
 some:0 < k→∃(a:List eT) (s:eT),out=a++[s]∧s.To=(k:Int) - 1∧s.From≤(k:Int) - 1∧(∀v:Int,s.From≤v→v≤(k:Int) - 1→ij l f v=s.Set)∧(∀t∈a,t.To < s.From)∧(∀v:Int,0≤v→v < s.From→jC a v=ij l f v)
def Ya.find{out:List eT}(h:Ya l f k out){v:Int}(h0:0≤v)(hv:v < k):jC out v=ij l f v:=by
 obtain ⟨a,s,rfl,h1,h2,h3,h4,h5⟩:=h.some ab;by_cases hc:s.From≤v;·rw [aB8 (fun t ht=>by have:=h4 t ht;simp [jW,aE];omega) (by simp [jW,aE];omega),h3 v hc ab]
 ·rw [aB7 (by simp [jW,aE];omega),h5 v h0 ab]
def arB(l:List aJt)(f:Int):∀k:Nat,Ya l f k (dk l f k)
 | 0=>⟨fun _=>rfl,fun h=>absurd h (Nat.lt_irrefl 0)⟩
 | k+1=>by
  have ih:=arB l f k;refine ⟨fun h=>by omega,fun _=>?_⟩;rw [dk];have fresh:∃(a:List eT) (s:eT),dk l f k++[⟨(k:Int),(k:Int),ij l f k⟩]=a++[s]∧s.To=((k+1:Nat):Int) - 1∧s.From≤((k+1:Nat):Int) - 1∧(∀v:Int,s.From≤v→v≤((k+1:Nat):Int) - 1→ij l f v=s.Set)∧(∀t∈a,t.To < s.From)∧(∀v:Int,0≤v→v < s.From→jC a v=ij l f v):=by
   refine ⟨_,_,rfl,wN,wN,fun v h1 h2=>?_,fun t ht=>?_,fun v h1 h2=>ih.find h1 h2⟩
   ·dsimp only at h1 ⊢
    rw [show v=(k:Int) by omega]
   ·dsimp only
    rcases Nat.eq_zero_or_pos k with h0|h0;·rw [ih.none h0] at ht;cases ht
    ·obtain ⟨a,s,he,h1,h2,_,h4,_⟩:=ih.some h0
     rw [he] at ht;rcases List.mem_append.1 ht with ht|ht;·have:=h4 t ht;omega
     ·simp at ht;subst ht;omega
  unfold Di;split
  ·rename_i hl
   rcases Nat.eq_zero_or_pos k with h0|h0;·rw [ih.none h0] at hl;cases hl
   ·obtain ⟨a,s,he,h1,h2,h3,h4,h5⟩:=ih.some h0
    rw [he] at hl ⊢;have hlen:(a++[s]).length - 1=a.length:=aL;have hg:(a++[s]).getD a.length oK=s:=aL;unfold nN at hl;rw [hlen,hg,aR] at hl;have hs:s.Set=ij l f k:=pL.1 hl.2;rw [hlen,hg,List.set_append_right (h:=Nat.le_refl _),Nat.sub_self,List.set_cons_zero];refine ⟨a,_,rfl,wN,wN,fun v k1 k2=>?_,h4,h5⟩;dsimp only at k1 ⊢;by_cases hk:v=(k:Int);·rw [hk,hs]
    ·exact h3 v k1 ab
  ·exact fresh
def aB9{v:Int}(hl:eA l=true)(hf:0≤f∧f≤2)(hv:0≤v∧v≤99):jC (gY l f) v=ij l f v:=by
 have hc:(eA l&&aE f 0 2)=true:=by rw [hl,Bool.true_and];exact Nb.2 hf
 unfold gY;rw [if_pos hc];have h:=arB l f 100;generalize dk l f 100=out at h ⊢;exact h.find hv.1 ab
def arC(h:eA l=true):l.Pairwise (fun a b=>a.Id < b.Id):=by unfold eA at h;rw [aR] at h;exact arA h.1
def aCa(h:bq q=true):0≤q.Id∧q.Id≤23:=by unfold bq at h;simp only [aR,aE,decide_eq_true_eq] at h;exact h.1.1
def Yb(h:eA l=true)(P:aJt→Bool):fC ((l.filter P).map aJt.Id)=true:=by
 refine aB6 (fun x hx=>?_) ?_
 ·obtain ⟨q,hq,rfl⟩:=List.mem_map.1 hx
  exact aCa ((qI h).2 q (List.mem_filter.1 hq).1)
 ·rw [List.pairwise_map]
  exact (arC h).filter P
def aCb{key:α→Int}{l:List α}(h:l.Pairwise (fun a b=>key a < key b)){a b:α}(ha:a∈l)(hb:b∈l)(he:key a=key b):a=b:=by
 obtain ⟨i,hi,rfl⟩:=List.mem_iff_getElem.1 ha;obtain ⟨j,hj,rfl⟩:=List.mem_iff_getElem.1 hb;rw [List.pairwise_iff_getElem] at h;rcases Nat.lt_trichotomy i j with h1|h1|h1;·have:=h i j hi hj h1;omega
 ·subst h1;rfl
 ·have:=h j i hj hi h1;omega
def arD(h:eA l=true)(P:aJt→Bool)(hq:q∈l):cn ((l.filter P).map aJt.Id) q.Id=P q:=by
 rw [Bool.eq_iff_iff,WA,Jo];constructor
 ·rintro ⟨r,hr,he⟩
  have hr:=List.mem_filter.1 hr;rw [←aCb (arC h) hr.1 hq he];exact hr.2
 ·intro hp
  exact ⟨q,List.mem_filter.2 ⟨hq,hp⟩,rfl⟩
def aCc(h:eA l=true)(P A:aJt→Bool):rJ ((l.filter P).map aJt.Id) ((l.filter A).map aJt.Id)=(l.filter fun q=>P q&&A q).map aJt.Id:=by
 unfold rJ;rw [Yb h P,Yb h A,Bool.and_self,if_pos rfl,←WC (Yb h P),List.filter_map,List.filter_filter];congr 1
 refine List.filter_congr fun q hq=>?_;show (cn ((l.filter A).map aJt.Id) q.Id&&P q)=_;rw [arD h A hq,Bool.and_comm]
def arE{l:List aJt}{x:eb}{r:Row}(hl:eA l=true)(hx:∀f:Int,0≤f→f≤2→x.Fields.getD f.toNat []=gY l f)(hv:∀f:Int,0≤f→f≤2→0≤kw r.Values f∧kw r.Values f≤99):∀(o:List Int) (P:aJt→Bool) (s:List Int×Int),(∀f∈o,0≤f∧f≤2)→s.1=(l.filter P).map aJt.Id→(o.foldl (vW x r) s).1=(l.filter fun q=>P q&&o.all fun f=>mh q f (kw r.Values f)).map aJt.Id
 | [],P,s,_,hs=>by rw [List.foldl_nil,hs];simp
 | f::o,P,s,ho,hs=>by
  rw [List.foldl_cons];have hf:=ho f (List.mem_cons_self ..);have hn:(vW x r s f).1=(l.filter fun q=>P q&&mh q f (kw r.Values f)).map aJt.Id:=by
   unfold vW;split
   ·rename_i h0
    rw [h0] at hs;rw [h0,eq_comm,List.map_eq_nil_iff,List.filter_eq_nil_iff];intro q hq hp;rw [aR] at hp;have:q.Id∈(l.filter P).map aJt.Id:=List.mem_map_of_mem (List.mem_filter.2 ⟨hq,hp.1⟩);rw [←hs] at this;cases this
   ·dsimp only
    rw [hs,hx f hf.1 hf.2,aB9 hl hf (hv f hf.1 hf.2)];exact aCc hl P _
  rw [arE hl hx hv o _ _ (fun g hg=>ho g (List.mem_cons_of_mem _ hg)) hn];congr 1
  refine List.filter_congr fun q _=>?_;rw [List.all_cons,Bool.and_assoc]
def aCd(h:ci o=true):(0:Int)∈o∧(1:Int)∈o∧(2:Int)∈o:=by unfold ci at h;simp only [aR,WA] at h;exact h.2
def aCe(h:bw r=true)(h0:0≤f)(h2:f≤2):0≤kw r.Values f∧kw r.Values f≤99:=by have hl:=Ai h;unfold bw at h;simp only [aR] at h;have hlt:f.toNat < r.Values.length:=ab;have:=List.all_eq_true.1 h.1 _ (List.getElem_mem hlt);unfold kw;rw [fZ hlt];exact Nb.1 this
def aCf(ho:ci o=true)(hr:bw r=true)(hq:bq q=true):(o.all fun f=>mh q f (kw r.Values f))=iI q r:=by
 rw [Bool.eq_iff_iff,nw];unfold iI;rw [hr,hq,Bool.and_self,Bool.true_and,nw];constructor
 ·intro h c hc
  have hf:=ape hq hc;have hfo:c.Field∈o:=by have:=aCd ho;have:c.Field=0∨c.Field=1∨c.Field=2:=ab;rcases this with h|h|h<;>rw [h]<;>simp_all
  have:=List.all_eq_true.1 (h _ hfo) c hc;simpa [nL,Ha] using this
 ·intro h f _
  unfold mh;rw [nw];intro c hc;have:=h c hc;unfold nL;by_cases he:c.Field=f;·subst he;unfold Ha at this;simp [this]
  ·simp [he]
def aCg(hl:eA l=true)(hr:bw r=true)(ho:ci o=true)(hq:q∈l):cn (nO (lC l) r o).1 q.Id=iI q r:=by
 have hb:lC l=⟨l,[gY l 0,gY l 1,gY l 2]⟩:=if_pos hl;rw [hb];unfold nO;rw [arE (l:=l) hl (fun f h0 h2=>by
  have:f=0∨f=1∨f=2:=ab;rcases this with rfl|rfl|rfl<;>rfl) (fun f h0 h2=>aCe hr h0 h2) o (fun _=>true) _ (Nr ho).2 (by show l.map aJt.Id=_;rw [List.filter_eq_self.2 (fun _ _=>rfl)]),arD hl _ hq,Bool.true_and,aCf ho hr ((qI hl).2 q hq)]
section
def cN(e:au):List bb:=e.Store.aJr.getD e.aJw.toNat []
def fw(l:List bb)(t:Int):List Row:=(l.filter fun v=>gX v t).map gx
def mx(e:au)(a:aJs):List Row:=(fw (cN e) a.Time).filter (iI a.aJt)
def lO(e:au)(a:aJs)(j:Nat):List Row:=((fw (cN e) a.Time).take j).filter (iI a.aJt)
def jG(l:List Int)(x:Int):List Int:=l.filter fun y=>!(y==x)
def pZ(e:au)(a:aJs):aJs:=⟨a.aJt,a.Time,jG a.aJB e.aJw,a.Age,a.Sent+((mx e a).length:Int),a.Cap,a.Rows++mx e a⟩
def nZ(e:au)(ids:List Int)(a:aJs):aJs:=if cn ids a.aJt.Id then pZ e a else a
def cS(e:au)(k:Nat):List aJs:=e.aJs.map (nZ e ((parts e).take k))
def NV(e:au)(id:Int):aJs:=e.aJs.getD (eO e.aJs id).toNat kV
def Dw(e:au)(id:Int):Int:=(NV e id).aJt.aJx
def Dx(e:au)(id:Int):Int:=((mx e (NV e id)).length:Int)
def gk(e:au)(k:Nat):cH:=⟨e.aJw,((cN e).length:Int),(parts e).take k,((parts e).take k).map (Dw e),((parts e).take k).map (Dx e)⟩
def oa(n:Int)(a:aJs):aJs:=⟨a.aJt,a.Time,a.aJB,a.Age+1,if (a.Age+1).tmod n=0 then 0 else a.Sent,a.Cap,a.Rows⟩
def gy(a:aJs):Bool:=decide (a.aJB.length=0)
def yy(a:aJs):ig:=⟨a.aJt,a.Time,a.Age,a.Rows⟩
def dQ(e:au)(k:Nat):List aJs:=(cS e k).map (oa (e.Store.aJr.length:Int))
def ob(e:au)(k m:Nat):List aJs:=((dQ e k).take m).filter fun a=>!gy a
def kC(e:au)(k m:Nat):List ig:=(((dQ e k).take m).filter gy).map yy
def kD(e:au)(k:Nat):List cH:=if (parts e).length=0 then e.aJE else e.aJE++[gk e k]
def Yc(e:au)(k m:Nat):au:=⟨e.Store,(e.aJw+1).tmod (e.Store.aJr.length:Int),e.Order,ob e k m,e.Done++kC e k m,kD e k,e.Steps+1⟩
def jX(e:au):au:=Yc e (parts e).length e.aJs.length
def my(e:au):Bool:=aV e&&(decide (e.Steps < 100000)&&(decide ((e.aJE.length:Int) < 1000)&&decide ((e.Done.length:Int)+(e.aJs.length:Int)≤1000)))
def eo(e:au):au:=if my e then eV (jX e) else e
def arF(h:my e=false):eo e=e:=if_neg gJ
def arG(h:my e=true):eo e=eV (jX e):=if_pos h
def HF(h:my e=true):aV e=true∧e.Steps < 100000∧(e.aJE.length:Int) < 1000∧(e.Done.length:Int)+(e.aJs.length:Int)≤1000:=by unfold my at h;simp only [aR,decide_eq_true_eq] at h;exact ⟨h.1,h.2.1,h.2.2.1,h.2.2.2⟩
def wu(h:aV e=true):e.aJs.Pairwise (fun a b=>a.aJt.Id < b.aJt.Id):=by unfold aV at h;simp only [aR] at h;exact arA h.2.1
def HG(h:aV e=true)(hi:i < e.aJs.length)(hj:j < e.aJs.length)(he:e.aJs[i].aJt.Id=e.aJs[j].aJt.Id):i=j:=by
 have hp:=wu h;rw [List.pairwise_iff_getElem] at hp;rcases Nat.lt_trichotomy i j with h1|h1|h1;·have:=hp i j hi hj h1;omega
 ·exact h1
 ·have:=hp j i hj hi h1;omega
def Yd(h:aV e=true):(parts e).Pairwise (· < ·):=by rw [wa h];unfold jn;rw [List.pairwise_map];exact (wu h).filter _
def aCh{l:List Int}(hp:l.Pairwise (· < ·))(hk:k < l.length)(x:Int):cn (l.take (k+1)) x=(cn (l.take k) x||(l[k]==x)):=by unfold cn;rw [cI hk,List.any_append];simp
def aCi{l:List Int}(hp:l.Pairwise (· < ·))(hk:k < l.length):cn (l.take k) l[k]=false:=by unfold cn;rw [List.any_eq_false];intro y hy;obtain ⟨j,hj,rfl⟩:=List.mem_iff_getElem.1 hy;rw [cc] at hj;rw [List.pairwise_iff_getElem] at hp;have:=hp j k ab hk ab;simp;omega
def Ye(hok:aV e=true)(hk:k < (parts e).length):∃i,∃hi:i < e.aJs.length,eO e.aJs (parts e)[k]=(i:Int)∧e.aJs[i].aJt.Id=(parts e)[k]∧kW e e.aJs[i]=true:=by
 have hm:∀x,x∈parts e→x∈jn e e.aJs:=fun x hx=>by rwa [wa hok] at hx
 have hm:=hm _ (List.getElem_mem hk);unfold jn at hm;obtain ⟨a,ha,hid⟩:=List.mem_map.1 hm;obtain ⟨ha,hp⟩:=List.mem_filter.1 ha;obtain ⟨i,hi,rfl⟩:=List.mem_iff_getElem.1 ha;refine ⟨i,hi,?_,hid,hp⟩;refine WW hi ?_ (by unfold iu;rw [hid];simp);rw [List.any_eq_false];intro b hb;obtain ⟨j,hj,rfl⟩:=List.mem_iff_getElem.1 hb;rw [cc] at hj;intro hc;unfold iu at hc;have hc:e.aJs[j].aJt.Id=(parts e)[k]:=by simpa using hc
 have:=HG hok (show j < e.aJs.length by omega) hi (hc.trans hid.symm);omega
section
variable{e:au}{k i j m:Nat}
def yz:(cS e k).length=e.aJs.length:=by unfold cS;rw [aU]
def NW(h:i < (cS e k).length)(hi:i < e.aJs.length):(cS e k)[i]=nZ e ((parts e).take k) e.aJs[i]:=List.getElem_map (nZ e ((parts e).take k))
def aCj(hok:aV e=true)(hk:k < (parts e).length)(hi:i < e.aJs.length)(hid:e.aJs[i].aJt.Id=(parts e)[k])(h:i < (cS e k).length):(cS e k)[i]=e.aJs[i]:=by rw [NW h hi];unfold nZ;rw [hid,aCi (Yd hok) hk,if_neg aL]
def aCk(hok:aV e=true)(hk:k < (parts e).length)(hi:i < e.aJs.length)(hid:e.aJs[i].aJt.Id=(parts e)[k]):(cS e k).set i (pZ e e.aJs[i])=cS e (k+1):=by
 refine List.ext_getElem (by rw [List.length_set,yz,yz]) fun j h1 h2=>?_;have hj:j < e.aJs.length:=by rw [yz] at h2;exact h2
 rw [List.getElem_set,NW h2 hj];unfold nZ;rw [aCh (Yd hok) hk];split
 ·rename_i hij
  subst hij;rw [hid];simp
 ·rename_i hij
  rw [NW _ hj];unfold nZ;have:((parts e)[k]==e.aJs[j].aJt.Id)=false:=by rw [beq_eq_false_iff_ne];intro hc;exact hij (HG hok hi hj (hid.trans hc))
  rw [this,Bool.or_false]
def Yf:cS e 0=e.aJs:=by
 unfold cS;have:∀a:aJs,nZ e ((parts e).take 0) a=a:=fun a=>by unfold nZ cn;simp
 rw [List.map_congr_left (g:=_root_.id) (fun a _=>this a),List.map_id]
def Yg(hi:i < e.aJs.length)(hf:eO e.aJs id=(i:Int)):NV e id=e.aJs[i]:=by unfold NV;rw [hf];simp [hi]
def aCl(hk:k < (parts e).length)(hi:i < e.aJs.length)(hf:eO e.aJs (parts e)[k]=(i:Int)):gk e (k+1)=⟨e.aJw,((cN e).length:Int),(gk e k).Ids++[(parts e)[k]],(gk e k).aJy++[e.aJs[i].aJt.aJx],(gk e k).Rows++[((mx e e.aJs[i]).length:Int)]⟩:=by have ha:=Yg hi hf;unfold gk;rw [cI hk];simp only [bj,List.map_cons,List.map_nil,Dw,Dx,ha]
def NX(hk:k≤(parts e).length):(gk e k).Ids.length=k∧(gk e k).aJy.length=k∧(gk e k).Rows.length=k:=by unfold gk;simp only [aU,cc];omega
def arH(hj:j < (fw (cN e) a.Time).length)(h:iI a.aJt (fw (cN e) a.Time)[j]=true):lO e a (j+1)=lO e a j++[(fw (cN e) a.Time)[j]]:=by unfold lO;rw [cI hj,ic];simp [h]
def arI(hj:j < (fw (cN e) a.Time).length)(h:iI a.aJt (fw (cN e) a.Time)[j]=false):lO e a (j+1)=lO e a j:=by unfold lO;rw [cI hj,ic];simp [h]
def Yh:lO e a (fw (cN e) a.Time).length=mx e a:=by unfold lO mx;rw [bF]
def HH(l:List bb)(t:Int):(fw l t).length≤l.length:=by unfold fw;rw [aU];exact kh _ _
def Yi(h:e.aJw.toNat < e.Store.aJr.length):e.Store.aJr[e.aJw.toNat]=cN e:=by unfold cN;simp [h]
def NY(hok:aV e=true):(cN e).length≤4:=by have hf:=hE hok;rw [←Yi hf.2.2.2.1];exact (jm hf.1).2.2.2.2.1 _ (List.getElem_mem _)
def Yj:(dQ e k).length=e.aJs.length:=by unfold dQ;rw [aU,yz]
def NZ(h:m < (dQ e k).length)(h2:m < (cS e k).length):(dQ e k)[m]=oa (e.Store.aJr.length:Int) (cS e k)[m]:=List.getElem_map (oa (e.Store.aJr.length:Int))
def aCm(hm:m < (dQ e k).length)(h:gy (dQ e k)[m]=false):ob e k (m+1)=ob e k m++[(dQ e k)[m]]:=by unfold ob;rw [cI hm,ic];simp [h]
def aCn(hm:m < (dQ e k).length)(h:gy (dQ e k)[m]=true):ob e k (m+1)=ob e k m:=by unfold ob;rw [cI hm,ic];simp [h]
def aCo(hm:m < (dQ e k).length)(h:gy (dQ e k)[m]=true):kC e k (m+1)=kC e k m++[yy (dQ e k)[m]]:=by unfold kC;rw [cI hm,ic];simp [h]
def aCp(hm:m < (dQ e k).length)(h:gy (dQ e k)[m]=false):kC e k (m+1)=kC e k m:=by unfold kC;rw [cI hm,ic];simp [h]
def Oa:(ob e k m).length≤m:=by have:=kh (fun a=>!gy a) ((dQ e k).take m);rw [cc] at this;unfold ob;omega
def Ob:(kC e k m).length≤m:=by have:=kh gy ((dQ e k).take m);rw [cc] at this;unfold kC;rw [aU];omega
def arJ(h:(a.Age+1).tmod n=0):oa n a=⟨a.aJt,a.Time,a.aJB,a.Age+1,0,a.Cap,a.Rows⟩:=by unfold oa;rw [if_pos h]
def arK(h:¬(a.Age+1).tmod n=0):oa n a=⟨a.aJt,a.Time,a.aJB,a.Age+1,a.Sent,a.Cap,a.Rows⟩:=by unfold oa;rw [if_neg h]
def Yk(l:List Int)(x:Int):(jG l x).length≤l.length:=kh _ _
def aCq{l:List Int}{x:Int}(hk:k < l.length)(h:¬l[k]=x):jG (l.take (k+1)) x=jG (l.take k) x++[l[k]]:=by unfold jG;rw [cI hk,ic];simp [h]
def aCr{l:List Int}{x:Int}(hk:k < l.length)(h:l[k]=x):jG (l.take (k+1)) x=jG (l.take k) x:=by unfold jG;rw [cI hk,ic];simp [h]
end
def Yl{l:List bb}{t:Int}(hk:k < l.length)(h:gX l[k] t=true):fw (l.take (k+1)) t=fw (l.take k) t++[gx l[k]]:=by unfold fw;rw [cI hk,ic];simp [h]
def arL{l:List bb}{t:Int}(hk:k < l.length)(h:gX l[k] t=false):fw (l.take (k+1)) t=fw (l.take k) t:=by unfold fw;rw [cI hk,ic];simp [h]
def aCs(a b:List Row):iY (a++b)=iY a+iY b:=by unfold iY;simp;omega
def arM(hok:aV e=true):∀v∈cN e,bw (gx v)=true:=by intro v hv;have hf:=hE hok;rw [←Yi hf.2.2.2.1] at hv;obtain ⟨j,hj,rfl⟩:=List.mem_iff_getElem.1 hv;have:=Dh hf.1 hf.2.2.2.1 hj;unfold fb at this;rw [aR] at this;exact this.1
def arN:∀l:List Row,(∀r∈l,bw r=true)→iY l=4 * l.length
 | [],_=>rfl
 | r::l,h=>by
  have ih:=arN l fun x hx=>h x (List.mem_cons_of_mem _ hx);have hr:r.Values.length=3:=by have:=h r List.mem_cons_self;simp [bw,aE] at this;omega
  have hw:jy r=3:=by simp only [jy,fL,bf];omega
  unfold iY at ih ⊢;rw [List.length_cons,List.map_cons,List.sum_cons,hw];omega
def arO(hok:aV e=true)(t:Int):∀r∈fw (cN e) t,bw r=true:=by intro r hr;unfold fw at hr;obtain ⟨v,hv,rfl⟩:=List.mem_map.1 hr;exact arM hok v (List.mem_filter.1 hv).1
def Ym(hok:aV e=true)(a:aJs)(j:Nat):iY (lO e a j)≤16∧(lO e a j).length≤4:=by
 have hl:(lO e a j).length≤4:=by have h1:=kh (iI a.aJt) ((fw (cN e) a.Time).take j);rw [cc] at h1;have h2:=HH (cN e) a.Time;have h3:=NY hok;unfold lO;omega
 have hw:=arN (lO e a j) fun r hr=>arO hok a.Time r (List.mem_of_mem_take (List.mem_filter.1 hr).1);omega
def aCt(hok:aV e=true)(a:aJs):ew (pZ e a)≤ew a+16:=by have h1:=Ym hok a (fw (cN e) a.Time).length;rw [Yh] at h1;have h2:=Yk a.aJB e.aJw;unfold pZ ew;simp only [fL,bf,aCs];omega
def aCu(hok:aV e=true)(k:Nat):((cS e k).map ew).sum≤(e.aJs.map ew).sum+16 * e.aJs.length:=by
 unfold cS;generalize e.aJs=l;induction l with
 | nil=>simp
 | cons a l ih=>
  simp only [List.map_cons,List.sum_cons,List.length_cons] at *;have h1:ew (nZ e ((parts e).take k) a)≤ew a+16:=by
   unfold nZ;split;·exact aCt hok a
   ·omega
  omega
def aCv(n:Int)(a:aJs):ew (oa n a)=ew a:=by unfold oa ew;simp only [bf]
def aCw(a:aJs):oE (yy a)≤ew a:=by unfold yy oE ew;simp only [bf];omega
def arP:∀l:List aJs,((l.filter fun a=>!gy a).map ew).sum+(((l.filter gy).map yy).map oE).sum≤(l.map ew).sum
 | []=>by simp
 | a::l=>by
  have ih:=arP l;have hf:=aCw a;simp only [List.filter_cons];cases h:gy a;·simp only [Bool.not_false,if_true,List.map_cons,List.sum_cons,if_neg (by simp:¬(false=true))];omega
  ·simp only [Bool.not_true,if_true,List.map_cons,List.sum_cons,if_neg (by simp:¬(false=true))];omega
def Yn:∀l:List aJs,(l.filter fun a=>!gy a).length+(l.filter gy).length=l.length
 | []=>rfl
 | a::l=>by have ih:=Yn l;simp only [List.filter_cons];cases h:gy a<;>simp<;>omega
def aCx(hk:k≤(parts e).length):vL (gk e k)=3 * k:=by have:=NX hk;simp only [vL,fL,bf];omega
def Yo(hok:aV e=true):aZ (jX e)≤aZ e+200:=by
 have hf:=hE hok;have hp:=Ap (e:=e);have h1:=aCu hok (parts e).length;have h2:((dQ e (parts e).length).map ew).sum=((cS e (parts e).length).map ew).sum:=by unfold dQ;rw [List.map_map];exact congrArg List.sum (List.map_congr_left fun a _=>aCv _ a)
 have h3:=arP (dQ e (parts e).length);have h4:=Yn (dQ e (parts e).length);have h5:=Yj (e:=e) (k:=(parts e).length);have hr:ob e (parts e).length e.aJs.length=(dQ e (parts e).length).filter fun a=>!gy a:=by unfold ob;rw [tf ab]
 have hd:kC e (parts e).length e.aJs.length=((dQ e (parts e).length).filter gy).map yy:=by unfold kC;rw [tf ab]
 have hc:=aCx (e:=e) (Nat.le_refl _);have hl:gV (kD e (parts e).length)≤gV e.aJE+25:=by
  unfold kD;split;·omega
  ·unfold gV
   rw [bv,bj,List.sum_append];simp only [List.map_cons,List.map_nil,List.sum_cons,List.sum_nil,List.length_cons,List.length_nil,hc];omega
 unfold jX Yc aZ;dsimp only;simp only [bf,fK,ii,hr,hd,bv,bj,List.sum_append,aU] at *;omega
def Yp(e:au):aZ (eV e)≤aZ e:=by have:=Xe e.Store (jD e.aJs);unfold eV aZ;dsimp only;omega
def arQ(e:au):aZ (eo e)≤aZ e+200:=by
 unfold eo;split
 ·rename_i h
  have h1:=Yo (HF h).1;have h2:=Yp (jX e);omega
 ·omega
def aCy(id:Int):eO (cS e k) id=eO e.aJs id:=by
 have hq:∀a:aJs,iu id (nZ e ((parts e).take k) a)=iu id a:=fun a=>by unfold nZ;split<;>rfl
 unfold eO cS;rw [List.any_map,List.findIdx_map];simp only [Function.comp_def,hq]
def Oc(h:gM s a=true):0≤a.Sent∧a.Sent≤1000∧0≤a.Age∧a.Age≤100000∧a.Rows.length≤1000∧bq a.aJt=true:=by unfold gM at h;simp only [aR,aE,decide_eq_true_eq,jj] at h;exact ⟨ab,ab,ab,ab,ab,h.2.1⟩
def Od(h:aV e=true)(hi:i < e.aJs.length)(h2:i < (cS e k).length):0≤(cS e k)[i].Age∧(cS e k)[i].Age≤100000:=by have ha:=Oc ((hE h).2.2.2.2.2.2.2.2.2.1 _ (List.getElem_mem hi));rw [NW h2 hi];unfold nZ;split<;>exact ⟨ha.2.2.1,ha.2.2.2.1⟩
def Yq(h:aV e=true)(a:aJs):(mx e a).length≤4:=by have:=(Ym h a (fw (cN e) a.Time).length).2;rwa [Yh] at this
def iw(z:aJs×(Nat→Value)):List PV:=[PV.nv (z.2 0) (PV.val (vI z.1.aJt.Id)),PV.nv (z.2 1) (PV.val (vI z.1.aJt.aJx)),PV.nv (z.2 2) (PV.sl .v (z.1.aJt.aJu.map cr)),PV.nv (z.2 3) (PV.sl .v (z.1.aJt.Out.map ar)),PV.nv (z.2 4) (PV.val (vI z.1.Time)),PV.nv (z.2 5) (PV.sl .v (z.1.aJB.map ar)),PV.nv (z.2 6) (PV.val (vI z.1.Age)),PV.nv (z.2 7) (PV.val (vI z.1.Sent)),PV.nv (z.2 8) (PV.val (vI z.1.Cap)),PV.nv (z.2 9) (PV.sl .v (z.1.Rows.map (df aj)))]
def aCz(z:Row×(Nat→Value)):List PV:=[PV.nv (z.2 0) (PV.val (vI z.1.Id)),PV.nv (z.2 1) (PV.sl .v (z.1.Values.map ar))]
def HI{p:α→Bool}{r:α→α→Bool}{l:List α}(h1:∀x∈l,p x=true)(h2:l.Pairwise (fun a b=>r a b=true)):fq d p r l=true:=by
 unfold fq nK;rw [nw];intro i hi;have hi:=List.mem_range.1 hi;rw [fZ hi,h1 _ (List.getElem_mem hi),Bool.true_and];cases i with
 | zero=>rfl
 | succ i=>
  rw [List.pairwise_iff_getElem] at h2;rw [show i+1 - 1=i from rfl,fZ (show i < l.length by omega),h2 i (i+1) ab hi ab];simp
def arR(hok:aV e=true):lG e.aJs (parts e)=(e.aJs.filter (kW e)).map fun a=>a.aJt:=by
 rw [wa hok];unfold lG jn;rw [List.map_map];refine List.map_congr_left fun a ha=>?_;have ha:=(List.mem_filter.1 ha).1;obtain ⟨i,hi,rfl⟩:=List.mem_iff_getElem.1 ha;have hf:eO e.aJs e.aJs[i].aJt.Id=(i:Int):=by
  refine WW hi ?_ (by unfold iu;simp);rw [List.any_eq_false];intro b hb;obtain ⟨j,hj,rfl⟩:=List.mem_iff_getElem.1 hb;rw [cc] at hj;intro hc;unfold iu at hc;have hc:e.aJs[j].aJt.Id=e.aJs[i].aJt.Id:=by simpa using hc
  have:=HG hok (show j < e.aJs.length by omega) hi hc;omega
 show (e.aJs.getD (eO e.aJs e.aJs[i].aJt.Id).toNat kV).aJt=_;rw [hf];simp [hi]
def aCA(hok:aV e=true):eA (lG e.aJs (parts e))=true:=by
 have hef:=hE hok;rw [arR hok];unfold eA;have hl:=kh (kW e) e.aJs;rw [aR];refine ⟨HI (fun x hx=>?_) ?_,?_⟩
 ·obtain ⟨a,ha,rfl⟩:=List.mem_map.1 hx
  exact (Oc (hef.2.2.2.2.2.2.2.2.2.1 _ (List.mem_filter.1 ha).1)).2.2.2.2.2
 ·rw [List.pairwise_map]
  refine ((wu hok).filter _).imp fun {a b} h=>?_;unfold rT;simpa using h
 ·rw [aU,decide_eq_true_eq];omega
def aCB(hok:aV e=true)(hi:i < e.aJs.length)(h:kW e e.aJs[i]=true):e.aJs[i].aJt∈lG e.aJs (parts e):=by rw [arR hok];exact List.mem_map.2 ⟨_,List.mem_filter.2 ⟨List.getElem_mem hi,h⟩,rfl⟩
def oe(e:au)(a:aJs)(j:Nat):List Row:=(fw ((cN e).take j) a.Time).filter (iI a.aJt)
def arS(hj:j < (cN e).length)(hv:gX (cN e)[j] a.Time=true)(hm:iI a.aJt (gx (cN e)[j])=true):oe e a (j+1)=oe e a j++[gx (cN e)[j]]:=by unfold oe;rw [Yl hj hv,ic];simp [hm]
def Oe(hj:j < (cN e).length)(h:gX (cN e)[j] a.Time=false∨iI a.aJt (gx (cN e)[j])=false):oe e a (j+1)=oe e a j:=by
 unfold oe;cases hv:gX (cN e)[j] a.Time with
 | false=>rw [arL hj hv]
 | true=>
  rw [hv] at h;have hm:=h.resolve_left aL;rw [Yl hj hv,ic];simp [hm]
def aCC:oe e a (cN e).length=mx e a:=by unfold oe mx;rw [bF]
def aCD:(oe e a j).length≤j:=by have h1:=kh (iI a.aJt) (fw ((cN e).take j) a.Time);have h2:=HH ((cN e).take j) a.Time;rw [cc] at h2;unfold oe;omega
def og(e:au)(k:Nat):cH:=⟨e.aJw,((cN e).length:Int),parts e,((parts e).take k).map (Dw e),((parts e).take k).map (Dx e)⟩
def aCE(hk:k < (parts e).length)(hi:i < e.aJs.length)(hf:eO e.aJs (parts e)[k]=(i:Int)):og e (k+1)=⟨e.aJw,((cN e).length:Int),parts e,(og e k).aJy++[e.aJs[i].aJt.aJx],(og e k).Rows++[((mx e e.aJs[i]).length:Int)]⟩:=by have ha:=Yg hi hf;unfold og;rw [cI hk];simp only [bj,List.map_cons,List.map_nil,Dw,Dx,ha]
def aCF:og e (parts e).length=gk e (parts e).length:=by unfold og gk;rw [bF]
def aCG(hk:k≤(parts e).length):(og e k).aJy.length=k∧(og e k).Rows.length=k:=by unfold og;simp only [aU,cc];omega
def aCH(e:au)(k:Nat):au:=⟨e.Store,e.aJw,e.Order,cS e k,e.Done,e.aJE,e.Steps⟩
end
structure aCI(s:Store):Prop where
 l1:1≤s.aJr.length
 l8:s.aJr.length≤8
 n0:0≤s.Now
 n1:s.Now≤100000
 sm:∀g∈s.aJr,g.length≤4
 vs:∀v∈bA s,fb s.Now v=true
 ap:(bA s).Pairwise fun a b=>hP a b=true
def Yr(a b:bb):hP a b=hP b a:=by unfold hP;rw [show (a.Id==b.Id)=(b.Id==a.Id) from by rw [Bool.eq_iff_iff];simp only [beq_iff_eq];exact eq_comm];rw [Bool.or_comm (_&&_) (_&&_)]
def HJ{l:List α}(h:i < l.length):l.getD i d=l[i]:=by rw [List.getD_eq_getElem?_getD,List.getElem?_eq_getElem h];rfl
def oV:cv s=true↔aCI s:=by
 constructor
 ·intro h
  obtain ⟨h1,h2,h3,h4,h5,h6⟩:=jm h;refine ⟨h2,h1,h3,h4,h5,fun v hv=>?_,?_⟩
  ·obtain ⟨i,hi,rfl⟩:=List.mem_iff_getElem.1 hv
   have:=h6 i hi;rwa [HJ hi] at this
  ·rw [List.pairwise_iff_getElem]
   intro i j hi hj hij;unfold cv qG at h;rw [aR] at h;have hg:=List.all_eq_true.1 h.2 j (List.mem_range.2 hj);unfold qF je at hg;rw [aR] at hg;have:=List.all_eq_true.1 hg.2 i (List.mem_range.2 hij);rw [HJ hi,HJ hj] at this;rw [Yr];exact this
 ·intro h
  unfold cv tX;have e1:s.aJr.all oJ=true:=List.all_eq_true.2 fun g hg=>by have:=h.sm g hg;unfold oJ;rw [decide_eq_true_eq];omega
  have e2:qG s.Now (bA s) (bA s).length=true:=by unfold qG;refine List.all_eq_true.2 fun i hi=>?_;have hi:=List.mem_range.1 hi;unfold qF je;rw [HJ hi,aR];refine ⟨h.vs _ (List.getElem_mem hi),List.all_eq_true.2 fun m hm=>?_⟩;have hm:=List.mem_range.1 hm;have:=List.pairwise_iff_getElem.1 h.ap m i ab hi hm;rw [HJ ab,Yr];exact this
  have l1:=h.l1;have l8:=h.l8;have n0:=h.n0;have n1:=h.n1;rw [e1,e2];simp only [aE,aR,decide_eq_true_eq,and_true];omega
def aCJ(s:Store)(keep:List Int)(h:cv s=true):bA (iM s keep)=(bA s).filter fun v=>kx v keep:=by
 rw [Nz h];unfold bA;dsimp only;generalize s.aJr=l;induction l with
 | nil=>rfl
 | cons x l ih=>rw [List.map_cons,List.flatten_cons,List.flatten_cons,ic,ih];rfl
def aCK(keep:List Int)(h:cv s=true):cv (iM s keep)=true:=by
 have k:=oV.1 h;have e:=aCJ s keep h;rw [oV];have hr:=Nz (keep:=keep) h;refine ⟨?_,?_,?_,?_,?_,?_,?_⟩;·rw [hr];show 1≤(s.aJr.map _).length;rw [aU];exact k.l1
 ·rw [hr];show (s.aJr.map _).length≤8;rw [aU];exact k.l8
 ·rw [hr];exact k.n0
 ·rw [hr];exact k.n1
 ·rw [hr]
  intro g hg;obtain ⟨x,hx,rfl⟩:=List.mem_map.1 hg;exact Nat.le_trans (kh _ _) (k.sm x hx)
 ·rw [e,show (iM s keep).Now=s.Now by rw [hr]]
  intro v hv;exact k.vs v (List.mem_filter.1 hv).1
 ·rw [e];exact k.ap.filter _
def aCL(keep:List Int):(iM s keep).aJr.length=s.aJr.length∧(iM s keep).Now=s.Now:=by
 unfold iM;split;·exact ⟨aU _,rfl⟩
 ·exact ⟨rfl,rfl⟩
def Ys(h:fb n v=true):fb (n+1) v=true:=by unfold fb at *;simp only [aR,Bool.or_eq_true,aE,decide_eq_true_eq] at *;exact ⟨h.1,ab,ab⟩
def Yt{l:List α}{x:α}(h:i < l.length):l.set i x=l.take i++x::l.drop (i+1):=by rw [List.set_eq_take_append_cons_drop,if_pos h]
def aCM(hi:i < s.aJr.length)(hk:k < s.aJr[i].length):bA s=((s.aJr.take i).flatten++s.aJr[i].take k)++s.aJr[i][k]::(s.aJr[i].drop (k+1)++(s.aJr.drop (i+1)).flatten):=by
 have e1:=No hi;have e2:s.aJr[i]=s.aJr[i].take k++s.aJr[i][k]::s.aJr[i].drop (k+1):=aaF;rw [e1];unfold eU;conv=>lhs;rw [e2]
 simp only [bn,List.cons_append]
def aCN(hi:i < s.aJr.length)(hk:k < s.aJr[i].length):bA ⟨s.aJr.set i (s.aJr[i].set k v),n⟩=((s.aJr.take i).flatten++s.aJr[i].take k)++v::(s.aJr[i].drop (k+1)++(s.aJr.drop (i+1)).flatten):=by unfold bA;dsimp only;rw [Yt hi,List.flatten_append,List.flatten_cons,Yt hk];simp only [bn,List.cons_append]
def aCO{r:Nat}(hr:r < L.length):(bA ⟨Dt L r v,n⟩).Perm (v::bA ⟨L,n⟩):=by
 unfold bA;dsimp only;rw [AD hr,Yt hr,List.flatten_append,List.flatten_cons];have e:L.flatten=(L.take r).flatten++(L[r]++(L.drop (r+1)).flatten):=by rw [←List.flatten_cons,←List.flatten_append,←List.drop_eq_getElem_cons hr,iq]
 rw [e];have:(L.take r).flatten++(L[r]++[v]++(L.drop (r+1)).flatten)=((L.take r).flatten++L[r])++v::(L.drop (r+1)).flatten:=by simp only [bn,List.cons_append,List.nil_append]
 rw [this];refine List.perm_middle.trans ?_;rw [bn]
def arT:mw id v=true↔v.Id=id∧v.aJC = -1:=by unfold mw;simp
def aCP(h:¬0≤cW s id):∀v∈bA s,v.Id=id→v.aJC ≠ -1:=by
 intro v hv hid hd;have hall:s.aJr.any (la id)=true:=by unfold bA at hv;obtain ⟨g,hg,hv⟩:=List.mem_flatten.1 hv;exact List.any_eq_true.2 ⟨g,hg,List.any_eq_true.2 ⟨v,hv,arT.2 ⟨hid,hd⟩⟩⟩
 unfold cW at h;rw [if_pos hall] at h;omega
def Yu{a b:bb}(h:hP a b=true)(hid:a.Id=b.Id):(a.aJC ≠ -1∧a.aJC≤b.aJG)∨(b.aJC ≠ -1∧b.aJC≤a.aJG):=by unfold hP at h;simp only [hid,beq_self_eq_true,Bool.not_true,Bool.false_or,Bool.or_eq_true,aR,Bool.not_eq_true',beq_eq_false_iff_ne,decide_eq_true_eq] at h;exact h
def Yv{a b:bb}(h:a.Id=b.Id→(a.aJC ≠ -1∧a.aJC≤b.aJG)∨(b.aJC ≠ -1∧b.aJC≤a.aJG)):hP a b=true:=by
 unfold hP;by_cases hid:a.Id=b.Id
 ·have:=h hid
  simp only [hid,beq_self_eq_true,Bool.not_true,Bool.false_or,Bool.or_eq_true,aR,Bool.not_eq_true',beq_eq_false_iff_ne,decide_eq_true_eq];exact this
 ·rw [show (a.Id==b.Id)=false by rw [beq_eq_false_iff_ne];exact hid];rfl
def Of(h:fb n v=true):bw ⟨v.Id,v.Values⟩=true∧0≤v.aJG∧v.aJG≤n∧(v.aJC = -1∨(v.aJG+1≤v.aJC∧v.aJC≤n)):=by unfold fb at h;simp only [aR,Bool.or_eq_true,aE,decide_eq_true_eq] at h;exact ⟨h.1,h.2.1.1,h.2.1.2,h.2.2⟩
def Yw(h:bw ⟨v.Id,v.Values⟩=true)(h1:0≤v.aJG∧v.aJG≤n)(h2:v.aJC = -1∨(v.aJG+1≤v.aJC∧v.aJC≤n)):fb n v=true:=by unfold fb;simp only [aR,Bool.or_eq_true,aE,decide_eq_true_eq];exact ⟨h,h1,h2⟩
def Yx:∀{a b:bb},hP a b=true→hP b a=true:=fun {a b} h=>by rw [Yr];exact h
structure aCQ(s:Store)(u:aJv):Prop where
 vs:∀v∈bA ⟨en s u,s.Now+1⟩,fb (s.Now+1) v=true
 ap:(bA ⟨en s u,s.Now+1⟩).Pairwise fun a b=>hP a b=true
 no:∀v∈bA ⟨en s u,s.Now+1⟩,v.Id=u.Row.Id→v.aJC ≠ -1
def aCR(h:cv s=true):aCQ s u:=by
 have k:=oV.1 h;by_cases hf:0≤cW s u.Row.Id
 ·obtain ⟨i,j,hi,hj,h1,h2,ha⟩:=wq hf
  obtain ⟨hid,hdd⟩:=arT.1 ha;have e1:=aCM hi hj;have e2:=aCN (v:=nX (s.Now+1) s.aJr[i][j]) (n:=s.Now+1) hi hj;have kv:=k.vs;have ka:=k.ap;rw [e1] at kv ka;rw [List.pairwise_append,List.pairwise_cons] at ka;obtain ⟨ka1,⟨ka2,ka3⟩,ka4⟩:=ka;have hv0:=Of (kv s.aJr[i][j] aL);have mem:∀v∈((s.aJr.take i).flatten++s.aJr[i].take j)++nX (s.Now+1) s.aJr[i][j]::(s.aJr[i].drop (j+1)++(s.aJr.drop (i+1)).flatten),v=nX (s.Now+1) s.aJr[i][j]∨v∈((s.aJr.take i).flatten++s.aJr[i].take j)∨v∈(s.aJr[i].drop (j+1)++(s.aJr.drop (i+1)).flatten):=by
   intro v hv;rcases List.mem_append.1 hv with hv|hv;·exact .inr (.inl hv)
   ·rcases List.mem_cons.1 hv with hv|hv
    ·exact .inl hv
    ·exact .inr (.inr hv)
  have hk:∀w:bb,hP s.aJr[i][j] w=true→hP (nX (s.Now+1) s.aJr[i][j]) w=true:=by
   intro w hw;refine Yv fun he=>?_;have:=Yu hw he;rcases this with ⟨h3,_⟩|⟨h3,h4⟩;·exact absurd hdd h3
   ·exact .inr ⟨h3,h4⟩
  refine ⟨?_,?_,?_⟩
  ·rw [(sg hi hj h1 h2).1,e2]
   intro v hv;rcases mem v hv with rfl|hv|hv;·exact Yw hv0.1 ⟨hv0.2.1,by show s.aJr[i][j].aJG≤s.Now+1;omega⟩ (.inr ⟨by show s.aJr[i][j].aJG+1≤s.Now+1;omega,Int.le_refl _⟩)
   ·exact Ys (kv v (List.mem_append.2 (.inl hv)))
   ·exact Ys (kv v (List.mem_append.2 (.inr (List.mem_cons_of_mem _ hv))))
  ·rw [(sg hi hj h1 h2).1,e2,List.pairwise_append,List.pairwise_cons]
   refine ⟨ka1,⟨fun w hw=>hk w (ka2 w hw),ka3⟩,fun a ha b hb=>?_⟩;rcases List.mem_cons.1 hb with rfl|hb;·exact Yx (hk a (Yx (ka4 a ha _ List.mem_cons_self)))
   ·exact ka4 a ha b (List.mem_cons_of_mem _ hb)
  ·rw [(sg hi hj h1 h2).1,e2]
   intro v hv hvid;rcases mem v hv with rfl|hv|hv
   ·show s.Now+1 ≠ -1
    have:=k.n0;omega
   ·have:=Yu (ka4 v hv _ List.mem_cons_self) (by rw [hvid,hid])
    rcases this with ⟨h3,_⟩|⟨h3,_⟩;·exact h3
    ·exact absurd hdd h3
   ·have:=Yu (ka2 v hv) (by rw [hvid,hid])
    rcases this with ⟨h3,_⟩|⟨h3,_⟩;·exact absurd hdd h3
    ·exact h3
 ·have e:=(wt hf).1
  have e3:bA ⟨en s u,s.Now+1⟩=bA s:=by unfold bA;dsimp only;rw [e]
  have hn:=aCP hf;refine ⟨?_,?_,?_⟩;·rw [e3];intro v hv;exact Ys (k.vs v hv)
  ·rw [e3];exact k.ap
  ·rw [e3];exact hn
def aCS(h:ez u=true)(hk:u.Kind=3):0≤u.Field∧u.Field≤2∧0≤u.Value∧u.Value≤99∧0≤u.Row.Id∧u.Row.Id≤999:=by unfold ez at h;rw [if_neg ab,if_neg ab,if_pos hk] at h;simp only [rL,aR,aE,decide_eq_true_eq] at h;omega
def aCT(h:ez u=true)(hk:u.Kind=1):bw u.Row=true:=by unfold ez at h;rw [if_pos hk] at h;simp only [aR] at h;exact h.1
def aCU(h:ez u=true):u.Kind=1∨u.Kind=2∨u.Kind=3:=by
 unfold ez at h;by_cases h1:u.Kind=1;·exact .inl h1
 ·by_cases h2:u.Kind=2
  ·exact .inr (.inl h2)
  ·by_cases h3:u.Kind=3
   ·exact .inr (.inr h3)
   ·rw [if_neg h1,if_neg h2,if_neg h3] at h;cases h
def Og:bw r=true↔(0≤r.Id∧r.Id≤999)∧r.Values.length=3∧∀x∈r.Values,0≤x∧x≤99:=by
 unfold bw nJ;simp only [aR,aE,decide_eq_true_eq,nw];constructor;·rintro ⟨h1,h2,h3⟩;exact ⟨h2,ab,h1⟩
 ·rintro ⟨h1,h2,h3⟩;exact ⟨h3,h1,ab⟩
def aCV(h:lM s u=true)(hk:¬u.Kind=2):bw ⟨u.Row.Id,le s u⟩=true:=by
 obtain ⟨h1,h2,h3,h4,h5⟩:=AC h;have k:=oV.1 h1;rcases aCU h2 with k1|k2|k3
 ·have hr:=aCT h2 k1
  have hf:¬0≤cW s u.Row.Id:=fun hc=>(h4.1 hc) k1;unfold le;rw [if_neg ab,(wt hf).2];exact hr
 ·exact absurd k2 hk
 ·have hu:=aCS h2 k3
  have hf:0≤cW s u.Row.Id:=h4.2 ab;obtain ⟨i,j,hi,hj,e1,e2,ha⟩:=wq hf;have hv:=(Of (Dh h1 hi hj)).1;rw [Og] at hv;unfold le;rw [if_pos k3,(sg hi hj e1 e2).2,Og];refine ⟨⟨hu.2.2.2.2.1,hu.2.2.2.2.2⟩,by rw [List.length_set];exact hv.2.1,fun x hx=>?_⟩;rcases List.mem_or_eq_of_mem_set hx with hx|rfl;·exact hv.2.2 x hx
  ·exact ⟨hu.2.2.1,hu.2.2.2.1⟩
def arU(s:Store)(u:aJv)(h:cv s=true):cv (fh s u).1=true:=by
 cases ha:lM s u with
 | false=>rw [HE ha];exact h
 | true=>
  obtain ⟨h1,h2,h3,h4,h5⟩:=AC ha;have k:=oV.1 h;have hu:=aCR (u:=u) h;have hlen:=Dv s u;have hsm:∀g∈en s u,g.length≤4:=by intro g hg;obtain ⟨i,hi,rfl⟩:=List.mem_iff_getElem.1 hg;have hi2:i < s.aJr.length:=ab;rw [NR s u hi hi2];exact k.sm _ (List.getElem_mem hi2)
  by_cases hk:u.Kind=2
  ·rw [AB ha hk,oV]
   exact ⟨by dsimp only;rw [hlen];exact k.l1,by dsimp only;rw [hlen];exact k.l8,by dsimp only;have:=k.n0;omega,wN,hsm,hu.vs,hu.ap⟩
  ·obtain ⟨r,hr,hrm,hr4⟩:=XW (h5.resolve_left hk)
   have hru:r < (en s u).length:=ab;rw [Du ha hk hrm,oV];have hp:=aCO (v:=nY s u) (n:=s.Now+1) hru;have hnv:fb (s.Now+1) (nY s u)=true:=Yw (aCV ha hk) ⟨by show 0≤s.Now+1;have:=k.n0;omega,Int.le_refl _⟩ (.inl rfl);refine ⟨?_,?_,by dsimp only;have:=k.n0;omega,wN,?_,?_,?_⟩;·dsimp only;rw [AD hru,List.length_set,hlen];exact k.l1
   ·dsimp only;rw [AD hru,List.length_set,hlen];exact k.l8
   ·dsimp only
    rw [AD hru];intro g hg;rcases List.mem_or_eq_of_mem_set hg with hg|rfl;·exact hsm g hg
    ·have h6:=NR s u hru hr
     rw [bv,h6];simp;omega
   ·intro v hv
    rcases List.mem_cons.1 (hp.mem_iff.1 hv) with rfl|hv;·exact hnv
    ·exact hu.vs v hv
   ·rw [hp.pairwise_iff (fun h=>Yx h),List.pairwise_cons]
    refine ⟨fun w hw=>Yv fun he=>?_,hu.ap⟩;have h6:=hu.no w hw he.symm;have h7:=Of (hu.vs w hw);rcases h7.2.2.2 with h8|h8;·exact absurd h8 h6
    ·exact .inr ⟨h6,h8.2⟩
section
attribute [local irreducible] av gj
def arV{w:Int}{c:aO}(hw:0 < w):∀{k:Nat},∀x∈(ml w c k).1,0≤x∧x < w
 | 0,x,h=>nomatch h
 | k+1,x,h=>by
  rw [ml] at h;rcases List.mem_append.1 h with h|h;·exact arV hw x h
  ·simp at h;subst h
   exact ⟨eM _ _,fv _ hw⟩
def aCW(c:aO):0 < (ct c [3,6,100]).1∧(ct c [3,6,100]).1≤100:=by have h:=WJ c (l:=[3,6,100]) ai;simp at h;omega
def aCX(h:0≤id∧id≤999):bw (jB c id).1=true:=by have hw:=aCW c;unfold bw jB;simp only [aR,nw,decide_eq_true_eq];refine ⟨fun x hx=>?_,Nb.2 h,by rw [Hk];rfl⟩;have:=arV hw.1 x hx;exact Nb.2 ab
end
def yA:Row:=⟨0,[]⟩
def yB(a b:Row):Bool:=decide (a.Id < b.Id)
def kE(l:List Row):Bool:=fq yA bw yB l&&decide ((l.length:Int)≤32)
def Dy(r:Row):bb:=⟨r.Id,r.Values,0,-1⟩
def sh(rows:List Row)(n i k:Nat):List bb:=(List.range k).map fun j=>Dy (rows.getD (i+j * n) yA)
def si(len n i:Nat):Nat:=(len - i+(n - 1)) / n
def qS(rows:List Row)(n i:Nat):List bb:=sh rows n i (si rows.length n i)
def oW(rows:List Row)(n k:Nat):List (List bb):=(List.range k).map (qS rows n)
def ni(rows:List Row)(n:Int):Bool:=(kE rows&&aE n 1 8)&&decide ((rows.length:Int)≤n * 4)
def ix(rows:List Row)(n:Int):Store×Bool:=if ni rows n then (⟨oW rows n.toNat n.toNat,0⟩,true) else (⟨[],0⟩,false)
def Yy(h:ni rows n=false):ix rows n=(⟨[],0⟩,false):=if_neg gJ
def HK(h:ni rows n=true):ix rows n=(⟨oW rows n.toNat n.toNat,0⟩,true):=if_pos h
def Oh(h:ni rows n=true):kE rows=true∧(1≤n∧n≤8)∧(rows.length:Int)≤n * 4:=by unfold ni at h;simp only [aR,aE,decide_eq_true_eq] at h;exact ⟨h.1.1,h.1.2,h.2⟩
def HL{len n:Nat}(hn:0 < n)(h:i≤len):i+k * n < len↔k < si len n i:=by unfold si;rw [Nat.lt_iff_add_one_le (m:=k),Nat.le_div_iff_mul_le hn,Nat.add_mul,Nat.one_mul];omega
def Yz{len n:Nat}(hn:0 < n)(h:len≤i):si len n i=0:=by unfold si;exact Nat.div_eq_of_lt ab
def aCY{n:Nat}:sh rows n i (k+1)=sh rows n i k++[Dy (rows.getD (i+k * n) yA)]:=by unfold sh;rw [List.range_succ,bj];rfl
def YA{n:Nat}:(sh rows n i k).length=k:=by unfold sh;rw [aU,List.length_range]
def aCZ{n:Nat}:oW rows n (k+1)=oW rows n k++[qS rows n k]:=by unfold oW;rw [List.range_succ,bj];rfl
def YB{n:Nat}:(oW rows n k).length=k:=by unfold oW;rw [aU,List.length_range]
def aC0{l:List Row}(h:kE l=true):l.length≤32:=by unfold kE at h;rw [aR,decide_eq_true_eq] at h;omega
def arW{l:List Row}(h:kE l=true)(hk:k < l.length):bw l[k]=true:=by unfold kE at h;rw [aR] at h;exact Hb h.1 hk
def arX{l:List Row}(h:kE l=true):∀(i j:Nat) (hj:j < l.length) (hij:i < j),l[i].Id < l[j].Id:=by
 have h:=h;unfold kE at h;rw [aR] at h;have step:∀i (hi:i+1 < l.length),l[i].Id < l[i+1].Id:=by
  intro i hi;have:=List.all_eq_true.1 h.1 (i+1) (List.mem_range.2 hi);rw [mY,show i+1 - 1=i from rfl,fZ hi,fZ (show i < l.length by omega)] at this;rcases this.2 with h0|h0;·omega
  ·unfold yB at h0;simpa using h0
 intro i j hj hij;induction j with
 | zero=>omega
 | succ j ih=>
  by_cases he:i=j;·subst he;exact step i hj
  ·have h1:=ih ab ab
   have h2:=step j hj;omega
def arY{n:Nat}(hn:0 < n)(hl:rows.length≤n * 4):(qS rows n i).length≤4:=by
 unfold qS;rw [YA];unfold si;refine Nat.le_of_lt_succ ?_;rw [Nat.div_lt_iff_lt_mul hn];have:(4+1) * n=n * 4+n:=by rw [Nat.add_mul,Nat.mul_comm];omega
 show _ < (4+1) * n;rw [this];omega
def YC{n:Nat}(hn:0 < n)(hv:v∈qS rows n i):∃j,∃h:i+j * n < rows.length,v=Dy rows[i+j * n]:=by
 by_cases hi:i≤rows.length
 ·unfold qS sh at hv
  obtain ⟨j,hj,rfl⟩:=List.mem_map.1 hv;have hj:=(HL hn hi).2 (List.mem_range.1 hj);exact ⟨j,hj,by rw [fZ hj]⟩
 ·unfold qS at hv
  rw [Yz hn ab] at hv;simp [sh] at hv
def arZ(h:ni rows n=true):cv (ix rows n).1=true:=by
 obtain ⟨h1,h2,h3⟩:=Oh h;rw [HK h,oV];have hn:0 < n.toNat:=ab;have mem:∀v∈bA ⟨oW rows n.toNat n.toNat,0⟩,∃i,∃hi:i < rows.length,v=Dy rows[i]:=by intro v hv;unfold bA oW at hv;obtain ⟨g,hg,hv⟩:=List.mem_flatten.1 hv;obtain ⟨i,_,rfl⟩:=List.mem_map.1 hg;obtain ⟨j,hj,rfl⟩:=YC hn hv;exact ⟨_,hj,rfl⟩
 have apart:∀i j (hi:i < rows.length) (hj:j < rows.length),i≠j→hP (Dy rows[i]) (Dy rows[j])=true:=by
  intro i j hi hj hij;refine Yv fun he=>?_;exfalso;have he:rows[i].Id=rows[j].Id:=he;rcases Nat.lt_or_gt_of_ne hij with k|k;·have:=arX h1 i j hj k;omega
  ·have:=arX h1 j i hi k;omega
 refine ⟨by dsimp only;rw [YB];omega,by dsimp only;rw [YB];omega,Int.le_refl 0,Qf,fun g hg=>?_,fun v hv=>?_,?_⟩
 ·unfold oW at hg
  obtain ⟨i,_,rfl⟩:=List.mem_map.1 hg;exact arY hn ab
 ·obtain ⟨i,hi,rfl⟩:=mem v hv
  exact Yw (arW h1 hi) ⟨Int.le_refl 0,Int.le_refl 0⟩ (.inl rfl)
 ·unfold bA oW
  rw [List.pairwise_flatten,List.pairwise_map];constructor
  ·intro g hg
   obtain ⟨i,hi,rfl⟩:=List.mem_map.1 hg;have hi:=List.mem_range.1 hi;unfold qS sh;by_cases hil:i≤rows.length
   ·rw [List.pairwise_map]
    refine List.Pairwise.imp_of_mem ?_ List.pairwise_lt_range;intro a b ha hb hab;have ha:=(HL hn hil).2 (List.mem_range.1 ha);have hb:=(HL hn hil).2 (List.mem_range.1 hb);rw [fZ ha,fZ hb];refine apart _ _ ha hb ?_;have:=Nat.mul_lt_mul_of_pos_right hab hn;omega
   ·rw [Yz hn ab];simp
  ·refine List.Pairwise.imp_of_mem ?_ List.pairwise_lt_range
   intro a b ha hb hab v hv w hw;have ha:=List.mem_range.1 ha;have hb:=List.mem_range.1 hb;obtain ⟨j,hj,rfl⟩:=YC hn hv;obtain ⟨k,hk,rfl⟩:=YC hn hw;refine apart _ _ hj hk ?_;intro he;have:=congrArg (· % n.toNat) he;simp only [Nat.add_mul_mod_self_right] at this;rw [Nat.mod_eq_of_lt ha,Nat.mod_eq_of_lt hb] at this;omega
def uj(c:aO)(s:Store):Int×aO:=
 if (bA s).length=0 then ((av c 12).1,(av c 12).2)
 else if (av (av c 12).2 4).1=0 then ((av c 12).1,(av (av c 12).2 4).2)
 else (((bA s).getD (av (av (av c 12).2 4).2 (bA s).length).1.toNat v0).Id,(av (av (av c 12).2 4).2 (bA s).length).2)
def eg(c:aO)(s:Store):Int×aO:=av (uj c s).2 3
def iN(c:aO)(s:Store):aJv×aO:=
 if (eg c s).1=0 then (⟨1,(jB (av (eg c s).2 20).2 (av (eg c s).2 20).1).1,0,0⟩,(jB (av (eg c s).2 20).2 (av (eg c s).2 20).1).2)
 else if (eg c s).1=1 then (⟨2,⟨(uj c s).1,[]⟩,0,0⟩,(eg c s).2)
 else (⟨3,⟨(uj c s).1,[]⟩,(av (eg c s).2 3).1,(av (av (eg c s).2 3).2 6).1⟩,(av (av (eg c s).2 3).2 6).2)
def aC1(h:(bA s).length=0):uj c s=((av c 12).1,(av c 12).2):=if_pos h
def aC2(h:¬(bA s).length=0)(h2:(av (av c 12).2 4).1=0):uj c s=((av c 12).1,(av (av c 12).2 4).2):=by unfold uj;rw [if_neg h,if_pos h2]
def aC3(h:¬(bA s).length=0)(h2:¬(av (av c 12).2 4).1=0):uj c s=(((bA s).getD (av (av (av c 12).2 4).2 (bA s).length).1.toNat v0).Id,(av (av (av c 12).2 4).2 (bA s).length).2):=by unfold uj;rw [if_neg h,if_neg h2]
def ar0(h:(eg c s).1=0):iN c s=(⟨1,(jB (av (eg c s).2 20).2 (av (eg c s).2 20).1).1,0,0⟩,(jB (av (eg c s).2 20).2 (av (eg c s).2 20).1).2):=if_pos h
def ar1(h:¬(eg c s).1=0)(h2:(eg c s).1=1):iN c s=(⟨2,⟨(uj c s).1,[]⟩,0,0⟩,(eg c s).2):=by unfold iN;rw [if_neg h,if_pos h2]
def ar2(h:¬(eg c s).1=0)(h2:¬(eg c s).1=1):iN c s=(⟨3,⟨(uj c s).1,[]⟩,(av (eg c s).2 3).1,(av (av (eg c s).2 3).2 6).1⟩,(av (av (eg c s).2 3).2 6).2):=by unfold iN;rw [if_neg h,if_neg h2]
def aC4(c:aO)(s:Store):jz (iN c s).1≤3:=by
 unfold iN;split
 ·have:=apq (av (eg c s).2 20).2 (av (eg c s).2 20).1
  unfold jz;dsimp only;simp only [bf];omega
 ·split<;>(unfold jz jy;simp only [fL,bf];decide)
structure AE where
 s:Store
 c:aO
def aC5(x:AE):AE:=⟨(fh x.s (iN x.c x.s).1).1,(iN x.c x.s).2⟩
def sk(x:AE):Nat→AE
 | 0=>x
 | k+1=>aC5 (sk x k)
def qT(c:aO):List Row×aO:=rP c 7
def sq(c:aO):AE:=⟨(ix (qT c).1 (2+(av (qT c).2 3).1)).1,(av (av (qT c).2 3).2 6).2⟩
def wv(c:aO):Int:=(av (av (qT c).2 3).2 6).1
def iZ(c:aO):AE:=sk (sq c) (wv c).toNat
def ar3{c:aO}{id:Int}(h:0≤id∧id≤2):∀{k:Nat},k≤300→(∀r∈(ee id c k).l,bw r=true∧r.Id < (ee id c k).id)∧(ee id c k).l.Pairwise fun a b=>a.Id < b.Id
 | 0,_=>⟨fun r hr=>by simp [ee] at hr,List.Pairwise.nil⟩
 | k+1,hk=>by
  obtain ⟨h1,h2⟩:=ar3 (c:=c) h (k:=k) ab;have hid:=apr (c:=c) (k:=k) h;have hb:=eM (jB (ee id c k).c (ee id c k).id).2 3;have hr:=aCX (c:=(ee id c k).c) (id:=(ee id c k).id) ⟨hid.1,ab⟩;have hri:(jB (ee id c k).c (ee id c k).id).1.Id=(ee id c k).id:=rfl;rw [ee];dsimp only;refine ⟨fun r hr2=>?_,?_⟩
  ·rcases List.mem_append.1 hr2 with hr2|hr2
   ·have:=h1 r hr2;exact ⟨this.1,ab⟩
   ·rw [List.mem_singleton.1 hr2];exact ⟨hr,ab⟩
  ·rw [List.pairwise_append]
   refine ⟨h2,aL,fun a ha b hb2=>?_⟩;rw [List.mem_singleton.1 hb2,hri];exact (h1 a ha).2
def aC6{l:List Row}(h1:∀r∈l,bw r=true)(h2:l.Pairwise fun a b=>a.Id < b.Id)(h3:l.length≤32):kE l=true:=by unfold kE;rw [HI h1 (h2.imp fun {a b} k=>by unfold yB;simpa using k),Bool.true_and,decide_eq_true_eq];omega
def aC7(c:aO){most:Int}(h:0≤most∧most≤32):kE (rP c most).1=true∧((rP c most).1.length:Int)≤most:=by have a1:=eM c 3;have a2:=fv c (n:=3) ai;have b1:=eM (av c 3).2 (most+1);have b2:=fv (av c 3).2 (n:=most+1) ab;have k:=ar3 (c:=(av (av c 3).2 (most+1)).2) (id:=(av c 3).1) ⟨a1,ab⟩ (k:=(av (av c 3).2 (most+1)).1.toNat) ab;have hl:=WK (id:=(av c 3).1) (c:=(av (av c 3).2 (most+1)).2) (k:=(av (av c 3).2 (most+1)).1.toNat);unfold rP Nk;dsimp only;exact ⟨aC6 (fun r hr=>(k.1 r hr).1) k.2 ab,ab⟩
def aC8(c:aO):ni (qT c).1 (2+(av (qT c).2 3).1)=true:=by have h:=aC7 c (most:=7) ai;have b1:=eM (qT c).2 3;have b2:=fv (qT c).2 (n:=3) ai;have hl:((qT c).1.length:Int)≤7:=h.2;have ha:kE (qT c).1=true:=h.1;unfold ni;rw [ha];simp only [aE,Bool.true_and,aR,decide_eq_true_eq];omega
def ar4(c:aO):cv (sq c).s=true:=arZ (aC8 c)
def YD{x:AE}(h:cv x.s=true):∀k,cv (sk x k).s=true
 | 0=>h
 | k+1=>arU _ _ (YD h k)
def aC9(c:aO):cv (iZ c).s=true:=YD (ar4 c) _
def HM(h:cv s=true):cR s≤200:=by
 have k:=oV.1 h;have hv:∀g∈s.aJr,dg g≤16:=by
  intro g hg;have h4:=k.sm g hg;have:∀l:List bb,(∀v∈l,dt v=3)→(l.map dt).sum=3 * l.length:=by
   intro l;induction l with
   | nil=>intro _;rfl
   | cons v l ih=>
    intro hl;rw [List.map_cons,List.sum_cons,hl v List.mem_cons_self,ih fun w hw=>hl w (List.mem_cons_of_mem _ hw),List.length_cons];omega
  have h3:=this g fun v hv=>by have:=(Og.1 (Of (k.vs v (List.mem_flatten.2 ⟨g,hg,hv⟩))).1).2.1;have this:v.Values.length=3:=this;unfold dt;simp only [fL,bf];omega
  unfold dg;omega
 have hs:(s.aJr.map dg).sum≤16 * s.aJr.length:=by
  generalize s.aJr=L at hv;induction L with
  | nil=>simp
  | cons g L ih=>
   have h1:=hv g List.mem_cons_self;have h2:=ih fun x hx=>hv x (List.mem_cons_of_mem _ hx);rw [List.map_cons,List.sum_cons,List.length_cons];omega
 have l8:=k.l8;unfold cR iH;simp only [bf];omega
def sr(n:Int):Nat:=(min (max n 0) 200).toNat
def YE(n:Int):sr n≤200:=by unfold sr;omega
def mz(e:au):Nat→au
 | 0=>e
 | k+1=>eo (mz e k)
def jY(e:au)(n:Int):au:=mz e (sr n)
def Oi(e:au):∀k:Nat,aZ (mz e k)≤aZ e+200 * k
 | 0=>by rw [mz];omega
 | k+1=>by have h1:=Oi e k;have h3:=arQ (mz e k);rw [mz];omega
def aDa(e:au)(n:Int):aZ (jY e n)≤aZ e+40000:=by have h1:=Oi e (sr n);have h2:=YE n;unfold jY;omega
section
def sw(k:Nat):List Int:=(List.range k).map fun i:Nat=>(i:Int)
def aDb(k:Nat):sw (k+1)=sw k++[(k:Int)]:=by simp [sw,List.range_succ]
def HN(k:Nat):(sw k).length=k:=by simp [sw]
def fi(e:au)(q:aJt)(l:Int):aJs:=⟨q,e.Store.Now,sw e.Store.aJr.length,0,0,l,[]⟩
def mA(x:Int)(a:aJs):Bool:=decide (a.aJt.Id < x)
def fj(l:List aJs)(x:Int):Nat:=(l.filter (mA x)).length
def oX(e:au)(q:aJt)(l:Int):List aJs:=e.aJs.filter (mA q.Id)++fi e q l::e.aJs.drop (fj e.aJs q.Id)
def oY(e:au)(q:aJt)(l:Int):Bool:=((aV e&&bq q)&&aE l 0 32)&&(decide (eO e.aJs q.Id < 0)&&decide ((e.aJs.length:Int) < 8))
def iy(e:au)(q:aJt)(l:Int):au×Bool:=if oY e q l then (⟨e.Store,e.aJw,e.Order,oX e q l,e.Done,e.aJE,e.Steps⟩,true) else (e,false)
def Oj{l:Int}(h:oY e q l=false):iy e q l=(e,false):=if_neg gJ
def YF{l:Int}(h:oY e q l=true):iy e q l=(⟨e.Store,e.aJw,e.Order,oX e q l,e.Done,e.aJE,e.Steps⟩,true):=if_pos h
def Dz{l:Int}(h:oY e q l=true):aV e=true∧bq q=true∧(0≤l∧l≤32)∧eO e.aJs q.Id < 0∧(e.aJs.length:Int) < 8:=by unfold oY at h;simp only [aR,decide_eq_true_eq,aE] at h;exact ⟨h.1.1.1,h.1.1.2,h.1.2,h.2.1,h.2.2⟩
def nj(x:Int)(zs:List (aJs×(Nat→Value))):List (aJs×(Nat→Value)):=zs.filter fun z=>mA x z.1
section
variable{zs:List (aJs×(Nat→Value))}{l:List aJs}{x:Int}{k:Nat}
def aDc(hk:k < zs.length)(h:mA x zs[k].1=true):nj x (zs.take (k+1))=nj x (zs.take k)++[zs[k]]:=by unfold nj;rw [cI hk,ic];simp [h]
def aDd(hk:k < zs.length)(h:mA x zs[k].1=false):nj x (zs.take (k+1))=nj x (zs.take k):=by unfold nj;rw [cI hk,ic];simp [h]
def aDe:(nj x (zs.take k)).length≤k:=by have:=kh (fun z:aJs×(Nat→Value)=>mA x z.1) (zs.take k);rw [cc] at this;unfold nj;omega
def ar5(hz:zs.map Prod.fst=l):(nj x zs).map Prod.fst=l.filter (mA x):=by subst hz;unfold nj;rw [List.filter_map];rfl
def ar6(hz:zs.map Prod.fst=l):(nj x zs).length=fj l x:=by unfold fj;rw [←ar5 hz,aU]
def DA{α:Type}(key:α→Int)(x:Int):∀{l:List α},l.Pairwise (fun a b=>key a < key b)→l.filter (fun a=>decide (key a < x))=l.take (l.filter fun a=>decide (key a < x)).length
 | [],_=>rfl
 | a::l,h=>by
  have ⟨h1,h2⟩:=List.pairwise_cons.1 h;have ih:=DA key x h2;rw [List.filter_cons];split;·rw [List.length_cons,List.take_succ_cons,←ih]
  ·rename_i hc
   have hc:¬key a < x:=by simpa using hc
   have:l.filter (fun a=>decide (key a < x))=[]:=by rw [List.filter_eq_nil_iff];intro b hb;have:=h1 b hb;simp;omega
   rw [this];rfl
def aDf(hok:aV e=true)(hz:zs.map Prod.fst=e.aJs):zs.Pairwise (fun a b=>a.1.aJt.Id < b.1.aJt.Id):=by have:=wu hok;rw [←hz,List.pairwise_map] at this;exact this
def ar7(hok:aV e=true)(hz:zs.map Prod.fst=e.aJs):nj x zs=zs.take (fj e.aJs x):=by have h:=DA (fun z:aJs×(Nat→Value)=>z.1.aJt.Id) x (aDf hok hz);have hl:=ar6 (x:=x) hz;unfold nj mA at *;rw [h,hl]
def ar8:fj e.aJs x≤e.aJs.length:=kh _ _
def ar9(hok:aV e=true)(hk:k < e.aJs.length):e.aJs[k].aJt.Id < x↔k < fj e.aJs x:=by
 have h:=DA (fun a:aJs=>a.aJt.Id) x (wu hok);have hc:fj e.aJs x=(e.aJs.filter fun a=>decide (a.aJt.Id < x)).length:=rfl;rw [←hc] at h;constructor
 ·intro hx
  have hm:e.aJs[k]∈e.aJs.filter fun a=>decide (a.aJt.Id < x):=List.mem_filter.2 ⟨List.getElem_mem hk,Bb⟩;rw [h] at hm;obtain ⟨j,hj,hje⟩:=List.mem_iff_getElem.1 hm;rw [cc] at hj;rw [List.getElem_take] at hje;have:=HG hok (show j < e.aJs.length by omega) hk (by rw [hje]);omega
 ·intro hx
  have hm:e.aJs[k]∈e.aJs.take (fj e.aJs x):=by rw [aca];exact ⟨k,dm,by rw [List.getElem_take]⟩
  rw [←h] at hm;have:=(List.mem_filter.1 hm).2;simpa using this
def asa(h:eO e.aJs x < 0)(hk:k < e.aJs.length):e.aJs[k].aJt.Id≠x:=by intro hx;unfold eO at h;rw [if_pos (Ah hk (by unfold iu;simpa using hx))] at h;omega
def oh(zs:List (aJs×(Nat→Value)))(zn:aJs×(Nat→Value))(p k:Nat):List (aJs×(Nat→Value)):=if p < k then zs.take p++zn::(zs.take k).drop p else zs.take k
def aDg(hk:k≤zs.length):(oh zs zn p k).length≤k+1:=by unfold oh;split<;>simp<;>omega
def aDh(hk:k < zs.length)(h:k≠p):oh zs zn p (k+1)=oh zs zn p k++[zs[k]]:=by
 unfold oh;by_cases hp:p < k
 ·rw [if_pos ab,if_pos hp,cI hk,List.drop_append_of_le_length dm]
  simp
 ·rw [if_neg ab,if_neg hp,cI hk]
def aDi(hk:k < zs.length)(h:k=p):oh zs zn p (k+1)=oh zs zn p k++[zn]++[zs[k]]:=by subst h;unfold oh;rw [if_pos ab,if_neg ab,cI hk,List.drop_append_of_le_length dm];simp
def aDj(h:p < zs.length):oh zs zn p zs.length=zs.take p++zn::zs.drop p:=by unfold oh;rw [if_pos h,bF]
def aDk(h:p=zs.length):oh zs zn p zs.length++[zn]=zs.take p++zn::zs.drop p:=by subst h;unfold oh;rw [if_neg ab];simp
def aDl:((zs.take p++zn::zs.drop p)++[]).Perm ([zn]++zs):=by rw [fS];refine List.perm_middle.trans ?_;rw [iq];exact List.Perm.refl _
def aDm{li:Int}{kn:Nat→Value}(hok:aV e=true)(hz:zs.map Prod.fst=e.aJs):(zs.take (fj e.aJs q.Id)++(fi e q li,kn)::zs.drop (fj e.aJs q.Id)).map Prod.fst=oX e q li:=by unfold oX;rw [←ar7 hok hz,bj,ar5 hz,List.map_cons,List.map_drop,hz]
end
def aDn{l:Int}:ew (fi e q l)=eZ q+e.Store.aJr.length:=by unfold fi ew;simp only [fL,bf,HN,iY,List.map_nil,List.sum_nil,List.length_nil];omega
def aDo(e:au)(q:aJt)(l:Int):aZ (iy e q l).1≤aZ e+eZ q+10:=by
 unfold iy;split
 ·rename_i h
  have hf:=Dz h;have hef:=hE hf.1;obtain ⟨hs8,_,_,_,_,_⟩:=jm hef.1;have hn:=aDn (e:=e) (q:=q) (l:=l);have hsum:∀(L:List aJs) (x:Int),(∀a∈L,True)→L.Pairwise (fun a b=>a.aJt.Id < b.aJt.Id)→(L.filter (mA x)++L.drop (fj L x))=L:=by intro L x _ hp;have h:=DA (fun a:aJs=>a.aJt.Id) x hp;have:L.filter (mA x)=L.take (fj L x):=h;rw [this,iq]
  have hs:=hsum e.aJs q.Id (fun _ _=>trivial) (wu hf.1);have h1:(oX e q l).length=e.aJs.length+1:=by
   conv=>rhs;rw [←hs]
   unfold oX;simp only [bv,List.length_cons];omega
  have h2:((oX e q l).map ew).sum=(e.aJs.map ew).sum+ew (fi e q l):=by
   conv=>rhs;rw [←hs]
   unfold oX;simp only [bj,List.map_cons,List.sum_append,List.sum_cons];omega
  unfold aZ fK;dsimp only;rw [h1,h2,hn];omega
 ·dsimp only;omega
end
def yC(e:au)(i:Nat):au:=⟨e.Store,e.aJw,e.Order,il e.aJs i,e.Done,e.aJE,e.Steps⟩
def oZ(e:au)(id:Int):Bool:=aV e&&decide (0≤eO e.aJs id)
def dR(e:au)(id:Int):au×Bool:=if oZ e id then (eV (yC e (eO e.aJs id).toNat),true) else (e,false)
def Ok(h:oZ e id=false):dR e id=(e,false):=if_neg gJ
def asb(h:oZ e id=true):dR e id=(eV (yC e (eO e.aJs id).toNat),true):=if_pos h
def YG(h:oZ e id=true)(hf:eO e.aJs id=(i:Int)):dR e id=(eV (yC e i),true):=by rw [asb h,hf];rfl
def YH{l:List aJs}(h:0≤eO l id):∃i:Nat,i < l.length∧eO l id=(i:Int):=by
 unfold eO at *;split at h
 ·rename_i ha
  rw [if_pos ha];obtain ⟨a,ha1,ha2⟩:=List.any_eq_true.1 ha;exact ⟨l.findIdx (iu id),List.findIdx_lt_length_of_exists ⟨a,ha1,ha2⟩,rfl⟩
 ·omega
def asc{β:Type}{f:α→β}{zs:List α}{l:List β}(hz:zs.map f=l):(il zs i).map f=il l i:=by subst hz;unfold il;rw [bj,List.map_take,List.map_drop]
def YI{zs:List α}(hi:i < zs.length):(il zs i++[zs[i]]).Perm zs:=by
 unfold il;have:zs=zs.take i++(zs[i]::zs.drop (i+1)):=by rw [←List.drop_eq_getElem_cons hi,iq]
 conv=>rhs;rw [this]
 rw [bn];refine jr _ ?_;exact List.perm_append_singleton _ _
def YJ(hi:i < e.aJs.length):aZ (yC e i)≤aZ e:=by
 have hs:((il e.aJs i).map ew).sum+ew e.aJs[i]=(e.aJs.map ew).sum:=by have:=((YI hi).map ew).sum_nat;rw [bj,List.sum_append] at this;simpa using this
 have hl:=XO hi;unfold yC aZ fK;dsimp only;rw [hl];omega
def aDp(e:au)(id:Int):aZ (dR e id).1≤aZ e:=by
 cases h:oZ e id with
 | false=>rw [Ok h];exact Nat.le_refl _
 | true=>
  have h2:=h;unfold oZ at h2;simp only [aR,decide_eq_true_eq] at h2;obtain ⟨i,hi,hf⟩:=YH h2.2;rw [YG h hf];have h3:=Yp (yC e i);have h4:=YJ hi;dsimp only;omega
def aDq(h:bq q=true):eZ q≤6:=by
 unfold bq pP at h;simp only [aR,aE,decide_eq_true_eq] at h;have h1:(q.aJu.map CV).sum=0:=by
  have:∀l:List fI,(l.map CV).sum=0:=by
   intro l;induction l with
   | nil=>rfl
   | cons c l ih=>rw [List.map_cons,List.sum_cons,ih];rfl
  exact this _
 unfold eZ xY;simp only [fL,bf,h1];omega
def aDr(h:lM s u=true)(hk:¬u.Kind=2):(le s u).length=3:=by
 obtain ⟨h1,h2,h3,h4,h5⟩:=AC h;have h0:(le s u).length=(hZ s u).length:=by unfold le;split<;>simp
 rw [h0];by_cases a:0≤cW s u.Row.Id;·exact NT h1 a
 ·rw [(wt a).2]
  have hk1:u.Kind=1:=by
   by_cases b:u.Kind=1;·exact b
   ·exact absurd (h4.2 b) a
  unfold ez at h2;rw [if_pos hk1] at h2;simp only [aR] at h2;exact Ai h2.1
def YK(s:Store)(u:aJv):cR (fh s u).1≤cR s+4:=by
 cases h:lM s u with
 | false=>rw [HE h];dsimp only;omega
 | true=>
  by_cases hk:u.Kind=2
  ·rw [AB h hk]
   have e1:=ary s u;unfold cR;dsimp only;rw [e1];simp only [bf];omega
  ·have h5:=(AC h).2.2.2.2.resolve_left hk
   obtain ⟨r,hr,hrm,_⟩:=XW h5;rw [Du h hk hrm];have e1:=ary s u;have e2:=aDr h hk;have hru:r < (en s u).length:=by rw [Dv];exact hr
   have e3:=NS (f:=dg) (x:=(en s u)[r]++[nY s u]) hru;have hw:dt (nY s u)=(le s u).length:=by unfold nY dt;simp only [fL,bf];omega
   have e5:dg ((en s u)[r]++[nY s u])=dg (en s u)[r]+(1+dt (nY s u)):=by unfold dg;simp only [bv,bj,List.sum_append,List.length_cons,List.length_nil,List.map_cons,List.map_nil,List.sum_cons,List.sum_nil];omega
   rw [AD hru];unfold cR;dsimp only;unfold iH at e1 ⊢;rw [List.length_set];simp only [bf] at *;omega
def yD(e:au)(s:Store):au:=⟨s,e.aJw,e.Order,e.aJs,e.Done,e.aJE,e.Steps⟩
def dS(e:au)(u:aJv):au×Bool:=if aV e&&(fh e.Store u).2 then (eV (yD e (fh e.Store u).1),true) else (e,false)
def YL(h:(aV e&&(fh e.Store u).2)=false):dS e u=(e,false):=if_neg gJ
def YM(h:(aV e&&(fh e.Store u).2)=true):dS e u=(eV (yD e (fh e.Store u).1),true):=if_pos h
def YN(e:au)(u:aJv):aZ (yD e (fh e.Store u).1)≤aZ e+4:=by have:=YK e.Store u;unfold yD aZ;dsimp only;omega
def aDs(e:au)(u:aJv):aZ (dS e u).1≤aZ e+4:=by have h1:=YN e u;have h2:=Yp (yD e (fh e.Store u).1);unfold dS;split<;>dsimp only<;>omega
def dJ(e:au)(x:fg):au×Bool:=if aV e&&eC x then (if x.Kind=1 then iy e x.aJt x.Limit else if x.Kind=2 then dR e x.Id else if x.Kind=3 then dS e x.aJv else (jY e x.Steps,true)) else (e,false)
def YO(h:(aV e&&eC x)=false):dJ e x=(e,false):=if_neg gJ
def YP(h:(aV e&&eC x)=true)(k:x.Kind=1):dJ e x=iy e x.aJt x.Limit:=by unfold dJ;rw [if_pos h,if_pos k]
def YQ(h:(aV e&&eC x)=true)(k:x.Kind=2):dJ e x=dR e x.Id:=by unfold dJ;rw [if_pos h,if_neg ab,if_pos k]
def YR(h:(aV e&&eC x)=true)(k:x.Kind=3):dJ e x=dS e x.aJv:=by unfold dJ;rw [if_pos h,if_neg ab,if_neg ab,if_pos k]
def YS(h:(aV e&&eC x)=true)(k1:¬x.Kind=1)(k2:¬x.Kind=2)(k3:¬x.Kind=3):dJ e x=(jY e x.Steps,true):=by unfold dJ;rw [if_pos h,if_neg k1,if_neg k2,if_neg k3]
def aDt(e:au)(x:fg):aZ (dJ e x).1≤aZ e+40000:=by
 cases h:aV e&&eC x with
 | false=>rw [YO h];dsimp only;omega
 | true=>
  by_cases k1:x.Kind=1
  ·rw [YP h k1]
   cases ha:oY e x.aJt x.Limit with
   | false=>rw [Oj ha];dsimp only;omega
   | true=>
    have h1:=aDo e x.aJt x.Limit;have h2:=aDq (Dz ha).2.1;omega
  ·by_cases k2:x.Kind=2
   ·rw [YQ h k2];have:=aDp e x.Id;omega
   ·by_cases k3:x.Kind=3
    ·rw [YR h k3];have:=aDs e x.aJv;omega
    ·rw [YS h k1 k2 k3];have:=aDa e x.Steps;dsimp only;omega
end Go.Proofs.YtmekkgdboplbjaaGreatDoor
