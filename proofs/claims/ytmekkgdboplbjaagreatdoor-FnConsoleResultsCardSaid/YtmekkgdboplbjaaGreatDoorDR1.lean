/- Definitions and their laws. No condition. -/
import Derived.Test.YtmekkgdboplbjaaGreatDoorDI1
set_option linter.all false
namespace Go.Proofs.YtmekkgdboplbjaaGreatDoor
open Go Go.RowKit M
set_option maxRecDepth 10000
section
section
variable{β:Type}(lt:β→β→Bool)
structure Ord:Prop where
 trans:∀{x y z:β},lt x y=true→lt y z=true→lt x z=true
 ntrans:∀{x y z:β},lt y x=false→lt z y=false→lt z x=false
def ik(x:β):List β→List β
 | []=>[x]
 | y::p=>if lt x y then x::y::p else y::ik x p
def cZ(l:List β):List β:=l.foldl (fun p x=>ik lt x p) []
def qY(l:List β):Prop:=l.Pairwise fun x y=>lt y x=false
variable{lt}
def EW{p:List β→Prop}(h0:p [])(h1:∀l x,p l→p (l++[x]))(l:List β):p l:=by
 rw [←List.reverse_reverse l]
 induction l.reverse with
 | nil=>exact h0
 | cons x l ih=>rw [List.reverse_cons];exact h1 _ _ ih
def zu(l:List β)(x:β):cZ lt (l++[x])=ik lt x (cZ lt l):=by
 unfold cZ;rw [List.foldl_append];rfl
def PI(x:β):∀l:List β,(ik lt x l).length=l.length+1
 | []=>rfl
 | y::p=>by
  rw [ik];split
  ·rfl
  ·rw [List.length_cons,PI x p,List.length_cons]
def aab(l:List β):(cZ lt l).length=l.length:=by
 refine EW (p:=fun l=>(cZ lt l).length=l.length) rfl (fun l x ih=>?_) l
 rw [zu,PI,ih,aZ];rfl
def PJ{x y:β}:∀{l:List β},y∈ik lt x l↔y=x∨y∈l
 | []=>by simp [ik]
 | z::l=>by
  rw [ik];split
  ·simp
  ·simp only [jp,PJ (l:=l)]
   constructor
   ·rintro (h|h|h)<;>simp [h]
   ·rintro (h|h|h)<;>simp [h]
def PK(ho:Ord lt)(hi:∀x,lt x x=false){x y:β}(h:lt x y=true):lt y x=false:=by
 cases k:lt y x with
 | false=>rfl
 | true=>have:=ho.trans h k;rw [hi] at this;cases this
def PL(ho:Ord lt)(hi:∀x,lt x x=false)(x:β):∀{l:List β},qY lt l→qY lt (ik lt x l)
 | [],_=>by simp [ik,qY]
 | y::l,h=>by
  have h':=List.pairwise_cons.1 h
  rw [ik]
  split
  ·rename_i hxy
   refine List.pairwise_cons.2 ⟨fun z hz=>?_,h⟩
   rcases List.mem_cons.1 hz with rfl|hz
   ·exact PK ho hi hxy
   ·exact ho.ntrans (PK ho hi hxy) (h'.1 z hz)
  ·rename_i hxy
   refine List.pairwise_cons.2 ⟨fun z hz=>?_,PL ho hi x h'.2⟩
   rcases PJ.1 hz with rfl|hz
   ·simpa using hxy
   ·exact h'.1 z hz
def EX(ho:Ord lt)(hi:∀x,lt x x=false)(l:List β):qY lt (cZ lt l):=by
 refine EW (p:=fun l=>qY lt (cZ lt l)) List.Pairwise.nil (fun l x ih=>?_) l
 rw [zu];exact PL ho hi x ih
def PM{x:β}:∀{p:List β} {k:Nat},k≤p.length→(∀i:Nat,(h:i < k)→(h2:i < p.length)→lt x p[i]=false)→(∀h:k < p.length,lt x p[k]=true)→ik lt x p=p.take k++x::p.drop k
 | [],k,hk,_,_=>by simp at hk;subst hk;rfl
 | y::l,0,_,_,h=>by
  have:lt x y=true:=h aF
  rw [ik,if_pos this];rfl
 | y::l,k+1,hk,h1,h2=>by
  have hy:lt x y=false:=h1 0 ab aF
  rw [ik,if_neg (by rw [hy];simp),PM (k:=k) ww (fun i h h'=>h1 (i+1) ab (by rw [List.length_cons];omega)) (fun h=>h2 (by rw [List.length_cons];omega))]
  rfl
def aac{l:List β}(h:qY lt l){i j:Nat}(hij:i < j)(hj:j < l.length):lt l[j] (l[i]'(Nat.lt_trans hij hj))=false:=List.pairwise_iff_getElem.1 h i j (Nat.lt_trans hij hj) hj hij
def aad(ho:Ord lt){x:β}{p:List β}{k:Nat}(hs:qY lt p)(hk:k≤p.length)(h1:∀i:Nat,k≤i→(h:i < p.length)→lt x p[i]=true)(h2:k=0∨∀h:k - 1 < p.length,lt x p[k - 1]=false):ik lt x p=p.take k++x::p.drop k:=by
 refine PM hk (fun i hi hi2=>?_) (fun h=>h1 k (Nat.le_refl _) h)
 rcases h2 with h2|h2
 ·omega
 ·have h3:=h2 ab
  by_cases e:i=k - 1
  ·subst e;exact h3
  ·exact ho.ntrans (aac hs (by omega:i < k - 1) ab) h3
def PN(x:β):∀l:List β,(ik lt x l).Perm (x::l)
 | []=>List.Perm.refl _
 | y::l=>by
  rw [ik];split
  ·exact List.Perm.refl _
  ·exact ((PN x l).cons y).trans (List.Perm.swap x y l)
def qZ(l:List β):(cZ lt l).Perm l:=by
 refine EW (p:=fun l=>(cZ lt l).Perm l) (List.Perm.refl _) (fun l x ih=>?_) l
 rw [zu];exact (PN x _).trans ((ih.cons x).trans (List.perm_append_singleton x l).symm)
end
def ct{α:Type}(q:α×α→Int)(x y:α):Bool:=decide (q (x,y) < 0)
structure lY{α:Type}(q:α×α→Int):Prop where
 anti:∀x y,q (y,x) = - q (x,y)
 le:∀x y z,q (x,y)≤0→q (y,z)≤0→q (x,z)≤0
section
variable{α β:Type}{q:α×α→Int}
def lY.ord(h:lY q):Ord (ct q) where
 trans {x y z} h1 h2:=by
  have h1:q (x,y) < 0:=of_decide_eq_true h1
  have h2:q (y,z) < 0:=of_decide_eq_true h2
  refine decide_eq_true ?_
  have a1:=h.anti x z
  have a2:=h.anti y z
  by_cases k:q (x,z) < 0
  ·exact k
  ·have:=h.le z x y ab ab
   omega
 ntrans {x y z} h1 h2:=by
  have h1:¬q (y,x) < 0:=of_decide_eq_false h1
  have h2:¬q (z,y) < 0:=of_decide_eq_false h2
  refine decide_eq_false ?_
  have a1:=h.anti x y
  have a2:=h.anti y z
  have a3:=h.anti x z
  have:=h.le x y z ab ab
  omega
def lY.irr(h:lY q)(x:α):ct q x x=false:=by
 have:=h.anti x x
 exact decide_eq_false ab
def lY.comap(f:β→α)(h:lY q):lY fun p:β×β=>q (f p.1,f p.2):=⟨fun x y=>h.anti (f x) (f y),fun x y z=>h.le (f x) (f y) (f z)⟩
end
def eH(u v r:Int):Int:=if u < v then -1 else if v < u then 1 else r
def ra(u v:Int):Int:=eH u v 0
def aae{α:Type}(k:α→Int){r:α×α→Int}(h:lY r):lY fun p=>eH (k p.1) (k p.2) (r p):=⟨fun x y=>by
  have:=h.anti x y
  show eH (k y) (k x) (r (y,x)) = - eH (k x) (k y) (r (x,y))
  unfold eH
  repeat' split
  all_goals omega,fun x y z=>by
  have:=h.le x y z
  show eH (k x) (k y) (r (x,y))≤0→eH (k y) (k z) (r (y,z))≤0→eH (k x) (k z) (r (x,z))≤0
  unfold eH
  repeat' split
  all_goals (intro h1 h2;omega)⟩
def dI:List Int→List Int→Int
 | [],[]=>0
 | [],_::_ => -1
 | _::_,[]=>1
 | x::a,y::b=>eH x y (dI a b)
def PO:∀a b:List Int,dI b a = - dI a b
 | [],[]=>rfl
 | [],_::_=>rfl
 | _::_,[]=>rfl
 | x::a,y::b=>by
  have:=PO a b
  show eH y x (dI b a) = - eH x y (dI a b)
  unfold eH
  repeat' split
  all_goals omega
def PP:∀a b c:List Int,dI a b≤0→dI b c≤0→dI a c≤0
 | [],_,[],_,_=>Int.le_refl _
 | [],_,_::_,_,_=>by show (-1:Int)≤0;decide
 | _::_,[],_,h,_=>absurd h (by show ¬(1:Int)≤0;decide)
 | _::_,_::_,[],_,h=>absurd h (by show ¬(1:Int)≤0;decide)
 | x::a,y::b,z::c,h1,h2=>by
  have:=PP a b c
  revert h1 h2
  show eH x y (dI a b)≤0→eH y z (dI b c)≤0→eH x z (dI a c)≤0
  unfold eH
  repeat' split
  all_goals (intro h1 h2;omega)
def aaf:lY fun p=>dI p.1 p.2:=⟨PO,PP⟩
section
variable{x y:List Int}{k:Nat}
def PQ(hx:k < x.length)(hy:k < y.length):dI (x.drop k) (y.drop k)=eH x[k] y[k] (dI (x.drop (k+1)) (y.drop (k+1))):=by
 rw [List.drop_eq_getElem_cons hx,List.drop_eq_getElem_cons hy];rfl
def aag(hx:k < x.length)(hy:k < y.length)(h:x[k]=y[k]):dI (x.drop k) (y.drop k)=dI (x.drop (k+1)) (y.drop (k+1)):=by
 rw [PQ hx hy,h];unfold eH;rw [if_neg ab,if_neg ab]
def aah(hx:k < x.length)(hy:k < y.length)(h:¬ra x[k] y[k]=0):dI (x.drop k) (y.drop k)=ra x[k] y[k]:=by
 rw [PQ hx hy];revert h;unfold ra eH
 repeat' split
 all_goals simp
def aai{u v:Int}(h:ra u v=0):u=v:=by
 revert h;unfold ra eH
 repeat' split
 all_goals omega
def aaj(hx:k < x.length)(hy:y.length≤k):dI (x.drop k) (y.drop k)=1:=by
 rw [List.drop_eq_getElem_cons hx,List.drop_of_length_le hy];rfl
def aak(hx:x.length≤k)(hy:k < y.length):dI (x.drop k) (y.drop k) = -1:=by
 rw [List.drop_eq_getElem_cons hy,List.drop_of_length_le hx];rfl
def aal(hx:x.length≤k)(hy:y.length≤k):dI (x.drop k) (y.drop k)=0:=by
 rw [List.drop_of_length_le hx,List.drop_of_length_le hy];rfl
end
def ce(p:Row×Row):Int:=eH p.1.Id p.2.Id (dI p.1.Values p.2.Values)
def pD:lY ce:=aae Row.Id (aaf.comap Row.Values)
end
section
def fC(q:ac9)(l:List Row):List Row:=l.filter (eh q)
def aam{q:ac9}{l:List Row}{k:Nat}(hk:k < l.length)(h:eh q l[k]=true):fC q (l.take (k+1))=fC q (l.take k)++[l[k]]:=by
 unfold fC;rw [cG hk,eY];simp [h]
def aan{q:ac9}{l:List Row}{k:Nat}(hk:k < l.length)(h:eh q l[k]=false):fC q (l.take (k+1))=fC q (l.take k):=by
 unfold fC;rw [cG hk,eY];simp [h]
def aao{q:ac9}{l:List Row}{k:Nat}:(fC q (l.take k)).length≤k:=by
 have h1:=jO (eh q) (l.take k)
 rw [cu] at h1
 unfold fC;omega
def PR(q:ac9):∀l:List Row,eg (fC q l)≤eg l
 | []=>Nat.le_refl _
 | r::l=>by
  have ih:=PR q l
  unfold fC at ih ⊢
  rw [List.filter_cons]
  unfold eg at ih ⊢
  split<;>simp only [List.length_cons,List.map_cons,List.sum_cons]<;>omega
def PS:∀a b:List Int,dI a b=0→a=b
 | [],[],_=>rfl
 | [],_::_,h=>by unfold dI at h;omega
 | _::_,[],h=>by unfold dI at h;omega
 | x::a,y::b,h=>by
  unfold dI eH at h
  split at h
  ·omega
  ·split at h
   ·omega
   ·rw [PS a b h,show x=y by omega]
def aap{x y:Row}(h:ce (x,y)=0):x=y:=by
 unfold ce eH at h
 dsimp only at h
 split at h
 ·omega
 ·split at h
  ·omega
  ·cases x;cases y;simp only [Row.mk.injEq];exact ⟨by simp_all;omega,PS _ _ h⟩
def jJ(l:List Row):List Row:=cZ (ct ce) l
def PT{l m:List Row}(h:l.Perm m):jJ l=jJ m:=by
 unfold jJ
 refine List.Perm.eq_of_pairwise (le:=fun x y=>ct ce y x=false) (fun x y _ _ h1 h2=>?_) (EX pD.ord pD.irr l) (EX pD.ord pD.irr m) (((qZ l).trans h).trans (qZ m).symm)
 have h1:¬ce (y,x) < 0:=of_decide_eq_false h1
 have h2:¬ce (x,y) < 0:=of_decide_eq_false h2
 have:=pD.anti x y
 exact aap ab
def wa(s:Store)(t:Int):List Row:=if bV s then jJ (bD (aY s) t) else []
def rc(q:ac9)(s:Store):List Row:=jJ (fC q (wa s s.Now))
def ng(ids:List Int)(id:Int):Nat→Int
 | 0 => -1
 | k+1=>if ids.getD k 0=id then (k:Int) else ng ids id k
def oc(ids:List Int)(id:Int):Int:=ng ids id ids.length
def PU(ids:List Int)(id:Int):∀k:Nat,-1≤ng ids id k∧ng ids id k < k
 | 0=>by unfold ng;omega
 | k+1=>by have:=PU ids id k;unfold ng;split<;>omega
def PW{ids l:List Int}{id:Int}:∀k:Nat,k≤ids.length→ng (ids++l) id k=ng ids id k
 | 0,_=>rfl
 | k+1,h=>by
  unfold ng
  rw [PW k ab,List.getD_eq_getElem?_getD,List.getElem?_append_left ab,←List.getD_eq_getElem?_getD]
def EY{ids:List Int}{x id:Int}:oc (ids++[x]) id=if x=id then (ids.length:Int) else oc ids id:=by
 unfold oc
 rw [aZ]
 show (if (ids++[x]).getD ids.length 0=id then (ids.length:Int) else ng (ids++[x]) id ids.length)=_
 rw [PW ids.length (Nat.le_refl _),List.getD_eq_getElem?_getD,List.getElem?_append_right (Nat.le_refl _),Nat.sub_self]
 rfl
def gF(ids:List Int)(want:List (List Row))(id:Int)(l:List Row):Prop:=0≤oc ids id∧want.getD (oc ids id).toNat []=jJ l
def gF.snoc{ids:List Int}{want:List (List Row)}{id x:Int}{l w:List Row}(h:gF ids want id l)(hl:ids.length=want.length)(hx:x≠id):gF (ids++[x]) (want++[w]) id l:=by
 have h1:=PU ids id ids.length
 have h2:oc ids id < ids.length:=h1.2
 unfold gF
 rw [EY,if_neg hx]
 refine ⟨h.1,?_⟩
 have h3:=h.1
 rw [List.getD_eq_getElem?_getD,List.getElem?_append_left ab,←List.getD_eq_getElem?_getD]
 exact h.2
def gF.new{ids:List Int}{want:List (List Row)}{id:Int}{l:List Row}(hl:ids.length=want.length):gF (ids++[id]) (want++[jJ l]) id l:=by
 unfold gF
 rw [EY,if_pos rfl]
 refine ⟨ab,?_⟩
 rw [show ((ids.length:Nat):Int).toNat=ids.length from rfl,List.getD_eq_getElem?_getD,List.getElem?_append_right ab,hl,Nat.sub_self];rfl
def re(s:Store)(a:ac8)(i:Int):List Row:=(bD (dv s i.toNat) a.Time).filter (eh a.ac9)
def jK(s:Store)(a:ac8):List Row:=(a.adi.map (re s a)).flatten
def PX{s s2:Store}{a:ac8}(h:∀i,bD (dv s2 i) a.Time=bD (dv s i) a.Time):jK s2 a=jK s a:=by
 unfold jK
 congr 1
 refine List.map_congr_left fun i _=>?_
 unfold re;rw [h]
def aaq:∀{l:List Int} {x:Int},x∉l→fl l x=l:=fun {l x} h=>by
 unfold fl
 refine List.filter_eq_self.2 fun y hy=>?_
 have:y≠x:=fun e=>h (e▸hy)
 simp [this]
def EZ{x:Int}:∀{l:List Int},(l.Pairwise fun a b=>a < b)→x∈l→l.Perm (x::fl l x)
 | y::l,hp,hx=>by
  rw [List.pairwise_cons] at hp
  by_cases h:y=x
  ·subst h
   have hn:y∉l:=fun hy=>by have:=hp.1 y hy;omega
   have e:fl (y::l) y=l:=by
    have:=aaq hn
    unfold fl at this ⊢
    rw [List.filter_cons];simp;simpa using this
   rw [e]
  ·have hx2:x∈l:=(List.mem_cons.1 hx).resolve_left (fun e=>h e.symm)
   have ih:=EZ hp.2 hx2
   have e:fl (y::l) x=y::fl l x:=by unfold fl;rw [List.filter_cons,if_pos jn]
   rw [e]
   exact (ih.cons y).trans (List.Perm.swap x y _)
def PY{x:Int}{l:List Int}(hp:l.Pairwise fun a b=>a < b)(hx:x∈l):(fl l x).length+1=l.length:=by
 have:=(EZ hp hx).length_eq
 rw [List.length_cons] at this;omega
def PZ{e:ar}(h:aP e=true){a:ac8}(ha:a∈e.ac8):jJ ((br e a).Rows++jK e.Store (br e a))=jJ (a.Rows++jK e.Store a):=by
 have hk:=fA.1 h
 have hA:=ij.1 (hk.aa a ha)
 obtain ⟨hq,ht,_,_⟩:=jI (e:=e) (a:=a)
 have hr:jK e.Store (br e a)=((br e a).adi.map (re e.Store a)).flatten:=by
  unfold jK
  congr 1
  refine List.map_congr_left fun i _=>?_
  unfold re;rw [hq,ht]
 rw [hr,EP,pC]
 cases hp:eC e a with
 | false=>rfl
 | true=>
  rw [if_pos rfl,if_pos rfl]
  have hc:e.adc∈a.adi:=by
   unfold eC at hp
   rw [aT] at hp
   exact qX.1 hp.2
  have e1:iF e a=re e.Store a e.adc:=rfl
  rw [e1]
  refine PT ?_
  rw [aW]
  refine fT _ ?_
  have:=((EZ hA.tp hc).map (re e.Store a)).flatten
  rw [List.map_cons,List.flatten_cons] at this
  exact this.symm
structure tQ(n:Nat)(cur:Int)(a:ac8):Prop where
 pr:∃c0 A:Nat,c0 < n∧a.Age=A∧cur=((c0+A)%n:Nat) ∧
  (a.Cap=0→∀j < A,(((c0+j)%n:Nat):Int)∉a.adi) ∧
  (a.Cap≠0→a.adi.length+A / n+1≤n∨(a.Sent=0∧a.adi.length+A / n≤n∧∀j < A%n,(((c0+j)%n:Nat):Int)∉a.adi))
def Qa{n c0:Nat}{l:List Int}(hc:c0 < n)(hr:∀x∈l,0≤x∧x < n)(h:∀j < n,(((c0+j)%n:Nat):Int)∉l):l=[]:=by
 refine List.eq_nil_iff_forall_not_mem.2 fun x hx=>?_
 have h1:=hr x hx
 obtain ⟨j,hj,e⟩:∃j < n,x.toNat=(c0+j)%n:=by
  by_cases hcx:c0≤x.toNat
  ·exact ⟨x.toNat - c0,ab,by rw [show c0+(x.toNat - c0)=x.toNat by omega,Nat.mod_eq_of_lt ab]⟩
  ·exact ⟨x.toNat+n - c0,ab,by rw [show c0+(x.toNat+n - c0)=x.toNat+n by omega,Nat.add_mod_right,Nat.mod_eq_of_lt ab]⟩
 refine h j hj ?_
 rw [←e,Int.toNat_of_nonneg h1.1];exact hx
def tQ.age{n:Nat}{cur:Int}{a:ac8}(h:tQ n cur a)(h0:0 < a.adi.length)(hr:∀x∈a.adi,0≤x∧x < n):a.Age < if a.Cap=0 then (n:Int) else (n:Int) * n:=by
 obtain ⟨c0,A,hc,hA,_,h1,h2⟩:=h.pr
 split
 ·rename_i hz
  rw [hA]
  refine Int.ofNat_lt.2 (Nat.lt_of_not_le fun hle=>?_)
  have:=Qa hc hr fun j hj=>h1 hz j ab
  rw [this] at h0;simp at h0
 ·rename_i hz
  rw [hA,←Int.natCast_mul]
  refine Int.ofNat_lt.2 ((Nat.div_lt_iff_lt_mul ab).1 ?_)
  rcases h2 hz with h3|⟨_,h3,_⟩<;>omega
def aar{n A:Nat}(hn:0 < n):(A%n+1 < n∧(A+1) / n=A / n∧(A+1)%n=A%n+1)∨(A%n+1=n∧(A+1) / n=A / n+1∧(A+1)%n=0):=by
 have h1:=Nat.div_add_mod A n
 have h2:=Nat.mod_lt A hn
 by_cases h:A%n+1 < n
 ·left
  have e:A+1=n * (A / n)+(A%n+1):=ab
  refine ⟨h,?_,?_⟩
  ·rw [e,Nat.mul_add_div hn,Nat.div_eq_of_lt h];rfl
  ·conv=>lhs;rw [e]
   rw [Nat.mul_add_mod,Nat.mod_eq_of_lt h]
 ·right
  have h3:A%n+1=n:=ab
  have e:A+1=n * (A / n+1):=by rw [Nat.mul_add,Nat.mul_one];omega
  refine ⟨h3,?_,?_⟩
  ·rw [e,Nat.mul_div_cancel_left _ hn]
  ·conv=>lhs;rw [e]
   exact Nat.mul_mod_right _ _
def aas{e:ar}(h:aP e=true){a:ac8}(ha:a∈e.ac8)(hp:tQ e.Store.ac7.length e.adc a):tQ e.Store.ac7.length ((e.adc+1).tmod (e.Store.ac7.length:Int)) (br e a):=by
 have hk:=fA.1 h
 have hA:=ij.1 (hk.aa a ha)
 generalize hn:e.Store.ac7.length=n at *
 obtain ⟨c0,A,hc,hage,hcur,h1,h2⟩:=hp.pr
 have hn0:0 < n:=ab
 obtain ⟨hq,ht,hcap,hag⟩:=jI (e:=e) (a:=a)
 have hcur2:(e.adc+1).tmod (n:Int)=((c0+(A+1))%n:Nat):=by
  rw [hcur]
  have e1:((((c0+A)%n:Nat):Int)+1)=(((c0+A)%n+1:Nat):Int):=ab
  rw [e1,←Int.ofNat_tmod]
  congr 1
  rw [show c0+(A+1)=(c0+A)+1 by omega,Nat.mod_add_mod]
 have hcr:(c0+A)%n=(c0+A%n)%n:=by rw [Nat.add_mod_mod]
 have hsub:∀x,x∈(br e a).adi→x∈a.adi:=fun x hx=>by
  rw [pC] at hx;split at hx
  ·exact (vY.1 hx).1
  ·exact hx
 have hlen:(br e a).adi.length≤a.adi.length:=by
  rw [pC];split
  ·exact jO _ _
  ·exact Nat.le_refl _
 have hsent:(A+1)%n=0→(br e a).Sent=0:=fun hz=>by
  rw [EQ,hage,hn,if_pos]
  have e1:((A:Int)+1)=((A+1:Nat):Int):=ab
  rw [e1,←Int.ofNat_tmod,hz];rfl
 refine ⟨c0,A+1,hc,by rw [hag,hage];omega,hcur2,fun hz j hj=>?_,fun hz=>?_⟩
 ·rw [hcap] at hz
  by_cases hjA:j=A
  ·subst hjA
   rw [pC]
   have hpp:eC e a=eR a.adi e.adc:=by unfold eC mS;rw [hz];rfl
   rw [hpp]
   split
   ·intro hx;exact (vY.1 hx).2 hcur.symm
   ·rename_i hno
    intro hx;rw [←hcur] at hx;exact hno (qX.2 hx)
  ·exact fun hx=>h1 hz j ab (hsub _ hx)
 ·rw [hcap] at hz
  rcases aar (A:=A) hn0 with ⟨hr,hd,hm⟩|⟨hr,hd,hm⟩
  ·rcases h2 hz with h3|⟨h3,h4,h5⟩
   ·left;omega
   ·by_cases hin:e.adc∈a.adi
    ·left
     have hpp:eC e a=true:=by
      unfold eC mS
      rw [qX.2 hin,h3,Bool.and_true,Bool.or_eq_true]
      exact .inr (decide_eq_true (by have:=hA.cp0;omega))
     have:=PY hA.tp hin
     rw [pC,if_pos hpp];omega
    ·right
     have hpp:eC e a=false:=by
      unfold eC
      rw [show eR a.adi e.adc=false from by rw [←Bool.not_eq_true];exact fun h=>hin (qX.1 h),Bool.and_false]
     refine ⟨?_,ab,fun j hj hx=>?_⟩
     ·rw [EQ,if_neg (c:=eC e a=true) (by rw [hpp];simp),h3];split<;>rfl
     ·have hx:=hsub _ hx
      rw [hm] at hj
      by_cases hjr:j=A%n
      ·subst hjr;rw [←hcr,←hcur] at hx;exact hin hx
      ·exact h5 j ab hx
  ·right
   refine ⟨hsent hm,?_,fun j hj=>by omega⟩
   rcases h2 hz with h3|⟨h3,h4,h5⟩
   ·omega
   ·by_cases hin:e.adc∈a.adi
    ·have hpp:eC e a=true:=by
      unfold eC mS
      rw [qX.2 hin,h3,Bool.and_true,Bool.or_eq_true]
      exact .inr (decide_eq_true (by have:=hA.cp0;omega))
     have:=PY hA.tp hin
     rw [pC,if_pos hpp];omega
    ·exfalso
     have:=Qa hc hA.tr fun j hj hx=>by
      by_cases hjr:j=A%n
      ·subst hjr;rw [←hcr,←hcur] at hx;exact hin hx
      ·exact h5 j ab hx
     have h0:=hA.t0
     rw [this] at h0;simp at h0
structure fO(N:Nat)(e:ar)(ids:List Int)(want:List (List Row)):Prop where
 b:fB N e
 hl:ids.length=want.length
 an:∀a∈e.ac8,gF ids want a.ac9.Id (a.Rows++jK e.Store a)
 pm:∀a∈e.ac8,tQ e.Store.ac7.length e.adc a
 dn:∀f∈e.Done,f.Steps≤(e.Store.ac7.length:Int) * e.Store.ac7.length
def kp(e x:ar)(ids:List Int)(want:List (List Row)):Prop:=∃l,x.Done=e.Done++l∧∀f∈l,gF ids want f.ac9.Id f.Rows
section
variable{N:Nat}{e:ar}{ids:List Int}{want:List (List Row)}
def fO.step(h:fO N e ids want)(hN:N≤249):fO (N+1) (bS e) ids want∧kp e (bS e) ids want:=by
 have hb:=PB h.b hN
 have hok:=h.b.ok
 have hk:=fA.1 hok
 have hys:=tl (vX h.b ab)
 obtain ⟨ea0,ed0⟩:=EO hok
 have ea:(bS e).ac8=(e.ac8.map (br e)).filter (fun a=>!cc a):=by rw [hys];exact ea0
 have ed:(bS e).Done=e.Done++((e.ac8.map (br e)).filter cc).map hO:=by rw [hys];exact ed0
 have es:(bS e).Store=cP e.Store (fk (bS e).ac8):=by rw [hys];rfl
 have ec:(bS e).adc=(e.adc+1).tmod (e.Store.ac7.length:Int):=by rw [hys];rfl
 have hrl:=ne (s:=e.Store) (fk (bS e).ac8)
 have hseg:(bS e).Store.ac7.length=e.Store.ac7.length:=by rw [es];exact hrl.1
 have hdone:∀f∈((e.ac8.map (br e)).filter cc).map hO,gF ids want f.ac9.Id f.Rows∧f.Steps≤(e.Store.ac7.length:Int) * e.Store.ac7.length:=by
  intro f hf
  obtain ⟨b,hb2,rfl⟩:=List.mem_map.1 hf
  obtain ⟨hb2,he⟩:=List.mem_filter.1 hb2
  obtain ⟨a,ha,rfl⟩:=List.mem_map.1 hb2
  have hA:=ij.1 (hk.aa a ha)
  have hq:=jI (e:=e) (a:=a)
  have hg:=h.an a ha
  have hs:=PZ hok ha
  have hz:(br e a).adi=[]:=List.length_eq_zero_iff.1 (by unfold cc at he;simpa using he)
  have hrz:jK e.Store (br e a)=[]:=by unfold jK;rw [hz];rfl
  rw [hrz,dJ] at hs
  refine ⟨⟨?_,?_⟩,?_⟩
  ·show 0≤oc ids (br e a).ac9.Id;rw [hq.1];exact hg.1
  ·show want.getD (oc ids (br e a).ac9.Id).toNat []=jJ (br e a).Rows;rw [hq.1,hs];exact hg.2
  ·show (br e a).Age≤_
   have:=(h.pm a ha).age hA.t0 hA.tr
   rw [hq.2.2.2]
   have hle:(e.Store.ac7.length:Int)≤(e.Store.ac7.length:Int) * e.Store.ac7.length:=by
    rw [←Int.natCast_mul];exact Int.ofNat_le.2 (Nat.le_mul_self _)
   split at this<;>omega
 refine ⟨⟨hb,h.hl,fun b hb2=>?_,fun b hb2=>?_,fun f hf=>?_⟩,_,ed,fun f hf=>(hdone f hf).1⟩
 ·have hb3:=hb2
  rw [ea] at hb2
  obtain ⟨hb2,he⟩:=List.mem_filter.1 hb2
  obtain ⟨a,ha,rfl⟩:=List.mem_map.1 hb2
  have hg:=h.an a ha
  rw [PX (s:=e.Store) (fun i=>by rw [es];exact zk hk.so (by unfold fk;exact List.mem_map.2 ⟨_,hb3,rfl⟩) i)]
  unfold gF
  rw [PZ hok ha,jI.1]
  exact hg
 ·rw [ea] at hb2
  obtain ⟨a,ha,rfl⟩:=List.mem_map.1 (List.mem_filter.1 hb2).1
  rw [hseg,ec]
  exact aas hok ha (h.pm a ha)
 ·rw [hseg]
  rw [ed] at hf
  rcases List.mem_append.1 hf with hf|hf
  ·exact h.dn f hf
  ·exact (hdone f hf).2
def kp.refl:kp e e ids want:=⟨[],(dJ _).symm,fun f hf=>nomatch hf⟩
def kp.trans{x y:ar}(h:kp e x ids want)(k:kp x y ids want):kp e y ids want:=by
 obtain ⟨l,h1,h2⟩:=h
 obtain ⟨m,k1,k2⟩:=k
 exact ⟨l++m,by rw [k1,h1,aW],fun f hf=>(List.mem_append.1 hf).elim (h2 f) (k2 f)⟩
def fO.run(h:fO N e ids want):∀k,N+k≤250→fO (N+k) (gP e k) ids want∧kp e (gP e k) ids want
 | 0,_=>⟨h,kp.refl⟩
 | k+1,hk=>by
  have h1:=fO.run h k ab
  have h2:=h1.1.step ab
  exact ⟨h2.1,h1.2.trans h2.2⟩
def fO.le(h:fO N e ids want){M:Nat}(hM:N≤M):fO M e ids want:={ h with b:=h.b.le hM }
def fO.side{e2:ar}(h:fO N e ids want){M:Nat}(hb:fB M e2)(h1:e2.Store.ac7.length=e.Store.ac7.length)(h2:e2.adc=e.adc)(h4:e2.Done=e.Done)
  (h5:∀a∈e2.ac8,a∈e.ac8) (h6:∀a∈e2.ac8,∀i:Nat,bD (dv e2.Store i) a.Time=bD (dv e.Store i) a.Time):fO M e2 ids want∧kp e e2 ids want:=by
 refine ⟨⟨hb,h.hl,fun a ha=>?_,fun a ha=>?_,fun f hf=>?_⟩,[],by rw [h4,dJ],fun f hf=>nomatch hf⟩
 ·rw [PX (h6 a ha)];exact h.an a (h5 a ha)
 ·rw [h1,h2];exact h.pm a (h5 a ha)
 ·rw [h1];rw [h4] at hf;exact h.dn f hf
def fO.upd(h:fO N e ids want)(u:adb):fO N (dy e u).1 ids want∧kp e (dy e u).1 ids want:=by
 have hb:=ZG h.b u
 cases hu:aP e&&(dw e.Store u).2 with
 | false=>rw [yM hu];exact ⟨h,kp.refl⟩
 | true=>
  rw [yN hu] at hb ⊢
  have hk:=fA.1 h.b.ok
  have hs:=zm e.Store u hk.so
  have hlen:(dw e.Store u).1.ac7.length=e.Store.ac7.length:=by
   cases ha:eD e.Store u with
   | false=>rw [qN ha]
   | true=>
    by_cases hk2:u.Kind=2
    ·rw [qP ha hk2];exact nP _ _
    ·rw [qO ha];unfold eE;rw [if_neg hk2];unfold mV;dsimp only;rw [List.length_set,nP]
  refine h.side hb ((ne (s:=(dw e.Store u).1) _).1.trans hlen) rfl rfl (fun a ha=>ha) fun a ha i=>?_
  have ha2:a∈e.ac8:=ha
  have hA:=ij.1 (hk.aa a ha2)
  refine (zk (s:=(dw e.Store u).1) hs (by unfold fk;exact List.mem_map.2 ⟨a,ha,rfl⟩) i).trans ?_
  exact Zs hk.so hA.tm1 i
def Qb(t:Int):∀L:List (List aM),bD L.flatten t=(L.map fun l=>bD l t).flatten
 | []=>rfl
 | x::L=>by
  rw [List.flatten_cons,List.map_cons,List.flatten_cons,←Qb t L]
  unfold bD;rw [eY,bL]
def Qc{α:Type}(p:α→Bool):∀L:List (List α),L.flatten.filter p=(L.map fun l=>l.filter p).flatten
 | []=>rfl
 | x::L=>by rw [List.flatten_cons,List.map_cons,List.flatten_cons,←Qc p L,eY]
def aat{e:ar}(h:aP e=true)(q:ac9)(l:Int):rc q e.Store=jJ ((du e q l).Rows++jK e.Store (du e q l)):=by
 have hk:=fA.1 h
 unfold rc wa
 rw [if_pos hk.so]
 have e1:(du e q l).Rows++jK e.Store (du e q l)=(bD (aY e.Store) e.Store.Now).filter (eh q):=by
  show []++jK e.Store (du e q l)=_
  rw [List.nil_append]
  unfold jK du kQ aY re
  dsimp only
  rw [Qb,Qc,List.map_map,List.map_map]
  congr 1
  refine List.ext_getElem aF fun i h1 h2=>?_
  simp only [aO,List.length_range] at h1
  simp only [List.getElem_map,List.getElem_range,Function.comp_apply]
  rw [show ((i:Nat):Int).toNat=i from rfl,EC h1]
 rw [e1]
 refine PT ?_
 unfold fC
 exact (qZ _).filter _
def aau{e:ar}(h:aP e=true)(q:ac9)(l:Int):tQ e.Store.ac7.length e.adc (du e q l):=by
 have hk:=fA.1 h
 have c0:=hk.c0;have c1:=hk.c1
 refine ⟨e.adc.toNat,0,ab,rfl,?_,fun _ j hj=>by omega,fun _=>.inr ⟨rfl,?_,fun j hj=>by simp at hj⟩⟩
 ·rw [Nat.add_zero,Nat.mod_eq_of_lt ab];omega
 ·show (kQ e.Store.ac7.length).length+_≤_
  rw [yK,Nat.zero_div];omega
def fO.admit(h:fO N e ids want)(hN:N≤900)(q:ac9)(l:Int)(hy:(fe e q l).2=true):fO (N+1) (fe e q l).1 (ids++[q.Id]) (want++[rc q e.Store])∧kp e (fe e q l).1 (ids++[q.Id]) (want++[rc q e.Store]):=by
 have hb:=PC h.b hN q l
 cases ha:iH e q l with
 | false=>rw [tm ha] at hy;cases hy
 | true=>
  rw [mT ha] at hb ⊢
  obtain ⟨h1,h2,h3,h4,h5⟩:=qL ha
  have hp:=ER (q:=q) (l:=l) h1
  have mem:∀a∈gO e q l,a=du e q l∨a∈e.ac8:=fun a ha=>List.mem_cons.1 (hp.mem_iff.1 ha)
  refine ⟨⟨hb,by rw [aZ,aZ,h.hl];rfl,fun a ha=>?_,fun a ha=>?_,h.dn⟩,[],(dJ _).symm,fun f hf=>nomatch hf⟩
  ·rcases mem a ha with rfl|ha
   ·rw [aat h1 q l]
    exact gF.new (id:=q.Id) h.hl
   ·refine (h.an a ha).snoc h.hl fun he=>?_
    obtain ⟨i,hi,rfl⟩:=List.mem_iff_getElem.1 ha
    exact ND h4 hi he.symm
  ·rcases mem a ha with rfl|ha
   ·exact aau h1 q l
   ·exact h.pm a ha
end
structure ac3 where
 e:ar
 ids:List Int
 want:List (List Row)
def aav(e:ar)(limit:Int):Int:=if aP e&&aE limit 0 32 then (if limit=0 then (e.Store.ac7.length:Int) else (e.Store.ac7.length:Int) * e.Store.ac7.length) else 0
def aaw(n:Int)(f:fJ):Bool:=decide (f.Steps≤n * n)
def aax(e:ar)(a:ac8):Bool:=decide (a.Age < aav e a.Cap)
def ac4(e:ar):Bool:=aP e&&(e.Done.all (aaw (e.Store.ac7.length:Int))&&e.ac8.all (aax e))
end
section
def jL(r:Row):bR:=⟨3,kW,0,0,⟨1,r,0,0⟩,0⟩
def kX:bR:=⟨3,kW,0,0,⟨3,⟨1,[]⟩,0,4⟩,0⟩
def pE:bR:=⟨3,kW,0,0,⟨2,⟨2,[]⟩,0,0⟩,0⟩
def tR:bR:=⟨4,kW,0,0,vZ,3⟩
def lZ(q:ac9):bR:=⟨1,q,0,0,vZ,0⟩
def zv{r:Row}(h:bf r=true):ci ⟨1,r,0,0⟩=true:=by unfold ci;rw [if_pos rfl];simp [h]
def wc{u:adb}(h:ci u=true):ca ⟨3,kW,0,0,u,0⟩=true:=by
 unfold ca
 rw [if_neg iQ,if_neg iQ,if_pos rfl]
 dsimp only
 rw [h];rfl
def Qd:ca kX=true:=wc ae
def Qe:ca pE=true:=wc ae
def Fc:ca tR=true:=ae
def Fe{q:ac9}(h:aQ q=true):ca (lZ q)=true:=by
 unfold ca lZ
 rw [if_pos rfl]
 dsimp only
 rw [h];rfl
def Ff{e:ar}{u:adb}(h1:aP e=true)(h2:ci u=true):bC e ⟨3,kW,0,0,u,0⟩=dy e u:=by
 unfold bC
 rw [if_pos (by rw [h1,wc h2];rfl),if_neg iQ,if_neg iQ,if_pos rfl]
def zw{e:ar}{u:adb}(h1:aP e=true)(h3:eD e.Store u=true):dy e u=(cF (kg e (eE e.Store u)),true):=by
 unfold dy
 rw [qO h3,if_pos (by rw [h1];rfl)]
def Fg{L:List (List aM)}(h3:L.length=3)(h:L.flatten.length < 12):0≤jh L:=by
 cases ha:L.any ia with
 | true=>unfold jh;rw [if_pos ha];omega
 | false=>
  rcases L with _|⟨a,_|⟨b,_|⟨c,_|⟨d,r⟩⟩⟩⟩
  ·simp at h3
  ·simp at h3
  ·simp at h3
  ·simp [ia] at ha
   simp at h
   omega
  ·simp at h3
def aay{s:Store}{id:Int}(h:∀v∈aY s,¬(v.Id=id∧v.adj = -1)):¬0≤bX s id:=by
 intro hf
 obtain ⟨i,k,hi,hk,_,_,ha⟩:=mU hf
 have h1:=vW.1 ha
 refine h s.ac7[i][k] ?_ h1
 unfold aY
 exact List.mem_flatten.2 ⟨_,List.getElem_mem hi,List.getElem_mem hk⟩
def Fh{s:Store}{id:Int}{v:aM}(hv:v∈aY s)(h1:v.Id=id)(h2:v.adj = -1):0≤bX s id:=by
 by_cases h:0≤bX s id
 ·exact h
 ·exact absurd h2 (Pq h v hv h1)
def Qf{v:aM}{keep:List Int}(h:v.adj = -1):hJ v keep=true:=by unfold hJ;rw [h];simp
def aaz{s:Store}{u:adb}(h:eD s u=true){v:aM}(hv:v∈aY s)(h1:v.Id≠u.Row.Id):v∈aY (eE s u):=by
 have hup:∀n:Int,v∈aY ⟨co s u,n⟩:=by
  intro n
  by_cases hf:0≤bX s u.Row.Id
  ·obtain ⟨i,k,hi,hk,e1,e2,ha⟩:=mU hf
   have ha:=vW.1 ha
   have c1:=Po hi hk
   rw [(lP hi hk e1 e2).1,Pp hi hk]
   rw [c1] at hv
   rcases List.mem_append.1 hv with hv|hv
   ·exact List.mem_append_left _ hv
   ·rcases List.mem_cons.1 hv with hv|hv
    ·exact absurd (by rw [hv];exact ha.1) h1
    ·exact List.mem_append_right _ (List.mem_cons_of_mem _ hv)
  ·rw [(lQ hf).1];exact hv
 unfold eE
 split
 ·exact hup _
 ·rename_i hk
  obtain ⟨_,_,_,_,h5⟩:=pn h
  obtain ⟨r,hr,e,_⟩:=vq (h5.resolve_left hk)
  have hr2:r < (co s u).length:=zQ
  have hp:=EE (v:=iK s u) (n:=s.Now+1) hr2
  rw [e,Int.toNat_natCast]
  exact hp.symm.subset (List.mem_cons_of_mem _ (hup _))
def aaA{e:ar}(h:bV e.Store=true){v:aM}(hv:v∈aY e.Store)(h1:v.adj = -1):v∈aY (cF e).Store:=by
 show v∈aY (cP e.Store _)
 rw [EB _ _ h]
 exact List.mem_filter.2 ⟨hv,Qf h1⟩
structure jl(R:Nat→Row)(k:Nat)(e:ar):Prop where
 tp:fO 0 e [] []
 ac:e.ac8=[]
 dn:e.Done=[]
 sg:e.Store.ac7.length=3
 nw:e.Store.Now=k
 al:∀v∈aY e.Store,v.adj = -1∧v.Id < k∧v.ado≤k
 pm:((aY e.Store).map kL).Perm ((List.range k).map R)
def jl.ok{R:Nat→Row}{k:Nat}{e:ar}(h:jl R k e):aP e=true:=h.tp.b.ok
def jl.so{R:Nat→Row}{k:Nat}{e:ar}(h:jl R k e):bV e.Store=true:=(fA.1 h.ok).so
def jl.len{R:Nat→Row}{k:Nat}{e:ar}(h:jl R k e):(aY e.Store).length=k:=by
 have:=h.pm.length_eq
 simpa using this
def jl.next{R:Nat→Row}{k:Nat}{e:ar}(h:jl R k e)(hR:bf (R k)=true)(hid:(R k).Id=k)(hk:k≤8):(bC e (jL (R k))).2=true∧jl R (k+1) (bC e (jL (R k))).1:=by
 have hu:=zv hR
 have hf:¬0≤bX e.Store (R k).Id:=aay fun v hv hc=>by have:=(h.al v hv).2.1;omega
 have hrm:=Fg (L:=e.Store.ac7) h.sg (by have:=h.len;unfold aY at this;omega)
 have hap:eD e.Store ⟨1,R k,0,0⟩=true:=to h.so hu (by have:=h.nw;omega) (by constructor;intro hh;exact absurd hh hf;intro hh;exact absurd rfl hh) (.inr hrm)
 obtain ⟨r,hr,er,_⟩:=vq hrm
 have htu:=h.tp.upd ⟨1,R k,0,0⟩
 have e1:bC e (jL (R k))=(cF (kg e (eE e.Store ⟨1,R k,0,0⟩)),true):=(Ff h.ok hu).trans (zw h.ok hap)
 have e2:dy e ⟨1,R k,0,0⟩=(cF (kg e (eE e.Store ⟨1,R k,0,0⟩)),true):=zw h.ok hap
 rw [e2] at htu
 rw [e1]
 refine ⟨rfl,?_⟩
 have hst:eE e.Store ⟨1,R k,0,0⟩=⟨mV e.Store.ac7 r ⟨(R k).Id,(R k).Values,e.Store.Now+1,-1⟩,e.Store.Now+1⟩:=by
  unfold eE
  rw [if_neg iQ,(lQ hf).1,er,Int.toNat_natCast]
  congr 2
  unfold iK ji
  rw [if_neg iQ,(lQ hf).2]
 have hso2:bV (eE e.Store ⟨1,R k,0,0⟩)=true:=by have:=zm e.Store ⟨1,R k,0,0⟩ h.so;rw [qO hap] at this;exact this
 have hpv:=EE (v:=(⟨(R k).Id,(R k).Values,e.Store.Now+1,-1⟩:aM)) (n:=e.Store.Now+1) hr
 have hal2:∀v∈aY (eE e.Store ⟨1,R k,0,0⟩),v.adj = -1∧v.Id < ((k+1:Nat):Int)∧v.ado≤((k+1:Nat):Int):=by
  intro v hv
  rw [hst] at hv
  have hnw:=h.nw
  rcases List.mem_cons.1 (hpv.subset hv) with rfl|hv
  ·refine ⟨rfl,?_,?_⟩
   ·show (R k).Id < _;omega
   ·show e.Store.Now+1≤_;omega
  ·obtain ⟨a,b,c⟩:=h.al v hv
   exact ⟨a,ab,ab⟩
 have hkeep:aY (cF (kg e (eE e.Store ⟨1,R k,0,0⟩))).Store=aY (eE e.Store ⟨1,R k,0,0⟩):=by
  show aY (cP (eE e.Store ⟨1,R k,0,0⟩) _)=_
  rw [EB _ _ hso2]
  exact List.filter_eq_self.2 fun v hv=>Qf (hal2 v hv).1
 refine ⟨htu.1,h.ac,h.dn,?_,?_,?_,?_⟩
 ·show (cP (eE e.Store ⟨1,R k,0,0⟩) _).ac7.length=3
  rw [(ne _).1,hst]
  show (mV _ _ _).length=3
  rw [po hr,List.length_set];exact h.sg
 ·show (cP (eE e.Store ⟨1,R k,0,0⟩) _).Now=_
  rw [(ne _).2,hst]
  show e.Store.Now+1=_
  have:=h.nw;omega
 ·intro v hv;rw [hkeep] at hv;exact hal2 v hv
 ·rw [hkeep,hst]
  refine (hpv.map kL).trans ?_
  rw [List.map_cons,List.range_succ,bL]
  have hro:kL (⟨(R k).Id,(R k).Values,e.Store.Now+1,-1⟩:aM)=R k:=rfl
  rw [hro]
  exact (h.pm.cons _).trans (iT (l₁:=[R k])).symm.symm
def nh:ar:=ES ⟨[[],[],[]],0⟩
def aaB:aP nh=true:=ae
def aaC(R:Nat→Row):jl R 0 nh:=
 ⟨⟨⟨aaB,ae,ae,ae,fun a ha=>absurd ha (List.not_mem_nil)⟩,rfl,(fun a ha=>absurd ha (List.not_mem_nil)),(fun a ha=>absurd ha (List.not_mem_nil)),(fun f hf=>absurd hf (List.not_mem_nil))⟩,rfl,rfl,rfl,rfl,fun v hv=>by simp [nh,ES,aY] at hv,by simp [nh,ES,aY]⟩
structure il(q:ac9)(w:List Row)(N j:Nat)(e:ar):Prop where
 tp:fO N e [q.Id] [w]
 n1:e.ac8.length+e.Done.length=1
 ac:∀a∈e.ac8,a.Age=j∧a.Cap=0∧a.ac9=q
 dn:∀f∈e.Done,f.ac9=q∧gF [q.Id] [w] f.ac9.Id f.Rows
 sg:e.Store.ac7.length=3
structure ac5(e:ar)(n:Nat):Prop where
 l:(aY e.Store).length≤n
 nw:e.Store.Now≤100
def oe(e:ar)(id:Int):Prop:=∃v∈aY e.Store,v.Id=id∧v.adj = -1
def il.ok{q:ac9}{w:List Row}{N j:Nat}{e:ar}(h:il q w N j e):aP e=true:=h.tp.b.ok
def il.so{q:ac9}{w:List Row}{N j:Nat}{e:ar}(h:il q w N j e):bV e.Store=true:=(fA.1 h.ok).so
def aaD{R:Nat→Row}{e:ar}{q:ac9}(h:jl R 6 e)(hq:aQ q=true):(bC e (lZ q)).2=true∧il q (rc q e.Store) 1 0 (bC e (lZ q)).1∧(bC e (lZ q)).1.Store=e.Store:=by
 have hok:iH e q 0=true:=by
  unfold iH
  rw [h.ok,hq,h.ac]
  rfl
 have e1:bC e (lZ q)=fe e q 0:=yO (by rw [h.ok,Fe hq];rfl) rfl
 have hy:(fe e q 0).2=true:=by rw [mT hok]
 have ht:=(h.tp.admit ab q 0 hy).1
 rw [e1]
 have ea:(fe e q 0).1.ac8=[du e q 0]:=by
  rw [mT hok]
  show gO e q 0=_
  unfold gO eT
  rw [h.ac];rfl
 have ed:(fe e q 0).1.Done=[]:=by rw [mT hok];exact h.dn
 refine ⟨hy,⟨ht,by rw [ea,ed];rfl,?_,?_,?_⟩,by rw [mT hok]⟩
 ·intro a ha
  rw [ea,List.mem_singleton] at ha
  subst ha
  exact ⟨rfl,rfl,rfl⟩
 ·intro f hf;rw [ed] at hf;exact absurd hf (List.not_mem_nil)
 ·rw [mT hok];exact h.sg
def il.upd{q:ac9}{w:List Row}{N j:Nat}{e:ar}(h:il q w N j e){u:adb}(hu:ci u=true)(hap:eD e.Store u=true) :
  (bC e ⟨3,kW,0,0,u,0⟩).2=true∧il q w N j (bC e ⟨3,kW,0,0,u,0⟩).1∧∀v∈aY e.Store,v.Id≠u.Row.Id→v.adj = -1→v∈aY (bC e ⟨3,kW,0,0,u,0⟩).1.Store:=by
 have htu:=(h.tp.upd u).1
 have e2:=zw h.ok hap
 rw [(Ff h.ok hu).trans e2]
 rw [e2] at htu
 have hso2:bV (eE e.Store u)=true:=by have:=zm e.Store u h.so;rw [qO hap] at this;exact this
 refine ⟨rfl,⟨htu,h.n1,h.ac,h.dn,?_⟩,fun v hv h1 h2=>aaA (e:=kg e (eE e.Store u)) hso2 (aaz hap hv h1) h2⟩
 show (cP (eE e.Store u) _).ac7.length=3
 rw [(ne _).1]
 unfold eE
 dsimp only
 split
 ·rw [nP];exact h.sg
 ·unfold mV;rw [List.length_set,nP];exact h.sg
def aaE{q:ac9}{w:List Row}{N j:Nat}{e:ar}(h:il q w N j e)(h6:(aY e.Store).length < 12)(hn:e.Store.Now < 100000)(h1:oe e 1):(bC e kX).2=true∧il q w N j (bC e kX).1∧(oe e 2→oe (bC e kX).1 2):=by
 obtain ⟨v,hv,hv1,hv2⟩:=h1
 have hf:=Fh hv hv1 hv2
 have hrm:=Fg (L:=e.Store.ac7) h.sg h6
 have hap:eD e.Store ⟨3,⟨1,[]⟩,0,4⟩=true:=to h.so ae hn Gu (.inr hrm)
 obtain ⟨a,b,c⟩:=h.upd (u:=⟨3,⟨1,[]⟩,0,4⟩) ae hap
 refine ⟨a,b,?_⟩
 rintro ⟨x,hx,hx1,hx2⟩
 exact ⟨x,c x hx (by rw [hx1];decide) hx2,hx1,hx2⟩
def aaF{q:ac9}{w:List Row}{N j:Nat}{e:ar}(h:il q w N j e)(hn:e.Store.Now < 100000)(h1:oe e 2):(bC e pE).2=true∧il q w N j (bC e pE).1:=by
 obtain ⟨v,hv,hv1,hv2⟩:=h1
 have hf:=Fh hv hv1 hv2
 have hap:eD e.Store ⟨2,⟨2,[]⟩,0,0⟩=true:=to h.so ae hn Gu (.inl rfl)
 obtain ⟨a,b,c⟩:=h.upd (u:=⟨2,⟨2,[]⟩,0,0⟩) ae hap
 exact ⟨a,b⟩
def aaG{α:Type}(p:α→Bool)(l:List α):(l.filter fun a=>!p a).length+(l.filter p).length=l.length:=by
 induction l with
 | nil=>rfl
 | cons a l ih=>
  cases h:p a with
  | true=>rw [List.filter_cons_of_neg jn,List.filter_cons_of_pos h];simp;omega
  | false=>rw [List.filter_cons_of_pos jn,List.filter_cons_of_neg jn];simp;omega
def il.step{q:ac9}{w:List Row}{N j:Nat}{e:ar}(h:il q w N j e)(hN:N≤249):il q w (N+1) (j+1) (bS e):=by
 obtain ⟨ht,l,hl,hg⟩:=h.tp.step hN
 have hso:=vX h.tp.b ab
 have es:bS e=cF (ke e):=if_pos hso
 have hlen:(cj e (parts e).length).length=e.ac8.length:=by unfold cj cQ;simp
 have hA:(bS e).ac8=(cj e (parts e).length).filter fun a=>!cc a:=by
  rw [es]
  show jf e (parts e).length e.ac8.length=_
  unfold jf
  rw [oo ab]
 have hD:(bS e).Done=e.Done++((cj e (parts e).length).filter cc).map hO:=by
  rw [es]
  show e.Done++hP e (parts e).length e.ac8.length=_
  unfold hP
  rw [oo ab]
 have hm:∀a∈cj e (parts e).length,a.Age=((j+1:Nat):Int)∧a.Cap=0∧a.ac9=q:=by
  intro a ha
  unfold cj cQ at ha
  obtain ⟨b,hb,rfl⟩:=List.mem_map.1 ha
  obtain ⟨c,hc,rfl⟩:=List.mem_map.1 hb
  obtain ⟨h1,h2,h3⟩:=h.ac c hc
  unfold iG jD
  split
  ·unfold kO;exact ⟨iQ,h2,h3⟩
  ·exact ⟨iQ,h2,h3⟩
 have h2:=aaG cc (cj e (parts e).length)
 refine ⟨ht,?_,fun a ha=>hm a ?_,fun f hf=>?_,?_⟩
 ·rw [hA,hD,aZ,aO]
  have:=h.n1
  omega
 ·rw [hA] at ha;exact (List.mem_filter.1 ha).1
 ·have hf2:=hf
  rw [hl] at hf
  rcases List.mem_append.1 hf with hf|hf
  ·exact h.dn f hf
  ·refine ⟨?_,hg f hf⟩
   rw [hD] at hf2
   rcases List.mem_append.1 hf2 with hf2|hf2
   ·exact (h.dn f hf2).1
   ·obtain ⟨a,ha,rfl⟩:=List.mem_map.1 hf2
    exact (hm a (List.mem_filter.1 ha).1).2.2
 ·rw [es]
  show (cP e.Store _).ac7.length=3
  rw [(ne _).1];exact h.sg
def il.last{q:ac9}{w:List Row}{N:Nat}{e:ar}(h:il q w N 3 e):∃f,e.Done=[f]∧f.ac9=q∧f.Rows.length=w.length:=by
 have h0:e.ac8=[]:=by
  refine List.eq_nil_iff_forall_not_mem.2 fun a ha=>?_
  have hk:=ij.1 ((fA.1 h.ok).aa a ha)
  have hp:=(h.tp.pm a ha).age hk.t0 hk.tr
  obtain ⟨h1,h2,_⟩:=h.ac a ha
  rw [if_pos h2,h.sg,h1] at hp
  omega
 have h1:=h.n1
 rw [h0] at h1
 rcases hd:e.Done with _|⟨f,_|⟨g,r⟩⟩
 ·rw [hd] at h1;simp at h1
 ·have hf:=h.dn f (by rw [hd];simp)
  refine ⟨f,rfl,hf.1,?_⟩
  have hg:=hf.2.2
  rw [hf.1] at hg
  have hli:oc [q.Id] q.Id=0:=by
   have:=EY (ids:=[]) (x:=q.Id) (id:=q.Id)
   rw [if_pos rfl] at this
   exact this
  rw [hli] at hg
  have hw:w=jJ f.Rows:=hg
  rw [hw]
  exact ((qZ (lt:=ct ce) f.Rows).length_eq).symm
 ·rw [hd] at h1;simp at h1
def fP(R:Nat→Row)(q:ac9):List bR:=(List.range 6).map (fun i=>jL (R i))++[lZ q,kX,pE,tR]
def cz(R:Nat→Row)(q:ac9)(k:Nat):ar:=(gQ nh (fP R q) k).1
def pF(R:Nat→Row)(q:ac9):(fP R q).length=10:=by unfold fP;simp
section
variable{R:Nat→Row}{q:ac9}
def tS{k:Nat}{x:bR}(hk:(fP R q)[k]?=some x):cz R q (k+1)=(bC (cz R q k) x).1:=by
 obtain ⟨h,rfl⟩:=List.getElem?_eq_some_iff.1 hk
 unfold cz
 rw [DG h];rfl
def Qg{k:Nat}(hk:k < 6):(fP R q)[k]?=some (jL (R k)):=by
 unfold fP
 rw [List.getElem?_append_left ww]
 simp [hk]
def Qh:(fP R q)[6]?=some (lZ q):=rfl
def Qi:(fP R q)[7]?=some kX:=rfl
def Qj:(fP R q)[8]?=some pE:=rfl
def Qk:(fP R q)[9]?=some tR:=rfl
def zx(hR:∀k < 6,bf (R k)=true∧(R k).Id=k):∀k,k≤6→jl R k (cz R q k)
 | 0,_=>aaC R
 | k+1,hk=>by
  have ih:=zx hR k ab
  obtain ⟨h1,h2⟩:=hR k ab
  rw [tS (Qg ab)]
  exact (ih.next h1 h2 ab).2
def aaH{k:Nat}{e:ar}(h:jl R k e):bD (aY e.Store) e.Store.Now=(aY e.Store).map kL:=by
 unfold bD
 rw [List.filter_eq_self.2]
 intro v hv
 obtain ⟨a,_,c⟩:=h.al v hv
 have:=h.nw
 unfold eB
 rw [a]
 simp;omega
def aaI{e:ar}{k:Nat}(h:jl R k e):(rc q e.Store).length=(fC q ((List.range k).map R)).length:=by
 have h1:(rc q e.Store).length=(fC q (wa e.Store e.Store.Now)).length:=(qZ _).length_eq
 rw [h1]
 have h2:(wa e.Store e.Store.Now).Perm ((List.range k).map R):=by
  unfold wa
  rw [if_pos h.so,aaH h]
  exact (qZ _).trans h.pm
 exact (h2.filter _).length_eq
def Ql{e:ar}{k:Nat}(h:jl R k e){i:Nat}(hi:i < k)(hid:(R i).Id=i):oe e i:=by
 have hm:R i∈(aY e.Store).map kL:=h.pm.symm.subset (List.mem_map.2 ⟨i,List.mem_range.2 hi,rfl⟩)
 obtain ⟨v,hv,e1⟩:=List.mem_map.1 hm
 refine ⟨v,hv,?_,(h.al v hv).1⟩
 have:v.Id=(R i).Id:=by rw [←e1];rfl
 omega
def aaJ(e:ar):iL e 3=bS (bS (bS e)):=rfl
attribute [local irreducible] cz bC fP
def zy(hR:∀k < 6,bf (R k)=true∧(R k).Id=k)(hq:aQ q=true) :
  (∀k x,(fP R q)[k]?=some x→(bC (cz R q k) x).2=true∧0 < (cz R q k).Store.ac7.length)∧aP (cz R q 10)=true∧0 < (cz R q 10).Store.ac7.length ∧
  ∃f,(cz R q 10).Done=[f]∧f.ac9=q∧f.Rows.length=(fC q ((List.range 6).map R)).length:=by
 have i6:=zx (q:=q) hR 6 (Nat.le_refl _)
 obtain ⟨a1,a2,a3⟩:=aaD i6 hq
 have e7:=tS (R:=R) (q:=q) Qh
 rw [←e7] at a2 a3
 have l1:oe (cz R q 7) 1:=by
  have:=Ql i6 (i:=1) ab (hR 1 ab).2
  unfold oe at this ⊢;rw [a3];exact this
 have l2:oe (cz R q 7) 2:=by
  have:=Ql i6 (i:=2) ab (hR 2 ab).2
  unfold oe at this ⊢;rw [a3];exact this
 have hl7:(aY (cz R q 7).Store).length < 12:=by rw [a3,i6.len];omega
 have hn7:(cz R q 7).Store.Now < 100000:=by rw [a3,i6.nw];decide
 obtain ⟨b1,b2,b3⟩:=aaE a2 hl7 hn7 l1
 have e8:=tS (R:=R) (q:=q) Qi
 have hn8:(bC (cz R q 7) kX).1.Store.Now < 100000:=by
  have h1:=(lX.1 b2.so).n1
  by_cases hx:(bC (cz R q 7) kX).1.Store.Now < 100000
  ·exact hx
  ·exfalso
   have hap:eD (cz R q 7).Store ⟨3,⟨1,[]⟩,0,4⟩=true:=by
    obtain ⟨v,hv,hv1,hv2⟩:=l1
    exact to a2.so ae hn7 (by constructor;intro _;decide;intro _;exact Fh hv hv1 hv2) (.inr (Fg a2.sg hl7))
   have e2:bC (cz R q 7) kX=(cF (kg (cz R q 7) (eE (cz R q 7).Store ⟨3,⟨1,[]⟩,0,4⟩)),true):=(Ff a2.ok ae).trans (zw a2.ok hap)
   rw [e2] at hx
   have h2:(cP (eE (cz R q 7).Store ⟨3,⟨1,[]⟩,0,4⟩) (fk (cz R q 7).ac8)).Now=(cz R q 7).Store.Now+1:=by rw [(ne _).2];rfl
   have h3:¬(cz R q 7).Store.Now+1 < 100000:=by rw [←h2];exact hx
   rw [a3,i6.nw] at h3
   omega
 rw [←e8] at b2 b3 hn8
 obtain ⟨c1,c2⟩:=aaF b2 hn8 (b3 l2)
 have e9:=tS (R:=R) (q:=q) Qj
 rw [←e9] at c2
 have e10:=tS (R:=R) (q:=q) Qk
 have es:bC (cz R q 9) tR=(iL (cz R q 9) 3,true):=yP (by rw [c2.ok,Fc];rfl) ae ae ae
 have er:=aaJ (cz R q 9)
 have d2:=((c2.step ab).step ab).step ab
 rw [←er] at d2
 rw [es] at e10
 have e10':cz R q 10=iL (cz R q 9) 3:=e10
 rw [←e10'] at d2
 have hsg:∀k≤10,0 < (cz R q k).Store.ac7.length:=by
  intro k hk
  by_cases h6:k≤6
  ·rw [(zx (q:=q) hR k h6).sg];decide
  ·rcases (show k=7∨k=8∨k=9∨k=10 by omega) with rfl|rfl|rfl|rfl
   ·rw [a2.sg];decide
   ·rw [b2.sg];decide
   ·rw [c2.sg];decide
   ·rw [d2.sg];decide
 refine ⟨fun k x hx=>⟨?_,?_⟩,d2.ok,hsg 10 (Nat.le_refl _),?_⟩
 ·have hk:k < 10:=by have:=(List.getElem?_eq_some_iff.1 hx).1;rw [pF] at this;exact this
  by_cases h6:k < 6
  ·rw [Qg h6] at hx
   injection hx with hx
   subst hx
   obtain ⟨h1,h2⟩:=hR k h6
   exact ((zx hR k ab).next h1 h2 ab).1
  ·rcases (show k=6∨k=7∨k=8∨k=9 by omega) with rfl|rfl|rfl|rfl
   ·rw [Qh] at hx;injection hx with hx;subst hx;exact a1
   ·rw [Qi] at hx;injection hx with hx;subst hx;exact b1
   ·rw [Qj] at hx;injection hx with hx;subst hx;exact c1
   ·rw [Qk] at hx;injection hx with hx;subst hx;rw [es]
 ·have hk:k < 10:=by have:=(List.getElem?_eq_some_iff.1 hx).1;rw [pF] at this;exact this
  exact hsg k ab
 ·obtain ⟨f,h1,h2,h3⟩:=d2.last
  exact ⟨f,h1,h2,by rw [h3,aaI i6]⟩
end
end
/- bounds -/
def zz{n:Int}(h:0≤n∧n≤99):(itoa n).length≤2:=by rw [pc ab];exact Er 1 _ ab
def ni{n:Int}(h:0≤n∧n≤999):(itoa n).length≤3:=by rw [pc ab];exact Er 2 _ ab
def Qm{l:List Int}(h:∀x∈l,0≤x∧x≤99):(cJ l).length≤l.length * 3:=by
 have:=vn (m:=2) (sep:=[44]) (xs:=l.map itoa) (by intro x hx;obtain ⟨y,hy,rfl⟩:=List.mem_map.1 hx;exact zz (h y hy))
 simpa [cJ] using this
def Fi(r:Row):(dN r).length≤20:=by
 unfold dN
 split
 ·rename_i h
  have h1:=mX h
  unfold bf at h
  simp only [aT] at h
  have h2:=Qm (l:=r.Values) (fun x hx=>by have:=List.all_eq_true.1 h.1 x hx;simp [ja,aE] at this;exact this)
  have h3:=ni (n:=r.Id) ab
  simp only [aZ,List.length_cons,List.length_nil];omega
 ·simp
def aaK(u:adb):(dO u).length≤40:=by
 by_cases h:ci u=true
 ·rcases qV h with ⟨r,h1,rfl,e⟩|⟨n,h1,h2,rfl,e⟩|⟨n,f,v,⟨h1,h2⟩,⟨h3,h4⟩,⟨h5,h6⟩,rfl,e⟩<;>rw [e]
  ·have:=Fi r
   simp only [aZ,List.length_cons,List.length_nil];omega
  ·have:=ni (n:=n) ab
   simp only [aZ,List.length_cons,List.length_nil];omega
  ·have q1_:=ni (n:=n) ab
   have q2_:=ni (n:=f) ab
   have q3_:=ni (n:=v) ab
   simp only [aZ,List.length_cons,List.length_nil];omega
 ·unfold dO;rw [if_neg h];simp
def Qn(q:ac9):(cw q).length≤110:=by
 unfold cw
 split
 ·rename_i h
  obtain ⟨a1,a2,a3,a4,a5,a6,a7,a8⟩:=py h
  have ho:=vu h
  have hw:∀w∈eU q q.ada.length++[[111,117,116],cJ q.Out],w.length≤9:=by
   intro w hw
   rcases List.mem_append.1 hw with hw|hw
   ·unfold eU at hw
    rcases List.mem_append.1 hw with hw|hw
    ·rcases List.mem_cons.1 hw with rfl|hw
     ·have:=ni (n:=q.Id) ab;simp only [aZ,List.length_cons,List.length_nil];omega
     ·rw [List.mem_singleton] at hw;subst hw
      have:=ni (n:=q.ade) ab;simp only [aZ,List.length_cons,List.length_nil];omega
    ·obtain ⟨c,hc,hw⟩:=List.mem_flatMap.1 hw
     rw [cC] at hc
     obtain ⟨k,hk,rfl⟩:=List.mem_iff_getElem.1 hc
     have h8:=a8 k hk
     have b1:=zz (n:=q.ada[k].Field) ab
     have b2:=zz (n:=q.ada[k].Low) ab
     have b3:=zz (n:=q.ada[k].High) ab
     unfold gS at hw
     rcases List.mem_cons.1 hw with rfl|hw
     ·simp only [aZ,List.length_cons,List.length_nil];omega
     ·rw [List.mem_singleton] at hw;subst hw
      simp only [aZ,List.length_cons,List.length_nil];omega
   ·rcases List.mem_cons.1 hw with rfl|hw
    ·decide
    ·rw [List.mem_singleton] at hw;subst hw
     have:=Qm (l:=q.Out) (fun x hx=>by have:=ho.2 x hx;omega)
     omega
  have hj:=vn (m:=9) (sep:=[32]) hw
  have hl:=OX q
  have hl2:(eU q q.ada.length++[[111,117,116],cJ q.Out]).length=4+2 * q.ada.length:=hl
  rw [hl2] at hj
  simp only [List.length_cons,List.length_nil] at hj
  have:(4+2 * q.ada.length) * (9+(0+1))≤10 * 10:=Nat.mul_le_mul ab ab
  omega
 ·simp
def aaL(x:bR):(bP x).length≤200:=by
 by_cases h:ca x=true
 ·rcases tL h with ⟨q,n,h1,h2,h3,rfl,e⟩|⟨n,h2,h3,rfl,e⟩|⟨u,h1,rfl,e⟩|⟨n,h2,h3,rfl,e⟩<;>rw [e]
  ·have b1:=Qn q
   have b2:=ni (n:=n) ab
   simp only [aZ,List.length_cons,List.length_nil];omega
  ·have b2:=ni (n:=n) ab
   simp only [aZ,List.length_cons,List.length_nil];omega
  ·have:=aaK u;omega
  ·have b2:=ni (n:=n) ab
   simp only [aZ,List.length_cons,List.length_nil];omega
 ·unfold bP;rw [if_neg h];simp
def gC(code:List Int)(i:Int):Int:=if i < code.length then IntKind.i64.wrap (code.getD i.toNat 0) else (i * 37+(code.length:Int) * 11).tmod 256
def aaM{code:List Int}{i:Int}(h:i < code.length):gC code i=IntKind.i64.wrap (code.getD i.toNat 0):=if_pos h
def aaN{code:List Int}{i:Int}(h:¬i < code.length):gC code i=(i * 37+(code.length:Int) * 11).tmod 256:=if_neg h
def rf{code:List Int}(hc:∀x∈code,0≤x∧x≤255)(i:Int)(hi:0≤i):0≤gC code i∧gC code i≤255:=by
 unfold gC
 split
 ·rename_i h
  have hl:i.toNat < code.length:=ab
  rw [List.getD_eq_getElem?_getD,List.getElem?_eq_getElem hl,Option.getD_some]
  have:=hc _ (List.getElem_mem hl)
  rw [IntWalk.i64_in _ ab]
  exact this
 ·have h1:=Int.tmod_nonneg 256 (show 0≤i * 37+(code.length:Int) * 11 by omega)
  have h2:=Int.tmod_lt_of_pos (i * 37+(code.length:Int) * 11) (show (0:Int) < 256 by decide)
  omega
section
def pG(n c0:Nat)(q:ac9)(snap:Nat→List Row):Nat→List Row
 | 0=>[]
 | k+1=>pG n c0 q snap k++(snap ((c0+k)%n)).filter (eh q)
structure aaO(n c0:Nat)(q:ac9)(t:Int)(snap:Nat→List Row)(k:Nat)(e:ar)(a:ac8):Prop where
 hq:a.ac9=q
 ht:a.Time=t
 hc:a.Cap=0
 ha:a.Age=k
 hr:a.Rows=pG n c0 q snap k
 td:∀i:Nat,(i:Int)∈a.adi↔i < n∧∀j < k,i≠(c0+j)%n
 tr:∀x∈a.adi,0≤x∧x < n
 sn:∀i:Nat,(i:Int)∈a.adi→bD (dv e.Store i) t=snap i
structure eI(n c0:Nat)(q:ac9)(t:Int)(snap:Nat→List Row)(N k:Nat)(e:ar):Prop where
 b:fB N e
 hn:e.Store.ac7.length=n
 hcu:e.adc=((c0+k)%n:Nat)
 htm:t≤e.Store.Now
 hst:(k < n∧(∃a∈e.ac8,aaO n c0 q t snap k e a)∧∀f∈e.Done,f.ac9.Id≠q.Id) ∨
  (n≤k∧(∀a∈e.ac8,a.ac9.Id≠q.Id)∧∃d1 d2,e.Done=d1++⟨q,t,n,pG n c0 q snap n⟩::d2∧∀f∈d2,f.ac9.Id≠q.Id)
def aaP{n c0 i:Nat}(hi:i < n)(hc:c0 < n):∃j < n,i=(c0+j)%n:=by
 by_cases h:c0≤i
 ·exact ⟨i - c0,ab,by rw [show c0+(i - c0)=i by omega,Nat.mod_eq_of_lt hi]⟩
 ·refine ⟨i+n - c0,ab,?_⟩
  rw [show c0+(i+n - c0)=i+n by omega,Nat.add_mod_right,Nat.mod_eq_of_lt hi]
def Fj{n c0 j k:Nat}(hj:j < k)(hk:k < n):(c0+j)%n≠(c0+k)%n:=by
 intro h
 have hn:0 < n:=ab
 have h1:=Nat.mod_add_div (c0+j) n
 have h2:=Nat.mod_add_div (c0+k) n
 rw [h] at h1
 have h3:n * ((c0+k) / n) - n * ((c0+j) / n)=k - j:=ab
 rw [←Nat.mul_sub] at h3
 rcases Nat.eq_zero_or_pos ((c0+k) / n - (c0+j) / n) with h4|h4
 ·rw [h4] at h3;omega
 ·have:=Nat.le_mul_of_pos_right n h4;omega
def aaQ{c0 k n:Nat}{e:ar}(hn:0 < n)(hcu:e.adc=((c0+k)%n:Nat))(h0:0≤e.adc):(e.adc+1).tmod (n:Int)=((c0+(k+1))%n:Nat):=by
 have h1:=Nat.mod_lt (c0+k) hn
 rw [hcu] at h0 ⊢
 have e:((((c0+k)%n:Nat):Int)+1)=(((c0+k)%n+1:Nat):Int):=ab
 rw [e,←Int.ofNat_tmod]
 congr 1
 rw [show c0+(k+1)=(c0+k)+1 by omega,Nat.mod_add_mod]
section
variable{n c0:Nat}{q:ac9}{t:Int}{snap:Nat→List Row}{N k:Nat}{e:ar}
def aaR{e:ar}{m:Nat}(hcu:e.adc=(m:Nat)):dk e=dv e.Store m:=by unfold dk dv;rw [hcu];rfl
def aaS{N:Nat}{e:ar}(h:fB N e)(hN:N≤900):(bS e).ac8=(e.ac8.map (br e)).filter (fun a=>!cc a)∧(bS e).Done=e.Done++((e.ac8.map (br e)).filter cc).map hO:=by
 rw [tl (vX h hN)]
 exact EO h.ok
def aaT{N:Nat}{e:ar}(h:fB N e)(hN:N≤900):(bS e).Store=cP e.Store (fk (bS e).ac8)∧(bS e).adc=(e.adc+1).tmod (e.Store.ac7.length:Int):=by
 rw [tl (vX h hN)]
 exact ⟨rfl,rfl⟩
def eI.step(h:eI n c0 q t snap N k e)(hc:c0 < n)(hN:N≤249):eI n c0 q t snap (N+1) (k+1) (bS e):=by
 have hb:=PB h.b hN
 obtain ⟨ea,ed⟩:=aaS h.b ab
 obtain ⟨es,ec⟩:=aaT h.b ab
 have hk:=fA.1 h.b.ok
 have hrl:=ne (s:=e.Store) (fk (bS e).ac8)
 have hcu:=aaQ ab h.hcu hk.c0
 refine ⟨hb,by rw [es,hrl.1];exact h.hn,by rw [ec,h.hn];exact hcu,by rw [es,hrl.2];exact h.htm,?_⟩
 rcases h.hst with ⟨hkn,⟨a,ha,hr⟩,hd⟩|⟨hkn,hno,d1,d2,he,hd2⟩
 ·
  have hm:=Nat.mod_lt (c0+k) (show 0 < n by omega)
  have hcur:((((c0+k)%n:Nat):Int))∈a.adi:=(hr.td _).2 ⟨hm,fun j hj=>(Fj hj hkn).symm⟩
  have hp:eC e a=true:=by
   unfold eC mS
   rw [hr.hc,h.hcu,qX.2 hcur];rfl
  have hgot:iF e a=(snap ((c0+k)%n)).filter (eh q):=by
   unfold iF
   rw [aaR h.hcu,hr.ht,hr.sn _ hcur,hr.hq]
  have hx:=jI (e:=e) (a:=a)
  have hxr:(br e a).Rows=pG n c0 q snap (k+1):=by rw [EP,if_pos hp,hgot,hr.hr];rfl
  have hxt:(br e a).adi=fl a.adi e.adc:=by rw [pC,if_pos hp]
  have htd:∀i:Nat,(i:Int)∈(br e a).adi↔i < n∧∀j < k+1,i≠(c0+j)%n:=by
   intro i
   rw [hxt,vY,hr.td,h.hcu]
   constructor
   ·rintro ⟨⟨h1,h2⟩,h3⟩
    refine ⟨h1,fun j hj=>?_⟩
    by_cases hjk:j=k
    ·subst hjk;omega
    ·exact h2 j ab
   ·rintro ⟨h1,h2⟩
    refine ⟨⟨h1,fun j hj=>h2 j ab⟩,?_⟩
    have:=h2 k ab;omega
  have htr:∀x∈(br e a).adi,0≤x∧x < n:=fun x hx2=>by rw [hxt] at hx2;exact hr.tr x (vY.1 hx2).1
  have hmemx:br e a∈e.ac8.map (br e):=List.mem_map.2 ⟨a,ha,rfl⟩
  have hother:∀b∈e.ac8,b≠a→(br e b).ac9.Id≠q.Id:=by
   intro b hb2 hba hid
   rw [jI.1] at hid
   exact hba (EN h.b.ok hb2 ha (by rw [hid,hr.hq]))
  by_cases hlast:k+1 < n
  ·left
   refine ⟨hlast,⟨br e a,?_,?_⟩,?_⟩
   ·rw [ea]
    refine List.mem_filter.2 ⟨hmemx,?_⟩
    have:(((c0+(k+1))%n:Nat):Int)∈(br e a).adi:=(htd _).2 ⟨Nat.mod_lt _ ab,fun j hj=>(Fj hj hlast).symm⟩
    have:=List.length_pos_of_mem this
    unfold cc
    simp;intro h0;rw [h0] at this;simp at this
   ·refine ⟨by rw [hx.1];exact hr.hq,by rw [hx.2.1];exact hr.ht,by rw [hx.2.2.1];exact hr.hc,by rw [hx.2.2.2,hr.ha];omega,hxr,htd,htr,fun i hi=>?_⟩
    have hin:(i:Int)∈a.adi:=by rw [hxt] at hi;exact (vY.1 hi).1
    rw [es,zk hk.so ?_ i]
    ·exact hr.sn i hin
    ·rw [ea]
     unfold fk
     refine List.mem_map.2 ⟨br e a,List.mem_filter.2 ⟨hmemx,?_⟩,by rw [hx.2.1];exact hr.ht⟩
     have:=List.length_pos_of_mem hi
     unfold cc
     simp;intro h0;rw [h0] at this;simp at this
   ·rw [ed]
    intro f hf
    rcases List.mem_append.1 hf with hf|hf
    ·exact hd f hf
    ·obtain ⟨b,hb2,rfl⟩:=List.mem_map.1 hf
     obtain ⟨hb2,he⟩:=List.mem_filter.1 hb2
     obtain ⟨b0,hb0,rfl⟩:=List.mem_map.1 hb2
     by_cases hba:b0=a
     ·subst hba
      have:(((c0+(k+1))%n:Nat):Int)∈(br e b0).adi:=(htd _).2 ⟨Nat.mod_lt _ ab,fun j hj=>(Fj hj hlast).symm⟩
      have:=List.length_pos_of_mem this
      unfold cc at he
      simp at he;rw [he] at this;simp at this
     ·exact hother b0 hb0 hba
  ·right
   have hkn1:k+1=n:=ab
   have hend:cc (br e a)=true:=by
    unfold cc
    rw [decide_eq_true_eq]
    refine List.length_eq_zero_iff.2 (List.eq_nil_iff_forall_not_mem.2 fun x hx2=>?_)
    have hx3:=htr x hx2
    have hx4:((x.toNat:Nat):Int)∈(br e a).adi:=by rw [Int.toNat_of_nonneg hx3.1];exact hx2
    have hx5:=(htd _).1 hx4
    obtain ⟨j,hj,hij⟩:=aaP hx5.1 hc
    exact hx5.2 j ab hij
   have hfin:hO (br e a)=⟨q,t,n,pG n c0 q snap n⟩:=by
    unfold hO
    rw [hx.1,hx.2.1,hx.2.2.2,hxr,hr.hq,hr.ht,hr.ha,hkn1]
    congr 1;omega
   refine ⟨ab,?_,?_⟩
   ·rw [ea]
    intro b hb2
    obtain ⟨hb2,he⟩:=List.mem_filter.1 hb2
    obtain ⟨b0,hb0,rfl⟩:=List.mem_map.1 hb2
    by_cases hba:b0=a
    ·subst hba;rw [hend] at he;cases he
    ·exact hother b0 hb0 hba
   ·obtain ⟨s1,s2,hsp⟩:=List.append_of_mem ha
    have hpw:=hk.pw
    rw [hsp] at hpw
    rw [List.pairwise_append,List.pairwise_cons] at hpw
    rw [ed,hsp]
    refine ⟨e.Done++((s1.map (br e)).filter cc).map hO,((s2.map (br e)).filter cc).map hO,?_,?_⟩
    ·simp only [bL,List.map_cons,eY,List.filter_cons,hend,if_true,hfin,aW]
    ·intro f hf
     obtain ⟨b,hb2,rfl⟩:=List.mem_map.1 hf
     obtain ⟨b0,hb0,rfl⟩:=List.mem_map.1 (List.mem_filter.1 hb2).1
     have:=hpw.2.1.1 b0 hb0
     show (br e b0).ac9.Id≠q.Id
     rw [jI.1]
     rw [hr.hq] at this;omega
 ·right
  refine ⟨ab,?_,d1,d2++((e.ac8.map (br e)).filter cc).map hO,by rw [ed,he,aW];rfl,?_⟩
  ·rw [ea]
   intro b hb2
   obtain ⟨b0,hb0,rfl⟩:=List.mem_map.1 (List.mem_filter.1 hb2).1
   rw [jI.1];exact hno b0 hb0
  ·intro f hf
   rcases List.mem_append.1 hf with hf|hf
   ·exact hd2 f hf
   ·obtain ⟨b,hb2,rfl⟩:=List.mem_map.1 hf
    obtain ⟨b0,hb0,rfl⟩:=List.mem_map.1 (List.mem_filter.1 hb2).1
    show (br e b0).ac9.Id≠q.Id
    rw [jI.1];exact hno b0 hb0
def eI.side{e2:ar}(h:eI n c0 q t snap N k e){M:Nat}(hb:fB M e2)(h1:e2.Store.ac7.length=e.Store.ac7.length)(h2:e2.adc=e.adc)(h3:e.Store.Now≤e2.Store.Now)(h4:e2.Done=e.Done)
  (h5:∀a:ac8,a.ac9.Id=q.Id→(a∈e2.ac8↔a∈e.ac8)) (h6:∀a∈e2.ac8,a.ac9.Id=q.Id→∀i:Nat,bD (dv e2.Store i) t=bD (dv e.Store i) t):eI n c0 q t snap M k e2:=by
 refine ⟨hb,h1.trans h.hn,h2.trans h.hcu,Int.le_trans h.htm h3,?_⟩
 rw [h4]
 rcases h.hst with ⟨hkn,⟨a,ha,hr⟩,hd⟩|⟨hkn,hno,d⟩
 ·have hq:a.ac9.Id=q.Id:=by rw [hr.hq]
  have ha2:=(h5 a hq).2 ha
  exact .inl ⟨hkn,⟨a,ha2,{ hr with sn:=fun i hi=>(h6 a ha2 hq i).trans (hr.sn i hi) }⟩,hd⟩
 ·exact .inr ⟨hkn,fun a ha hid=>hno a ((h5 a hid).1 ha) hid,d⟩
def eI.le(h:eI n c0 q t snap N k e){M:Nat}(hM:N≤M):eI n c0 q t snap M k e:={ h with b:=h.b.le hM }
def eI.admit(h:eI n c0 q t snap N k e)(hN:N≤900){q2:ac9}{l:Int}(hid:q2.Id≠q.Id):eI n c0 q t snap (N+1) k (fe e q2 l).1:=by
 have hb:=PC h.b hN q2 l
 cases ha:iH e q2 l with
 | false=>rw [tm ha];exact h.le ab
 | true=>
  rw [mT ha] at hb ⊢
  have hp:=ER (q:=q2) (l:=l) (qL ha).1
  refine h.side hb rfl rfl (Int.le_refl _) rfl (fun a hq=>?_) fun _ _ _ _=>rfl
  show a∈gO e q2 l↔_
  rw [hp.mem_iff,jp]
  constructor
  ·rintro (rfl|ha2)
   ·exact absurd hq hid
   ·exact ha2
  ·exact .inr
def eI.reclaim(h:eI n c0 q t snap N k e):eI n c0 q t snap N k (cF e):=by
 have hk:=fA.1 h.b.ok
 have hr:=ne (s:=e.Store) (fk e.ac8)
 rcases h.hst with ⟨hkn,⟨a,ha,hr2⟩,hd⟩|⟨hkn,hno,d⟩
 ·have hq:a.ac9.Id=q.Id:=by rw [hr2.hq]
  refine h.side h.b.reclaim hr.1 rfl (by show _≤(cP _ _).Now;rw [hr.2];exact Int.le_refl _) rfl (fun _ _=>Iff.rfl) fun b hb hbq i=>?_
  have hba:b=a:=EN h.b.ok hb ha (by rw [hbq,hq])
  exact zk hk.so (List.mem_map.2 ⟨a,ha,hr2.ht⟩) i
 ·exact ⟨h.b.reclaim,by show (cP _ _).ac7.length=n;rw [hr.1];exact h.hn,h.hcu,by show t≤(cP _ _).Now;rw [hr.2];exact h.htm,.inr ⟨hkn,hno,d⟩⟩
def eI.run(h:eI n c0 q t snap N k e)(hc:c0 < n):∀m,N+m≤250→eI n c0 q t snap (N+m) (k+m) (gP e m)
 | 0,_=>h
 | m+1,hm=>(h.run hc m ab).step hc ab
end
structure ac6 where
 e:ar
def zA(e:ar):Bool:=!(aP e&&decide (0 < e.ac8.length))
def og(e:ar):Nat→ar
 | 0=>e
 | k+1=>if zA (og e k) then og e k else bS (og e k)
def aaU(e:ar):ar:=og e 200
def wd:fJ:=⟨⟨0,0,[],[]⟩,0,0,[]⟩
def fD(e:ar)(id:Int):fJ×Bool:=if aP e then (match e.Done.reverse.find? (fun d=>d.ac9.Id==id) with|some d=>(d,true)|none=>(wd,false)) else (wd,false)
def Qo{d1 d2:List fJ}{f:fJ}{id:Int}(hf:f.ac9.Id=id)(h:∀g∈d2,g.ac9.Id≠id):(d1++f::d2).reverse.find? (fun d=>d.ac9.Id==id)=some f:=by
 rw [List.reverse_append,List.find?_append,List.reverse_cons,List.find?_append]
 have h1:d2.reverse.find? (fun d=>d.ac9.Id==id)=none:=by
  rw [List.find?_eq_none]
  intro g hg
  have:=h g (List.mem_reverse.1 hg)
  simpa using this
 rw [h1]
 simp [hf]
section
variable{n c0:Nat}{q:ac9}{t:Int}{snap:Nat→List Row}{N k:Nat}{e:ar}
def eI.res(h:eI n c0 q t snap N k e)(hk:n≤k):fD e q.Id=(⟨q,t,n,pG n c0 q snap n⟩,true):=by
 rcases h.hst with ⟨hkn,_⟩|⟨_,_,d1,d2,hd,h2⟩
 ·omega
 ·unfold fD
  rw [if_pos h.b.ok,hd,Qo (f:=⟨q,t,n,pG n c0 q snap n⟩) (id:=q.Id) rfl h2]
def eI.fin(h:eI n c0 q t snap N k e)(hc:c0 < n)(hN:N≤50):∀m,m≤200→∃k',eI n c0 q t snap (N+m) k' (og e m)∧(k'=k+m∨n≤k')
 | 0,_=>⟨k,h,.inl rfl⟩
 | m+1,hm=>by
  obtain ⟨k',h1,h2⟩:=h.fin hc hN m ab
  show ∃k',eI n c0 q t snap (N+(m+1)) k' (if zA (og e m) then og e m else bS (og e m))∧_
  cases hs:zA (og e m) with
  | false=>
   rw [if_neg aF]
   exact ⟨k'+1,h1.step hc ab,ab⟩
  | true=>
   rw [if_pos rfl]
   refine ⟨k',h1.le ab,?_⟩
   unfold zA at hs
   rw [h1.b.ok] at hs
   simp only [Bool.true_and,Bool.not_eq_true',decide_eq_false_iff_not] at hs
   rcases h1.hst with ⟨_,⟨a,ha,_⟩,_⟩|⟨hk,_⟩
   ·have:=List.length_pos_of_mem ha;omega
   ·exact .inr hk
def eI.done(h:eI n c0 q t snap N k e)(hc:c0 < n)(hN:N≤50)(hn:n≤8):fD (aaU e) q.Id=(⟨q,t,n,pG n c0 q snap n⟩,true):=by
 obtain ⟨k',h1,h2⟩:=h.fin hc hN 200 (Nat.le_refl _)
 exact h1.res ab
end
section
variable{n:Nat}{q:ac9}{t:Int}{snap:Nat→List Row}{N k:Nat}{a b:ar}{s:Store}{x:bR}
end
def aaV{e:ar}{id:Int}{k:Nat}(hk:k < e.Done.length)(hok:aP e=true)(hn:∀f∈e.Done.drop (e.Done.length - k),f.ac9.Id≠id)(hy:e.Done[e.Done.length - 1 - k].ac9.Id=id):fD e id=(e.Done[e.Done.length - 1 - k],true):=by
 have hd:e.Done=e.Done.take (e.Done.length - 1 - k)++e.Done[e.Done.length - 1 - k]::e.Done.drop (e.Done.length - k):=by
  have h1:e.Done.length - k=e.Done.length - 1 - k+1:=ab
  rw [h1,←List.drop_eq_getElem_cons ab,fh]
 unfold fD
 rw [if_pos hok]
 have:=Qo (d1:=e.Done.take (e.Done.length - 1 - k)) hy hn
 rw [←hd] at this
 rw [this]
def aaW{e:ar}{id:Int}(hok:aP e=true)(hn:∀f∈e.Done,f.ac9.Id≠id):fD e id=(wd,false):=by
 have:e.Done.reverse.find? (fun d=>d.ac9.Id==id)=none:=by
  rw [List.find?_eq_none]
  intro g hg
  have:=hn g (List.mem_reverse.1 hg)
  simpa using this
 unfold fD
 rw [if_pos hok,this]
def aaX{e:ar}{id:Int}(hok:aP e=false):fD e id=(wd,false):=if_neg rn
def aaY{e:ar}{id:Int}{k:Nat}(hk:k < e.Done.length)(hn:∀f∈e.Done.drop (e.Done.length - k),f.ac9.Id≠id)(hy:¬e.Done[e.Done.length - 1 - k].ac9.Id=id):∀f∈e.Done.drop (e.Done.length - (k+1)),f.ac9.Id≠id:=by
 have h1:e.Done.length - k=e.Done.length - (k+1)+1:=ab
 have h2:e.Done.length - 1 - k=e.Done.length - (k+1):=ab
 rw [List.drop_eq_getElem_cons ab,←h1]
 intro f hf
 rcases List.mem_cons.1 hf with rfl|hf
 ·simp only [h2] at hy;exact hy
 ·exact hn f hf
end
section
def pH:ar:=⟨⟨[],0⟩,0,[],[],[],[],0⟩
noncomputable def kY(e:ar)(s:am):am:=if fz s=true∧0≤bQ s then (if (fD e (bQ s)).2 then eG (fD e (bQ s)).1 else ([110,111,32,114,101,115,117,108,116]:am)) else ([119,104,97,116]:am)
def fm(l:am):Bool:=(aw 32 l).getD 0 []==([116,97,98,108,101]:am)&&(aw 32 l).length==2
noncomputable def tT(e:ar)(n:Int):ar:=if (ii [] n).2 then ⟨(ii [] n).1,0,[0,1,2],[],[],[],0⟩ else e
noncomputable def tU(n:Int):am:=if (ii [] n).2 then ([111,107]:am) else ([110,111]:am)
noncomputable def dP(e:ar)(l:am):ar:=if fm l then tT e (bQ ((aw 32 l).getD 1 [])) else match bq l with|some x=>(bC e x).1|none=>e
noncomputable def iO(e:ar)(l:am):am:=if fm l then tU (bQ ((aw 32 l).getD 1 [])) else match bq l with|some x=>(if (bC e x).2 then ([111,107]:am) else ([110,111]:am))|none=>kY e ((aw 32 l).getD 1 [])
def zB(e:ar)(l:am):Prop:=fm l=true∨(fm l=false∧0 < e.Store.ac7.length∧((bq l).isSome=true∨((aw 32 l).length=2∧(aw 32 l).getD 0 []=([114,101,115,117,108,116]:am))))
noncomputable def pI(s:ar×am)(l:am):ar×am:=(dP s.1 l,s.2++(iO s.1 l++[10]))
noncomputable def dQ(ls:List am)(k:Nat):ar×am:=(ls.take k).foldl pI (pH,[])
def zC{ls:List am}{k:Nat}(hk:k < ls.length):dQ ls (k+1)=pI (dQ ls k) ls[k]:=by
 unfold dQ;rw [cG hk,List.foldl_append];rfl
def fQ(ls:List am):am:=(ls.map fun l=>l++[10]).flatten
def Qp(ls:List am)(l:am):fQ (ls++[l])=fQ ls++(l++[10]):=wu
def aaZ(a b:List am):fQ (a++b)=fQ a++fQ b:=wu
def aa0{ls:List am}(h:∀l∈ls,(10:UInt8)∉l):aw 10 (fQ ls)=ls++[[]]:=by
 induction ls with
 | nil=>rfl
 | cons l r ih=>
  have e:fQ (l::r)=l++10::fQ r:=wu
  rw [e,kk (h l aF),ih (fun x hx=>h x fS)];rfl
/- ---- heads of lines ---- -/
def aa1{x:bR}(h:ca x=true):∃a b,bP x=a++32::b∧(32:UInt8)∉a∧a≠([116,97,98,108,101]:am)∧a≠([114,101,115,117,108,116]:am):=by
 rcases tL h with ⟨q,n,h1,h2,h3,rfl,e⟩|⟨n,h2,h3,rfl,e⟩|⟨u,h1,rfl,e⟩|⟨n,h2,h3,rfl,e⟩
 ·exact ⟨_,_,e,ae,ae,ae⟩
 ·exact ⟨_,_,e,ae,ae,ae⟩
 ·rcases qV h1 with ⟨r,h1,rfl,e2⟩|⟨n,h1,h2,rfl,e2⟩|⟨n,f,v,⟨h1,h2⟩,⟨h3,h4⟩,⟨h5,h6⟩,rfl,e2⟩<;>exact ⟨_,_,e.trans e2,ae,ae,ae⟩
 ·exact ⟨_,_,e,ae,ae,ae⟩
def Qq{x:bR}(h:ca x=true):(aw 32 (bP x)).getD 0 []≠([116,97,98,108,101]:am)∧(aw 32 (bP x)).getD 0 []≠([114,101,115,117,108,116]:am):=by
 obtain ⟨a,b,e,h1,h2,h3⟩:=aa1 h
 rw [e,kk h1]
 exact ⟨h2,h3⟩
def Fk{x:bR}(h:ca x=true):fm (bP x)=false:=by
 unfold fm
 rw [show ((aw 32 (bP x)).getD 0 []==([116,97,98,108,101]:am))=false by simpa using (Qq h).1];rfl
def aa2{e:ar}{x:bR}(h:ca x=true):dP e (bP x)=(bC e x).1∧iO e (bP x)=if (bC e x).2 then ([111,107]:am) else ([110,111]:am):=by
 unfold dP iO
 rw [if_neg (by rw [Fk h];simp),if_neg (by rw [Fk h];simp),Pe h]
 exact ⟨rfl,rfl⟩
def Qr{n:Int}(h:0≤n∧n < 10):itoa n=[UInt8.ofNat (48+n.toNat)]:=by rw [pc ab,pb ab];congr 2;omega
def Fm:fz ([51]:am)=true∧bQ ([51]:am)=3:=by
 have e:([51]:am)=itoa 3:=by rw [Qr ab];rfl
 rw [e]
 exact ⟨tF ae,kU ae⟩
def Fo:fm ([116,97,98,108,101,32,51]:am)=true∧dP pH ([116,97,98,108,101,32,51]:am)=nh∧iO pH ([116,97,98,108,101,32,51]:am)=([111,107]:am):=by
 have hs:aw 32 ([116,97,98,108,101,32,51]:am)=[([116,97,98,108,101]:am),[51]]:=ae
 have ht:fm ([116,97,98,108,101,32,51]:am)=true:=by unfold fm;rw [hs];decide
 have hn:(ii [] 3).2=true:=ae
 have hm:(ii [] 3).1=⟨[[],[],[]],0⟩:=jo
 unfold dP iO
 rw [if_pos ht,if_pos ht,hs]
 show _∧tT pH (bQ [51])=_∧tU (bQ [51])=_
 rw [Fm.2]
 unfold tT tU
 rw [if_pos hn,if_pos hn,hm]
 exact ⟨ht,rfl,rfl⟩
def aa3{s:am}(h:(aw 32 s).getD 0 []=([114,101,115,117,108,116]:am)):bq s=none:=by
 cases e:bq s with
 | none=>rfl
 | some x=>
  obtain ⟨h1,h2⟩:=Pf e
  have:=(Qq h1).2
  rw [h2] at this
  exact absurd h this
def Fq:aw 32 ([114,101,115,117,108,116,32,51]:am)=[([114,101,115,117,108,116]:am),[51]]:=ae
def we(e:ar):fm ([114,101,115,117,108,116,32,51]:am)=false∧dP e ([114,101,115,117,108,116,32,51]:am)=e∧iO e ([114,101,115,117,108,116,32,51]:am)=kY e [51]:=by
 have hs:=Fq
 have ht:fm ([114,101,115,117,108,116,32,51]:am)=false:=by unfold fm;rw [hs];decide
 have hp:=aa3 (s:=([114,101,115,117,108,116,32,51]:am)) (by rw [hs];rfl)
 unfold dP iO
 rw [if_neg (by rw [ht];simp),if_neg (by rw [ht];simp),hp,hs]
 exact ⟨ht,rfl,rfl⟩
def aa4{e:ar}{f:fJ}(hok:aP e=true)(hd:e.Done=[f])(hi:f.ac9.Id=3):kY e [51]=eG f:=by
 have hr:fD e 3=(f,true):=by
  unfold fD
  rw [if_pos hok,hd]
  show (match List.find? _ [f] with|some d=>(d,true)|none=>(wd,false))=_
  rw [List.find?_cons_of_pos (by simp [hi])]
 unfold kY
 rw [Fm.1,Fm.2,if_pos ⟨rfl,ab⟩,hr];rfl
/- ---- the script ---- -/
def dR(R:Nat→Row)(q:ac9):List am:=([116,97,98,108,101,32,51]:am)::((fP R q).map bP++[([114,101,115,117,108,116,32,51]:am)])
def wg(R:Nat→Row)(q:ac9):(dR R q).length=12:=by unfold dR;simp [pF]
def Fr{R:Nat→Row}{q:ac9}(hR:∀k < 6,bf (R k)=true∧(R k).Id=k)(hq:aQ q=true):∀x∈fP R q,ca x=true:=by
 intro x hx
 unfold fP at hx
 rcases List.mem_append.1 hx with hx|hx
 ·obtain ⟨i,hi,rfl⟩:=List.mem_map.1 hx
  exact wc (zv (hR i (List.mem_range.1 hi)).1)
 ·simp only [jp,List.not_mem_nil,or_false] at hx
  rcases hx with rfl|rfl|rfl|rfl
  ·exact Fe hq
  ·exact Qd
  ·exact Qe
  ·exact Fc
def fE(k:Nat):am:=fQ (List.replicate k ([111,107]:am))
def Ft(k:Nat):fE (k+1)=fE k++(([111,107]:am)++[10]):=by unfold fE;rw [List.replicate_succ',Qp]
def wh(k:Nat):(fE k).length=3 * k:=by
 induction k with
 | zero=>rfl
 | succ k ih=>rw [Ft,aZ,ih];simp;omega
section
variable{R:Nat→Row}{q:ac9}
def Qs:(dR R q)[0]?=some ([116,97,98,108,101,32,51]:am):=rfl
def Qt{k:Nat}{x:bR}(h:(fP R q)[k]?=some x):(dR R q)[k+1]?=some (bP x):=by
 obtain ⟨hk,rfl⟩:=List.getElem?_eq_some_iff.1 h
 unfold dR
 rw [List.getElem?_cons_succ,List.getElem?_append_left ww]
 simp [hk]
def zD:(dR R q)[11]?=some ([114,101,115,117,108,116,32,51]:am):=by
 unfold dR
 rw [List.getElem?_cons_succ,List.getElem?_append_right (by simp [pF])]
 simp [pF]
def wi{ls:List am}{k:Nat}{l:am}(h:ls[k]?=some l):dQ ls (k+1)=pI (dQ ls k) l:=by
 obtain ⟨hk,rfl⟩:=List.getElem?_eq_some_iff.1 h
 exact zC hk
attribute [local irreducible] cz bC
def rg(hR:∀k < 6,bf (R k)=true∧(R k).Id=k)(hq:aQ q=true):∀k,k≤10→dQ (dR R q) (k+1)=(cz R q k,fE (k+1))
 | 0,_=>by
  rw [wi Qs]
  show (dP pH ([116,97,98,108,101,32,51]:am),[]++(iO pH ([116,97,98,108,101,32,51]:am)++[10]))=_
  rw [Fo.2.1,Fo.2.2]
  have:cz R q 0=nh:=by unfold cz;rfl
  rw [this];rfl
 | k+1,hk=>by
  have ih:=rg hR hq k ab
  have hl:=pF R q
  obtain ⟨x,hx⟩:∃x,(fP R q)[k]?=some x:=⟨_,List.getElem?_eq_getElem ab⟩
  have hok:=Fr hR hq x (List.mem_of_getElem? hx)
  rw [wi (Qt hx),ih]
  unfold pI
  dsimp only
  obtain ⟨h1,h2⟩:=aa2 (e:=cz R q k) hok
  rw [h1,h2,((zy hR hq).1 k _ hx).1,if_pos rfl,←Ft,tS hx]
def aa5(hR:∀k < 6,bf (R k)=true∧(R k).Id=k)(hq:aQ q=true)(hi:q.Id=3):∃f:fJ,dQ (dR R q) 12=(cz R q 10,fE 11++(eG f++[10]))∧f.ac9=q∧fZ f.Rows=true∧f.Rows.length=(fC q ((List.range 6).map R)).length:=by
 obtain ⟨_,h1,_,f,h2,h3,h4⟩:=zy hR hq
 have hf:=(fA.1 h1).fs f (by rw [h2];simp)
 refine ⟨f,?_,h3,?_,h4⟩
 ·rw [wi zD,rg hR hq 10 (Nat.le_refl _)]
  unfold pI
  dsimp only
  rw [(we _).2.1,(we _).2.2,aa4 h1 h2 (by rw [h3];exact hi)]
 ·unfold jB at hf
  simp only [aT] at hf
  exact hf.2.2.2
def aa6(hR:∀k < 6,bf (R k)=true∧(R k).Id=k)(hq:aQ q=true):∀k l,(dR R q)[k]?=some l→zB (dQ (dR R q) k).1 l∧l≠[]:=by
 intro k l hl
 have hk:k < 12:=by have:=(List.getElem?_eq_some_iff.1 hl).1;rw [wg] at this;exact this
 rcases k with _|k
 ·rw [Qs] at hl
  injection hl with hl
  subst hl
  exact ⟨.inl Fo.1,ae⟩
 ·rw [rg hR hq k ab]
  have hs:=zy hR hq
  by_cases h10:k < 10
  ·obtain ⟨x,hx⟩:∃x,(fP R q)[k]?=some x:=⟨_,List.getElem?_eq_getElem (by rw [pF];exact h10)⟩
   have hok:=Fr hR hq x (List.mem_of_getElem? hx)
   rw [Qt hx] at hl
   injection hl with hl
   subst hl
   exact ⟨.inr ⟨Fk hok,(hs.1 k _ hx).2,.inl (by rw [Pe hok];rfl)⟩,YJ hok⟩
  ·have h10:k=10:=by omega
   subst h10
   rw [zD] at hl
   injection hl with hl
   subst hl
   exact ⟨.inr ⟨(we pH).1,hs.2.2.1,.inr ⟨by rw [Fq];rfl,by rw [Fq];rfl⟩⟩,ae⟩
end
/- ---- the colons ---- -/
def aa7{c:UInt8}{ws:List am}{sep:am}(hs:sep.count c=0):(ee ws sep).count c=(ws.map (List.count c)).sum:=by
 induction ws using vm with
 | h0=>rfl
 | h1 ws y ih=>
  rw [pd]
  split
  ·rename_i e;subst e;simp
  ·rw [List.count_append,List.count_append,ih,hs];simp
def aa8{n:Int}:(itoa n).count 58=0:=List.count_eq_zero_of_not_mem (de ae)
def aa9{l:List Int}:(cJ l).count 58=0:=List.count_eq_zero_of_not_mem (tG ae ae)
def aba{f:fJ}(h1:aQ f.ac9=true)(h2:fZ f.Rows=true):(eG f).count 58=f.Rows.length:=by
 unfold eG
 rw [if_pos (by rw [h1,h2];rfl)]
 unfold vt
 split
 ·rename_i e
  have:f.Rows=[]:=by simpa using e
  rw [this];decide
 ·rw [aa7 ae,List.map_map]
  have:∀l:List Row,(l.map (List.count 58∘lR f.ac9)).sum=l.length:=by
   intro l
   induction l with
   | nil=>rfl
   | cons r l ih=>
    rw [List.map_cons,List.sum_cons,ih]
    show (lR f.ac9 r).count 58+l.length=_
    unfold lR
    rw [List.count_append,List.count_append,aa8,aa9]
    simp;omega
  exact this _
/- bounds -/
def abb{e:ar}{s:am}(h:aP e=true):(kY e s).length≤101010:=by
 have hr:∀f,(eG f).length≤101004:=by
  intro f
  unfold eG
  split
  ·rename_i h
   rw [aT] at h
   unfold vt
   split
   ·decide
   ·have:=DI (q:=f.ac9) h.2 f.Rows.length
    rw [cC] at this
    omega
  ·decide
 unfold kY
 split
 ·split
  ·have:=hr (fD e (bQ s)).1;omega
  ·decide
 ·decide
def abc{ls:List am}{h:ls.length < (ls++[[]]:List am).length}:(ls++[[]]:List am)[ls.length]=[]:=aF
def abd{n:Int}(h:1≤n∧n≤8):ob [] n=true:=by
 unfold ob
 have h1:EK []=true:=ae
 rw [h1]
 simp [aE];omega
def abe{m:Nat}:zp [] m m=List.replicate m []:=by
 by_cases h0:m=0
 ·subst h0;rfl
 ·have hp:∀i,EL [] m i=[]:=by
   intro i
   unfold EL Pv Pw
   have:(0 - i+(m - 1)) / m=0:=Nat.div_eq_of_lt ab
   simp [this]
   omega
  unfold zp
  apply List.ext_getElem
  ·simp
  ·intro i h1 h2;simp [hp]
def abf{l:am}(h:(aw 32 l).getD 0 []=([116,97,98,108,101]:am)∧(aw 32 l).length=2):fm l=true:=by unfold fm;rw [h.1,h.2];decide
def Qu{l:am}(h:¬((aw 32 l).getD 0 []=([116,97,98,108,101]:am)∧(aw 32 l).length=2)):fm l=false:=by
 rw [←Bool.not_eq_true]
 intro hc
 unfold fm at hc
 rw [aT,beq_iff_eq,beq_iff_eq] at hc
 exact h hc
def Qv{e:ar}{l:am}(h:zB e l)(ht:fm l=false):0 < e.Store.ac7.length∧((bq l).isSome=true∨((aw 32 l).length=2∧(aw 32 l).getD 0 []=([114,101,115,117,108,116]:am))):=by
 rcases h with h|h
 ·rw [ht] at h;cases h
 ·exact h.2
def Qw{l:am}{e:ar}(h:0 < e.Store.ac7.length∧((bq l).isSome=true∨((aw 32 l).length=2∧(aw 32 l).getD 0 []=([114,101,115,117,108,116]:am))))(hp:(bq l).isSome=false):(aw 32 l).length=2∧(aw 32 l).getD 0 []=([114,101,115,117,108,116]:am):=by
 rcases h.2 with h|h
 ·rw [hp] at h;cases h
 ·exact h
section
variable{e:ar}{l:am}{n:Int}
def abg(h:fm l=true):dP e l=tT e (bQ ((aw 32 l).getD 1 [])):=if_pos h
def abh(h:fm l=true):iO e l=tU (bQ ((aw 32 l).getD 1 [])):=if_pos h
def abi(h:(ii [] n).2=false):tT e n=e:=if_neg eJ
def abj(h:(ii [] n).2=true):tT e n=⟨(ii [] n).1,0,[0,1,2],[],[],[],0⟩:=if_pos h
def abk(h:(ii [] n).2=false):tU n=([110,111]:am):=if_neg eJ
def abl(h:(ii [] n).2=true):tU n=([111,107]:am):=if_pos h
def Qx(h:fm l=false)(hp:(bq l).isSome=true):dP e l=(bC e ((bq l).getD cY)).1:=by
 unfold dP
 rw [if_neg eJ]
 cases hx:bq l with
 | none=>rw [hx] at hp;cases hp
 | some x=>rfl
def Qy(h:fm l=false)(hp:(bq l).isSome=true):iO e l=if (bC e ((bq l).getD cY)).2=true then ([111,107]:am) else ([110,111]:am):=by
 unfold iO
 rw [if_neg eJ]
 cases hx:bq l with
 | none=>rw [hx] at hp;cases hp
 | some x=>rfl
def Qz(h:fm l=false)(hp:(bq l).isSome=false):dP e l=e:=by
 unfold dP
 rw [if_neg eJ]
 cases hx:bq l with
 | none=>rfl
 | some x=>rw [hx] at hp;cases hp
def QA(h:fm l=false)(hp:(bq l).isSome=false):iO e l=kY e ((aw 32 l).getD 1 []):=by
 unfold iO
 rw [if_neg eJ]
 cases hx:bq l with
 | none=>rfl
 | some x=>rw [hx] at hp;cases hp
end
end
end Go.Proofs.YtmekkgdboplbjaaGreatDoor
