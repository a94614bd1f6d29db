/- Definitions and their laws. No condition. -/
import Derived.Test.YtmekkgdboplbjaaGreatDoorRC0
import Derived.Test.YtmekkgdboplbjaaGreatDoorProg
set_option linter.all false
namespace Go.Proofs.YtmekkgdboplbjaaGreatDoor
open Go Go.RowKit M Tryz
set_option maxRecDepth 10000
variable{us:List Value}{α:Type}{k i:Nat}{l:List Int}{d:α}{p:α→Bool}
section
section
variable{α:Type}{P:α→Bool}{xs ys:List α}{k:Nat}
def arx:(xs.take 0).all P=true:=aP
def Ke(h:(xs.take k).all P=true)(hk:k < xs.length)(hp:P xs[k]=true):(xs.take (k+1)).all P=true:=by
 rw [cU hk,List.all_append,h];simp [hp]
def po(hk:k < xs.length)(hp:P xs[k]=false):xs.all P=false:=by
 rw [List.all_eq_false];exact ⟨_,List.getElem_mem hk,by rw [hp];simp⟩
def mz(h:(xs.take xs.length).all P=true):xs.all P=true:=by rwa [bG] at h
def AS(h:(xs.take k).any P=false)(hk:k < xs.length)(hp:P xs[k]=false):(xs.take (k+1)).any P=false:=by
 rw [cU hk,List.any_append,h];simp [hp]
def yd(hk:k < xs.length)(hp:P xs[k]=true):xs.any P=true:=by
 rw [List.any_eq_true];exact ⟨_,List.getElem_mem hk,hp⟩
def akH(h:(xs.take xs.length).any P=false):xs.any P=false:=by rwa [bG] at h
def Sp(h:xs.take k=ys.take k)(hk:k < xs.length)(hk':k < ys.length)(he:xs[k]=ys[k]):xs.take (k+1)=ys.take (k+1):=by
 rw [cU hk,cU hk',h,he]
def ary(hk:k < xs.length)(hk':k < ys.length)(he:¬xs[k]=ys[k]):¬xs=ys:=by
 rintro rfl;exact he rfl
def arz(hl:xs.length=ys.length)(h:xs.take xs.length=ys.take xs.length):xs=ys:=by
 rw [bG] at h;rw [h,hl,bG]
def wtk{f:α→Nat}(hk:k < xs.length):((xs.take (k+1)).map f).sum=((xs.take k).map f).sum+f xs[k]:=by
 rw [cU hk,bo,List.sum_append];simp
def arB{f:α→Nat}(xs:List α)(k:Nat):((xs.take k).map f).sum≤(xs.map f).sum:=by
 have h:xs=xs.take k++xs.drop k:=(hO _ _).symm
 have e:(xs.map f).sum=((xs.take k).map f).sum+((xs.drop k).map f).sum:=by
  rw [←List.sum_append,←bo,←h]
 omega
def dK{f:α→Nat}(hk:k < xs.length):f xs[k]≤(xs.map f).sum:=by
 have h1:=wtk (f:=f) hk
 have h2:=arB (f:=f) xs (k+1)
 omega
noncomputable def it(x y:α):Bool:=@decide (x=y) (Classical.propDecidable _)
def Kf{x y:α}(h:x=y):it x y=true:=@decide_eq_true _ (Classical.propDecidable _) h
def Sq{x y:α}(h:¬x=y):it x y=false:=@decide_eq_false _ (Classical.propDecidable _) h
def oA{x y:α}:it x y=true↔x=y:=@decide_eq_true_iff _ (Classical.propDecidable _)
def arC(x:α):it x x=true:=Kf rfl
end
def Es(h:us.length=1):∃v0,us=[v0]:=by
 rcases us with _|⟨v0,_|⟨v1,vs⟩⟩<;>first|exact ⟨_,rfl⟩|(simp at h;try omega)
def arD(h:us.length=2):∃v0 v1,us=[v0,v1]:=by
 rcases us with _|⟨v0,_|⟨v1,_|⟨v2,vs⟩⟩⟩<;>first|exact ⟨_,_,rfl⟩|(simp at h;try omega)
def arE(h:us.length=8):∃v0 v1 v2 v3 v4 v5 v6 v7,us=[v0,v1,v2,v3,v4,v5,v6,v7]:=by
 rcases us with _|⟨v0,_|⟨v1,_|⟨v2,_|⟨v3,_|⟨v4,_|⟨v5,_|⟨v6,_|⟨v7,_|⟨v8,vs⟩⟩⟩⟩⟩⟩⟩⟩⟩<;>first|exact ⟨_,_,_,_,_,_,_,_,rfl⟩|(simp at h;try omega)
def akI(h:us.length=10):∃v0 v1 v2 v3 v4 v5 v6 v7 v8 v9,us=[v0,v1,v2,v3,v4,v5,v6,v7,v8,v9]:=by
 rcases us with _|⟨v0,_|⟨v1,_|⟨v2,_|⟨v3,_|⟨v4,_|⟨v5,_|⟨v6,_|⟨v7,_|⟨v8,_|⟨v9,_|⟨v10,vs⟩⟩⟩⟩⟩⟩⟩⟩⟩⟩⟩<;>first|exact ⟨_,_,_,_,_,_,_,_,_,_,rfl⟩|(simp at h;try omega)
def ar(x:Int):List PV:=[PV.val (vI x)]
def bh(_x:Int):Nat:=0
def arF(o0:Fl)(x:List Int):List PV:=[PV.sl o0 (x.map ar)]
def rQ(x:List Int):Nat:=x.length+(x.map bh).sum
structure fw where
 Field:Int
 Low:Int
 High:Int
def bM(x:fw):List PV:=[PV.val (vI x.Field),PV.val (vI x.Low),PV.val (vI x.High)]
def Et(x:fw):Nat:=bh x.Field+bh x.Low+bh x.High
structure Row where
 Id:Int
 Values:List Int
def ci(o0:Fl)(x:Row):List PV:=[PV.val (vI x.Id),PV.sl o0 (x.Values.map ar)]
def kp(x:Row):Nat:=bh x.Id+rQ x.Values
def ye(x:List fw):Nat:=x.length+(x.map Et).sum
structure aC9 where
 Kind:Int
 Row:Row
 Field:Int
 Value:Int
def jR(x:aC9):Nat:=bh x.Kind+kp x.Row+bh x.Field+bh x.Value
structure aC7 where
 Id:Int
 aDb:Int
 aC8:List fw
 Out:List Int
def fj(o0 o1:Fl)(x:aC7):List PV:=[PV.val (vI x.Id),PV.val (vI x.aDb),PV.sl o0 (x.aC8.map bM),PV.sl o1 (x.Out.map ar)]
def eS(x:aC7):Nat:=bh x.Id+bh x.aDb+ye x.aC8+rQ x.Out
structure fx where
 Kind:Int
 aC7:aC7
 Limit:Int
 Id:Int
 aC9:aC9
 Steps:Int
def AT(x:fx):Nat:=bh x.Kind+eS x.aC7+bh x.Limit+bh x.Id+jR x.aC9+bh x.Steps
def iQ(x:List Row):Nat:=x.length+(x.map kp).sum
structure aC6 where
 aC7:aC7
 Time:Int
 aDf:List Int
 Age:Int
 Sent:Int
 Cap:Int
 Rows:List Row
def aO(o0 o1 o2 o3 o4:Fl)(x:aC6):List PV:=[PV.val (vI x.aC7.Id),PV.val (vI x.aC7.aDb),PV.sl o0 (x.aC7.aC8.map bM),PV.sl o1 (x.aC7.Out.map ar),PV.val (vI x.Time),PV.sl o2 (x.aDf.map ar),PV.val (vI x.Age),PV.val (vI x.Sent),PV.val (vI x.Cap),PV.sl o3 (x.Rows.map (ci o4))]
def dW(x:aC6):Nat:=eS x.aC7+bh x.Time+rQ x.aDf+bh x.Age+bh x.Sent+bh x.Cap+iQ x.Rows
def fk(x:List aC6):Nat:=x.length+(x.map dW).sum
structure cw where
 Segment:Int
 Base:Int
 Ids:List Int
 aDc:List Int
 Rows:List Int
def ba(o0 o1 o2:Fl)(x:cw):List PV:=[PV.val (vI x.Segment),PV.val (vI x.Base),PV.sl o0 (x.Ids.map ar),PV.sl o1 (x.aDc.map ar),PV.sl o2 (x.Rows.map ar)]
def uc(x:cw):Nat:=bh x.Segment+bh x.Base+rQ x.Ids+rQ x.aDc+rQ x.Rows
def go(x:List cw):Nat:=x.length+(x.map uc).sum
structure bb where
 Id:Int
 Values:List Int
 aDk:Int
 aDg:Int
def ia(o0:Fl)(x:bb):List PV:=[PV.val (vI x.Id),PV.sl o0 (x.Values.map ar),PV.val (vI x.aDk),PV.val (vI x.aDg)]
def df(x:bb):Nat:=bh x.Id+rQ x.Values+bh x.aDk+bh x.aDg
def aG(o0 o1:Fl)(x:List bb):List PV:=[PV.sl o0 (x.map (ia o1))]
def cX(x:List bb):Nat:=x.length+(x.map df).sum
def iR(x:List (List bb)):Nat:=x.length+(x.map cX).sum
structure Store where
 aC5:List (List bb)
 Now:Int
def da(x:Store):Nat:=iR x.aC5+bh x.Now
structure gZ where
 aC7:aC7
 Time:Int
 Steps:Int
 Rows:List Row
def bd(o0 o1 o2 o3:Fl)(x:gZ):List PV:=[PV.val (vI x.aC7.Id),PV.val (vI x.aC7.aDb),PV.sl o0 (x.aC7.aC8.map bM),PV.sl o1 (x.aC7.Out.map ar),PV.val (vI x.Time),PV.val (vI x.Steps),PV.sl o2 (x.Rows.map (ci o3))]
def nw(x:gZ):Nat:=eS x.aC7+bh x.Time+bh x.Steps+iQ x.Rows
def gN(x:List gZ):Nat:=x.length+(x.map nw).sum
structure av where
 Store:Store
 aDa:Int
 Order:List Int
 aC6:List aC6
 Done:List gZ
 aDi:List cw
 Steps:Int
def aZ(x:av):Nat:=da x.Store+bh x.aDa+rQ x.Order+fk x.aC6+gN x.Done+go x.aDi+bh x.Steps
def AU(x:List aC7):Nat:=x.length+(x.map eS).sum
structure eB where
 From:Int
 To:Int
 Set:List Int
def kT(o0:Fl)(x:eB):List PV:=[PV.val (vI x.From),PV.val (vI x.To),PV.sl o0 (x.Set.map ar)]
def oB(o0 o1:Fl)(x:List eB):List PV:=[PV.sl o0 (x.map (kT o1))]
structure dL where
 Queries:List aC7
 Fields:List (List eB)
def Sr(o0 o1 o2 o3 o4 o5:Fl)(x:dL):List PV:=[PV.sl o0 (x.Queries.map (fj o1 o2)),PV.sl o3 (x.Fields.map (oB o4 o5))]
def arG{β:Type}{xs:List α}{g:α→List β}(hk:k < xs.length):(xs.take (k+1)).flatMap g=(xs.take k).flatMap g++g xs[k]:=by
 rw [cU hk,List.flatMap_append];simp
def wc{xs:List α}(hk:k < xs.length):xs.take (k+1)=xs.take k++[xs[k]]:=cU hk
def dM{l:List α}(h:i < l.length):l[i]=l.getD i d:=pL
def ny{β:Type}{l:List α}{f:α→β}(h:k < l.length):(l.take (k+1)).map f=(l.take k).map f++[f l[k]]:=by
 rw [cU h,bo];rfl
def akJ{a b:Int}:(a==b)=decide (a=b):=rfl
def fU(x:List Int):rQ x=x.length:=by
 have h:∀l:List Int,(l.map bh).sum=0:=by
  intro l
  induction l with
  | nil=>rfl
  | cons a l ih=>rw [List.map_cons,List.sum_cons,ih];rfl
 simp [rQ,h]
def ce(xs:List Int)(x:Int):Bool:=xs.any (fun y=>y==x)
def aF(n l h:Int):Bool:=decide (l≤n)&&decide (n≤h)
def asI(x:Int):List (Bool×List PV):=[(false,[PV.val (vI x)])]
def rsB{γ:Type}(q:γ→Bool)(x:γ):RV:=RV.sv false [PV.val (.bool (q x))]
def nz(v:Int):Bool:=aF v 0 99
def bA(r:Row):Bool:=r.Values.all nz&&(aF r.Id 0 999&&decide ((r.Values.length:Int)=3))
def iD(l:List Row):Bool:=l.all bA&&decide ((l.length:Int)≤1000)
def fm(x:an):List PV:=[PV.val (.string (B x))]
def arH(_x:an):Prop:=True
def arI{x y:Row}:x=y↔x.Id=y.Id∧x.Values=y.Values:=by cases x;cases y;simp_all
def fa(l:List Int):Bool:=(List.range l.length).all fun i=>aF (l.getD i 0) 0 23&&(i==0||decide (l.getD (i - 1) 0 < l.getD i 0))
def Eu(l:List Int)(k:Nat):Bool:=(List.range k).all fun i=>aF (l.getD i 0) 0 23&&(i==0||decide (l.getD (i - 1) 0 < l.getD i 0))
def arJ:Eu l (k+1)=(Eu l k&&(aF (l.getD k 0) 0 23&&(k==0||decide (l.getD (k - 1) 0 < l.getD k 0)))):=by
 simp [Eu,List.range_succ]
def arK(hk:k < l.length)(h:(aF (l.getD k 0) 0 23&&(k==0||decide (l.getD (k - 1) 0 < l.getD k 0)))=false):fa l=false:=by
 cases hs:fa l with
 | false=>rfl
 | true=>
  have:=List.all_eq_true.1 hs k (List.mem_range.2 hk)
  rw [h] at this;cases this
def Kg:(aF (l.getD k 0) 0 23&&(k==0||decide (l.getD (k - 1) 0 < l.getD k 0)))=true↔(0≤l.getD k 0∧l.getD k 0≤23∧(k=0∨l.getD (k - 1) 0 < l.getD k 0)):=by
 simp [aF,and_assoc]
def nA(q:Int→Bool)(k:Nat):List Int:=((List.range k).map fun i:Nat=>(i:Int)).filter q
def akM{q:Int→Bool}:nA q (k+1)=nA q k++if q k then [(k:Int)] else []:=by
 simp only [nA,List.range_succ,bo,gV,List.map_cons,List.map_nil,List.filter_cons,List.filter_nil]
def Ss(q:Int→Bool)(k:Nat):(nA q k).length≤k:=by
 have:=jr q ((List.range k).map fun i:Nat=>(i:Int))
 simpa [nA] using this
def qn(a b:List Int):List Int:=if fa a&&fa b then nA (fun x=>ce a x&&ce b x) 24 else []
def Su{x:Int}:ce l x=true↔x∈l:=by simp [ce]
def Sv(h:fa l=true)(hk:k < l.length):0≤l[k]∧l[k]≤23∧(k=0∨l.getD (k - 1) 0 < l[k]):=by
 have:=Kg.1 (List.all_eq_true.1 h k (List.mem_range.2 hk))
 rwa [show l.getD k 0=l[k] by simp [hk]] at this
def akN{l:List Int}(h:fa l=true):∀(j i:Nat) (hj:j < l.length) (hi:i < j),l[i] < l[j]
 | 0,i,_,hi=>by omega
 | j+1,i,hj,hi=>by
  have h1:=(Sv h hj).2.2
  have e:l.getD (j+1 - 1) 0=l[j]:=by simp [show j < l.length by omega]
  rw [e] at h1
  rcases Nat.lt_or_ge i j with h2|h2
  ·have:=akN h j i ab h2
   omega
  ·have:i=j:=by omega
   subst this
   omega
def arL(h:fa l=true):l.Pairwise (· < ·):=by
 rw [List.pairwise_iff_getElem]
 intro i j hi hj hij
 exact akN h j i hj hij
def akO{m:Int}:∀{l:List Int},l.Pairwise (· < ·)→l.filter (fun x=>decide (x < m+1))=l.filter (fun x=>decide (x < m))++(if ce l m then [m] else [])
 | [],_=>by simp [ce]
 | x::l,h=>by
  rw [List.pairwise_cons] at h
  have ih:=akO (m:=m) h.2
  have hhx:ce (x::l) m=(x==m||ce l m):=by simp [ce]
  by_cases h1:x < m
  ·have e1:decide (x < m+1)=true:=by simp;omega
   have e2:decide (x < m)=true:=Gl
   rw [List.filter_cons,List.filter_cons,if_pos e1,if_pos e2,ih,hhx,show (x==m)=false by simp;omega,Bool.false_or]
   rfl
  ·have hl:l.filter (fun x=>decide (x < m))=[]:=by
    rw [List.filter_eq_nil_iff];intro y hy;have:=h.1 y hy;simp;omega
   have hl1:l.filter (fun x=>decide (x < m+1))=[]:=by
    rw [List.filter_eq_nil_iff];intro y hy;have:=h.1 y hy;simp;omega
   have hm:ce l m=false:=by
    cases hc:ce l m with
    | false=>rfl
    | true=>have:=h.1 m (Su.1 hc);omega
   have e2:¬decide (x < m)=true:=Gl
   by_cases h2:x=m
   ·have e1:decide (x < m+1)=true:=by simp;omega
    rw [List.filter_cons,List.filter_cons,if_pos e1,if_neg e2,hl,hl1,hhx,hm,show (x==m)=true by simpa using h2]
    simp [h2]
   ·have e1:¬decide (x < m+1)=true:=by simp;omega
    rw [List.filter_cons,List.filter_cons,if_neg e1,if_neg e2,hl,hl1,hhx,hm,show (x==m)=false by simpa using h2]
    simp
def akP{l:List Int}(h:fa l=true):∀m:Nat,nA (fun x=>ce l x) m=l.filter (fun x=>decide (x < (m:Int)))
 | 0=>by
  rw [show nA (fun x=>ce l x) 0=[] from rfl,eq_comm,List.filter_eq_nil_iff]
  intro y hy
  obtain ⟨k,hk,rfl⟩:=List.mem_iff_getElem.1 hy
  have:=(Sv h hk).1
  simp;omega
 | m+1=>by
  rw [akM,akP h m]
  have:=akO (m:=(m:Int)) (arL h)
  rw [show ((m+1:Nat):Int)=(m:Int)+1 by omega,this]
def akQ(h:fa l=true):nA (fun x=>ce l x) 24=l:=by
 rw [akP h,List.filter_eq_self]
 intro y hy
 obtain ⟨k,hk,rfl⟩:=List.mem_iff_getElem.1 hy
 have:=(Sv h hk).2.1
 simp;omega
def arM(h:fa l=true):l.length≤24:=by
 have:=Ss (fun x=>ce l x) 24
 rwa [akQ h] at this
def Sw{a b:List Int}(h:fa a=true):a.filter (fun x=>ce b x)=nA (fun x=>ce a x&&ce b x) 24:=by
 conv=>lhs;rw [←akQ h]
 simp only [nA,List.filter_filter]
 congr 1
 funext x
 exact Bool.and_comm _ _
def arN{a b:List Int}(hk:0 < k→(fa a&&fa b)=true)(h:(k=a.length∧(fa a&&fa b)=true)∨(k=0∧(a.length=0∨(fa a&&fa b)=false))):(a.take k).filter (fun x=>ce b x)=qn a b:=by
 unfold qn
 rcases h with ⟨rfl,h⟩|⟨rfl,h⟩
 ·rw [bG,if_pos h]
  rw [aR] at h
  exact Sw h.1
 ·split
  ·rename_i h2
   rcases h with h|h
   ·have:a=[]:=iJ h
    subst this
    rw [aR] at h2
    rw [←Sw h2.1];simp
   ·rw [h] at h2;cases h2
  ·simp
def arO(a b:List Int):(qn a b).length≤24:=by
 unfold qn
 split
 ·exact Ss _ _
 ·simp
def mA(d:α)(p:α→Bool)(r:α→α→Bool)(l:List α)(k:Nat):Bool:=(List.range k).all fun i=>p (l.getD i d)&&(i==0||r (l.getD (i - 1) d) (l.getD i d))
def eT(d:α)(p:α→Bool)(r:α→α→Bool)(l:List α):Bool:=mA d p r l l.length
def Ev{r:α→α→Bool}{l:List α}:mA d p r l (k+1)=(mA d p r l k&&(p (l.getD k d)&&(k==0||r (l.getD (k - 1) d) (l.getD k d)))):=by
 simp [mA,List.range_succ]
def lK{r:α→α→Bool}{l:List α}:(p (l.getD k d)&&(k==0||r (l.getD (k - 1) d) (l.getD k d)))=true↔(p (l.getD k d)=true∧(k=0∨r (l.getD (k - 1) d) (l.getD k d)=true)):=by
 simp
def ud{r:α→α→Bool}{l:List α}(hk:k < l.length)(h:(p (l.getD k d)&&(k==0||r (l.getD (k - 1) d) (l.getD k d)))=false):eT d p r l=false:=by
 cases hs:eT d p r l with
 | false=>rfl
 | true=>
  have:=List.all_eq_true.1 hs k (List.mem_range.2 hk)
  rw [h] at this;cases this
def ue{r:α→α→Bool}{l:List α}(h:mA d p r l k=true)(hk:k=l.length):eT d p r l=true:=by subst hk;exact h
def fy{l:List α}(h:k < l.length):l.getD k d=l[k]:=pL
def oC(c:fw):Bool:=aF c.Field 0 2&&(decide (0≤c.Low)&&(decide (c.Low≤c.High)&&decide (c.High≤99)))
def rR(a b:fw):Bool:=decide (a.Field < b.Field)
def oD(l:List fw):Bool:=eT ⟨0,0,0⟩ oC rR l
def lL(v:Int):Bool:=aF v 0 2
def oE(l:List Int):Bool:=l.all lL&&aF l.length 1 3
def bp(q:aC7):Bool:=(aF q.Id 0 23&&(aF q.aDb 0 3&&decide ((q.aC8.length:Int)≤3)))&&(oD q.aC8&&oE q.Out)
def akR{n l h:Int}:aF n l h=true↔l≤n∧n≤h:=by simp [aF]
def gDt{l:List α}(h:i < l.length):l[i]=l.getD i d:=pL
def jx(l:List Int)(f:Int):Int:=l.getD f.toNat 0
def Ew(r:Row)(c:fw):Bool:=aF (jx r.Values c.Field) c.Low c.High
def ib(q:aC7)(r:Row):Bool:=(bA r&&bp q)&&q.aC8.all (Ew r)
def mB(f v:Int)(c:fw):Bool:=!(c.Field==f)||aF v c.Low c.High
def kU(q:aC7)(f v:Int):Bool:=q.aC8.all (mB f v)
def yf{r:Row}(h:bA r=true):r.Values.length=3:=by simp [bA,aF] at h;omega
def Ex{r:α→α→Bool}{l:List α}(h:eT d p r l=true)(hk:k < l.length):p l[k]=true:=by
 have:=List.all_eq_true.1 h k (List.mem_range.2 hk)
 rw [aR,fy hk] at this
 exact this.1
def akT{q:aC7}(h:bp q=true){c:fw}(hc:c∈q.aC8):0≤c.Field∧c.Field≤2:=by
 obtain ⟨k,hk,rfl⟩:=List.mem_iff_getElem.1 hc
 unfold bp oD at h
 simp only [aR] at h
 have:=Ex h.2.1 hk
 simp [oC,aF] at this
 omega
def arP{q:aC7}{r:Row}(hq:bp q=true)(hr:bA r=true)(h:∀i:Nat,i < r.Values.length→kU q (i:Int) (r.Values.getD i 0)=true):ib q r=true:=by
 unfold ib
 rw [hr,hq,Bool.and_self,Bool.true_and,nb]
 intro c hc
 have hf:=akT hq hc
 have hl:=yf hr
 have:=List.all_eq_true.1 (h c.Field.toNat ab) c hc
 unfold mB at this
 rw [Int.toNat_of_nonneg hf.1] at this
 simpa [Ew,jx] using this
def arQ{q:aC7}{r:Row}(h:kU q (i:Int) (r.Values.getD i 0)=false):ib q r=false:=by
 rw [←Bool.not_eq_true]
 intro hm
 unfold ib at hm
 rw [aR,nb] at hm
 have:kU q (i:Int) (r.Values.getD i 0)=true:=by
  unfold kU
  rw [nb]
  intro c hc
  unfold mB
  by_cases he:c.Field=(i:Int)
  ·have:=hm.2 c hc
   simp only [Ew,jx,he,Int.toNat_natCast] at this
   rw [this,Bool.or_true]
  ·simp [he]
 rw [h] at this;cases this
def qo(r:Row):Bool:=aF r.Id 0 999&&decide (r.Values.length=0)
def ee(u:aC9):Bool:=
 if u.Kind=1 then bA u.Row&&(decide (u.Field=0)&&decide (u.Value=0))
 else if u.Kind=2 then qo u.Row&&(decide (u.Field=0)&&decide (u.Value=0))
 else if u.Kind=3 then qo u.Row&&(aF u.Field 0 2&&aF u.Value 0 99) else false
def akU{x y:α}:it x y=false↔¬x=y:=⟨fun h e=>(by rw [Kf e] at h;simp at h),Sq⟩
def arR{x y:fw}:x=y↔x.Field=y.Field∧x.Low=y.Low∧x.High=y.High:=by cases x;cases y;simp [fw.mk.injEq]
def arS{x y:aC7}:x=y↔x.Id=y.Id∧x.aDb=y.aDb∧x.aC8=y.aC8∧x.Out=y.Out:=by cases x;cases y;simp [aC7.mk.injEq]
def arT{x y:aC9}:x=y↔x.Kind=y.Kind∧x.Row=y.Row∧x.Field=y.Field∧x.Value=y.Value:=by cases x;cases y;simp [aC9.mk.injEq]
def oF(q:aC7):Bool:=decide (q.Id=0)&&(decide (q.aDb=0)&&(decide (q.aC8.length=0)&&decide (q.Out.length=0)))
def oG(u:aC9):Bool:=decide (u.Kind=0)&&(decide (u.Row.Id=0)&&(decide (u.Row.Values.length=0)&&(decide (u.Field=0)&&decide (u.Value=0))))
def Ey(q:aC7):it q ⟨0,0,[],[]⟩=oF q:=by
 rw [Bool.eq_iff_iff,oA];cases q;simp [oF,List.length_eq_zero_iff]
def Ez(u:aC9):it u ⟨0,⟨0,[]⟩,0,0⟩=oG u:=by
 rw [Bool.eq_iff_iff,oA];rcases u with ⟨a,⟨b,c⟩,d,e⟩;simp [oG,List.length_eq_zero_iff,and_assoc]
def ew(x:fx):Bool:=
 if x.Kind=1 then bp x.aC7&&(aF x.Limit 0 32&&(decide (x.Id=0)&&(oG x.aC9&&decide (x.Steps=0))))
 else if x.Kind=2 then oF x.aC7&&(decide (x.Limit=0)&&(aF x.Id 0 23&&(oG x.aC9&&decide (x.Steps=0))))
 else if x.Kind=3 then oF x.aC7&&(decide (x.Limit=0)&&(decide (x.Id=0)&&(ee x.aC9&&decide (x.Steps=0))))
 else if x.Kind=4 then oF x.aC7&&(decide (x.Limit=0)&&(decide (x.Id=0)&&(oG x.aC9&&aF x.Steps 1 100)))
 else false
def arU{x y:eB}:x=y↔x.From=y.From∧x.To=y.To∧x.Set=y.Set:=by cases x;cases y;simp [eB.mk.injEq]
end
end Go.Proofs.YtmekkgdboplbjaaGreatDoor
namespace Go.Proofs.YtmekkgdboplbjaaGreatDoor
open Go Go.RowKit M Tryz
set_option maxRecDepth 10000
variable{Fz:aD}{w:World}
def Sx:prog.follows .mixedOrders=true:=au
def akV:aC prog 102=true:=au
def arV:aC prog 108=true:=au
def arW:aC prog 109=true:=au
def Sy:aC prog 110=true:=au
def arX:aC prog 111=true:=au
def arY:aC prog 112=true:=au
def Sz:aC prog 113=true:=au
def akW:aC prog 125=true:=au
def SA:aC prog 170=true:=au
def wd:aC prog 172=true:=au
def arZ:aC prog 175=true:=au
def Kh:aC prog 176=true:=au
def ar0:aC prog 177=true:=au
def ar1:aC prog 178=true:=au
def ar2:aC prog 179=true:=au
def ar3:aC prog 190=true:=au
def Ki:aC prog 191=true:=au
def ar4:aC prog 192=true:=au
def akX:aC prog 227=true:=au
def akY:aC prog 228=true:=au
def Kj:aC prog 230=true:=au
def SB:aC prog 232=true:=au
def ar5:aC prog 283=true:=au
def ar6:aC prog 285=true:=au
def ar7:aC prog 343=true:=au
def ar8:aC prog 344=true:=au
def akZ:aC prog 345=true:=au
def rT:aC prog 74=true:=au
def mC:aC prog 75=true:=au
def EA:aC prog 86=true:=au
def Kk:aC prog 90=true:=au
def Kl:aC prog 98=true:=au
def jf:cq prog 25 0=some 0:=au
def rU:cq prog 25 1=some 1:=au
def kV:cq prog 25 2=some 2:=au
def AV:cq prog 25 3=some 3:=au
def kW:cq prog 27 0=some 0:=au
def oH:cq prog 27 1=some 1:=au
def SC:cq prog 29 0=some 0:=au
def AW:cq prog 29 1=some 1:=au
def we:cq prog 29 2=some 3:=au
def qp:cq prog 29 3=some 4:=au
def ak0:cq prog 31 0=some 0:=au
def EB:cq prog 31 1=some 1:=au
def wg:cq prog 31 2=some 5:=au
def wh:cq prog 31 3=some 6:=au
def AX:cq prog 31 4=some 7:=au
def EC:cq prog 31 5=some 12:=au
def rV:cq prog 65 0=some 0:=au
def ED:cq prog 65 1=some 1:=au
def wi:cq prog 65 2=some 2:=au
def ar9:er prog 25=some [(0,1),(1,1),(2,1),(3,1)]:=au
def ak1:er prog 27=some [(0,1),(1,1)]:=au
def asa:er prog 29=some [(0,1),(1,2),(3,1),(4,1)]:=au
def asb(x y:Nat)(a0 a1 a2 b0 b1 b2:Int)(w:World):Sem.run prog (do eqGuard .neq 65 (.tmp x) (.tmp y) (.agg #[vI a0,vI a1,vI a2]) (.agg #[vI b0,vI b1,vI b2]);binOp .neq 65 (.agg #[vI a0,vI a1,vI a2]) (.agg #[vI b0,vI b1,vI b2]):Sem Value) w = .ok (.bool (!(a0==b0&&a1==b1&&a2==b2))) w:=by
 have hS:prog.underlying 65=some (.struct (prog.fieldsOf 65)):=au
 have hp:prog.stoodInHeld 65=false:=au
 have hm:prog.eqGuardType prog.depth 65=false:=au
 have hU:=underlying65
 have u3:=underlying3
 have a3_:=isAgg3
 have z3:=sizeOf3
 rw [Sem.run_bind,run_eqGuard_agg w _ _ _ _ _ _ hm,Result.andThen_ok,run_neq_struct]
 rw [show (10000:Nat)=9999+1 from rfl,run_equalIn_agg w 9999 65 _ _ hS hp]
 simp only [Program.fieldsOf,hU]
 go_simp
 by_cases h0:a0=b0<;>by_cases h1:a1=b1<;>by_cases h2:a2=b2<;>simp_all
def ic:fF prog 22=some (65,3,24):=au
def bY:fF prog 23=some (3,1,8):=au
def asc:fF prog 37=some (5,1,1):=au
def iu:fF prog 54=some (27,2,32):=au
def kq:dk prog 22=some (false,1):=au
def bZ:dk prog 23=some (false,1):=au
def gD:dk prog 25=some (true,4):=au
def jg:dk prog 27=some (true,2):=au
def mD:dk prog 29=some (true,5):=au
def aV:dk prog 3=some (false,1):=au
def AY:dk prog 65=some (true,3):=au
def lM:fE prog 25=some (.agg #[.int .i64 0,.int .i64 0,.slice none 0 0,.slice none 0 0]):=au
def jh:fE prog 27=some (.agg #[.int .i64 0,.slice none 0 0]):=au
def AZ:fE prog 29=some (.agg #[.int .i64 0,.int .i64 0,.slice none 0 0,.int .i64 0,.int .i64 0]):=au
def jy:fE prog 3=some (.int .i64 0):=au
def pp:fE prog 65=some (.agg #[.int .i64 0,.int .i64 0,.int .i64 0]):=au
def yg:aN [PV.val (.int .i64 0),PV.val (.int .i64 0),PV.sl aH [],PV.sl ai []] Fz w (Value.cells (.agg #[.int .i64 0,.int .i64 0,.slice none 0 0,.slice none 0 0])).toList []:=dR rfl (dR rfl (gA (gA (ne))))
def nB:aN [PV.val (.int .i64 0),PV.sl ai []] Fz w (Value.cells (.agg #[.int .i64 0,.slice none 0 0])).toList []:=dR rfl (gA (ne))
def Ba:aN [PV.val (.int .i64 0),PV.val (.int .i64 0),PV.sl ai [],PV.val (.int .i64 0),PV.val (.int .i64 0)] Fz w (Value.cells (.agg #[.int .i64 0,.int .i64 0,.slice none 0 0,.int .i64 0,.int .i64 0])).toList []:=dR rfl (dR rfl (gA (dR rfl (dR rfl (ne)))))
def Km:aN [PV.val (.int .i64 0),PV.val (.int .i64 0),PV.val (.int .i64 0)] Fz w (Value.cells (.agg #[.int .i64 0,.int .i64 0,.int .i64 0])).toList []:=dR rfl (dR rfl (dR rfl (ne)))
end Go.Proofs.YtmekkgdboplbjaaGreatDoor
namespace Go.Proofs.YtmekkgdboplbjaaGreatDoor
open Go Go.RowKit M Tryz
set_option maxRecDepth 10000
variable{now v:Int}{L:List bb}{i k j:Nat}{s:Store}{l:List aC7}{q:aC7}{f:Int}{out:List eB}{x:dL}{o:List Int}{r:Row}{a:aC6}{n:Int}{α:Type}{xs:List an}{sep:an}{e:av}{keep:List Int}{zs:List (bb×(Nat→Value))}
def v0:bb:=⟨0,[],0,0⟩
def eK(now:Int)(v:bb):Bool:=bA ⟨v.Id,v.Values⟩&&(aF v.aDk 0 now&&(decide (v.aDg = -1)||aF v.aDg (v.aDk+1) now))
def gE(a b:bb):Bool:=!(a.Id==b.Id)||((!(a.aDg == -1)&&decide (a.aDg≤b.aDk))||(!(b.aDg == -1)&&decide (b.aDg≤a.aDk)))
def gp(v:bb)(t:Int):Bool:=decide (v.aDk≤t)&&(decide (v.aDg = -1)||decide (v.aDg > t))
def yh(v w:bb):Bool:=gp v w.aDk||gp w v.aDk
def ak2{v w:bb}(hv:eK now v=true)(hw:eK now w=true):(v.Id==w.Id&&yh v w) = !gE v w:=by
 have h1:v.aDg = -1∨v.aDk < v.aDg:=by simp [eK,aF] at hv;omega
 have h2:w.aDg = -1∨w.aDk < w.aDg:=by simp [eK,aF] at hw;omega
 have h3:0≤v.aDk∧0≤w.aDk:=by simp [eK,aF] at hv hw;omega
 rw [Bool.eq_iff_iff]
 simp only [yh,gp,gE,aR,Bool.or_eq_true,Bool.not_eq_true',beq_iff_eq,decide_eq_true_eq,Bool.or_eq_false_iff,Bool.not_eq_false',Bool.and_eq_false_iff,decide_eq_false_iff_not]
 omega
def bQ(s:Store):List bb:=s.aC5.flatten
def ix(L:List bb)(i k:Nat):Bool:=(List.range k).all fun m=>gE (L.getD i v0) (L.getD m v0)
def pq(now:Int)(L:List bb)(i:Nat):Bool:=eK now (L.getD i v0)&&ix L i i
def pt(now:Int)(L:List bb)(i:Nat):Bool:=(List.range i).all (pq now L)
def nC(l:List bb):Bool:=decide ((l.length:Int)≤4)
def rW(s:Store):Bool:=aF s.aC5.length 1 8&&aF s.Now 0 100000
def cy(s:Store):Bool:=(rW s&&s.aC5.all nC)&&pt s.Now (bQ s) (bQ s).length
def asd:ix L i (k+1)=(ix L i k&&gE (L.getD i v0) (L.getD k v0)):=by simp [ix,List.range_succ]
def ak3:pt now L (i+1)=(pt now L i&&pq now L i):=by simp [pt,List.range_succ]
def SD(h:pt now L i=true)(hj:j < i):eK now (L.getD j v0)=true:=by
 have:=List.all_eq_true.1 h j (List.mem_range.2 hj)
 unfold pq at this
 rw [aR] at this
 exact this.1
def Kn(hi:i < (bQ s).length)(h:pq s.Now (bQ s) i=false):cy s=false:=by
 have:pt s.Now (bQ s) (bQ s).length=false:=by
  rw [←Bool.not_eq_true]
  intro hh
  have:=List.all_eq_true.1 hh i (List.mem_range.2 hi)
  rw [h] at this;cases this
 unfold cy;rw [this,Bool.and_false]
def ak4(h:eK now (L.getD i v0)=false):pq now L i=false:=by unfold pq;rw [h];rfl
def ak5(hk:k < i)(h:gE (L.getD i v0) (L.getD k v0)=false):pq now L i=false:=by
 have:ix L i i=false:=by
  rw [←Bool.not_eq_true]
  intro hh
  have:=List.all_eq_true.1 hh k (List.mem_range.2 hk)
  rw [h] at this;cases this
 unfold pq;rw [this,Bool.and_false]
def ak6(hk:k < s.aC5.length)(h:¬((s.aC5[k].length:Int)≤4)):cy s=false:=by
 have:s.aC5.all nC=false:=po hk (by simpa [nC] using h)
 unfold cy;rw [this];simp
def eC(s:Store)(k:Nat):List bb:=(s.aC5.take k).flatten
def EE(hk:k < s.aC5.length):eC s (k+1)=eC s k++s.aC5[k]:=by
 unfold eC;rw [cU hk,List.flatten_append];simp
def Ko(hk:k < s.aC5.length):bQ s=eC s k++(s.aC5[k]++(s.aC5.drop (k+1)).flatten):=by
 unfold bQ eC
 rw [←List.flatten_cons,←List.flatten_append,←List.drop_eq_getElem_cons hk,hO]
def SE:eC s s.aC5.length=bQ s:=by unfold eC bQ;rw [bG]
def ak7(hk:k < s.aC5.length)(hj:j < s.aC5[k].length):(eC s k).length+j < (bQ s).length∧(bQ s).getD ((eC s k).length+j) v0=s.aC5[k][j]:=by
 rw [Ko hk]
 refine ⟨by simp only [bV];omega,?_⟩
 rw [List.getD_eq_getElem?_getD,List.getElem?_append_right ab,show (eC s k).length+j - (eC s k).length=j by omega,List.getElem?_append_left hj,List.getElem?_eq_getElem hj]
 rfl
def ase(hk:k < s.aC5.length)(hj:j≤s.aC5[k].length):eC s k++s.aC5[k].take j=(bQ s).take ((eC s k).length+j):=by
 rw [Ko hk,List.take_length_add_append,List.take_append_of_le_length hj]
def qr(s:Store):(bQ s).length≤da s:=by
 unfold da iR bQ
 rw [List.length_flatten]
 have:(s.aC5.map List.length).sum≤(s.aC5.map cX).sum:=by
  generalize s.aC5=l
  induction l with
  | nil=>simp
  | cons x l ih=>simp only [List.map_cons,List.sum_cons];unfold cX at *;omega
 omega
def fJ(v:bb):Row:=⟨v.Id,v.Values⟩
def iE(h:cy s=true):s.aC5.length≤8∧1≤s.aC5.length∧0≤s.Now∧s.Now≤100000∧(∀g∈s.aC5,g.length≤4)∧∀i,i < (bQ s).length→eK s.Now ((bQ s).getD i v0)=true:=by
 unfold cy rW at h
 simp only [aR,aF,decide_eq_true_eq] at h
 refine ⟨ab,ab,ab,ab,fun g hg=>?_,fun i hi=>SD h.2 hi⟩
 have:=List.all_eq_true.1 h.1.2 g hg
 simp [nC] at this;omega
def Bb(h:cy s=true)(hk:k < s.aC5.length)(hj:j < s.aC5[k].length):eK s.Now s.aC5[k][j]=true:=by
 have h1:=ak7 hk hj
 rw [←h1.2]
 exact (iE h).2.2.2.2.2 _ h1.1
def qt:aC7:=⟨0,0,[],[]⟩
def nD:eB:=⟨0,0,[]⟩
def qu(a b:aC7):Bool:=decide (a.Id < b.Id)
def dZ(l:List aC7):Bool:=eT qt bp qu l&&decide ((l.length:Int)≤24)
def pu(h:dZ l=true):l.length≤24∧∀q∈l,bp q=true:=by
 unfold dZ at h
 rw [aR] at h
 refine ⟨by have:=of_decide_eq_true h.2;omega,fun q hq=>?_⟩
 obtain ⟨k,hk,rfl⟩:=List.mem_iff_getElem.1 hq
 exact Ex h.1 hk
def asg(h:bp q=true):q.aC8.length≤3∧q.Out.length≤3:=by
 unfold bp oE at h
 simp only [aR,aF,decide_eq_true_eq] at h
 omega
def gO(l:List aC7)(f v:Int):List Int:=(l.filter fun q=>kU q f v).map aC7.Id
def Kp(l:List aC7)(f v:Int):List Int:=if dZ l&&(aF f 0 2&&aF v 0 99) then gO l f v else []
def ash(hk:k < l.length)(h:kU l[k] f v=true):gO (l.take (k+1)) f v=gO (l.take k) f v++[l[k].Id]:=by
 unfold gO;rw [cU hk,gV];simp [h]
def asi(hk:k < l.length)(h:kU l[k] f v=false):gO (l.take (k+1)) f v=gO (l.take k) f v:=by
 unfold gO;rw [cU hk,gV];simp [h]
def EF(l:List aC7)(f v:Int):(gO l f v).length≤l.length:=by
 unfold gO;rw [aX];exact jr _ _
def asj(h:(k=l.length∧(dZ l&&(aF f 0 2&&aF v 0 99))=true)∨(k=0∧(l.length=0∨(dZ l&&(aF f 0 2&&aF v 0 99))=false))):gO (l.take k) f v=Kp l f v:=by
 unfold Kp
 rcases h with ⟨rfl,h⟩|⟨rfl,h⟩
 ·rw [if_pos h,bG]
 ·split
  ·rename_i h2
   rcases h with h|h
   ·rw [iJ h];rfl
   ·rw [h] at h2;cases h2
  ·rfl
noncomputable def mE(out:List eB)(s:List Int):Bool:=!(out.length==0)&&it (out.getD (out.length - 1) nD).Set s
def ak8{s:List Int}(h0:0 < out.length)(h:it (out.getD (out.length - 1) nD).Set s=true):mE out s=true:=by
 unfold mE;rw [h,Bool.and_true];simp;exact List.length_pos_iff.1 h0
noncomputable def Bc(out:List eB)(v:Int)(s:List Int):List eB:=if mE out s then out.set (out.length - 1) ⟨(out.getD (out.length - 1) nD).From,v,(out.getD (out.length - 1) nD).Set⟩ else out++[⟨v,v,s⟩]
def ak9{s:List Int}(h:mE out s=true):Bc out v s=out.set (out.length - 1) ⟨(out.getD (out.length - 1) nD).From,v,(out.getD (out.length - 1) nD).Set⟩:=if_pos h
def ala{s:List Int}(h:mE out s=false):Bc out v s=out++[⟨v,v,s⟩]:=if_neg fR
noncomputable def db(l:List aC7)(f:Int):Nat→List eB
 | 0=>[]
 | k+1=>Bc (db l f k) k (gO l f k)
def Kq(l:List aC7)(f:Int):∀k,(db l f k).length≤k
 | 0=>Nat.le_refl _
 | k+1=>by
  have:=Kq l f k
  rw [db]
  unfold Bc
  split
  ·rw [List.length_set];omega
  ·rw [bV];simp;omega
def alb(l:List aC7)(f:Int):∀k,∀s∈db l f k,s.Set.length≤l.length
 | 0,s,h=>nomatch h
 | k+1,s,h=>by
  have ih:=alb l f k
  rw [db] at h
  unfold Bc at h
  split at h
  ·rename_i hl
   rcases List.mem_or_eq_of_mem_set h with h|rfl
   ·exact ih s h
   ·have hne:0 < (db l f k).length:=by
     unfold mE at hl
     rw [aR] at hl
     have:=hl.1
     simp at this
     exact List.length_pos_iff.2 this
    have hlt:(db l f k).length - 1 < (db l f k).length:=ab
    show ((db l f k).getD _ nD).Set.length≤_
    rw [List.getD_eq_getElem?_getD,List.getElem?_eq_getElem hlt]
    exact ih _ (List.getElem_mem hlt)
  ·rcases List.mem_append.1 h with h|h
   ·exact ih s h
   ·simp at h;subst h;exact EF _ _ _
noncomputable def gq(l:List aC7)(f:Int):List eB:=if dZ l&&aF f 0 2 then db l f 100 else []
def alc(l:List aC7)(f:Int):(gq l f).length≤100∧∀s∈gq l f,s.Set.length≤24:=by
 unfold gq
 split
 ·rename_i h
  rw [aR] at h
  have:=pu h.1
  exact ⟨Kq _ _ _,fun s hs=>Nat.le_trans (alb _ _ _ s hs) this.1⟩
 ·exact ⟨aP,fun s hs=>nomatch hs⟩
def ji(v:Int)(s:eB):Bool:=aF v s.From s.To
def iS(l:List eB)(v:Int):List Int:=match l.find? (ji v) with
 | some s=>s.Set
 | none=>[]
def ald{l:List eB}(hk:k < l.length)(h:(l.take k).any (ji v)=false)(hy:ji v l[k]=true):iS l v=l[k].Set:=by
 unfold iS
 have e:l=l.take k++l[k]::l.drop (k+1):=Wj
 have hn:(l.take k).find? (ji v)=none:=by
  rw [List.find?_eq_none]
  intro x hx hp
  rw [List.any_eq_false] at h
  exact h x hx hp
 have:l.find? (ji v)=some l[k]:=by
  conv=>lhs;rw [e]
  rw [List.find?_append,hn,List.find?_cons_of_pos hy]
  rfl
 rw [this]
def asl{l:List eB}(h:l.any (ji v)=false):iS l v=[]:=by
 unfold iS
 have hn:l.find? (ji v)=none:=by
  rw [List.find?_eq_none]
  intro x hx hp
  rw [List.any_eq_false] at h
  exact h x hx hp
 rw [hn]
def ale{l:List eB}{m:Nat}(h:∀s∈l,s.Set.length≤m)(v:Int):(iS l v).length≤m:=by
 unfold iS
 split
 ·rename_i s hs;exact h s (List.mem_of_find?_eq_some hs)
 ·exact Nat.zero_le _
noncomputable def wj(x:dL)(k:Nat):Bool:=(List.range k).all fun f=>it (x.Fields.getD f []) (gq x.Queries (f:Int))
def asm:wj x (k+1)=(wj x k&&it (x.Fields.getD k []) (gq x.Queries (k:Int))):=by simp [wj,List.range_succ]
noncomputable def fb(x:dL):Bool:=(dZ x.Queries&&decide (x.Fields.length=3))&&wj x 3
def alf(hk:k < 3)(h:it (x.Fields.getD k []) (gq x.Queries (k:Int))=false):fb x=false:=by
 have:wj x 3=false:=by
  rw [←Bool.not_eq_true]
  intro hh
  have:=List.all_eq_true.1 hh k (List.mem_range.2 hk)
  rw [h] at this;cases this
 unfold fb;rw [this,Bool.and_false]
def SF(h:fb x=true):dZ x.Queries=true∧x.Fields.length=3∧∀f,f < 3→x.Fields.getD f []=gq x.Queries (f:Int):=by
 unfold fb at h
 simp only [aR,decide_eq_true_eq] at h
 exact ⟨h.1.1,h.1.2,fun f hf=>oA.1 (List.all_eq_true.1 h.2 f (List.mem_range.2 hf))⟩
noncomputable def kr(l:List aC7):dL:=if dZ l then ⟨l,[gq l 0,gq l 1,gq l 2]⟩ else ⟨[],[]⟩
def asn(h:dZ l=true):fb (kr l)=true:=by
 unfold kr
 rw [if_pos h]
 unfold fb
 rw [h]
 simp only [List.length_cons,List.length_nil,Bool.true_and,aR,decide_eq_true_eq]
 refine ⟨ak,?_⟩
 unfold wj
 rw [nb]
 intro f hf
 have:=List.mem_range.1 hf
 have:f=0∨f=1∨f=2:=ab
 rcases this with rfl|rfl|rfl<;>exact Kf rfl
noncomputable def wk(l:List aC7)(k:Nat):List (List eB):=(List.range k).map fun f:Nat=>gq l (f:Int)
def qv(l:List aC7):List Int:=l.map aC7.Id
def cb(o:List Int):Bool:=decide (o.length=3)&&(ce o 0&&(ce o 1&&ce o 2))
def Kr(h:cb o=true):o.length=3∧∀f∈o,0≤f∧f≤2:=by
 unfold cb at h
 simp only [aR,decide_eq_true_eq] at h
 obtain ⟨h1,h2,h3,h4⟩:=h
 match o,h1 with
 | [a,b,c],_=>
  simp [ce] at h2 h3 h4
  refine ⟨rfl,fun f hf=>?_⟩
  simp at hf
  omega
def Bd(o:List Int)(k:Nat):Bool:=(List.range k).all fun i=>aF (o.getD i 0) 0 2&&!ce (o.take i) (o.getD i 0)
def aso:Bd o (k+1)=(Bd o k&&(aF (o.getD k 0) 0 2&&!ce (o.take k) (o.getD k 0))):=by simp [Bd,List.range_succ]
def alg(h:o.length=3):Bd o 3=cb o:=by
 match o,h with
 | [a,b,c],_=>
  rw [Bool.eq_iff_iff]
  simp [Bd,cb,ce,aF,List.range_succ]
  omega
def asp(hl:o.length=3)(hk:k < 3)(h:(aF (o.getD k 0) 0 2&&!ce (o.take k) (o.getD k 0))=false):cb o=false:=by
 rw [←alg hl,←Bool.not_eq_true]
 intro hh
 have:=List.all_eq_true.1 hh k (List.mem_range.2 hk)
 rw [h] at this;cases this
def uf(x:dL)(r:Row)(s:List Int×Int)(f:Int):List Int×Int:=if s.1=[] then s else (qn s.1 (iS (x.Fields.getD f.toNat []) (jx r.Values f)),s.2+1+min (s.1.length:Int) ((iS (x.Fields.getD f.toNat []) (jx r.Values f)).length:Int))
def gt(x:dL)(r:Row)(o:List Int)(k:Nat):List Int×Int:=(o.take k).foldl (uf x r) (qv x.Queries,0)
def SG(hk:k < o.length)(h:(gt x r o k).1≠[]):gt x r o (k+1)=(qn (gt x r o k).1 (iS (x.Fields.getD o[k].toNat []) (jx r.Values o[k])),(gt x r o k).2+1+min ((gt x r o k).1.length:Int) ((iS (x.Fields.getD o[k].toNat []) (jx r.Values o[k])).length:Int)):=by
 unfold gt
 rw [cU hk,List.foldl_append]
 show uf x r (gt x r o k) o[k]=_
 unfold uf
 rw [if_neg h];rfl
def alh{x:dL}{r:Row}:∀(o:List Int) (s:List Int×Int),s.1=[]→o.foldl (uf x r) s=s
 | [],s,_=>rfl
 | f::o,s,h=>by
  rw [List.foldl_cons]
  have:uf x r s f=s:=if_pos h
  rw [this];exact alh o s h
noncomputable def mF(x:dL)(r:Row)(o:List Int):List Int×Int:=o.foldl (uf x r) (qv x.Queries,0)
def Ks(h:k=o.length∨(gt x r o k).1=[]):gt x r o k=mF x r o:=by
 rcases h with rfl|h
 ·unfold gt mF;rw [bG]
 ·unfold mF
  have e:o=o.take k++o.drop k:=(hO _ _).symm
  conv=>rhs;rw [e,List.foldl_append]
  exact (alh _ _ h).symm
def Kt{x:dL}(hx:x.Queries.length≤24)(r:Row)(o:List Int):∀k,(gt x r o k).1.length≤24∧0≤(gt x r o k).2∧(gt x r o k).2≤25 * k
 | 0=>by refine ⟨?_,?_,?_⟩<;>simp [gt,qv];exact hx
 | k+1=>by
  have ih:=Kt hx r o k
  by_cases hk:k < o.length
  ·by_cases h:(gt x r o k).1=[]
   ·have e:gt x r o (k+1)=gt x r o k:=by
     unfold gt
     rw [cU hk,List.foldl_append]
     exact if_pos h
    rw [e];omega
   ·rw [SG hk h]
    have:=arO (gt x r o k).1 (iS (x.Fields.getD o[k].toNat []) (jx r.Values o[k]))
    dsimp only;omega
  ·have e:gt x r o (k+1)=gt x r o k:=by
    unfold gt
    rw [qX ab,qX ab]
   rw [e];omega
def asq(hx:x.Queries.length≤24)(r:Row)(o:List Int):(mF x r o).1.length≤24∧0≤(mF x r o).2∧(mF x r o).2≤25 * o.length:=by
 have:=Kt hx r o o.length
 rwa [Ks (.inl rfl)] at this
def ali(h:dZ l=true):AU l≤1000:=by
 have h1:=pu h
 have h2:∀q∈l,eS q≤10:=fun q hq=>by
  have:=asg (h1.2 q hq)
  have hc:∀c:List fw,(c.map Et).sum=0:=by
   intro c
   induction c with
   | nil=>rfl
   | cons a c ih=>rw [List.map_cons,List.sum_cons,ih];rfl
  unfold eS ye
  simp only [fU,bh,hc]
  omega
 have h3:(l.map eS).sum≤l.length * 10:=by
  clear h h1
  induction l with
  | nil=>simp
  | cons q l ih=>
   have a:=h2 q aP
   have b:=ih fun x hx=>h2 x gU
   simp only [List.map_cons,List.sum_cons,List.length_cons,Nat.succ_mul];omega
 unfold AU
 have:l.length * 10≤24 * 10:=Nat.mul_le_mul h1.1 (Nat.le_refl _)
 omega
def asr:wk l (k+1)=wk l k++[gq l (k:Int)]:=by unfold wk;rw [List.range_succ,bo];rfl
def alj:(wk l k).length=k:=by unfold wk;rw [aX,List.length_range]
def ass(h:dZ l=true):kr l=⟨l,wk l 3⟩:=by unfold kr;rw [if_pos h];rfl
def ast(h:dZ l=false):kr l=⟨[],[]⟩:=by unfold kr;rw [if_neg fR]
def PV.to_eqv{o:Fl}{es ds:List (List PV)}(h:es=ds):(PV.sl o es).To (PV.sl .v ds):=by subst h;exact uX
def gF{a b:an}(h:a=b):[PV.val (.string (B a))]=[PV.val (.string (B b))]:=by rw [h]
abbrev itoa(n:Int):an:=Lib.itoa n
def bv(h:dN n):(itoa n).length≤21:=Lib.itoa_length_le n h.1 h.2
def EG{u:Nat}(h:10≤u):Lib.decDigits u=Lib.decDigits (u / 10)++[UInt8.ofNat (48+u%10)]:=by rw [Lib.decDigits,dif_neg ab]
def wl{u:Nat}(h:u < 10):Lib.decDigits u=[UInt8.ofNat (48+u)]:=by rw [Lib.decDigits,dif_pos h]
def ug(n q:Int)(s:an):Prop:=(if q=0 then s else Lib.decDigits q.natAbs++s)=Lib.decDigits n.natAbs
def asu(h:n≠0):ug n n []:=by unfold ug;rw [if_neg h,gj]
def Be(q:Int):(q.tdiv 10).natAbs=q.natAbs / 10:=by rw [Int.natAbs_tdiv];rfl
def asv(q:Int):(q.tmod 10).natAbs=q.natAbs%10:=by rw [Int.natAbs_tmod];rfl
def asw{q d:Int}{s:an}(h:ug n q s)(hq:q≠0)(hd:d=((q.natAbs%10:Nat):Int)):ug n (q.tdiv 10) (nj [48+d]++s):=by
 have e:nj [48+d]=[UInt8.ofNat (48+q.natAbs%10)]:=by
  subst hd
  show [UInt8.ofNat (48+((q.natAbs%10:Nat):Int)).toNat]=_
  congr 2
 unfold ug at h ⊢
 rw [if_neg hq] at h
 rw [e,←h]
 by_cases h0:q.tdiv 10=0
 ·rw [if_pos h0]
  have:q.natAbs / 10=0:=by rw [←Be,h0];rfl
  rw [wl ab,show q.natAbs%10=q.natAbs by omega]
 ·rw [if_neg h0]
  have:q.natAbs / 10≠0:=by rw [←Be];omega
  rw [EG (u:=q.natAbs) ab,Be,bn]
def asx{s:an}(h:ug n 0 s):s=Lib.decDigits n.natAbs:=by unfold ug at h;rwa [if_pos rfl] at h
def alk{q:Int}{s:an}(h:ug n q s)(hn:dN n):s.length≤20:=by
 have hd:(Lib.decDigits n.natAbs).length≤20:=by
  rw [Lib.decDigits_length];exact Lib.nDigits_le20 _ (by unfold dN at hn;omega)
 rw [←h] at hd
 split at hd
 ·exact hd
 ·rw [bV] at hd;omega
def wm(h:n < 0):itoa n=45::Lib.decDigits n.natAbs:=by show Lib.itoa n=_;rw [Lib.itoa,if_pos h]
def rZ(h:¬n < 0):itoa n=Lib.decDigits n.natAbs:=by show Lib.itoa n=_;rw [Lib.itoa,if_neg h];congr 1;omega
def asy:itoa 0=[48]:=by rw [rZ ab];exact wl ak
def Bf{P:List α→Prop}(h0:P [])(h1:∀l a,P l→P (l++[a]))(l:List α):P l:=by
 have h:∀r:List α,P r.reverse:=by
  intro r
  induction r with
  | nil=>exact h0
  | cons a r ih=>rw [List.reverse_cons];exact h1 _ _ ih
 simpa using h l.reverse
def pv{y:an}:cI (xs++[y]) sep=(if xs=[] then y else cI xs sep++sep++y):=by
 cases xs with
 | nil=>simp [cI,Lib.join_one]
 | cons x r=>
  rw [if_neg aP]
  unfold cI
  rw [List.cons_append,Lib.join_cons,Lib.join_cons]
  simp [Lib.joinTail,bn]
def EH:cI [] sep=[]:=rfl
def wn{m:Nat}(h:∀x∈xs,x.length≤m):(cI xs sep).length≤xs.length * (m+sep.length):=by
 induction xs using Bf with
 | h0=>simp [EH]
 | h1 xs y ih=>
  have h1:=ih fun x hx=>h x gU
  have h2:=h y aP
  rw [pv,bV,List.length_singleton,Nat.succ_mul]
  split
  ·omega
  ·simp only [bV];omega
def SH{a b:an}(h:xs≠[]):cI (xs++[a,b]) sep=cI xs sep++sep++a++sep++b:=by
 rw [show xs++[a,b]=(xs++[a])++[b] by simp,pv,if_neg aP,pv,if_neg h]
def fc(l:List Int):an:=cI (l.map itoa) [44]
def px{l:List Int}(h:∀x∈l,dN x):(fc l).length≤l.length * 22:=by
 have:=wn (m:=21) (sep:=[44]) (xs:=l.map itoa) (by intro x hx;obtain ⟨y,hy,rfl⟩:=List.mem_map.1 hx;exact bv (h y hy))
 simpa [fc] using this
def asz{l:List Int}(hk:k < l.length):fc (l.take (k+1))=(if k=0 then itoa l[k] else fc (l.take k)++[44]++itoa l[k]):=by
 unfold fc
 rw [wc hk,bo,List.map_cons,List.map_nil,pv]
 by_cases h:k=0
 ·subst h;simp
 ·rw [if_neg h,if_neg]
  intro e
  have:=congrArg List.length e
  simp at this
  rcases this with e|e
  ·exact h e
  ·rw [e] at hk;simp at hk
def sa(x:cw)(i:Nat):Bool:=aF (x.aDc.getD i 0) 0 3&&aF (x.Rows.getD i 0) 0 x.Base
def uh(x:cw)(k:Nat):Bool:=(List.range k).all (sa x)
def asA{x:cw}:uh x (k+1)=(uh x k&&sa x k):=by simp [uh,List.range_succ]
def oI(x:cw):Bool:=fa x.Ids&&(aF x.Ids.length 1 8&&(decide (x.aDc.length=x.Ids.length)&&decide (x.Rows.length=x.Ids.length)))
def du(x:cw):Bool:=(oI x&&uh x x.Ids.length)&&(aF x.Segment 0 7&&aF x.Base 0 4)
def sb{x:cw}(h:oI x=true):1≤x.Ids.length∧x.Ids.length≤8∧x.aDc.length=x.Ids.length∧x.Rows.length=x.Ids.length:=by
 simp [oI,aF] at h;omega
def asB{x:cw}(hk:k < x.Ids.length)(h:sa x k=false):du x=false:=by
 have:uh x x.Ids.length=false:=by
  rw [←Bool.not_eq_true]
  intro hh
  have:=List.all_eq_true.1 hh k (List.mem_range.2 hk)
  rw [h] at this;cases this
 unfold du;rw [this];simp
def wo{x:cw}(h:du x=true):oI x=true∧0≤x.Base∧x.Base≤4∧∀i,i < x.Ids.length→0≤x.Rows.getD i 0∧x.Rows.getD i 0≤4:=by
 unfold du at h
 simp only [aR] at h
 have hb:0≤x.Base∧x.Base≤4:=by have:=h.2.2;simp [aF] at this;exact this
 refine ⟨h.1.1,hb.1,hb.2,fun i hi=>?_⟩
 have:=List.all_eq_true.1 h.1.2 i (List.mem_range.2 hi)
 simp only [sa,aF,aR,decide_eq_true_eq] at this
 omega
def alm{l:List α}{f:α→Int}(hk:k < l.length):((l.take (k+1)).map f).sum=((l.take k).map f).sum+f l[k]:=by
 rw [wc hk,bo,List.sum_append];simp
def aln{l:List α}{f:α→Int}{m:Int}(h:∀x,0≤f x∧f x≤m)(hm:0≤m):0≤(l.map f).sum∧(l.map f).sum≤l.length * m:=by
 induction l with
 | nil=>simp
 | cons a l ih=>
  have:=h a
  simp only [List.map_cons,List.sum_cons,List.length_cons,Int.natCast_add,Int.natCast_one,Int.add_mul,Int.one_mul]
  omega
def Ku{f:Nat→Int}:((List.range (k+1)).map f).sum=((List.range k).map f).sum+f k:=by
 rw [List.range_succ,bo,List.sum_append];simp
def yi{f:Nat→Int}{m:Int}{n:Nat}(h:∀i,i < n→0≤f i∧f i≤m):∀k,k≤n→0≤((List.range k).map f).sum∧((List.range k).map f).sum≤k * m
 | 0,_=>by simp
 | k+1,hk=>by
  have h1:=yi h k ab
  have h2:=h k ab
  rw [Ku]
  have e:((k+1:Nat):Int) * m=k * m+m:=by rw [Int.natCast_add,Int.add_mul,Int.natCast_one,Int.one_mul]
  omega
def yj(x:cw)(i:Nat):Int:=x.Rows.getD i 0
def sd(x:cw):Int:=if du x then x.Base+((List.range x.Rows.length).map (yj x)).sum else 0
def SI(x:cw):0≤sd x∧sd x≤36:=by
 unfold sd
 split
 ·rename_i h
  obtain ⟨h1,h2,h3,h4⟩:=wo h
  have h5:=sb h1
  have:=yi (f:=yj x) (m:=4) (n:=x.Ids.length) (fun i hi=>h4 i hi) x.Rows.length ab
  omega
 ·omega
def ui(l:List cw):Int:=(l.map sd).sum
def mG(x:cw)(i:Nat):Int:=x.Rows.getD i 0+x.Base.tdiv x.Ids.length+(if (i:Int) < x.Base.tmod x.Ids.length then 1 else 0)
def ie(x:cw):List Int:=if du x then (List.range x.Ids.length).map (mG x) else []
def asC{x:cw}(h:du x=true)(hi:i < x.Ids.length):0≤mG x i∧mG x i≤9:=by
 obtain ⟨h1,h2,h3,h4⟩:=wo h
 have h5:=sb h1
 have h6:=h4 i hi
 have h7:=Int.tdiv_nonneg h2 (by omega:(0:Int)≤x.Ids.length)
 have h8:=Int.tdiv_le_self (x.Ids.length:Int) h2
 unfold mG
 split<;>omega
def SJ(x:cw):(ie x).length≤8∧(du x=true→(ie x).length=x.Ids.length):=by
 unfold ie
 split
 ·rename_i h
  have h5:=sb (wo h).1
  rw [aX,List.length_range];exact ⟨ab,fun _=>rfl⟩
 ·rename_i h;exact ⟨aP,fun hh=>absurd hh h⟩
def SK{x:cw}(h:k < (ie x).length):du x=true∧k < x.Ids.length∧k < x.aDc.length∧0≤(ie x).getD k 0∧(ie x).getD k 0≤9:=by
 unfold ie at h ⊢
 split at h
 ·rename_i hk
  rw [aX,List.length_range] at h
  have h5:=sb (wo hk).1
  refine ⟨hk,h,ab,?_⟩
  have:=asC hk h
  rw [if_pos hk,List.getD_eq_getElem?_getD,List.getElem?_map,List.getElem?_range h]
  exact this
 ·simp at h
def qw(t:Int)(x:cw)(k:Nat):Int:=if x.aDc.getD k 0=t then (ie x).getD k 0 else 0
def wq(t:Int)(x:cw):Int:=((List.range (ie x).length).map (qw t x)).sum
def asD{x:cw}(h:(k=x.Ids.length∧du x=true)∨(k=0∧(x.Ids.length=0∨du x=false))):(List.range k).map (mG x)=ie x:=by
 unfold ie
 rcases h with ⟨rfl,h⟩|⟨rfl,h⟩
 ·rw [if_pos h]
 ·split
  ·rename_i h2
   rcases h with h|h
   ·rw [h]
   ·rw [h] at h2;cases h2
  ·rfl
def SL{t:Int}{x:cw}(h:k < (ie x).length):0≤qw t x k∧qw t x k≤9:=by
 have:=SK h
 unfold qw
 split<;>omega
def asE(t:Int)(x:cw):0≤wq t x∧wq t x≤72:=by
 have h1:=yi (f:=qw t x) (m:=9) (n:=(ie x).length) (fun i hi=>SL hi) _ (Nat.le_refl _)
 have h2:=(SJ x).1
 unfold wq
 omega
def qx(l:List cw)(t:Int):Int:=(l.map (wq t)).sum
def EI(l:List cw):0≤ui l∧ui l≤l.length * 36:=aln (fun x=>SI x) ak
def EJ(l:List cw)(t:Int):0≤qx l t∧qx l t≤l.length * 72:=aln (fun x=>asE t x) ak
section
def jS:aC6:=⟨⟨0,0,[],[]⟩,0,[],0,0,0,[]⟩
def oJ(a b:aC6):Bool:=decide (a.aC7.Id < b.aC7.Id)
def nE(n v:Int):Bool:=aF v 0 (n - 1)
def nF(a b:Int):Bool:=decide (a < b)
def nG(l:List Int)(n:Int):Bool:=eT 0 (nE n) nF l&&decide (0 < l.length)
def fV(s:Store)(a:aC6):Bool:=nG a.aDf s.aC5.length&&(bp a.aC7&&(aF a.Time 0 s.Now&&(aF a.Age 0 100000&&(aF a.Sent 0 1000&&(aF a.Cap 0 32&&iD a.Rows)))))
def kX(now:Int)(f:gZ):Bool:=bp f.aC7&&(aF f.Time 0 now&&(aF f.Steps 0 100000&&iD f.Rows))
def lO(e:av):Bool:=(cy e.Store&&(aF e.aDa 0 (e.Store.aC5.length - 1)&&(cb e.Order&&aF e.Steps 0 100000)))&&(decide ((e.aC6.length:Int)≤8)&&(decide ((e.Done.length:Int)≤1000)&&decide ((e.aDi.length:Int)≤1000)))
def aU(e:av):Bool:=lO e&&(eT jS (fV e.Store) oJ e.aC6&&(e.Done.all (kX e.Store.Now)&&e.aDi.all du))
def alo(h:lO e=false):aU e=false:=by unfold aU;rw [h];rfl
def alp(h:eT jS (fV e.Store) oJ e.aC6=false):aU e=false:=MF
def alq(h:e.Done.all (kX e.Store.Now)=false):aU e=false:=MF
def alr(h:e.aDi.all du=false):aU e=false:=MF
def als(h1:lO e=true)(h2:eT jS (fV e.Store) oJ e.aC6=true)(h3:e.Done.all (kX e.Store.Now)=true)(h4:e.aDi.all du=true):aU e=true:=by unfold aU;rw [h1,h2,h3,h4];rfl
def gu(h:aU e=true):cy e.Store=true∧cb e.Order=true∧0≤e.aDa∧e.aDa.toNat < e.Store.aC5.length∧e.aC6.length≤8∧e.Done.length≤1000∧e.aDi.length≤1000∧0≤e.Steps∧e.Steps≤100000∧(∀a∈e.aC6,fV e.Store a=true)∧(∀f∈e.Done,kX e.Store.Now f=true)∧∀c∈e.aDi,du c=true:=by
 unfold aU lO at h
 simp only [aR,aF,decide_eq_true_eq] at h
 obtain ⟨⟨⟨h1,h2,h3,h4⟩,h5,h6,h7⟩,h8,h9,h10⟩:=h
 refine ⟨h1,h3,ab,ab,ab,ab,ab,ab,ab,fun a ha=>?_,List.all_eq_true.1 h9,List.all_eq_true.1 h10⟩
 obtain ⟨k,hk,rfl⟩:=List.mem_iff_getElem.1 ha
 exact Ex h8 hk
def yk(o:List Int)(k:Nat):Bool:=(List.range k).all fun i=>ce o (i:Int)
def Kv:yk o (k+1)=(yk o k&&ce o (k:Int)):=by simp [yk,List.range_succ]
def alt:(yk o 3&&decide (o.length=3))=cb o:=by
 rw [Bool.and_comm,cb,Kv,Kv,Kv]
 show _=(decide (o.length=3)&&(ce o ((0:Nat):Int)&&(ce o ((1:Nat):Int)&&ce o ((2:Nat):Int))))
 simp [yk,Bool.and_assoc]
def asF(hk:k < 3)(h:ce o (k:Int)=false):cb o=false:=by
 rw [←alt]
 have:yk o 3=false:=by
  rw [←Bool.not_eq_true]
  intro hh
  have:=List.all_eq_true.1 hh k (List.mem_range.2 hk)
  rw [h] at this;cases this
 rw [this];rfl
def kY(a:aC6):Bool:=decide (a.Cap=0)||decide (a.Sent < a.Cap)
def yl(e:av)(i:Int):Bool:=aU e&&aF i 0 (e.aC6.length - 1)&&kY (e.aC6.getD i.toNat jS)
def jT(e:av)(a:aC6):Bool:=kY a&&ce a.aDf e.aDa
def iF(e:av)(l:List aC6):List Int:=(l.filter (jT e)).map fun a=>a.aC7.Id
def parts(e:av):List Int:=if aU e then iF e e.aC6 else []
section
variable{e:av}{l:List aC6}{k:Nat}{id:Int}
def alu(h:aU e=true)(hk:k < e.aC6.length):yl e (k:Int)=kY e.aC6[k]:=by
 unfold yl
 rw [h,show aF (k:Int) 0 (e.aC6.length - 1)=true by simp [aF];omega,Int.toNat_natCast,List.getD_eq_getElem?_getD,List.getElem?_eq_getElem hk];rfl
def asG(hk:k < l.length)(h:jT e l[k]=true):iF e (l.take (k+1))=iF e (l.take k)++[l[k].aC7.Id]:=by
 unfold iF;rw [cU hk,gV];simp [h]
def asH(hk:k < l.length)(h:jT e l[k]=false):iF e (l.take (k+1))=iF e (l.take k):=by
 unfold iF;rw [cU hk,gV];simp [h]
def SM:(iF e l).length≤l.length:=by
 unfold iF;rw [aX];exact jr _ _
def uj(h:aU e=true):parts e=iF e e.aC6:=if_pos h
def alv(h:aU e=false):parts e=[]:=if_neg fR
def asJ(h:(k=e.aC6.length∧aU e=true)∨(k=0∧(e.aC6.length=0∨aU e=false))):iF e (e.aC6.take k)=parts e:=by
 rcases h with ⟨rfl,h⟩|⟨rfl,h⟩
 ·rw [bG,uj h]
 ·rw [List.take_zero]
  rcases h with h|h
  ·unfold parts
   rw [iJ h]
   split<;>rfl
  ·rw [alv h];rfl
def ym:(parts e).length≤e.aC6.length:=by
 unfold parts
 split
 ·exact SM
 ·exact Nat.zero_le _
def hE(id:Int)(a:aC6):Bool:=a.aC7.Id==id
def ez(l:List aC6)(id:Int):Int:=if l.any (hE id) then ((l.findIdx (hE id):Nat):Int) else -1
def SN(hk:k < l.length)(h:(l.take k).any (hE id)=false)(hy:hE id l[k]=true):ez l id=(k:Int):=by
 have e:l.findIdx (hE id)=k:=by
  rw [List.findIdx_eq hk]
  refine ⟨hy,fun j hj=>?_⟩
  rw [List.any_eq_false] at h
  have:=h l[j] XI
  simpa using this
 unfold ez
 rw [if_pos (yd hk hy),e]
def asK(h:l.any (hE id)=false):ez l id = -1:=if_neg fR
def SO(h:id∈iF e l):0≤ez l id∧(ez l id).toNat < l.length:=by
 unfold iF at h
 obtain ⟨a,ha,rfl⟩:=List.mem_map.1 h
 have ha:=(List.mem_filter.1 ha).1
 have hany:l.any (hE a.aC7.Id)=true:=List.any_eq_true.2 ⟨a,ha,by simp [hE]⟩
 have hlt:l.findIdx (hE a.aC7.Id) < l.length:=List.findIdx_lt_length_of_exists ⟨a,ha,by simp [hE]⟩
 unfold ez
 rw [if_pos hany]
 omega
end
def kt(l:List aC6)(ids:List Int):List aC7:=ids.map fun id=>(l.getD (ez l id).toNat jS).aC7
def EK(e:av):List Row:=(e.Store.aC5.getD e.aDa.toNat []).map fJ
noncomputable def uk(x:dL)(o:List Int)(r:Row):Int:=if bA r then (mF x r o).2 else 0
noncomputable def qy(x:dL)(o:List Int)(l:List Row):Int:=(l.map (uk x o)).sum
noncomputable def jU(x:dL)(l:List Row)(o:List Int):Int:=if fb x&&cb o then qy x o l else 0
def asL{l:List Row}(hk:k < l.length):qy x o (l.take (k+1))=qy x o (l.take k)+uk x o l[k]:=by
 unfold qy;rw [cU hk,bo,List.sum_append];simp
def SP(hx:fb x=true)(ho:cb o=true)(r:Row):0≤uk x o r∧uk x o r≤75:=by
 unfold uk
 split
 ·have h1:=asq (pu (SF hx).1).1 r o
  have h2:=(Kr ho).1
  omega
 ·omega
def SQ{x:dL}{o:List Int}(hx:fb x=true)(ho:cb o=true):∀l:List Row,0≤qy x o l∧qy x o l≤75 * l.length
 | []=>by simp [qy]
 | r::l=>by
  have h1:=SP hx ho r
  have h2:=SQ hx ho l
  unfold qy at h2 ⊢
  rw [List.map_cons,List.sum_cons,List.length_cons]
  omega
def asM{l:List Row}(h:(k=l.length∧(fb x&&cb o)=true)∨(k=0∧(l.length=0∨(fb x&&cb o)=false))):qy x o (l.take k)=jU x l o:=by
 unfold jU
 rcases h with ⟨rfl,h⟩|⟨rfl,h⟩
 ·rw [if_pos h,bG]
 ·rw [List.take_zero]
  split
  ·rename_i h2
   rcases h with h|h
   ·rw [iJ h]
   ·rw [h] at h2;cases h2
  ·rfl
def alw(h:aU e=true):(EK e).length≤4:=by
 have hef:=gu h
 have hcl:=hef.2.2.2.1
 unfold EK
 rw [aX,List.getD_eq_getElem?_getD,List.getElem?_eq_getElem hcl]
 exact (iE hef.1).2.2.2.2.1 _ (List.getElem_mem hcl)
def di:List (List Int):=[[0,1,2],[0,2,1],[1,0,2],[1,2,0],[2,0,1],[2,1,0]]
noncomputable def ku(x:dL)(l:List Row):Nat→List Int
 | 0=>[0,1,2]
 | k+1=>if jU x l (di.getD k []) < jU x l (ku x l k) then di.getD k [] else ku x l k
noncomputable def wt(x:dL)(l:List Row):List Int:=if fb x then ku x l 6 else []
noncomputable def se(x:dL)(l:List Row)(k:Nat):List Int:=if k=0 then [] else ku x l k
noncomputable def wu(x:dL)(l:List Row)(k:Nat):Int:=if k=0 then 0 else jU x l (ku x l k)
def SR(h:k < di.length):di[k].length=3:=by
 have:∀o∈di,o.length=3:=ak
 exact this _ (List.getElem_mem h)
def SS{x:dL}{l:List Row}:∀k,k≤6→(ku x l k).length=3
 | 0,_=>rfl
 | k+1,h=>by
  rw [ku]
  split
  ·have hk:k < di.length:=by show k < 6;omega
   rw [←dM (d:=([]:List Int)) hk];exact SR hk
  ·exact SS k ab
def Kw{l:List Row}(hk:k < di.length)(h:jU x l di[k] < jU x l (ku x l k)):ku x l (k+1)=di[k]:=by
 have e:=dM (d:=([]:List Int)) hk
 rw [ku,←e,if_pos h]
def Kx{l:List Row}(hk:k < di.length)(h:¬jU x l di[k] < jU x l (ku x l k)):ku x l (k+1)=ku x l k:=by
 have e:=dM (d:=([]:List Int)) hk
 rw [ku,←e,if_neg h]
def asN{l:List Row}(hk:k < di.length)(h:k=0∨jU x l di[k] < wu x l k):se x l (k+1)=di[k]∧wu x l (k+1)=jU x l di[k]:=by
 unfold se wu at *
 rw [if_neg ab,if_neg ab]
 have hb:ku x l (k+1)=di[k]:=by
  rcases h with rfl|h
  ·by_cases h2:jU x l di[0] < jU x l (ku x l 0)
   ·exact Kw hk h2
   ·rw [Kx hk h2];rfl
  ·by_cases h0:k=0
   ·subst h0
    by_cases h2:jU x l di[0] < jU x l (ku x l 0)
    ·exact Kw hk h2
    ·rw [Kx hk h2];rfl
   ·rw [if_neg h0] at h;exact Kw hk h
 rw [hb];exact ⟨rfl,rfl⟩
def asO{l:List Row}(hk:k≤6)(h:(se x l k).length=0):k=0:=by
 by_cases h0:k=0
 ·exact h0
 ·exfalso
  have:=SS (x:=x) (l:=l) k hk
  unfold se at h
  rw [if_neg h0] at h
  omega
def asP{o:Fl}{es es':List (List PV)}(h:es=es'):(PV.sl o es).To (PV.sl .v es'):=by subst h;exact uX
def asQ{l:List Row}(hk:k < di.length)(h0:k≠0)(h:¬jU x l di[k] < wu x l k):se x l (k+1)=se x l k∧wu x l (k+1)=wu x l k:=by
 unfold se wu at *
 rw [if_neg h0] at h
 have e1:¬k+1=0:=ab
 simp only [if_neg e1,if_neg h0,Kx hk h,and_self]
def asR{l:List Row}(h:(k=di.length∧fb x=true)∨(k=0∧(di.length=0∨fb x=false))):se x l k=wt x l:=by
 unfold wt
 rcases h with ⟨rfl,h⟩|⟨rfl,h⟩
 ·rw [if_pos h];rfl
 ·rcases h with h|h
  ·exact absurd h ak
  ·rw [if_neg fR];rfl
noncomputable def oK(e:av):List Int:=if aU e then wt (kr (kt e.aC6 (parts e))) (EK e) else []
def SU(e:av):(oK e).length≤3:=by
 unfold oK wt
 split
 ·split
  ·exact Nat.le_of_eq (SS 6 (Nat.le_refl _))
  ·exact Nat.zero_le _
 ·exact Nat.zero_le _
end
def Bg(a:aC6):an:=itoa a.aC7.Id++[32,97,116,32]++itoa a.Time++[32,108,101,102,116,32]++itoa (a.aDf.length:Int)++[32,114,111,119,115,32]++itoa (a.Rows.length:Int)
def lP(a:aC6):an:=if kY a then Bg a else Bg a++[32,97,115,108,101,101,112]
noncomputable def eg(e:av):List an:=if aU e then e.aC6.map lP else []
def alx(h:kY a=true):lP a=Bg a:=if_pos h
def aly(h:kY a=false):lP a=Bg a++[32,97,115,108,101,101,112]:=if_neg fR
def EL(h:aU e=true):eg e=e.aC6.map lP:=if_pos h
def alz(h:aU e=false):eg e=[]:=if_neg fR
def SV(h:fV s a=true):(0≤a.aC7.Id∧a.aC7.Id≤23)∧(0≤a.Time∧a.Time≤s.Now)∧a.Rows.length≤1000:=by
 unfold fV bp iD at h
 simp only [aR,aF,decide_eq_true_eq] at h
 omega
def alA(e:av):(eg e).length≤e.aC6.length:=by
 unfold eg
 split
 ·rw [aX];exact Nat.le_refl _
 ·exact Nat.zero_le _
def asS(h:(k=e.aC6.length∧aU e=true)∨(k=0∧(e.aC6.length=0∨aU e=false))):(e.aC6.take k).map lP=eg e:=by
 rcases h with ⟨rfl,h⟩|⟨rfl,h⟩
 ·rw [bG,EL h]
 ·rcases h with h|h
  ·unfold eg
   rw [iJ h]
   split<;>rfl
  ·rw [alz h];rfl
def asT(h0:(itoa a.aC7.Id).length≤21)(h1:(itoa a.Time).length≤21)(h2:(itoa (a.aDf.length:Int)).length≤21)(h3:(itoa (a.Rows.length:Int)).length≤21):(lP a).length≤150:=by
 unfold lP Bg
 split<;>simp only [bV,List.length_cons,List.length_nil]<;>omega
def lQ(s:Store):Nat:=(bQ s).length
def ul(e:av):List an:=[[115,116,101,112],itoa e.Steps,[99,117,114,115,111,114],itoa e.aDa,[116,105,109,101],itoa e.Store.Now,[118,101,114,115,105,111,110,115],itoa (lQ e.Store:Int),[97,99,116,105,118,101],itoa (e.aC6.length:Int),[100,111,110,101],itoa (e.Done.length:Int)]
noncomputable def sf(e:av):an:=if aU e then cI (ul e) [32] else []
def yn(s:Store)(k:Nat):Nat:=(eC s k).length
def alB(hk:k < s.aC5.length):yn s (k+1)=yn s k+s.aC5[k].length:=by unfold yn;rw [EE hk,bV]
def asU(k:Nat)(hk:k≤s.aC5.length):yn s k≤lQ s:=by
 unfold yn lQ eC bQ
 have e:s.aC5.flatten=(s.aC5.take k).flatten++(s.aC5.drop k).flatten:=Wq
 rw [e,bV];omega
def SX(h0:(itoa e.Steps).length≤21)(h1:(itoa e.aDa).length≤21)(h2:(itoa e.Store.Now).length≤21)(h3:(itoa (lQ e.Store:Int)).length≤21)(h4:(itoa (e.aC6.length:Int)).length≤21)(h5:(itoa (e.Done.length:Int)).length≤21):(cI (ul e) [32]).length≤1000:=by
 have h:=wn (m:=22) (sep:=[32]) (xs:=ul e) (by
  intro x hx
  unfold ul at hx
  simp only [jq,List.not_mem_nil,or_false] at hx
  rcases hx with rfl|rfl|rfl|rfl|rfl|rfl|rfl|rfl|rfl|rfl|rfl|rfl<;>first|omega|(simp only [List.length_cons,List.length_nil];omega))
 have e12:(ul e).length=12:=rfl
 rw [e12] at h
 simp only [List.length_cons,List.length_nil] at h
 omega
section
def jz(v:bb)(keep:List Int):Bool:=decide (v.aDg = -1)||keep.any (gp v)
def asV{v:bb}(hk:k < keep.length)(h:gp v keep[k]=true):jz v keep=true:=by unfold jz;rw [yd hk h];simp
def asW{v:bb}(h:keep.any (gp v)=false):jz v keep=decide (v.aDg = -1):=by unfold jz;rw [h];simp
def um(v:bb)(keep:List Int)(k:Nat):Bool:=decide (v.aDg = -1)||(keep.take k).any (gp v)
def asX{v:bb}(hk:k < keep.length):um v keep (k+1)=(um v keep k||gp v keep[k]):=by
 unfold um;rw [cU hk,List.any_append,←Bool.or_assoc];simp
def asY{v:bb}:um v keep keep.length=jz v keep:=by unfold um jz;rw [bG]
def un(keep:List Int)(l:List bb):List bb:=l.filter fun v=>jz v keep
def ig(s:Store)(keep:List Int):Store:=if cy s then ⟨s.aC5.map (un keep),s.Now⟩ else s
def kZ(keep:List Int)(zs:List (bb×(Nat→Value))):List (bb×(Nat→Value)):=zs.filter fun z=>jz z.1 keep
def kw(zss:List (List (bb×(Nat→Value))))(keep:List Int)(k:Nat):List (List (bb×(Nat→Value))):=(zss.take k).map (kZ keep)++zss.drop k
section
variable{zss:List (List (bb×(Nat→Value)))}{keep:List Int}{k:Nat}{segs:List (List bb)}
def Ky:(kw zss keep k).length=zss.length:=by unfold kw;simp;omega
def alC(hk:k < zss.length)(h:k < (kw zss keep k).length):(kw zss keep k)[k]'h=zss[k]:=by
 have h1:(kw zss keep k)[k]?=some zss[k]:=by
  unfold kw
  rw [List.getElem?_append_right iZ]
  simp [Nat.min_eq_left (Nat.le_of_lt hk),hk]
 exact (List.getElem?_eq_some_iff.1 h1).2
def asZ(hk:k < zss.length):(kw zss keep k).set k (kZ keep zss[k])=kw zss keep (k+1):=by
 unfold kw
 have hl:((zss.take k).map (kZ keep)).length=k:=wR
 rw [List.set_append_right _ _ ab,hl,Nat.sub_self,List.drop_eq_getElem_cons hk,List.set_cons_zero,cU hk,bo]
 simp
def alD:kw zss keep zss.length=zss.map (kZ keep):=by unfold kw;simp
def as0:(zss.map (kZ keep)).flatten.Sublist zss.flatten:=by
 induction zss with
 | nil=>exact List.Sublist.slnil
 | cons z l ih=>rw [List.map_cons,List.flatten_cons,List.flatten_cons];exact List.Sublist.append List.filter_sublist ih
def as1(hz:zss.map (List.map Prod.fst)=segs):(zss.map (kZ keep)).map (List.map Prod.fst)=segs.map (un keep):=by
 rw [←hz,List.map_map,List.map_map]
 refine List.map_congr_left fun zs _=>?_
 simp only [Function.comp_apply,kZ,un,List.filter_map]
 rfl
def alE(hz:zss.map (List.map Prod.fst)=segs):zss.length=segs.length:=by rw [←hz,aX]
def as2(hz:zss.map (List.map Prod.fst)=segs)(hk:k < zss.length)(hk2:k < segs.length):zss[k].map Prod.fst=segs[k]:=by subst hz;simp
def alF(hz:zss.map (List.map Prod.fst)=segs)(hk:k < zss.length)(hk2:k < segs.length):zss[k].length=segs[k].length:=by rw [←as2 hz hk hk2,aX]
def alG(hz:zss.map (List.map Prod.fst)=segs)(hk:k < zss.length)(hk2:k < segs.length)(hj:j < zss[k].length)(hj2:j < segs[k].length):zss[k][j].1=segs[k][j]:=by
 subst hz;simp
def as3(hj:j < zs.length)(h:jz zs[j].1 keep=true):kZ keep (zs.take (j+1))=kZ keep (zs.take j)++[zs[j]]:=by
 unfold kZ;rw [cU hj,gV];simp [h]
def as4(hj:j < zs.length)(h:jz zs[j].1 keep=false):kZ keep (zs.take (j+1))=kZ keep (zs.take j):=by
 unfold kZ;rw [cU hj,gV];simp [h]
def alH:(kZ keep (zs.take j)).length≤j:=by
 have:=jr (fun z:bb×(Nat→Value)=>jz z.1 keep) (zs.take j)
 rw [cj] at this
 unfold kZ;omega
end
def uo(s:Store)(i j:Nat):List bb:=(s.aC5.take i).flatten++(s.aC5.getD i []).take j
def lR(s:Store)(keep:List Int)(i j:Nat):Nat:=((uo s i j).filter fun v=>!jz v keep).length
def alI(hi:i < s.aC5.length)(hj:j < s.aC5[i].length):uo s i (j+1)=uo s i j++[s.aC5[i][j]]:=by
 unfold uo
 rw [show s.aC5.getD i []=s.aC5[i] by simp [hi],cU hj,bn]
def as5(hi:i < s.aC5.length):uo s i s.aC5[i].length=uo s (i+1) 0:=by
 unfold uo
 rw [show s.aC5.getD i []=s.aC5[i] by simp [hi],bG,cU hi,List.flatten_append]
 simp
def as6(hi:i < s.aC5.length)(hj:j < s.aC5[i].length)(h:jz s.aC5[i][j] keep=true):lR s keep i (j+1)=lR s keep i j:=by
 unfold lR;rw [alI hi hj,gV];simp [h]
def as7(hi:i < s.aC5.length)(hj:j < s.aC5[i].length)(h:jz s.aC5[i][j] keep=false):lR s keep i (j+1)=lR s keep i j+1:=by
 unfold lR;rw [alI hi hj,gV];simp [h]
def as8(hi:i < s.aC5.length):lR s keep i s.aC5[i].length=lR s keep (i+1) 0:=by unfold lR;rw [as5 hi]
def as9:lR s keep 0 0=0:=by simp [lR,uo]
def ata(hi:i < s.aC5.length):lR s keep i j≤(bQ s).length:=by
 unfold lR
 refine Nat.le_trans (jr _ _) ?_
 unfold uo bQ
 have h1:=EE (s:=s) hi
 have h2:(eC s (i+1)).length≤s.aC5.flatten.length:=by
  unfold eC
  have e:s.aC5.flatten=(s.aC5.take (i+1)).flatten++(s.aC5.drop (i+1)).flatten:=Wq
  rw [e,bV];omega
 rw [h1,bV] at h2
 rw [bV,cj,show s.aC5.getD i []=s.aC5[i] by simp [hi]]
 unfold eC at h2;omega
def alJ(keep:List Int):∀l:List bb,cX (un keep l)≤cX l
 | []=>Nat.le_refl _
 | v::l=>by
  have ih:=alJ keep l
  unfold un cX at *
  rw [List.filter_cons]
  split<;>simp only [List.length_cons,List.map_cons,List.sum_cons]<;>omega
def SY(s:Store)(keep:List Int):da (ig s keep)≤da s:=by
 unfold ig
 split
 ·unfold da iR
  dsimp only
  rw [aX,List.map_map]
  have:(s.aC5.map (cX∘un keep)).sum≤(s.aC5.map cX).sum:=by
   generalize s.aC5=l
   induction l with
   | nil=>exact Nat.le_refl _
   | cons x l ih=>simp only [List.map_cons,List.sum_cons,Function.comp] at *;have:=alJ keep x;omega
  omega
 ·exact Nat.le_refl _
def Kz(h:cy s=true):ig s keep=⟨s.aC5.map (un keep),s.Now⟩:=if_pos h
def alK(h:cy s=false):ig s keep=s:=if_neg fR
def KA(s:Store)(keep:List Int):Int:=if cy s then (lQ s:Int) - (lQ (ig s keep):Int) else 0
def KB(s:Store)(keep:List Int):Int:=if cy s then (lR s keep s.aC5.length 0:Int) else 0
def iT(l:List aC6):List Int:=l.map fun a=>a.Time
def eD(e:av):av:=⟨ig e.Store (iT e.aC6),e.aDa,e.Order,e.aC6,e.Done,e.aDi,e.Steps⟩
def wv(z:bb×(Nat→Value)):List PV:=[PV.nv (z.2 0) (PV.val (vI z.1.Id)),PV.nv (z.2 1) (PV.sl .v (z.1.Values.map ar)),PV.nv (z.2 2) (PV.val (vI z.1.aDk)),PV.nv (z.2 3) (PV.val (vI z.1.aDg))]
def sg(zs:List (bb×(Nat→Value))):List PV:=[PV.sl bc (zs.map wv)]
end
def alL{d:α}{p:α→Bool}{key:α→Int}{l:List α}(h:eT d p (fun a b=>decide (key a < key b)) l=true):l.Pairwise (fun a b=>key a < key b):=by
 have step:∀j:Nat,(hj:j+1 < l.length)→key l[j] < key l[j+1]:=fun j hj=>by
  have h1:=List.all_eq_true.1 h (j+1) (List.mem_range.2 hj)
  rw [aR,fy hj,show j+1 - 1=j from rfl,fy (show j < l.length by omega)] at h1
  have h2:=h1.2
  simpa using h2
 have lt:∀(j i:Nat) (hj:j < l.length) (hi:i < j),key l[i] < key l[j]:=by
  intro j
  induction j with
  | zero=>intro i _ hi;omega
  | succ j ih=>
   intro i hj hi
   have h1:=step j hj
   rcases Nat.lt_or_ge i j with h2|h2
   ·have:=ih i ab h2;omega
   ·have:i=j:=by omega
    subst this;exact h1
 rw [List.pairwise_iff_getElem]
 exact fun i j hi hj hij=>lt j i hj hij
def atb{l:List Int}(h:∀x∈l,0≤x∧x≤23)(hp:l.Pairwise (· < ·)):fa l=true:=by
 unfold fa
 rw [nb]
 intro i hi
 have hi:=List.mem_range.1 hi
 rw [List.pairwise_iff_getElem] at hp
 refine Kg.2 ?_
 rw [show l.getD i 0=l[i] by simp [hi]]
 have:=h _ (List.getElem_mem hi)
 refine ⟨this.1,this.2,?_⟩
 rcases Nat.eq_zero_or_pos i with h0|h0
 ·exact .inl h0
 ·right
  rw [show l.getD (i - 1) 0=l[i - 1]'(ab) by simp [show i - 1 < l.length by omega]]
  exact hp (i - 1) i ab hi ab
def atc{l:List eB}{s:eB}(h:ji v s=false):iS (l++[s]) v=iS l v:=by
 unfold iS
 rw [List.find?_append]
 cases hf:l.find? (ji v) with
 | some t=>rfl
 | none=>simp [h]
def atd{l:List eB}{s:eB}(hl:∀t∈l,ji v t=false)(h:ji v s=true):iS (l++[s]) v=s.Set:=by
 unfold iS
 rw [List.find?_append,List.find?_eq_none.2 (fun t ht=>by simp [hl t ht])]
 simp [h]
structure SZ(l:List aC7)(f:Int)(k:Nat)(out:List eB):Prop where
 none:k=0→out=[]
 some:0 < k→∃(a:List eB) (s:eB),out=a++[s]∧s.To=(k:Int) - 1∧s.From≤(k:Int) - 1∧(∀v:Int,s.From≤v→v≤(k:Int) - 1→gO l f v=s.Set)∧(∀t∈a,t.To < s.From)∧(∀v:Int,0≤v→v < s.From→iS a v=gO l f v)
def SZ.find(h:SZ l f k out)(h0:0≤v)(hv:v < k):iS out v=gO l f v:=by
 obtain ⟨a,s,rfl,h1,h2,h3,h4,h5⟩:=h.some ab
 by_cases hc:s.From≤v
 ·rw [atd (fun t ht=>by have:=h4 t ht;simp [ji,aF];omega) (by simp [ji,aF];omega),h3 v hc ab]
 ·rw [atc (by simp [ji,aF];omega),h5 v h0 ab]
def alM(l:List aC7)(f:Int):∀k:Nat,SZ l f k (db l f k)
 | 0=>⟨fun _=>rfl,fun h=>absurd h (Nat.lt_irrefl 0)⟩
 | k+1=>by
  have ih:=alM l f k
  refine ⟨fun h=>by omega,fun _=>?_⟩
  rw [db]
  have fresh:∃(a:List eB) (s:eB),db l f k++[⟨(k:Int),(k:Int),gO l f k⟩]=a++[s]∧s.To=((k+1:Nat):Int) - 1∧s.From≤((k+1:Nat):Int) - 1∧(∀v:Int,s.From≤v→v≤((k+1:Nat):Int) - 1→gO l f v=s.Set)∧(∀t∈a,t.To < s.From)∧(∀v:Int,0≤v→v < s.From→iS a v=gO l f v):=by
   refine ⟨_,_,rfl,uO,uO,fun v h1 h2=>?_,fun t ht=>?_,fun v h1 h2=>ih.find h1 h2⟩
   ·dsimp only at h1 ⊢
    rw [show v=(k:Int) by omega]
   ·dsimp only
    rcases Nat.eq_zero_or_pos k with h0|h0
    ·rw [ih.none h0] at ht;cases ht
    ·obtain ⟨a,s,he,h1,h2,_,h4,_⟩:=ih.some h0
     rw [he] at ht
     rcases List.mem_append.1 ht with ht|ht
     ·have:=h4 t ht;omega
     ·simp at ht;subst ht;omega
  unfold Bc
  split
  ·rename_i hl
   rcases Nat.eq_zero_or_pos k with h0|h0
   ·rw [ih.none h0] at hl;cases hl
   ·obtain ⟨a,s,he,h1,h2,h3,h4,h5⟩:=ih.some h0
    rw [he] at hl ⊢
    have hlen:(a++[s]).length - 1=a.length:=aP
    have hg:(a++[s]).getD a.length nD=s:=aP
    unfold mE at hl
    rw [hlen,hg,aR] at hl
    have hs:s.Set=gO l f k:=oA.1 hl.2
    rw [hlen,hg,List.set_append_right (h:=Nat.le_refl _),Nat.sub_self,List.set_cons_zero]
    refine ⟨a,_,rfl,uO,uO,fun v k1 k2=>?_,h4,h5⟩
    dsimp only at k1 ⊢
    by_cases hk:v=(k:Int)
    ·rw [hk,hs]
    ·exact h3 v k1 ab
  ·exact fresh
def ate(hl:dZ l=true)(hf:0≤f∧f≤2)(hv:0≤v∧v≤99):iS (gq l f) v=gO l f v:=by
 have hc:(dZ l&&aF f 0 2)=true:=by rw [hl,Bool.true_and];exact akR.2 hf
 unfold gq
 rw [if_pos hc]
 have h:=alM l f 100
 generalize db l f 100=out at h ⊢
 exact h.find hv.1 ab
def alN(h:dZ l=true):l.Pairwise (fun a b=>a.Id < b.Id):=by
 unfold dZ at h
 rw [aR] at h
 exact alL h.1
def atf(h:bp q=true):0≤q.Id∧q.Id≤23:=by
 unfold bp at h
 simp only [aR,aF,decide_eq_true_eq] at h
 exact h.1.1
def Ta(h:dZ l=true)(P:aC7→Bool):fa ((l.filter P).map aC7.Id)=true:=by
 refine atb (fun x hx=>?_) ?_
 ·obtain ⟨q,hq,rfl⟩:=List.mem_map.1 hx
  exact atf ((pu h).2 q (List.mem_filter.1 hq).1)
 ·rw [List.pairwise_map]
  exact (alN h).filter P
def atg{key:α→Int}{l:List α}(h:l.Pairwise (fun a b=>key a < key b)){a b:α}(ha:a∈l)(hb:b∈l)(he:key a=key b):a=b:=by
 obtain ⟨i,hi,rfl⟩:=List.mem_iff_getElem.1 ha
 obtain ⟨j,hj,rfl⟩:=List.mem_iff_getElem.1 hb
 rw [List.pairwise_iff_getElem] at h
 rcases Nat.lt_trichotomy i j with h1|h1|h1
 ·have:=h i j hi hj h1;omega
 ·subst h1;rfl
 ·have:=h j i hj hi h1;omega
def alO(h:dZ l=true)(P:aC7→Bool)(hq:q∈l):ce ((l.filter P).map aC7.Id) q.Id=P q:=by
 rw [Bool.eq_iff_iff,Su,GH]
 constructor
 ·rintro ⟨r,hr,he⟩
  have hr:=List.mem_filter.1 hr
  rw [←atg (alN h) hr.1 hq he];exact hr.2
 ·intro hp
  exact ⟨q,List.mem_filter.2 ⟨hq,hp⟩,rfl⟩
def ath(h:dZ l=true)(P A:aC7→Bool):qn ((l.filter P).map aC7.Id) ((l.filter A).map aC7.Id)=(l.filter fun q=>P q&&A q).map aC7.Id:=by
 unfold qn
 rw [Ta h P,Ta h A,Bool.and_self,if_pos rfl,←Sw (Ta h P),List.filter_map,List.filter_filter]
 congr 1
 refine List.filter_congr fun q hq=>?_
 show (ce ((l.filter A).map aC7.Id) q.Id&&P q)=_
 rw [alO h A hq,Bool.and_comm]
def alP{l:List aC7}{x:dL}{r:Row}(hl:dZ l=true)(hx:∀f:Int,0≤f→f≤2→x.Fields.getD f.toNat []=gq l f)(hv:∀f:Int,0≤f→f≤2→0≤jx r.Values f∧jx r.Values f≤99):∀(o:List Int) (P:aC7→Bool) (s:List Int×Int),(∀f∈o,0≤f∧f≤2)→s.1=(l.filter P).map aC7.Id→(o.foldl (uf x r) s).1=(l.filter fun q=>P q&&o.all fun f=>kU q f (jx r.Values f)).map aC7.Id
 | [],P,s,_,hs=>by rw [List.foldl_nil,hs];simp
 | f::o,P,s,ho,hs=>by
  rw [List.foldl_cons]
  have hf:=ho f (List.mem_cons_self ..)
  have hn:(uf x r s f).1=(l.filter fun q=>P q&&kU q f (jx r.Values f)).map aC7.Id:=by
   unfold uf
   split
   ·rename_i h0
    rw [h0] at hs
    rw [h0,eq_comm,List.map_eq_nil_iff,List.filter_eq_nil_iff]
    intro q hq hp
    rw [aR] at hp
    have:q.Id∈(l.filter P).map aC7.Id:=List.mem_map_of_mem (List.mem_filter.2 ⟨hq,hp.1⟩)
    rw [←hs] at this;cases this
   ·dsimp only
    rw [hs,hx f hf.1 hf.2,ate hl hf (hv f hf.1 hf.2)]
    exact ath hl P _
  rw [alP hl hx hv o _ _ (fun g hg=>ho g (List.mem_cons_of_mem _ hg)) hn]
  congr 1
  refine List.filter_congr fun q _=>?_
  rw [List.all_cons,Bool.and_assoc]
def ati(h:cb o=true):(0:Int)∈o∧(1:Int)∈o∧(2:Int)∈o:=by
 unfold cb at h
 simp only [aR,Su] at h
 exact h.2
def atj(h:bA r=true)(h0:0≤f)(h2:f≤2):0≤jx r.Values f∧jx r.Values f≤99:=by
 have hl:=yf h
 unfold bA at h
 simp only [aR] at h
 have hlt:f.toNat < r.Values.length:=ab
 have:=List.all_eq_true.1 h.1 _ (List.getElem_mem hlt)
 unfold jx
 rw [fy hlt]
 exact akR.1 this
def atk(ho:cb o=true)(hr:bA r=true)(hq:bp q=true):(o.all fun f=>kU q f (jx r.Values f))=ib q r:=by
 rw [Bool.eq_iff_iff,nb]
 unfold ib
 rw [hr,hq,Bool.and_self,Bool.true_and,nb]
 constructor
 ·intro h c hc
  have hf:=akT hq hc
  have hfo:c.Field∈o:=by
   have:=ati ho
   have:c.Field=0∨c.Field=1∨c.Field=2:=ab
   rcases this with h|h|h<;>rw [h]<;>simp_all
  have:=List.all_eq_true.1 (h _ hfo) c hc
  simpa [mB,Ew] using this
 ·intro h f _
  unfold kU
  rw [nb]
  intro c hc
  have:=h c hc
  unfold mB
  by_cases he:c.Field=f
  ·subst he;unfold Ew at this;simp [this]
  ·simp [he]
def atl(hl:dZ l=true)(hr:bA r=true)(ho:cb o=true)(hq:q∈l):ce (mF (kr l) r o).1 q.Id=ib q r:=by
 have hb:kr l=⟨l,[gq l 0,gq l 1,gq l 2]⟩:=if_pos hl
 rw [hb]
 unfold mF
 rw [alP (l:=l) hl (fun f h0 h2=>by
  have:f=0∨f=1∨f=2:=ab
  rcases this with rfl|rfl|rfl<;>rfl) (fun f h0 h2=>atj hr h0 h2) o (fun _=>true) _ (Kr ho).2 (by
   show l.map aC7.Id=_
   rw [List.filter_eq_self.2 (fun _ _=>rfl)]),alO hl _ hq,Bool.true_and,atk ho hr ((pu hl).2 q hq)]
end Go.Proofs.YtmekkgdboplbjaaGreatDoor
