/- Definitions and their laws. No condition. -/
import Derived.Test.YtmekkgdboplbjaaGreatDoorPC0
import Derived.Test.YtmekkgdboplbjaaGreatDoorProg
set_option linter.all false
namespace Go.Proofs.YtmekkgdboplbjaaGreatDoor
open Go Go.RowKit M Tryz
set_option maxRecDepth 10000
variable{us:List Value}{α:Type}{k i:Nat}{l:List Int}{d:α}{p:α→Bool}
section
section
variable{α:Type}{P:α→Bool}{xs ys:List α}{k:Nat}
def awp:(xs.take 0).all P=true:=aL
def MY(h:(xs.take k).all P=true)(hk:k < xs.length)(hp:P xs[k]=true):(xs.take (k+1)).all P=true:=by rw [cI hk,List.all_append,h];simp [hp]
def qE(hk:k < xs.length)(hp:P xs[k]=false):xs.all P=false:=by rw [List.all_eq_false];exact ⟨_,List.getElem_mem hk,by rw [hp];simp⟩
def nI(h:(xs.take xs.length).all P=true):xs.all P=true:=by rwa [bF] at h
def CT(h:(xs.take k).any P=false)(hk:k < xs.length)(hp:P xs[k]=false):(xs.take (k+1)).any P=false:=by rw [cI hk,List.any_append,h];simp [hp]
def Ah(hk:k < xs.length)(hp:P xs[k]=true):xs.any P=true:=by rw [List.any_eq_true];exact ⟨_,List.getElem_mem hk,hp⟩
def ao1(h:(xs.take xs.length).any P=false):xs.any P=false:=by rwa [bF] at h
def Ww(h:xs.take k=ys.take k)(hk:k < xs.length)(hk':k < ys.length)(he:xs[k]=ys[k]):xs.take (k+1)=ys.take (k+1):=by rw [cI hk,cI hk',h,he]
def awq(hk:k < xs.length)(hk':k < ys.length)(he:¬xs[k]=ys[k]):¬xs=ys:=by rintro rfl;exact he rfl
def awr(hl:xs.length=ys.length)(h:xs.take xs.length=ys.take xs.length):xs=ys:=by rw [bF] at h;rw [h,hl,bF]
def wtk{f:α→Nat}(hk:k < xs.length):((xs.take (k+1)).map f).sum=((xs.take k).map f).sum+f xs[k]:=by rw [cI hk,bj,List.sum_append];simp
def awt{f:α→Nat}(xs:List α)(k:Nat):((xs.take k).map f).sum≤(xs.map f).sum:=by
 have h:xs=xs.take k++xs.drop k:=(iq _ _).symm;have e:(xs.map f).sum=((xs.take k).map f).sum+((xs.drop k).map f).sum:=by rw [←List.sum_append,←bj,←h]
 omega
def dW{f:α→Nat}(hk:k < xs.length):f xs[k]≤(xs.map f).sum:=by have h1:=wtk (f:=f) hk;have h2:=awt (f:=f) xs (k+1);omega
noncomputable def iX(x y:α):Bool:=@decide (x=y) (Classical.propDecidable _)
def MZ{x y:α}(h:x=y):iX x y=true:=@decide_eq_true _ (Classical.propDecidable _) h
def Wx{x y:α}(h:¬x=y):iX x y=false:=@decide_eq_false _ (Classical.propDecidable _) h
def pL{x y:α}:iX x y=true↔x=y:=@decide_eq_true_iff _ (Classical.propDecidable _)
def awu(x:α):iX x x=true:=MZ rfl
end
def CU(h:us.length=1):∃v0,us=[v0]:=by rcases us with _|⟨v0,_|⟨v1,vs⟩⟩<;>first|exact ⟨_,rfl⟩|(simp at h;try omega)
def ao2(h:us.length=2):∃v0 v1,us=[v0,v1]:=by rcases us with _|⟨v0,_|⟨v1,_|⟨v2,vs⟩⟩⟩<;>first|exact ⟨_,_,rfl⟩|(simp at h;try omega)
def awv(h:us.length=8):∃v0 v1 v2 v3 v4 v5 v6 v7,us=[v0,v1,v2,v3,v4,v5,v6,v7]:=by rcases us with _|⟨v0,_|⟨v1,_|⟨v2,_|⟨v3,_|⟨v4,_|⟨v5,_|⟨v6,_|⟨v7,_|⟨v8,vs⟩⟩⟩⟩⟩⟩⟩⟩⟩<;>first|exact ⟨_,_,_,_,_,_,_,_,rfl⟩|(simp at h;try omega)
def ao3(h:us.length=10):∃v0 v1 v2 v3 v4 v5 v6 v7 v8 v9,us=[v0,v1,v2,v3,v4,v5,v6,v7,v8,v9]:=by rcases us with _|⟨v0,_|⟨v1,_|⟨v2,_|⟨v3,_|⟨v4,_|⟨v5,_|⟨v6,_|⟨v7,_|⟨v8,_|⟨v9,_|⟨v10,vs⟩⟩⟩⟩⟩⟩⟩⟩⟩⟩⟩<;>first|exact ⟨_,_,_,_,_,_,_,_,_,_,rfl⟩|(simp at h;try omega)
def xX(x:Int):List PV:=[PV.val (.int .u8 x)]
def ao4(x:Int):Prop:=0≤x∧x≤255
def aww(o0:Fl)(x:List Int):List PV:=[PV.sl o0 (x.map xX)]
def awx(x:List Int):Prop:=∀y∈x,ao4 y
def ar(x:Int):List PV:=[PV.val (vI x)]
def bf(_x:Int):Nat:=0
def awy(o0:Fl)(x:List Int):List PV:=[PV.sl o0 (x.map ar)]
def tS(x:List Int):Nat:=x.length+(x.map bf).sum
structure fI where
 Field:Int
 Low:Int
 High:Int
def cr(x:fI):List PV:=[PV.val (vI x.Field),PV.val (vI x.Low),PV.val (vI x.High)]
def CV(x:fI):Nat:=bf x.Field+bf x.Low+bf x.High
structure Row where
 Id:Int
 Values:List Int
def df(o0:Fl)(x:Row):List PV:=[PV.val (vI x.Id),PV.sl o0 (x.Values.map ar)]
def jy(x:Row):Nat:=bf x.Id+tS x.Values
def xY(x:List fI):Nat:=x.length+(x.map CV).sum
structure aJv where
 Kind:Int
 Row:Row
 Field:Int
 Value:Int
def jz(x:aJv):Nat:=bf x.Kind+jy x.Row+bf x.Field+bf x.Value
structure aJt where
 Id:Int
 aJx:Int
 aJu:List fI
 Out:List Int
def fJ(o0 o1:Fl)(x:aJt):List PV:=[PV.val (vI x.Id),PV.val (vI x.aJx),PV.sl o0 (x.aJu.map cr),PV.sl o1 (x.Out.map ar)]
def eZ(x:aJt):Nat:=bf x.Id+bf x.aJx+xY x.aJu+tS x.Out
structure fg where
 Kind:Int
 aJt:aJt
 Limit:Int
 Id:Int
 aJv:aJv
 Steps:Int
def CW(x:fg):Nat:=bf x.Kind+eZ x.aJt+bf x.Limit+bf x.Id+jz x.aJv+bf x.Steps
def iY(x:List Row):Nat:=x.length+(x.map jy).sum
structure aJs where
 aJt:aJt
 Time:Int
 aJB:List Int
 Age:Int
 Sent:Int
 Cap:Int
 Rows:List Row
def bi(o0 o1 o2 o3 o4:Fl)(x:aJs):List PV:=[PV.val (vI x.aJt.Id),PV.val (vI x.aJt.aJx),PV.sl o0 (x.aJt.aJu.map cr),PV.sl o1 (x.aJt.Out.map ar),PV.val (vI x.Time),PV.sl o2 (x.aJB.map ar),PV.val (vI x.Age),PV.val (vI x.Sent),PV.val (vI x.Cap),PV.sl o3 (x.Rows.map (df o4))]
def ew(x:aJs):Nat:=eZ x.aJt+bf x.Time+tS x.aJB+bf x.Age+bf x.Sent+bf x.Cap+iY x.Rows
def fK(x:List aJs):Nat:=x.length+(x.map ew).sum
structure cH where
 Segment:Int
 Base:Int
 Ids:List Int
 aJy:List Int
 Rows:List Int
def bL(o0 o1 o2:Fl)(x:cH):List PV:=[PV.val (vI x.Segment),PV.val (vI x.Base),PV.sl o0 (x.Ids.map ar),PV.sl o1 (x.aJy.map ar),PV.sl o2 (x.Rows.map ar)]
def vL(x:cH):Nat:=bf x.Segment+bf x.Base+tS x.Ids+tS x.aJy+tS x.Rows
def gV(x:List cH):Nat:=x.length+(x.map vL).sum
structure bb where
 Id:Int
 Values:List Int
 aJG:Int
 aJC:Int
def iG(o0:Fl)(x:bb):List PV:=[PV.val (vI x.Id),PV.sl o0 (x.Values.map ar),PV.val (vI x.aJG),PV.val (vI x.aJC)]
def dt(x:bb):Nat:=bf x.Id+tS x.Values+bf x.aJG+bf x.aJC
def aQ(o0 o1:Fl)(x:List bb):List PV:=[PV.sl o0 (x.map (iG o1))]
def dg(x:List bb):Nat:=x.length+(x.map dt).sum
def iH(x:List (List bb)):Nat:=x.length+(x.map dg).sum
structure Store where
 aJr:List (List bb)
 Now:Int
def cR(x:Store):Nat:=iH x.aJr+bf x.Now
structure ig where
 aJt:aJt
 Time:Int
 Steps:Int
 Rows:List Row
def bS(o0 o1 o2 o3:Fl)(x:ig):List PV:=[PV.val (vI x.aJt.Id),PV.val (vI x.aJt.aJx),PV.sl o0 (x.aJt.aJu.map cr),PV.sl o1 (x.aJt.Out.map ar),PV.val (vI x.Time),PV.val (vI x.Steps),PV.sl o2 (x.Rows.map (df o3))]
def oE(x:ig):Nat:=eZ x.aJt+bf x.Time+bf x.Steps+iY x.Rows
def ii(x:List ig):Nat:=x.length+(x.map oE).sum
structure au where
 Store:Store
 aJw:Int
 Order:List Int
 aJs:List aJs
 Done:List ig
 aJE:List cH
 Steps:Int
abbrev dZ(p1 p2 p5 p6 p7 p8 p9 p11 p12 p13 p14 p16 p17 p18:Fl)(e:au):Bool×List PV:=(true,[PV.sl .v (e.Store.aJr.map (aQ p1 p2)),PV.val (vI e.Store.Now),PV.val (vI e.aJw),PV.sl .v (e.Order.map ar),PV.sl .v (e.aJs.map (bi p5 p6 p7 p8 p9)),PV.sl .v (e.Done.map (bS p11 p12 p13 p14)),PV.sl .v (e.aJE.map (bL p16 p17 p18)),PV.val (vI e.Steps)])
abbrev CX(L:Nat→Prop)(e:au):Bool×List PV:=(true,[PV.sl (.lo L) (e.Store.aJr.map (aQ (.lo L) (.lo L))),PV.val (vI e.Store.Now),PV.val (vI e.aJw),PV.sl (.lo L) (e.Order.map ar),PV.sl (.lo L) (e.aJs.map (bi (.lo L) (.lo L) (.lo L) (.lo L) (.lo L))),PV.sl (.lo L) (e.Done.map (bS (.lo L) (.lo L) (.lo L) (.lo L))),PV.sl (.lo L) (e.aJE.map (bL (.lo L) (.lo L) (.lo L))),PV.val (vI e.Steps)])
abbrev oF(z:aJs):List PV:=[PV.val (vI z.aJt.Id),PV.val (vI z.aJt.aJx),PV.sl .v (z.aJt.aJu.map cr),PV.sl .v (z.aJt.Out.map ar),PV.val (vI z.Time),PV.sl .v (z.aJB.map ar),PV.val (vI z.Age),PV.val (vI z.Sent),PV.val (vI z.Cap),PV.sl .v (z.Rows.map (df aj))]
abbrev CY(x:fg):Bool×List PV:=(true,[PV.val (vI x.Kind),PV.val (vI x.aJt.Id),PV.val (vI x.aJt.aJx),PV.sl .v (x.aJt.aJu.map cr),PV.sl .v (x.aJt.Out.map ar),PV.val (vI x.Limit),PV.val (vI x.Id),PV.val (vI x.aJv.Kind),PV.val (vI x.aJv.Row.Id),PV.sl .v (x.aJv.Row.Values.map ar),PV.val (vI x.aJv.Field),PV.val (vI x.aJv.Value),PV.val (vI x.Steps)])
def aZ(x:au):Nat:=cR x.Store+bf x.aJw+tS x.Order+fK x.aJs+ii x.Done+gV x.aJE+bf x.Steps
def CZ(x:List aJt):Nat:=x.length+(x.map eZ).sum
structure eT where
 From:Int
 To:Int
 Set:List Int
def mg(o0:Fl)(x:eT):List PV:=[PV.val (vI x.From),PV.val (vI x.To),PV.sl o0 (x.Set.map ar)]
def pM(o0 o1:Fl)(x:List eT):List PV:=[PV.sl o0 (x.map (mg o1))]
structure eb where
 Queries:List aJt
 Fields:List (List eT)
def Wy(o0 o1 o2 o3 o4 o5:Fl)(x:eb):List PV:=[PV.sl o0 (x.Queries.map (fJ o1 o2)),PV.sl o3 (x.Fields.map (pM o4 o5))]
def awz{β:Type}{xs:List α}{g:α→List β}(hk:k < xs.length):(xs.take (k+1)).flatMap g=(xs.take k).flatMap g++g xs[k]:=by rw [cI hk,List.flatMap_append];simp
def xZ{xs:List α}(hk:k < xs.length):xs.take (k+1)=xs.take k++[xs[k]]:=cI hk
def dH{l:List α}(h:i < l.length):l[i]=l.getD i d:=ql
def oG{β:Type}{l:List α}{f:α→β}(h:k < l.length):(l.take (k+1)).map f=(l.take k).map f++[f l[k]]:=by rw [cI h,bj];rfl
def ao5{a b:Int}:(a==b)=decide (a=b):=rfl
def fL(x:List Int):tS x=x.length:=by
 have h:∀l:List Int,(l.map bf).sum=0:=by
  intro l;induction l with
  | nil=>rfl
  | cons a l ih=>rw [List.map_cons,List.sum_cons,ih];rfl
 simp [tS,h]
def cn(xs:List Int)(x:Int):Bool:=xs.any (fun y=>y==x)
def aE(n l h:Int):Bool:=decide (l≤n)&&decide (n≤h)
def asI(x:Int):List (Bool×List PV):=[(false,[PV.val (vI x)])]
def rsB{γ:Type}(q:γ→Bool)(x:γ):RV:=RV.sv false [PV.val (.bool (q x))]
def nJ(v:Int):Bool:=aE v 0 99
def bw(r:Row):Bool:=r.Values.all nJ&&(aE r.Id 0 999&&decide ((r.Values.length:Int)=3))
def jj(l:List Row):Bool:=l.all bw&&decide ((l.length:Int)≤1000)
def fM(x:am):List PV:=[PV.val (.string (B x))]
def awA{x y:Row}:x=y↔x.Id=y.Id∧x.Values=y.Values:=by cases x;cases y;simp_all
def fC(l:List Int):Bool:=(List.range l.length).all fun i=>aE (l.getD i 0) 0 23&&(i==0||decide (l.getD (i - 1) 0 < l.getD i 0))
def GY(l:List Int)(k:Nat):Bool:=(List.range k).all fun i=>aE (l.getD i 0) 0 23&&(i==0||decide (l.getD (i - 1) 0 < l.getD i 0))
def awB:GY l (k+1)=(GY l k&&(aE (l.getD k 0) 0 23&&(k==0||decide (l.getD (k - 1) 0 < l.getD k 0)))):=by simp [GY,List.range_succ]
def awC(hk:k < l.length)(h:(aE (l.getD k 0) 0 23&&(k==0||decide (l.getD (k - 1) 0 < l.getD k 0)))=false):fC l=false:=by
 cases hs:fC l with
 | false=>rfl
 | true=>
  have:=List.all_eq_true.1 hs k (List.mem_range.2 hk);rw [h] at this;cases this
def Na:(aE (l.getD k 0) 0 23&&(k==0||decide (l.getD (k - 1) 0 < l.getD k 0)))=true↔(0≤l.getD k 0∧l.getD k 0≤23∧(k=0∨l.getD (k - 1) 0 < l.getD k 0)):=by simp [aE,and_assoc]
def oH(q:Int→Bool)(k:Nat):List Int:=((List.range k).map fun i:Nat=>(i:Int)).filter q
def ao8{q:Int→Bool}:oH q (k+1)=oH q k++if q k then [(k:Int)] else []:=by simp only [oH,List.range_succ,bj,ic,List.map_cons,List.map_nil,List.filter_cons,List.filter_nil]
def Wz(q:Int→Bool)(k:Nat):(oH q k).length≤k:=by have:=kh q ((List.range k).map fun i:Nat=>(i:Int));simpa [oH] using this
def rJ(a b:List Int):List Int:=if fC a&&fC b then oH (fun x=>cn a x&&cn b x) 24 else []
def WA{x:Int}:cn l x=true↔x∈l:=by simp [cn]
def WB(h:fC l=true)(hk:k < l.length):0≤l[k]∧l[k]≤23∧(k=0∨l.getD (k - 1) 0 < l[k]):=by have:=Na.1 (List.all_eq_true.1 h k (List.mem_range.2 hk));rwa [show l.getD k 0=l[k] by simp [hk]] at this
def ao9{l:List Int}(h:fC l=true):∀(j i:Nat) (hj:j < l.length) (hi:i < j),l[i] < l[j]
 | 0,i,_,hi=>by omega
 | j+1,i,hj,hi=>by
  have h1:=(WB h hj).2.2;have e:l.getD (j+1 - 1) 0=l[j]:=by simp [show j < l.length by omega]
  rw [e] at h1;rcases Nat.lt_or_ge i j with h2|h2
  ·have:=ao9 h j i ab h2
   omega
  ·have:i=j:=by omega
   subst this;omega
def awD(h:fC l=true):l.Pairwise (· < ·):=by rw [List.pairwise_iff_getElem];intro i j hi hj hij;exact ao9 h j i hj hij
def apa{m:Int}:∀{l:List Int},l.Pairwise (· < ·)→l.filter (fun x=>decide (x < m+1))=l.filter (fun x=>decide (x < m))++(if cn l m then [m] else [])
 | [],_=>by simp [cn]
 | x::l,h=>by
  rw [List.pairwise_cons] at h;have ih:=apa (m:=m) h.2;have hhx:cn (x::l) m=(x==m||cn l m):=by simp [cn]
  by_cases h1:x < m
  ·have e1:decide (x < m+1)=true:=by simp;omega
   have e2:decide (x < m)=true:=Jj;rw [List.filter_cons,List.filter_cons,if_pos e1,if_pos e2,ih,hhx,show (x==m)=false by simp;omega,Bool.false_or];rfl
  ·have hl:l.filter (fun x=>decide (x < m))=[]:=by rw [List.filter_eq_nil_iff];intro y hy;have:=h.1 y hy;simp;omega
   have hl1:l.filter (fun x=>decide (x < m+1))=[]:=by rw [List.filter_eq_nil_iff];intro y hy;have:=h.1 y hy;simp;omega
   have hm:cn l m=false:=by
    cases hc:cn l m with
    | false=>rfl
    | true=>have:=h.1 m (WA.1 hc);omega
   have e2:¬decide (x < m)=true:=Jj;by_cases h2:x=m
   ·have e1:decide (x < m+1)=true:=by simp;omega
    rw [List.filter_cons,List.filter_cons,if_pos e1,if_neg e2,hl,hl1,hhx,hm,show (x==m)=true by simpa using h2];simp [h2]
   ·have e1:¬decide (x < m+1)=true:=by simp;omega
    rw [List.filter_cons,List.filter_cons,if_neg e1,if_neg e2,hl,hl1,hhx,hm,show (x==m)=false by simpa using h2];simp
def apb{l:List Int}(h:fC l=true):∀m:Nat,oH (fun x=>cn l x) m=l.filter (fun x=>decide (x < (m:Int)))
 | 0=>by rw [show oH (fun x=>cn l x) 0=[] from rfl,eq_comm,List.filter_eq_nil_iff];intro y hy;obtain ⟨k,hk,rfl⟩:=List.mem_iff_getElem.1 hy;have:=(WB h hk).1;simp;omega
 | m+1=>by rw [ao8,apb h m];have:=apa (m:=(m:Int)) (awD h);rw [show ((m+1:Nat):Int)=(m:Int)+1 by omega,this]
def apc(h:fC l=true):oH (fun x=>cn l x) 24=l:=by rw [apb h,List.filter_eq_self];intro y hy;obtain ⟨k,hk,rfl⟩:=List.mem_iff_getElem.1 hy;have:=(WB h hk).2.1;simp;omega
def awE(h:fC l=true):l.length≤24:=by have:=Wz (fun x=>cn l x) 24;rwa [apc h] at this
def WC{a b:List Int}(h:fC a=true):a.filter (fun x=>cn b x)=oH (fun x=>cn a x&&cn b x) 24:=by
 conv=>lhs;rw [←apc h]
 simp only [oH,List.filter_filter];congr 1
 funext x;exact Bool.and_comm _ _
def awF{a b:List Int}(hk:0 < k→(fC a&&fC b)=true)(h:(k=a.length∧(fC a&&fC b)=true)∨(k=0∧(a.length=0∨(fC a&&fC b)=false))):(a.take k).filter (fun x=>cn b x)=rJ a b:=by
 unfold rJ;rcases h with ⟨rfl,h⟩|⟨rfl,h⟩
 ·rw [bF,if_pos h]
  rw [aR] at h;exact WC h.1
 ·split
  ·rename_i h2
   rcases h with h|h
   ·have:a=[]:=jd h
    subst this;rw [aR] at h2;rw [←WC h2.1];simp
   ·rw [h] at h2;cases h2
  ·simp
def awG(a b:List Int):(rJ a b).length≤24:=by
 unfold rJ;split;·exact Wz _ _
 ·simp
def nK(d:α)(p:α→Bool)(r:α→α→Bool)(l:List α)(k:Nat):Bool:=(List.range k).all fun i=>p (l.getD i d)&&(i==0||r (l.getD (i - 1) d) (l.getD i d))
def fq(d:α)(p:α→Bool)(r:α→α→Bool)(l:List α):Bool:=nK d p r l l.length
def GZ{r:α→α→Bool}{l:List α}:nK d p r l (k+1)=(nK d p r l k&&(p (l.getD k d)&&(k==0||r (l.getD (k - 1) d) (l.getD k d)))):=by simp [nK,List.range_succ]
def mY{r:α→α→Bool}{l:List α}:(p (l.getD k d)&&(k==0||r (l.getD (k - 1) d) (l.getD k d)))=true↔(p (l.getD k d)=true∧(k=0∨r (l.getD (k - 1) d) (l.getD k d)=true)):=by simp
def vO{r:α→α→Bool}{l:List α}(hk:k < l.length)(h:(p (l.getD k d)&&(k==0||r (l.getD (k - 1) d) (l.getD k d)))=false):fq d p r l=false:=by
 cases hs:fq d p r l with
 | false=>rfl
 | true=>
  have:=List.all_eq_true.1 hs k (List.mem_range.2 hk);rw [h] at this;cases this
def vP{r:α→α→Bool}{l:List α}(h:nK d p r l k=true)(hk:k=l.length):fq d p r l=true:=by subst hk;exact h
def fZ{l:List α}(h:k < l.length):l.getD k d=l[k]:=ql
def pN(c:fI):Bool:=aE c.Field 0 2&&(decide (0≤c.Low)&&(decide (c.Low≤c.High)&&decide (c.High≤99)))
def tT(a b:fI):Bool:=decide (a.Field < b.Field)
def pO(l:List fI):Bool:=fq ⟨0,0,0⟩ pN tT l
def mZ(v:Int):Bool:=aE v 0 2
def pP(l:List Int):Bool:=l.all mZ&&aE l.length 1 3
def bq(q:aJt):Bool:=(aE q.Id 0 23&&(aE q.aJx 0 3&&decide ((q.aJu.length:Int)≤3)))&&(pO q.aJu&&pP q.Out)
def Nb{n l h:Int}:aE n l h=true↔l≤n∧n≤h:=by simp [aE]
def gDt{l:List α}(h:i < l.length):l[i]=l.getD i d:=ql
def kw(l:List Int)(f:Int):Int:=l.getD f.toNat 0
def Ha(r:Row)(c:fI):Bool:=aE (kw r.Values c.Field) c.Low c.High
def iI(q:aJt)(r:Row):Bool:=(bw r&&bq q)&&q.aJu.all (Ha r)
def nL(f v:Int)(c:fI):Bool:=!(c.Field==f)||aE v c.Low c.High
def mh(q:aJt)(f v:Int):Bool:=q.aJu.all (nL f v)
def Ai{r:Row}(h:bw r=true):r.Values.length=3:=by simp [bw,aE] at h;omega
def Hb{r:α→α→Bool}{l:List α}(h:fq d p r l=true)(hk:k < l.length):p l[k]=true:=by have:=List.all_eq_true.1 h k (List.mem_range.2 hk);rw [aR,fZ hk] at this;exact this.1
def ape{q:aJt}(h:bq q=true){c:fI}(hc:c∈q.aJu):0≤c.Field∧c.Field≤2:=by obtain ⟨k,hk,rfl⟩:=List.mem_iff_getElem.1 hc;unfold bq pO at h;simp only [aR] at h;have:=Hb h.2.1 hk;simp [pN,aE] at this;omega
def awH{q:aJt}{r:Row}(hq:bq q=true)(hr:bw r=true)(h:∀i:Nat,i < r.Values.length→mh q (i:Int) (r.Values.getD i 0)=true):iI q r=true:=by unfold iI;rw [hr,hq,Bool.and_self,Bool.true_and,nw];intro c hc;have hf:=ape hq hc;have hl:=Ai hr;have:=List.all_eq_true.1 (h c.Field.toNat ab) c hc;unfold nL at this;rw [Int.toNat_of_nonneg hf.1] at this;simpa [Ha,kw] using this
def awI{q:aJt}{r:Row}(h:mh q (i:Int) (r.Values.getD i 0)=false):iI q r=false:=by
 rw [←Bool.not_eq_true];intro hm;unfold iI at hm;rw [aR,nw] at hm;have:mh q (i:Int) (r.Values.getD i 0)=true:=by
  unfold mh;rw [nw];intro c hc;unfold nL;by_cases he:c.Field=(i:Int)
  ·have:=hm.2 c hc
   simp only [Ha,kw,he,Int.toNat_natCast] at this;rw [this,Bool.or_true]
  ·simp [he]
 rw [h] at this;cases this
def rL(r:Row):Bool:=aE r.Id 0 999&&decide (r.Values.length=0)
def ez(u:aJv):Bool:=
 if u.Kind=1 then bw u.Row&&(decide (u.Field=0)&&decide (u.Value=0))
 else if u.Kind=2 then rL u.Row&&(decide (u.Field=0)&&decide (u.Value=0))
 else if u.Kind=3 then rL u.Row&&(aE u.Field 0 2&&aE u.Value 0 99) else false
def apf{x y:α}:iX x y=false↔¬x=y:=⟨fun h e=>(by rw [MZ e] at h;simp at h),Wx⟩
def awJ{x y:fI}:x=y↔x.Field=y.Field∧x.Low=y.Low∧x.High=y.High:=by cases x;cases y;simp [fI.mk.injEq]
def awK{x y:aJt}:x=y↔x.Id=y.Id∧x.aJx=y.aJx∧x.aJu=y.aJu∧x.Out=y.Out:=by cases x;cases y;simp [aJt.mk.injEq]
def awL{x y:aJv}:x=y↔x.Kind=y.Kind∧x.Row=y.Row∧x.Field=y.Field∧x.Value=y.Value:=by cases x;cases y;simp [aJv.mk.injEq]
def pQ(q:aJt):Bool:=decide (q.Id=0)&&(decide (q.aJx=0)&&(decide (q.aJu.length=0)&&decide (q.Out.length=0)))
def pR(u:aJv):Bool:=decide (u.Kind=0)&&(decide (u.Row.Id=0)&&(decide (u.Row.Values.length=0)&&(decide (u.Field=0)&&decide (u.Value=0))))
def Hc(q:aJt):iX q ⟨0,0,[],[]⟩=pQ q:=by rw [Bool.eq_iff_iff,pL];cases q;simp [pQ,List.length_eq_zero_iff]
def He(u:aJv):iX u ⟨0,⟨0,[]⟩,0,0⟩=pR u:=by rw [Bool.eq_iff_iff,pL];rcases u with ⟨a,⟨b,c⟩,d,e⟩;simp [pR,List.length_eq_zero_iff,and_assoc]
def eC(x:fg):Bool:=
 if x.Kind=1 then bq x.aJt&&(aE x.Limit 0 32&&(decide (x.Id=0)&&(pR x.aJv&&decide (x.Steps=0))))
 else if x.Kind=2 then pQ x.aJt&&(decide (x.Limit=0)&&(aE x.Id 0 23&&(pR x.aJv&&decide (x.Steps=0))))
 else if x.Kind=3 then pQ x.aJt&&(decide (x.Limit=0)&&(decide (x.Id=0)&&(ez x.aJv&&decide (x.Steps=0))))
 else if x.Kind=4 then pQ x.aJt&&(decide (x.Limit=0)&&(decide (x.Id=0)&&(pR x.aJv&&aE x.Steps 1 100)))
 else false
def awM{x y:eT}:x=y↔x.From=y.From∧x.To=y.To∧x.Set=y.Set:=by cases x;cases y;simp [eT.mk.injEq]
end
end Go.Proofs.YtmekkgdboplbjaaGreatDoor
namespace Go.Proofs.YtmekkgdboplbjaaGreatDoor
open Go Go.RowKit M Tryz
set_option maxRecDepth 10000
variable{Fz:aC}{w:World}
def Nc:prog.follows .mixedOrders=true:=ao
def apg:aB prog 102=true:=ao
def awN:aB prog 108=true:=ao
def awO:aB prog 109=true:=ao
def WD:aB prog 110=true:=ao
def awP:aB prog 111=true:=ao
def awQ:aB prog 112=true:=ao
def WE:aB prog 113=true:=ao
def aph:aB prog 125=true:=ao
def WF:aB prog 170=true:=ao
def ya:aB prog 172=true:=ao
def awR:aB prog 175=true:=ao
def Nd:aB prog 176=true:=ao
def awS:aB prog 177=true:=ao
def awT:aB prog 178=true:=ao
def awU:aB prog 179=true:=ao
def awV:aB prog 190=true:=ao
def Nf:aB prog 191=true:=ao
def awW:aB prog 192=true:=ao
def api:aB prog 227=true:=ao
def apj:aB prog 228=true:=ao
def Ng:aB prog 230=true:=ao
def WG:aB prog 232=true:=ao
def awX:aB prog 283=true:=ao
def awY:aB prog 285=true:=ao
def awZ:aB prog 343=true:=ao
def aw0:aB prog 344=true:=ao
def apk:aB prog 345=true:=ao
def tU:aB prog 74=true:=ao
def nM:aB prog 75=true:=ao
def Hf:aB prog 86=true:=ao
def Nh:aB prog 90=true:=ao
def Ni:aB prog 98=true:=ao
def jU:co prog 25 0=some 0:=ao
def tV:co prog 25 1=some 1:=ao
def na:co prog 25 2=some 2:=ao
def Da:co prog 25 3=some 3:=ao
def mi:co prog 27 0=some 0:=ao
def yb:co prog 27 1=some 1:=ao
def WH:co prog 29 0=some 0:=ao
def Db:co prog 29 1=some 1:=ao
def yc:co prog 29 2=some 3:=ao
def rO:co prog 29 3=some 4:=ao
def apl:co prog 31 0=some 0:=ao
def Hg:co prog 31 1=some 1:=ao
def yd:co prog 31 2=some 5:=ao
def ye:co prog 31 3=some 6:=ao
def Dc:co prog 31 4=some 7:=ao
def Hh:co prog 31 5=some 12:=ao
def tW:co prog 65 0=some 0:=ao
def Hi:co prog 65 1=some 1:=ao
def yf:co prog 65 2=some 2:=ao
def aw1:dw prog 25=some [(0,1),(1,1),(2,1),(3,1)]:=ao
def apm:dw prog 27=some [(0,1),(1,1)]:=ao
def aw2:dw prog 29=some [(0,1),(1,2),(3,1),(4,1)]:=ao
def aw3(x y:Nat)(a0 a1 a2 b0 b1 b2:Int)(w:World):Sem.run prog (do eqGuard .neq 65 (.tmp x) (.tmp y) (.agg #[vI a0,vI a1,vI a2]) (.agg #[vI b0,vI b1,vI b2]);binOp .neq 65 (.agg #[vI a0,vI a1,vI a2]) (.agg #[vI b0,vI b1,vI b2]):Sem Value) w = .ok (.bool (!(a0==b0&&a1==b1&&a2==b2))) w:=by
 have hS:prog.underlying 65=some (.struct (prog.fieldsOf 65)):=ao;have hp:prog.stoodInHeld 65=false:=ao;have hm:prog.eqGuardType prog.depth 65=false:=ao;have hU:=underlying65;have u3:=underlying3;have a3_:=isAgg3;have z3:=sizeOf3;rw [Sem.run_bind,run_eqGuard_agg w _ _ _ _ _ _ hm,Result.andThen_ok,run_neq_struct];rw [show (10000:Nat)=9999+1 from rfl,run_equalIn_agg w 9999 65 _ _ hS hp];simp only [Program.fieldsOf,hU]
 go_simp
 by_cases h0:a0=b0<;>by_cases h1:a1=b1<;>by_cases h2:a2=b2<;>simp_all
def iJ:gu prog 22=some (65,3,24):=ao
def bW:gu prog 23=some (3,1,8):=ao
def vQ:gu prog 37=some (5,1,1):=ao
def iK:gu prog 54=some (27,2,32):=ao
def lA:dr prog 22=some (false,1):=ao
def ca:dr prog 23=some (false,1):=ao
def gW:dr prog 25=some (true,4):=ao
def jA:dr prog 27=some (true,2):=ao
def lB:dr prog 29=some (true,5):=ao
def aT:dr prog 3=some (false,1):=ao
def Dd:dr prog 65=some (true,3):=ao
def mj:fU prog 25=some (.agg #[.int .i64 0,.int .i64 0,.slice none 0 0,.slice none 0 0]):=ao
def jl:fU prog 27=some (.agg #[.int .i64 0,.slice none 0 0]):=ao
def vR:fU prog 29=some (.agg #[.int .i64 0,.int .i64 0,.slice none 0 0,.int .i64 0,.int .i64 0]):=ao
def jV:fU prog 3=some (.int .i64 0):=ao
def pS:fU prog 65=some (.agg #[.int .i64 0,.int .i64 0,.int .i64 0]):=ao
def yg:aN [PV.val (.int .i64 0),PV.val (.int .i64 0),PV.sl aG [],PV.sl aj []] Fz w (Value.cells (.agg #[.int .i64 0,.int .i64 0,.slice none 0 0,.slice none 0 0])).toList []:=dV rfl (dV rfl (gR (gR (nB))))
def nb:aN [PV.val (.int .i64 0),PV.sl aj []] Fz w (Value.cells (.agg #[.int .i64 0,.slice none 0 0])).toList []:=dV rfl (gR (nB))
def vS:aN [PV.val (.int .i64 0),PV.val (.int .i64 0),PV.sl aj [],PV.val (.int .i64 0),PV.val (.int .i64 0)] Fz w (Value.cells (.agg #[.int .i64 0,.int .i64 0,.slice none 0 0,.int .i64 0,.int .i64 0])).toList []:=dV rfl (dV rfl (gR (dV rfl (dV rfl (nB)))))
def Hj:aN [PV.val (.int .i64 0),PV.val (.int .i64 0),PV.val (.int .i64 0)] Fz w (Value.cells (.agg #[.int .i64 0,.int .i64 0,.int .i64 0])).toList []:=dV rfl (dV rfl (dV rfl (nB)))
end Go.Proofs.YtmekkgdboplbjaaGreatDoor
namespace Go.Proofs.YtmekkgdboplbjaaGreatDoor
open Go Go.RowKit M Tryz
set_option maxRecDepth 10000
variable{w f:Int}{s:Store}{now v:Int}{L:List bb}{i k j:Nat}{l:List aJt}{out:List eT}{x:eb}{o:List Int}{n:Int}{α:Type}{xs:List am}{sep:am}{e:au}{keep:List Int}{zs:List (bb×(Nat→Value))}
section
structure aO where
 b:List Int
 i:Nat
 h:Int
 hb:b.length≤9223372036854775807
def eL(o:Fl)(c:aO):List PV:=[PV.sl o (c.b.map xX),PV.val (vI (c.i:Int)),PV.val (vI c.h)]
def Nj(code:List Int):Nat→Int
 | 0=>10101+code.length
 | k+1=>uP (zg (zg (JR (Nj code k) 131) (IntKind.i64.wrap (code.getD k 0))) 7) 1073741823
def fa(code:List Int)(hb:code.length≤9223372036854775807):aO:=⟨code,0,Nj code (min code.length 4000),hb⟩
def yh(h:Int):Int:=zg (JR h 6364136223846793005) 1442695040888963407
def De(h:Int):Int:=uP (JS (h.fdiv (2 ^ 33)) (h.fdiv (2 ^ 45))) 255
def gj(c:aO):Int×aO:=if c.i < c.b.length then (uP (zg (De (yh c.h)) (IntKind.i64.wrap (c.b.getD c.i 0))) 255,⟨c.b,c.i+1,yh c.h,c.hb⟩) else (De (yh c.h),⟨c.b,c.i,yh c.h,c.hb⟩)
def av(c:aO)(n:Int):Int×aO:=if n≤0 then (0,c) else ((gj c).1.tmod n,(gj c).2)
def ct(c:aO)(l:List Int):Int×aO:=(l.getD (av c l.length).1.toNat 0,(av c l.length).2)
def ml(w:Int)(c:aO):Nat→List Int×aO
 | 0=>([],c)
 | k+1=>((ml w c k).1++[(av (ml w c k).2 w).1],(av (ml w c k).2 w).2)
def jB(c:aO)(id:Int):Row×aO:=(⟨id,(ml (ct c [3,6,100]).1 (ct c [3,6,100]).2 3).1⟩,(ml (ct c [3,6,100]).1 (ct c [3,6,100]).2 3).2)
structure apn where
 id:Int
 l:List Row
 c:aO
def ee(id:Int)(c:aO):Nat→apn
 | 0=>⟨id,[],c⟩
 | k+1=>⟨(ee id c k).id+1+(av (jB (ee id c k).c (ee id c k).id).2 3).1,(ee id c k).l++[(jB (ee id c k).c (ee id c k).id).1],(av (jB (ee id c k).c (ee id c k).id).2 3).2⟩
def Nk(c:aO)(most:Int):apn:=ee (av c 3).1 (av (av c 3).2 (most+1)).2 (av (av c 3).2 (most+1)).1.toNat
def rP(c:aO)(most:Int):List Row×aO:=((Nk c most).l,(Nk c most).c)
section
variable{c:aO}{n w id:Int}{k:Nat}{l:List Int}
def aw4(h:c.i < c.b.length):gj c=(uP (zg (De (yh c.h)) (IntKind.i64.wrap (c.b.getD c.i 0))) 255,⟨c.b,c.i+1,yh c.h,c.hb⟩):=if_pos h
def aw5(h:¬c.i < c.b.length):gj c=(De (yh c.h),⟨c.b,c.i,yh c.h,c.hb⟩):=if_neg h
def aw6(h:Int):0≤De h∧De h≤255:=adu (m:=255) ai
def rQ(c:aO):0≤(gj c).1∧(gj c).1≤255:=by
 unfold gj;split;·exact adu (m:=255) ai
 ·exact aw6 _
def apo(h:n≤0):av c n=(0,c):=if_pos h
def WI(h:0 < n):av c n=((gj c).1.tmod n,(gj c).2):=if_neg ab
def eM(c:aO)(n:Int):0≤(av c n).1:=by
 by_cases h:n≤0;·rw [apo h];exact Int.le_refl _
 ·rw [WI ab];exact Int.tmod_nonneg n (rQ c).1
def fv(c:aO)(h:0 < n):(av c n).1 < n:=by rw [WI h];exact Int.tmod_lt_of_pos _ h
def WJ(c:aO)(h:0 < l.length):(ct c l).1∈l:=by have h1:=eM c (l.length:Int);have h2:=fv c (n:=(l.length:Int)) ab;have h3:(av c (l.length:Int)).1.toNat < l.length:=ab;show l.getD _ 0∈l;rw [List.getD_eq_getElem?_getD,List.getElem?_eq_getElem h3];exact List.getElem_mem h3
def aw7(c:aO):0≤(ct c [3,6,100]).1∧(ct c [3,6,100]).1≤100:=by have h:=WJ c (l:=[3,6,100]) ai;simp at h;omega
def Hk:((ml w c k).1).length=k:=by
 induction k with
 | zero=>rfl
 | succ k ih=>rw [ml,bv,ih];rfl
def apq(c:aO)(id:Int):jy (jB c id).1=3:=by unfold jB jy;simp only [fL,Hk,bf]
def apr(h:0≤id∧id≤2):0≤(ee id c k).id∧(ee id c k).id≤3 * k+2:=by
 induction k with
 | zero=>exact ⟨h.1,by rw [ee];dsimp only;omega⟩
 | succ k ih=>
  rw [ee];have h1:=eM (jB (ee id c k).c (ee id c k).id).2 3;have h2:=fv (jB (ee id c k).c (ee id c k).id).2 (n:=3) ai;dsimp only;omega
def WK:(ee id c k).l.length=k:=by
 induction k with
 | zero=>rfl
 | succ k ih=>rw [ee];dsimp only;rw [bv,ih];rfl
def aw8:((ee id c k).l.map jy).sum=3 * k:=by
 induction k with
 | zero=>rfl
 | succ k ih=>
  rw [ee];dsimp only;rw [bj,List.sum_append,ih,List.map_cons,List.map_nil,List.sum_cons,List.sum_nil,apq];omega
def aw9(c:aO){most:Int}(h:0≤most):(iY (rP c most).1:Int)≤4 * most:=by have h1:=eM (av c 3).2 (most+1);have h2:=fv (av c 3).2 (n:=most+1) ab;have h3:=WK (id:=(av c 3).1) (c:=(av (av c 3).2 (most+1)).2) (k:=(av (av c 3).2 (most+1)).1.toNat);have h4:=aw8 (id:=(av c 3).1) (c:=(av (av c 3).2 (most+1)).2) (k:=(av (av c 3).2 (most+1)).1.toNat);unfold iY rP Nk;dsimp only;rw [h3,h4];omega
end
end
structure vT where
 l:List fI
 c:aO
@[reducible] def aJm (w:Int) (c:aO):aO:=(av c 2).2
@[reducible] def Df (w:Int) (c:aO):Int:=(av (av c 2).2 w).1
@[reducible] def aps (w:Int) (c:aO):Int:=min 99 (Df w c+(av (av (av c 2).2 w).2 w).1)
@[reducible] def Dg (w:Int) (c:aO):aO:=(av (av (av c 2).2 w).2 w).2
def vU(w:Int)(f:Int)(s:vT):vT:=
 if (av s.c 2).1=0 then
  ⟨s.l++[⟨f,Df w s.c,if (av (Dg w s.c) 3).1=0 then Df w s.c else aps w s.c⟩],(av (Dg w s.c) 3).2⟩
 else ⟨s.l,(av s.c 2).2⟩
def axa{s:vT}(h:(av s.c 2).1=0)(h2:(av (Dg w s.c) 3).1=0):vU w f s=⟨s.l++[⟨f,Df w s.c,Df w s.c⟩],(av (Dg w s.c) 3).2⟩:=by unfold vU;rw [if_pos h,if_pos h2]
def axb{s:vT}(h:(av s.c 2).1=0)(h2:¬(av (Dg w s.c) 3).1=0):vU w f s=⟨s.l++[⟨f,Df w s.c,aps w s.c⟩],(av (Dg w s.c) 3).2⟩:=by unfold vU;rw [if_pos h,if_neg h2]
def axc{s:vT}(h:¬(av s.c 2).1=0):vU w f s=⟨s.l,(av s.c 2).2⟩:=by unfold vU;rw [if_neg h]
def kU(w:Int)(s:vT):Nat→vT
 | 0=>s
 | k+1=>vU w (k:Int) (kU w s k)
def WL{w:Int}{s:vT}:∀k,(kU w s k).l.length≤s.l.length+k
 | 0=>Nat.le_refl _
 | k+1=>by
  have ih:=WL (w:=w) (s:=s) k;show (vU w (k:Int) (kU w s k)).l.length≤_;unfold vU;split;·simp only [bv,List.length_cons,List.length_nil];omega
  ·dsimp only;omega
@[reducible] def Nl (c:aO):Int×aO:=ct (av c 4).2 [3,6,100]
def vV(c:aO):vT:=kU (Nl c).1 ⟨[],(Nl c).2⟩ 3
def mm(c:aO):Int×aO:=av (vV c).c 3
def Hl(c:aO):List Int×aO:=ml 3 (mm c).2 (1+(mm c).1).toNat
def oI(c:aO)(id:Int):aJt×aO:=(⟨id,(av c 4).1,(vV c).l,(Hl c).1⟩,(Hl c).2)
def apt(c:aO):0≤(mm c).1∧(mm c).1≤2:=by have h1:=eM (vV c).c 3;have h2:=fv (vV c).c (n:=3) ai;unfold mm;omega
def axd(c:aO)(id:Int):eZ (oI c id).1≤6:=by
 have h1:=WL (w:=(Nl c).1) (s:=⟨[],(Nl c).2⟩) 3;have h2:=apt c;have h3:(Hl c).1.length=(1+(mm c).1).toNat:=Hk;have hc:∀l:List fI,(l.map CV).sum=0:=by
  intro l;induction l with
  | nil=>rfl
  | cons a c ih=>rw [List.map_cons,List.sum_cons,ih];rfl
 unfold oI eZ xY;simp only [fL,bf,hc];have:(vV c).l.length≤0+3:=h1;omega
def v0:bb:=⟨0,[],0,0⟩
def fb(now:Int)(v:bb):Bool:=bw ⟨v.Id,v.Values⟩&&(aE v.aJG 0 now&&(decide (v.aJC = -1)||aE v.aJC (v.aJG+1) now))
def hP(a b:bb):Bool:=!(a.Id==b.Id)||((!(a.aJC == -1)&&decide (a.aJC≤b.aJG))||(!(b.aJC == -1)&&decide (b.aJC≤a.aJG)))
def gX(v:bb)(t:Int):Bool:=decide (v.aJG≤t)&&(decide (v.aJC = -1)||decide (v.aJC > t))
def Aj(v w:bb):Bool:=gX v w.aJG||gX w v.aJG
def apu{v w:bb}(hv:fb now v=true)(hw:fb now w=true):(v.Id==w.Id&&Aj v w) = !hP v w:=by
 have h1:v.aJC = -1∨v.aJG < v.aJC:=by simp [fb,aE] at hv;omega
 have h2:w.aJC = -1∨w.aJG < w.aJC:=by simp [fb,aE] at hw;omega
 have h3:0≤v.aJG∧0≤w.aJG:=by simp [fb,aE] at hv hw;omega
 rw [Bool.eq_iff_iff];simp only [Aj,gX,hP,aR,Bool.or_eq_true,Bool.not_eq_true',beq_iff_eq,decide_eq_true_eq,Bool.or_eq_false_iff,Bool.not_eq_false',Bool.and_eq_false_iff,decide_eq_false_iff_not];omega
def bA(s:Store):List bb:=s.aJr.flatten
def je(L:List bb)(i k:Nat):Bool:=(List.range k).all fun m=>hP (L.getD i v0) (L.getD m v0)
def qF(now:Int)(L:List bb)(i:Nat):Bool:=fb now (L.getD i v0)&&je L i i
def qG(now:Int)(L:List bb)(i:Nat):Bool:=(List.range i).all (qF now L)
def oJ(l:List bb):Bool:=decide ((l.length:Int)≤4)
def tX(s:Store):Bool:=aE s.aJr.length 1 8&&aE s.Now 0 100000
def cv(s:Store):Bool:=(tX s&&s.aJr.all oJ)&&qG s.Now (bA s) (bA s).length
def axe:je L i (k+1)=(je L i k&&hP (L.getD i v0) (L.getD k v0)):=by simp [je,List.range_succ]
def apv:qG now L (i+1)=(qG now L i&&qF now L i):=by simp [qG,List.range_succ]
def WM(h:qG now L i=true)(hj:j < i):fb now (L.getD j v0)=true:=by have:=List.all_eq_true.1 h j (List.mem_range.2 hj);unfold qF at this;rw [aR] at this;exact this.1
def Nn(hi:i < (bA s).length)(h:qF s.Now (bA s) i=false):cv s=false:=by
 have:qG s.Now (bA s) (bA s).length=false:=by rw [←Bool.not_eq_true];intro hh;have:=List.all_eq_true.1 hh i (List.mem_range.2 hi);rw [h] at this;cases this
 unfold cv;rw [this,Bool.and_false]
def apw(h:fb now (L.getD i v0)=false):qF now L i=false:=by unfold qF;rw [h];rfl
def apx(hk:k < i)(h:hP (L.getD i v0) (L.getD k v0)=false):qF now L i=false:=by
 have:je L i i=false:=by rw [←Bool.not_eq_true];intro hh;have:=List.all_eq_true.1 hh k (List.mem_range.2 hk);rw [h] at this;cases this
 unfold qF;rw [this,Bool.and_false]
def apy(hk:k < s.aJr.length)(h:¬((s.aJr[k].length:Int)≤4)):cv s=false:=by have:s.aJr.all oJ=false:=qE hk (by simpa [oJ] using h);unfold cv;rw [this];simp
def eU(s:Store)(k:Nat):List bb:=(s.aJr.take k).flatten
def Hm(hk:k < s.aJr.length):eU s (k+1)=eU s k++s.aJr[k]:=by unfold eU;rw [cI hk,List.flatten_append];simp
def No(hk:k < s.aJr.length):bA s=eU s k++(s.aJr[k]++(s.aJr.drop (k+1)).flatten):=by unfold bA eU;rw [←List.flatten_cons,←List.flatten_append,←List.drop_eq_getElem_cons hk,iq]
def WN:eU s s.aJr.length=bA s:=by unfold eU bA;rw [bF]
def apz(hk:k < s.aJr.length)(hj:j < s.aJr[k].length):(eU s k).length+j < (bA s).length∧(bA s).getD ((eU s k).length+j) v0=s.aJr[k][j]:=by rw [No hk];refine ⟨by simp only [bv];omega,?_⟩;rw [List.getD_eq_getElem?_getD,List.getElem?_append_right ab,show (eU s k).length+j - (eU s k).length=j by omega,List.getElem?_append_left hj,List.getElem?_eq_getElem hj];rfl
def axf(hk:k < s.aJr.length)(hj:j≤s.aJr[k].length):eU s k++s.aJr[k].take j=(bA s).take ((eU s k).length+j):=by rw [No hk,List.take_length_add_append,List.take_append_of_le_length hj]
def qH(s:Store):(bA s).length≤cR s:=by
 unfold cR iH bA;rw [List.length_flatten];have:(s.aJr.map List.length).sum≤(s.aJr.map dg).sum:=by
  generalize s.aJr=l;induction l with
  | nil=>simp
  | cons x l ih=>simp only [List.map_cons,List.sum_cons];unfold dg at *;omega
 omega
def gx(v:bb):Row:=⟨v.Id,v.Values⟩
def jm(h:cv s=true):s.aJr.length≤8∧1≤s.aJr.length∧0≤s.Now∧s.Now≤100000∧(∀g∈s.aJr,g.length≤4)∧∀i,i < (bA s).length→fb s.Now ((bA s).getD i v0)=true:=by unfold cv tX at h;simp only [aR,aE,decide_eq_true_eq] at h;refine ⟨ab,ab,ab,ab,fun g hg=>?_,fun i hi=>WM h.2 hi⟩;have:=List.all_eq_true.1 h.1.2 g hg;simp [oJ] at this;omega
def Dh(h:cv s=true)(hk:k < s.aJr.length)(hj:j < s.aJr[k].length):fb s.Now s.aJr[k][j]=true:=by have h1:=apz hk hj;rw [←h1.2];exact (jm h).2.2.2.2.2 _ h1.1
def rR:aJt:=⟨0,0,[],[]⟩
def oK:eT:=⟨0,0,[]⟩
def rT(a b:aJt):Bool:=decide (a.Id < b.Id)
def eA(l:List aJt):Bool:=fq rR bq rT l&&decide ((l.length:Int)≤24)
def qI(h:eA l=true):l.length≤24∧∀q∈l,bq q=true:=by unfold eA at h;rw [aR] at h;refine ⟨by have:=of_decide_eq_true h.2;omega,fun q hq=>?_⟩;obtain ⟨k,hk,rfl⟩:=List.mem_iff_getElem.1 hq;exact Hb h.1 hk
def axg{q:aJt}(h:bq q=true):q.aJu.length≤3∧q.Out.length≤3:=by unfold bq pP at h;simp only [aR,aE,decide_eq_true_eq] at h;omega
def ij(l:List aJt)(f v:Int):List Int:=(l.filter fun q=>mh q f v).map aJt.Id
def Np(l:List aJt)(f v:Int):List Int:=if eA l&&(aE f 0 2&&aE v 0 99) then ij l f v else []
def axh(hk:k < l.length)(h:mh l[k] f v=true):ij (l.take (k+1)) f v=ij (l.take k) f v++[l[k].Id]:=by unfold ij;rw [cI hk,ic];simp [h]
def axi(hk:k < l.length)(h:mh l[k] f v=false):ij (l.take (k+1)) f v=ij (l.take k) f v:=by unfold ij;rw [cI hk,ic];simp [h]
def Hn(l:List aJt)(f v:Int):(ij l f v).length≤l.length:=by unfold ij;rw [aU];exact kh _ _
def axj(h:(k=l.length∧(eA l&&(aE f 0 2&&aE v 0 99))=true)∨(k=0∧(l.length=0∨(eA l&&(aE f 0 2&&aE v 0 99))=false))):ij (l.take k) f v=Np l f v:=by
 unfold Np;rcases h with ⟨rfl,h⟩|⟨rfl,h⟩;·rw [if_pos h,bF]
 ·split
  ·rename_i h2
   rcases h with h|h;·rw [jd h];rfl
   ·rw [h] at h2;cases h2
  ·rfl
noncomputable def nN(out:List eT)(s:List Int):Bool:=!(out.length==0)&&iX (out.getD (out.length - 1) oK).Set s
def apA{s:List Int}(h0:0 < out.length)(h:iX (out.getD (out.length - 1) oK).Set s=true):nN out s=true:=by unfold nN;rw [h,Bool.and_true];simp;exact List.length_pos_iff.1 h0
noncomputable def Di(out:List eT)(v:Int)(s:List Int):List eT:=if nN out s then out.set (out.length - 1) ⟨(out.getD (out.length - 1) oK).From,v,(out.getD (out.length - 1) oK).Set⟩ else out++[⟨v,v,s⟩]
def apB{s:List Int}(h:nN out s=true):Di out v s=out.set (out.length - 1) ⟨(out.getD (out.length - 1) oK).From,v,(out.getD (out.length - 1) oK).Set⟩:=if_pos h
def apC{s:List Int}(h:nN out s=false):Di out v s=out++[⟨v,v,s⟩]:=if_neg gJ
noncomputable def dk(l:List aJt)(f:Int):Nat→List eT
 | 0=>[]
 | k+1=>Di (dk l f k) k (ij l f k)
def Nq(l:List aJt)(f:Int):∀k,(dk l f k).length≤k
 | 0=>Nat.le_refl _
 | k+1=>by
  have:=Nq l f k;rw [dk];unfold Di;split;·rw [List.length_set];omega
  ·rw [bv];simp;omega
def apD(l:List aJt)(f:Int):∀k,∀s∈dk l f k,s.Set.length≤l.length
 | 0,s,h=>nomatch h
 | k+1,s,h=>by
  have ih:=apD l f k;rw [dk] at h;unfold Di at h;split at h
  ·rename_i hl
   rcases List.mem_or_eq_of_mem_set h with h|rfl;·exact ih s h
   ·have hne:0 < (dk l f k).length:=by unfold nN at hl;rw [aR] at hl;have:=hl.1;simp at this;exact List.length_pos_iff.2 this
    have hlt:(dk l f k).length - 1 < (dk l f k).length:=ab;show ((dk l f k).getD _ oK).Set.length≤_;rw [List.getD_eq_getElem?_getD,List.getElem?_eq_getElem hlt];exact ih _ (List.getElem_mem hlt)
  ·rcases List.mem_append.1 h with h|h
   ·exact ih s h
   ·simp at h;subst h;exact Hn _ _ _
noncomputable def gY(l:List aJt)(f:Int):List eT:=if eA l&&aE f 0 2 then dk l f 100 else []
def apE(l:List aJt)(f:Int):(gY l f).length≤100∧∀s∈gY l f,s.Set.length≤24:=by
 unfold gY;split
 ·rename_i h
  rw [aR] at h;have:=qI h.1;exact ⟨Nq _ _ _,fun s hs=>Nat.le_trans (apD _ _ _ s hs) this.1⟩
 ·exact ⟨aL,fun s hs=>nomatch hs⟩
def jW(v:Int)(s:eT):Bool:=aE v s.From s.To
def jC(l:List eT)(v:Int):List Int:=match l.find? (jW v) with
 | some s=>s.Set
 | none=>[]
def apF{l:List eT}(hk:k < l.length)(h:(l.take k).any (jW v)=false)(hy:jW v l[k]=true):jC l v=l[k].Set:=by
 unfold jC;have e:l=l.take k++l[k]::l.drop (k+1):=aaF;have hn:(l.take k).find? (jW v)=none:=by rw [List.find?_eq_none];intro x hx hp;rw [List.any_eq_false] at h;exact h x hx hp
 have:l.find? (jW v)=some l[k]:=by
  conv=>lhs;rw [e]
  rw [List.find?_append,hn,List.find?_cons_of_pos hy];rfl
 rw [this]
def axk{l:List eT}(h:l.any (jW v)=false):jC l v=[]:=by
 unfold jC;have hn:l.find? (jW v)=none:=by rw [List.find?_eq_none];intro x hx hp;rw [List.any_eq_false] at h;exact h x hx hp
 rw [hn]
def apG{l:List eT}{m:Nat}(h:∀s∈l,s.Set.length≤m)(v:Int):(jC l v).length≤m:=by
 unfold jC;split;·rename_i s hs;exact h s (List.mem_of_find?_eq_some hs)
 ·exact Nat.zero_le _
noncomputable def yi(x:eb)(k:Nat):Bool:=(List.range k).all fun f=>iX (x.Fields.getD f []) (gY x.Queries (f:Int))
def axl:yi x (k+1)=(yi x k&&iX (x.Fields.getD k []) (gY x.Queries (k:Int))):=by simp [yi,List.range_succ]
noncomputable def fD(x:eb):Bool:=(eA x.Queries&&decide (x.Fields.length=3))&&yi x 3
def apH(hk:k < 3)(h:iX (x.Fields.getD k []) (gY x.Queries (k:Int))=false):fD x=false:=by
 have:yi x 3=false:=by rw [←Bool.not_eq_true];intro hh;have:=List.all_eq_true.1 hh k (List.mem_range.2 hk);rw [h] at this;cases this
 unfold fD;rw [this,Bool.and_false]
def WO(h:fD x=true):eA x.Queries=true∧x.Fields.length=3∧∀f,f < 3→x.Fields.getD f []=gY x.Queries (f:Int):=by unfold fD at h;simp only [aR,decide_eq_true_eq] at h;exact ⟨h.1.1,h.1.2,fun f hf=>pL.1 (List.all_eq_true.1 h.2 f (List.mem_range.2 hf))⟩
noncomputable def lC(l:List aJt):eb:=if eA l then ⟨l,[gY l 0,gY l 1,gY l 2]⟩ else ⟨[],[]⟩
def axm(h:eA l=true):fD (lC l)=true:=by unfold lC;rw [if_pos h];unfold fD;rw [h];simp only [List.length_cons,List.length_nil,Bool.true_and,aR,decide_eq_true_eq];refine ⟨ai,?_⟩;unfold yi;rw [nw];intro f hf;have:=List.mem_range.1 hf;have:f=0∨f=1∨f=2:=ab;rcases this with rfl|rfl|rfl<;>exact MZ rfl
noncomputable def yj(l:List aJt)(k:Nat):List (List eT):=(List.range k).map fun f:Nat=>gY l (f:Int)
def rU(l:List aJt):List Int:=l.map aJt.Id
def ci(o:List Int):Bool:=decide (o.length=3)&&(cn o 0&&(cn o 1&&cn o 2))
def Nr(h:ci o=true):o.length=3∧∀f∈o,0≤f∧f≤2:=by
 unfold ci at h;simp only [aR,decide_eq_true_eq] at h;obtain ⟨h1,h2,h3,h4⟩:=h;match o,h1 with
 | [a,b,c],_=>
  simp [cn] at h2 h3 h4;refine ⟨rfl,fun f hf=>?_⟩;simp at hf;omega
def Dj(o:List Int)(k:Nat):Bool:=(List.range k).all fun i=>aE (o.getD i 0) 0 2&&!cn (o.take i) (o.getD i 0)
def axn:Dj o (k+1)=(Dj o k&&(aE (o.getD k 0) 0 2&&!cn (o.take k) (o.getD k 0))):=by simp [Dj,List.range_succ]
def apI(h:o.length=3):Dj o 3=ci o:=by
 match o,h with
 | [a,b,c],_=>
  rw [Bool.eq_iff_iff];simp [Dj,ci,cn,aE,List.range_succ];omega
def axo(hl:o.length=3)(hk:k < 3)(h:(aE (o.getD k 0) 0 2&&!cn (o.take k) (o.getD k 0))=false):ci o=false:=by rw [←apI hl,←Bool.not_eq_true];intro hh;have:=List.all_eq_true.1 hh k (List.mem_range.2 hk);rw [h] at this;cases this
def vW(x:eb)(r:Row)(s:List Int×Int)(f:Int):List Int×Int:=if s.1=[] then s else (rJ s.1 (jC (x.Fields.getD f.toNat []) (kw r.Values f)),s.2+1+min (s.1.length:Int) ((jC (x.Fields.getD f.toNat []) (kw r.Values f)).length:Int))
def gZ(x:eb)(r:Row)(o:List Int)(k:Nat):List Int×Int:=(o.take k).foldl (vW x r) (rU x.Queries,0)
def WP{r:Row}(hk:k < o.length)(h:(gZ x r o k).1≠[]):gZ x r o (k+1)=(rJ (gZ x r o k).1 (jC (x.Fields.getD o[k].toNat []) (kw r.Values o[k])),(gZ x r o k).2+1+min ((gZ x r o k).1.length:Int) ((jC (x.Fields.getD o[k].toNat []) (kw r.Values o[k])).length:Int)):=by unfold gZ;rw [cI hk,List.foldl_append];show vW x r (gZ x r o k) o[k]=_;unfold vW;rw [if_neg h];rfl
def apJ{x:eb}{r:Row}:∀(o:List Int) (s:List Int×Int),s.1=[]→o.foldl (vW x r) s=s
 | [],s,_=>rfl
 | f::o,s,h=>by rw [List.foldl_cons];have:vW x r s f=s:=if_pos h;rw [this];exact apJ o s h
noncomputable def nO(x:eb)(r:Row)(o:List Int):List Int×Int:=o.foldl (vW x r) (rU x.Queries,0)
def Ns{r:Row}(h:k=o.length∨(gZ x r o k).1=[]):gZ x r o k=nO x r o:=by
 rcases h with rfl|h;·unfold gZ nO;rw [bF]
 ·unfold nO
  have e:o=o.take k++o.drop k:=(iq _ _).symm;conv=>rhs;rw [e,List.foldl_append]
  exact (apJ _ _ h).symm
def Nt{x:eb}(hx:x.Queries.length≤24)(r:Row)(o:List Int):∀k,(gZ x r o k).1.length≤24∧0≤(gZ x r o k).2∧(gZ x r o k).2≤25 * k
 | 0=>by refine ⟨?_,?_,?_⟩<;>simp [gZ,rU];exact hx
 | k+1=>by
  have ih:=Nt hx r o k;by_cases hk:k < o.length
  ·by_cases h:(gZ x r o k).1=[]
   ·have e:gZ x r o (k+1)=gZ x r o k:=by unfold gZ;rw [cI hk,List.foldl_append];exact if_pos h
    rw [e];omega
   ·rw [WP hk h]
    have:=awG (gZ x r o k).1 (jC (x.Fields.getD o[k].toNat []) (kw r.Values o[k]));dsimp only;omega
  ·have e:gZ x r o (k+1)=gZ x r o k:=by unfold gZ;rw [tf ab,tf ab]
   rw [e];omega
def axp(hx:x.Queries.length≤24)(r:Row)(o:List Int):(nO x r o).1.length≤24∧0≤(nO x r o).2∧(nO x r o).2≤25 * o.length:=by have:=Nt hx r o o.length;rwa [Ns (.inl rfl)] at this
def apK(h:eA l=true):CZ l≤1000:=by
 have h1:=qI h;have h2:∀q∈l,eZ q≤10:=fun q hq=>by
  have:=axg (h1.2 q hq);have hc:∀c:List fI,(c.map CV).sum=0:=by
   intro c;induction c with
   | nil=>rfl
   | cons a c ih=>rw [List.map_cons,List.sum_cons,ih];rfl
  unfold eZ xY;simp only [fL,bf,hc];omega
 have h3:(l.map eZ).sum≤l.length * 10:=by
  clear h h1;induction l with
  | nil=>simp
  | cons q l ih=>
   have a:=h2 q aL;have b:=ih fun x hx=>h2 x ib;simp only [List.map_cons,List.sum_cons,List.length_cons,Nat.succ_mul];omega
 unfold CZ;have:l.length * 10≤24 * 10:=Nat.mul_le_mul h1.1 (Nat.le_refl _);omega
def axq:yj l (k+1)=yj l k++[gY l (k:Int)]:=by unfold yj;rw [List.range_succ,bj];rfl
def apL:(yj l k).length=k:=by unfold yj;rw [aU,List.length_range]
def axr(h:eA l=true):lC l=⟨l,yj l 3⟩:=by unfold lC;rw [if_pos h];rfl
def axs(h:eA l=false):lC l=⟨[],[]⟩:=by unfold lC;rw [if_neg gJ]
def PV.to_eqv{o:Fl}{es ds:List (List PV)}(h:es=ds):(PV.sl o es).To (PV.sl .v ds):=by subst h;exact xc
def hR{a b:am}(h:a=b):[PV.val (.string (B a))]=[PV.val (.string (B b))]:=by rw [h]
abbrev itoa(n:Int):am:=Lib.itoa n
def bu(h:dN n):(itoa n).length≤21:=Lib.itoa_length_le n h.1 h.2
def Ho{u:Nat}(h:10≤u):Lib.decDigits u=Lib.decDigits (u / 10)++[UInt8.ofNat (48+u%10)]:=by rw [Lib.decDigits,dif_neg ab]
def yk{u:Nat}(h:u < 10):Lib.decDigits u=[UInt8.ofNat (48+u)]:=by rw [Lib.decDigits,dif_pos h]
def vX(n q:Int)(s:am):Prop:=(if q=0 then s else Lib.decDigits q.natAbs++s)=Lib.decDigits n.natAbs
def axt(h:n≠0):vX n n []:=by unfold vX;rw [if_neg h,fS]
def Dk(q:Int):(q.tdiv 10).natAbs=q.natAbs / 10:=by rw [Int.natAbs_tdiv];rfl
def axu(q:Int):(q.tmod 10).natAbs=q.natAbs%10:=by rw [Int.natAbs_tmod];rfl
def axv{q d:Int}{s:am}(h:vX n q s)(hq:q≠0)(hd:d=((q.natAbs%10:Nat):Int)):vX n (q.tdiv 10) (kr [48+d]++s):=by
 have e:kr [48+d]=[UInt8.ofNat (48+q.natAbs%10)]:=by subst hd;show [UInt8.ofNat (48+((q.natAbs%10:Nat):Int)).toNat]=_;congr 2
 unfold vX at h ⊢;rw [if_neg hq] at h;rw [e,←h];by_cases h0:q.tdiv 10=0
 ·rw [if_pos h0]
  have:q.natAbs / 10=0:=by rw [←Dk,h0];rfl
  rw [yk ab,show q.natAbs%10=q.natAbs by omega]
 ·rw [if_neg h0]
  have:q.natAbs / 10≠0:=by rw [←Dk];omega
  rw [Ho (u:=q.natAbs) ab,Dk,bn]
def axw{s:am}(h:vX n 0 s):s=Lib.decDigits n.natAbs:=by unfold vX at h;rwa [if_pos rfl] at h
def apM{q:Int}{s:am}(h:vX n q s)(hn:dN n):s.length≤20:=by
 have hd:(Lib.decDigits n.natAbs).length≤20:=by rw [Lib.decDigits_length];exact Lib.nDigits_le20 _ (by unfold dN at hn;omega)
 rw [←h] at hd;split at hd;·exact hd
 ·rw [bv] at hd;omega
def yl(h:n < 0):itoa n=45::Lib.decDigits n.natAbs:=by show Lib.itoa n=_;rw [Lib.itoa,if_pos h]
def qJ(h:¬n < 0):itoa n=Lib.decDigits n.natAbs:=by show Lib.itoa n=_;rw [Lib.itoa,if_neg h];congr 1;omega
def axx:itoa 0=[48]:=by rw [qJ ab];exact yk ai
def Ak{P:List α→Prop}(h0:P [])(h1:∀l a,P l→P (l++[a]))(l:List α):P l:=by
 have h:∀r:List α,P r.reverse:=by
  intro r;induction r with
  | nil=>exact h0
  | cons a r ih=>rw [List.reverse_cons];exact h1 _ _ ih
 simpa using h l.reverse
def pT{y:am}:cQ (xs++[y]) sep=(if xs=[] then y else cQ xs sep++sep++y):=by
 cases xs with
 | nil=>simp [cQ,Lib.join_one]
 | cons x r=>
  rw [if_neg aL];unfold cQ;rw [List.cons_append,Lib.join_cons,Lib.join_cons];simp [Lib.joinTail,bn]
def Dl:cQ [] sep=[]:=rfl
def tY{m:Nat}(h:∀x∈xs,x.length≤m):(cQ xs sep).length≤xs.length * (m+sep.length):=by
 induction xs using Ak with
 | h0=>simp [Dl]
 | h1 xs y ih=>
  have h1:=ih fun x hx=>h x ib;have h2:=h y aL;rw [pT,bv,List.length_singleton,Nat.succ_mul];split;·omega
  ·simp only [bv];omega
def WQ{a b:am}(h:xs≠[]):cQ (xs++[a,b]) sep=cQ xs sep++sep++a++sep++b:=by rw [show xs++[a,b]=(xs++[a])++[b] by simp,pT,if_neg aL,pT,if_neg h]
def eN(l:List Int):am:=cQ (l.map itoa) [44]
def qK{l:List Int}(h:∀x∈l,dN x):(eN l).length≤l.length * 22:=by have:=tY (m:=21) (sep:=[44]) (xs:=l.map itoa) (by intro x hx;obtain ⟨y,hy,rfl⟩:=List.mem_map.1 hx;exact bu (h y hy));simpa [eN] using this
def axy{l:List Int}(hk:k < l.length):eN (l.take (k+1))=(if k=0 then itoa l[k] else eN (l.take k)++[44]++itoa l[k]):=by
 unfold eN;rw [xZ hk,bj,List.map_cons,List.map_nil,pT];by_cases h:k=0;·subst h;simp
 ·rw [if_neg h,if_neg]
  intro e;have:=congrArg List.length e;simp at this;rcases this with e|e;·exact h e
  ·rw [e] at hk;simp at hk
def tZ(x:cH)(i:Nat):Bool:=aE (x.aJy.getD i 0) 0 3&&aE (x.Rows.getD i 0) 0 x.Base
def vY(x:cH)(k:Nat):Bool:=(List.range k).all (tZ x)
def axz{x:cH}:vY x (k+1)=(vY x k&&tZ x k):=by simp [vY,List.range_succ]
def pU(x:cH):Bool:=fC x.Ids&&(aE x.Ids.length 1 8&&(decide (x.aJy.length=x.Ids.length)&&decide (x.Rows.length=x.Ids.length)))
def dI(x:cH):Bool:=(pU x&&vY x x.Ids.length)&&(aE x.Segment 0 7&&aE x.Base 0 4)
def ua{x:cH}(h:pU x=true):1≤x.Ids.length∧x.Ids.length≤8∧x.aJy.length=x.Ids.length∧x.Rows.length=x.Ids.length:=by simp [pU,aE] at h;omega
def axA{x:cH}(hk:k < x.Ids.length)(h:tZ x k=false):dI x=false:=by
 have:vY x x.Ids.length=false:=by rw [←Bool.not_eq_true];intro hh;have:=List.all_eq_true.1 hh k (List.mem_range.2 hk);rw [h] at this;cases this
 unfold dI;rw [this];simp
def ym{x:cH}(h:dI x=true):pU x=true∧0≤x.Base∧x.Base≤4∧∀i,i < x.Ids.length→0≤x.Rows.getD i 0∧x.Rows.getD i 0≤4:=by
 unfold dI at h;simp only [aR] at h;have hb:0≤x.Base∧x.Base≤4:=by have:=h.2.2;simp [aE] at this;exact this
 refine ⟨h.1.1,hb.1,hb.2,fun i hi=>?_⟩;have:=List.all_eq_true.1 h.1.2 i (List.mem_range.2 hi);simp only [tZ,aE,aR,decide_eq_true_eq] at this;omega
def apN{l:List α}{f:α→Int}(hk:k < l.length):((l.take (k+1)).map f).sum=((l.take k).map f).sum+f l[k]:=by rw [xZ hk,bj,List.sum_append];simp
def apO{l:List α}{f:α→Int}{m:Int}(h:∀x,0≤f x∧f x≤m)(hm:0≤m):0≤(l.map f).sum∧(l.map f).sum≤l.length * m:=by
 induction l with
 | nil=>simp
 | cons a l ih=>
  have:=h a;simp only [List.map_cons,List.sum_cons,List.length_cons,Int.natCast_add,Int.natCast_one,Int.add_mul,Int.one_mul];omega
def Nu{f:Nat→Int}:((List.range (k+1)).map f).sum=((List.range k).map f).sum+f k:=by rw [List.range_succ,bj,List.sum_append];simp
def Al{f:Nat→Int}{m:Int}{n:Nat}(h:∀i,i < n→0≤f i∧f i≤m):∀k,k≤n→0≤((List.range k).map f).sum∧((List.range k).map f).sum≤k * m
 | 0,_=>by simp
 | k+1,hk=>by
  have h1:=Al h k ab;have h2:=h k ab;rw [Nu];have e:((k+1:Nat):Int) * m=k * m+m:=by rw [Int.natCast_add,Int.add_mul,Int.natCast_one,Int.one_mul]
  omega
def Am(x:cH)(i:Nat):Int:=x.Rows.getD i 0
def ub(x:cH):Int:=if dI x then x.Base+((List.range x.Rows.length).map (Am x)).sum else 0
def WR(x:cH):0≤ub x∧ub x≤36:=by
 unfold ub;split
 ·rename_i h
  obtain ⟨h1,h2,h3,h4⟩:=ym h;have h5:=ua h1;have:=Al (f:=Am x) (m:=4) (n:=x.Ids.length) (fun i hi=>h4 i hi) x.Rows.length ab;omega
 ·omega
def vZ(l:List cH):Int:=(l.map ub).sum
def nP(x:cH)(i:Nat):Int:=x.Rows.getD i 0+x.Base.tdiv x.Ids.length+(if (i:Int) < x.Base.tmod x.Ids.length then 1 else 0)
def iL(x:cH):List Int:=if dI x then (List.range x.Ids.length).map (nP x) else []
def axB{x:cH}(h:dI x=true)(hi:i < x.Ids.length):0≤nP x i∧nP x i≤9:=by obtain ⟨h1,h2,h3,h4⟩:=ym h;have h5:=ua h1;have h6:=h4 i hi;have h7:=Int.tdiv_nonneg h2 (by omega:(0:Int)≤x.Ids.length);have h8:=Int.tdiv_le_self (x.Ids.length:Int) h2;unfold nP;split<;>omega
def WS(x:cH):(iL x).length≤8∧(dI x=true→(iL x).length=x.Ids.length):=by
 unfold iL;split
 ·rename_i h
  have h5:=ua (ym h).1;rw [aU,List.length_range];exact ⟨ab,fun _=>rfl⟩
 ·rename_i h;exact ⟨aL,fun hh=>absurd hh h⟩
def WT{x:cH}(h:k < (iL x).length):dI x=true∧k < x.Ids.length∧k < x.aJy.length∧0≤(iL x).getD k 0∧(iL x).getD k 0≤9:=by
 unfold iL at h ⊢;split at h
 ·rename_i hk
  rw [aU,List.length_range] at h;have h5:=ua (ym hk).1;refine ⟨hk,h,ab,?_⟩;have:=axB hk h;rw [if_pos hk,List.getD_eq_getElem?_getD,List.getElem?_map,List.getElem?_range h];exact this
 ·simp at h
def rV(t:Int)(x:cH)(k:Nat):Int:=if x.aJy.getD k 0=t then (iL x).getD k 0 else 0
def yn(t:Int)(x:cH):Int:=((List.range (iL x).length).map (rV t x)).sum
def axC{x:cH}(h:(k=x.Ids.length∧dI x=true)∨(k=0∧(x.Ids.length=0∨dI x=false))):(List.range k).map (nP x)=iL x:=by
 unfold iL;rcases h with ⟨rfl,h⟩|⟨rfl,h⟩;·rw [if_pos h]
 ·split
  ·rename_i h2
   rcases h with h|h;·rw [h]
   ·rw [h] at h2;cases h2
  ·rfl
def WU{t:Int}{x:cH}(h:k < (iL x).length):0≤rV t x k∧rV t x k≤9:=by have:=WT h;unfold rV;split<;>omega
def axD(t:Int)(x:cH):0≤yn t x∧yn t x≤72:=by have h1:=Al (f:=rV t x) (m:=9) (n:=(iL x).length) (fun i hi=>WU hi) _ (Nat.le_refl _);have h2:=(WS x).1;unfold yn;omega
def rW(l:List cH)(t:Int):Int:=(l.map (yn t)).sum
def Hp(l:List cH):0≤vZ l∧vZ l≤l.length * 36:=apO (fun x=>WR x) ai
def Hq(l:List cH)(t:Int):0≤rW l t∧rW l t≤l.length * 72:=apO (fun x=>axD t x) ai
section
def kV:aJs:=⟨⟨0,0,[],[]⟩,0,[],0,0,0,[]⟩
def pV(a b:aJs):Bool:=decide (a.aJt.Id < b.aJt.Id)
def oL(n v:Int):Bool:=aE v 0 (n - 1)
def oM(a b:Int):Bool:=decide (a < b)
def oN(l:List Int)(n:Int):Bool:=fq 0 (oL n) oM l&&decide (0 < l.length)
def gM(s:Store)(a:aJs):Bool:=oN a.aJB s.aJr.length&&(bq a.aJt&&(aE a.Time 0 s.Now&&(aE a.Age 0 100000&&(aE a.Sent 0 1000&&(aE a.Cap 0 32&&jj a.Rows)))))
def mn(now:Int)(f:ig):Bool:=bq f.aJt&&(aE f.Time 0 now&&(aE f.Steps 0 100000&&jj f.Rows))
def nc(e:au):Bool:=(cv e.Store&&(aE e.aJw 0 (e.Store.aJr.length - 1)&&(ci e.Order&&aE e.Steps 0 100000)))&&(decide ((e.aJs.length:Int)≤8)&&(decide ((e.Done.length:Int)≤1000)&&decide ((e.aJE.length:Int)≤1000)))
def aV(e:au):Bool:=nc e&&(fq kV (gM e.Store) pV e.aJs&&(e.Done.all (mn e.Store.Now)&&e.aJE.all dI))
def apP(h:nc e=false):aV e=false:=by unfold aV;rw [h];rfl
def apQ(h:fq kV (gM e.Store) pV e.aJs=false):aV e=false:=Qn
def apR(h:e.Done.all (mn e.Store.Now)=false):aV e=false:=Qn
def apS(h:e.aJE.all dI=false):aV e=false:=Qn
def apT(h1:nc e=true)(h2:fq kV (gM e.Store) pV e.aJs=true)(h3:e.Done.all (mn e.Store.Now)=true)(h4:e.aJE.all dI=true):aV e=true:=by unfold aV;rw [h1,h2,h3,h4];rfl
def hE(h:aV e=true):cv e.Store=true∧ci e.Order=true∧0≤e.aJw∧e.aJw.toNat < e.Store.aJr.length∧e.aJs.length≤8∧e.Done.length≤1000∧e.aJE.length≤1000∧0≤e.Steps∧e.Steps≤100000∧(∀a∈e.aJs,gM e.Store a=true)∧(∀f∈e.Done,mn e.Store.Now f=true)∧∀c∈e.aJE,dI c=true:=by unfold aV nc at h;simp only [aR,aE,decide_eq_true_eq] at h;obtain ⟨⟨⟨h1,h2,h3,h4⟩,h5,h6,h7⟩,h8,h9,h10⟩:=h;refine ⟨h1,h3,ab,ab,ab,ab,ab,ab,ab,fun a ha=>?_,List.all_eq_true.1 h9,List.all_eq_true.1 h10⟩;obtain ⟨k,hk,rfl⟩:=List.mem_iff_getElem.1 ha;exact Hb h8 hk
def An(o:List Int)(k:Nat):Bool:=(List.range k).all fun i=>cn o (i:Int)
def Nv:An o (k+1)=(An o k&&cn o (k:Int)):=by simp [An,List.range_succ]
def apU:(An o 3&&decide (o.length=3))=ci o:=by rw [Bool.and_comm,ci,Nv,Nv,Nv];show _=(decide (o.length=3)&&(cn o ((0:Nat):Int)&&(cn o ((1:Nat):Int)&&cn o ((2:Nat):Int))));simp [An,Bool.and_assoc]
def axE(hk:k < 3)(h:cn o (k:Int)=false):ci o=false:=by
 rw [←apU];have:An o 3=false:=by rw [←Bool.not_eq_true];intro hh;have:=List.all_eq_true.1 hh k (List.mem_range.2 hk);rw [h] at this;cases this
 rw [this];rfl
def mo(a:aJs):Bool:=decide (a.Cap=0)||decide (a.Sent < a.Cap)
def Ao(e:au)(i:Int):Bool:=aV e&&aE i 0 (e.aJs.length - 1)&&mo (e.aJs.getD i.toNat kV)
def kW(e:au)(a:aJs):Bool:=mo a&&cn a.aJB e.aJw
def jn(e:au)(l:List aJs):List Int:=(l.filter (kW e)).map fun a=>a.aJt.Id
def parts(e:au):List Int:=if aV e then jn e e.aJs else []
section
variable{e:au}{l:List aJs}{k:Nat}{id:Int}
def apV(h:aV e=true)(hk:k < e.aJs.length):Ao e (k:Int)=mo e.aJs[k]:=by unfold Ao;rw [h,show aE (k:Int) 0 (e.aJs.length - 1)=true by simp [aE];omega,Int.toNat_natCast,List.getD_eq_getElem?_getD,List.getElem?_eq_getElem hk];rfl
def axF(hk:k < l.length)(h:kW e l[k]=true):jn e (l.take (k+1))=jn e (l.take k)++[l[k].aJt.Id]:=by unfold jn;rw [cI hk,ic];simp [h]
def axG(hk:k < l.length)(h:kW e l[k]=false):jn e (l.take (k+1))=jn e (l.take k):=by unfold jn;rw [cI hk,ic];simp [h]
def WV:(jn e l).length≤l.length:=by unfold jn;rw [aU];exact kh _ _
def wa(h:aV e=true):parts e=jn e e.aJs:=if_pos h
def apW(h:aV e=false):parts e=[]:=if_neg gJ
def axH(h:(k=e.aJs.length∧aV e=true)∨(k=0∧(e.aJs.length=0∨aV e=false))):jn e (e.aJs.take k)=parts e:=by
 rcases h with ⟨rfl,h⟩|⟨rfl,h⟩;·rw [bF,wa h]
 ·rw [List.take_zero]
  rcases h with h|h
  ·unfold parts
   rw [jd h];split<;>rfl
  ·rw [apW h];rfl
def Ap:(parts e).length≤e.aJs.length:=by
 unfold parts;split;·exact WV
 ·exact Nat.zero_le _
def iu(id:Int)(a:aJs):Bool:=a.aJt.Id==id
def eO(l:List aJs)(id:Int):Int:=if l.any (iu id) then ((l.findIdx (iu id):Nat):Int) else -1
def WW(hk:k < l.length)(h:(l.take k).any (iu id)=false)(hy:iu id l[k]=true):eO l id=(k:Int):=by
 have e:l.findIdx (iu id)=k:=by rw [List.findIdx_eq hk];refine ⟨hy,fun j hj=>?_⟩;rw [List.any_eq_false] at h;have:=h l[j] abZ;simpa using this
 unfold eO;rw [if_pos (Ah hk hy),e]
def axI(h:l.any (iu id)=false):eO l id = -1:=if_neg gJ
def WX(h:id∈jn e l):0≤eO l id∧(eO l id).toNat < l.length:=by unfold jn at h;obtain ⟨a,ha,rfl⟩:=List.mem_map.1 h;have ha:=(List.mem_filter.1 ha).1;have hany:l.any (iu a.aJt.Id)=true:=List.any_eq_true.2 ⟨a,ha,by simp [iu]⟩;have hlt:l.findIdx (iu a.aJt.Id) < l.length:=List.findIdx_lt_length_of_exists ⟨a,ha,by simp [iu]⟩;unfold eO;rw [if_pos hany];omega
end
def lG(l:List aJs)(ids:List Int):List aJt:=ids.map fun id=>(l.getD (eO l id).toNat kV).aJt
def Hr(e:au):List Row:=(e.Store.aJr.getD e.aJw.toNat []).map gx
noncomputable def wc(x:eb)(o:List Int)(r:Row):Int:=if bw r then (nO x r o).2 else 0
noncomputable def rZ(x:eb)(o:List Int)(l:List Row):Int:=(l.map (wc x o)).sum
noncomputable def kX(x:eb)(l:List Row)(o:List Int):Int:=if fD x&&ci o then rZ x o l else 0
def axJ{l:List Row}(hk:k < l.length):rZ x o (l.take (k+1))=rZ x o (l.take k)+wc x o l[k]:=by unfold rZ;rw [cI hk,bj,List.sum_append];simp
def WY(hx:fD x=true)(ho:ci o=true)(r:Row):0≤wc x o r∧wc x o r≤75:=by
 unfold wc;split
 ·have h1:=axp (qI (WO hx).1).1 r o
  have h2:=(Nr ho).1;omega
 ·omega
def WZ{x:eb}{o:List Int}(hx:fD x=true)(ho:ci o=true):∀l:List Row,0≤rZ x o l∧rZ x o l≤75 * l.length
 | []=>by simp [rZ]
 | r::l=>by have h1:=WY hx ho r;have h2:=WZ hx ho l;unfold rZ at h2 ⊢;rw [List.map_cons,List.sum_cons,List.length_cons];omega
def axK{l:List Row}(h:(k=l.length∧(fD x&&ci o)=true)∨(k=0∧(l.length=0∨(fD x&&ci o)=false))):rZ x o (l.take k)=kX x l o:=by
 unfold kX;rcases h with ⟨rfl,h⟩|⟨rfl,h⟩;·rw [if_pos h,bF]
 ·rw [List.take_zero]
  split
  ·rename_i h2
   rcases h with h|h;·rw [jd h]
   ·rw [h] at h2;cases h2
  ·rfl
def apX(h:aV e=true):(Hr e).length≤4:=by have hef:=hE h;have hcl:=hef.2.2.2.1;unfold Hr;rw [aU,List.getD_eq_getElem?_getD,List.getElem?_eq_getElem hcl];exact (jm hef.1).2.2.2.2.1 _ (List.getElem_mem hcl)
def dz:List (List Int):=[[0,1,2],[0,2,1],[1,0,2],[1,2,0],[2,0,1],[2,1,0]]
noncomputable def lH(x:eb)(l:List Row):Nat→List Int
 | 0=>[0,1,2]
 | k+1=>if kX x l (dz.getD k []) < kX x l (lH x l k) then dz.getD k [] else lH x l k
noncomputable def yo(x:eb)(l:List Row):List Int:=if fD x then lH x l 6 else []
noncomputable def uc(x:eb)(l:List Row)(k:Nat):List Int:=if k=0 then [] else lH x l k
noncomputable def yp(x:eb)(l:List Row)(k:Nat):Int:=if k=0 then 0 else kX x l (lH x l k)
def Xa(h:k < dz.length):dz[k].length=3:=by have:∀o∈dz,o.length=3:=ai;exact this _ (List.getElem_mem h)
def Xb{x:eb}{l:List Row}:∀k,k≤6→(lH x l k).length=3
 | 0,_=>rfl
 | k+1,h=>by
  rw [lH];split
  ·have hk:k < dz.length:=by show k < 6;omega
   rw [←dH (d:=([]:List Int)) hk];exact Xa hk
  ·exact Xb k ab
def Nw{l:List Row}(hk:k < dz.length)(h:kX x l dz[k] < kX x l (lH x l k)):lH x l (k+1)=dz[k]:=by have e:=dH (d:=([]:List Int)) hk;rw [lH,←e,if_pos h]
def Nx{l:List Row}(hk:k < dz.length)(h:¬kX x l dz[k] < kX x l (lH x l k)):lH x l (k+1)=lH x l k:=by have e:=dH (d:=([]:List Int)) hk;rw [lH,←e,if_neg h]
def axL{l:List Row}(hk:k < dz.length)(h:k=0∨kX x l dz[k] < yp x l k):uc x l (k+1)=dz[k]∧yp x l (k+1)=kX x l dz[k]:=by
 unfold uc yp at *;rw [if_neg ab,if_neg ab];have hb:lH x l (k+1)=dz[k]:=by
  rcases h with rfl|h
  ·by_cases h2:kX x l dz[0] < kX x l (lH x l 0)
   ·exact Nw hk h2
   ·rw [Nx hk h2];rfl
  ·by_cases h0:k=0
   ·subst h0
    by_cases h2:kX x l dz[0] < kX x l (lH x l 0);·exact Nw hk h2
    ·rw [Nx hk h2];rfl
   ·rw [if_neg h0] at h;exact Nw hk h
 rw [hb];exact ⟨rfl,rfl⟩
def axM{l:List Row}(hk:k≤6)(h:(uc x l k).length=0):k=0:=by
 by_cases h0:k=0;·exact h0
 ·exfalso
  have:=Xb (x:=x) (l:=l) k hk;unfold uc at h;rw [if_neg h0] at h;omega
def axN{o:Fl}{es es':List (List PV)}(h:es=es'):(PV.sl o es).To (PV.sl .v es'):=by subst h;exact xc
def axO{l:List Row}(hk:k < dz.length)(h0:k≠0)(h:¬kX x l dz[k] < yp x l k):uc x l (k+1)=uc x l k∧yp x l (k+1)=yp x l k:=by unfold uc yp at *;rw [if_neg h0] at h;have e1:¬k+1=0:=ab;simp only [if_neg e1,if_neg h0,Nx hk h,and_self]
def axP{l:List Row}(h:(k=dz.length∧fD x=true)∨(k=0∧(dz.length=0∨fD x=false))):uc x l k=yo x l:=by
 unfold yo;rcases h with ⟨rfl,h⟩|⟨rfl,h⟩;·rw [if_pos h];rfl
 ·rcases h with h|h
  ·exact absurd h ai
  ·rw [if_neg gJ];rfl
noncomputable def pW(e:au):List Int:=if aV e then yo (lC (lG e.aJs (parts e))) (Hr e) else []
def Xc(e:au):(pW e).length≤3:=by
 unfold pW yo;split
 ·split
  ·exact Nat.le_of_eq (Xb 6 (Nat.le_refl _))
  ·exact Nat.zero_le _
 ·exact Nat.zero_le _
end
def nd(s:Store):Nat:=(bA s).length
def ud(e:au):List am:=[[115,116,101,112],itoa e.Steps,[99,117,114,115,111,114],itoa e.aJw,[116,105,109,101],itoa e.Store.Now,[118,101,114,115,105,111,110,115],itoa (nd e.Store:Int),[97,99,116,105,118,101],itoa (e.aJs.length:Int),[100,111,110,101],itoa (e.Done.length:Int)]
noncomputable def qL(e:au):am:=if aV e then cQ (ud e) [32] else []
def Aq(s:Store)(k:Nat):Nat:=(eU s k).length
def apY(hk:k < s.aJr.length):Aq s (k+1)=Aq s k+s.aJr[k].length:=by unfold Aq;rw [Hm hk,bv]
def axQ(k:Nat)(hk:k≤s.aJr.length):Aq s k≤nd s:=by unfold Aq nd eU bA;have e:s.aJr.flatten=(s.aJr.take k).flatten++(s.aJr.drop k).flatten:=aaM;rw [e,bv];omega
def Xd(h0:(itoa e.Steps).length≤21)(h1:(itoa e.aJw).length≤21)(h2:(itoa e.Store.Now).length≤21)(h3:(itoa (nd e.Store:Int)).length≤21)(h4:(itoa (e.aJs.length:Int)).length≤21)(h5:(itoa (e.Done.length:Int)).length≤21):(cQ (ud e) [32]).length≤1000:=by
 have h:=tY (m:=22) (sep:=[32]) (xs:=ud e) (by intro x hx;unfold ud at hx;simp only [ip,List.not_mem_nil,or_false] at hx;rcases hx with rfl|rfl|rfl|rfl|rfl|rfl|rfl|rfl|rfl|rfl|rfl|rfl<;>first|omega|(simp only [List.length_cons,List.length_nil];omega))
 have e12:(ud e).length=12:=rfl;rw [e12] at h;simp only [List.length_cons,List.length_nil] at h;omega
section
def kx(v:bb)(keep:List Int):Bool:=decide (v.aJC = -1)||keep.any (gX v)
def axR{v:bb}(hk:k < keep.length)(h:gX v keep[k]=true):kx v keep=true:=by unfold kx;rw [Ah hk h];simp
def axS{v:bb}(h:keep.any (gX v)=false):kx v keep=decide (v.aJC = -1):=by unfold kx;rw [h];simp
def wd(v:bb)(keep:List Int)(k:Nat):Bool:=decide (v.aJC = -1)||(keep.take k).any (gX v)
def axT{v:bb}(hk:k < keep.length):wd v keep (k+1)=(wd v keep k||gX v keep[k]):=by unfold wd;rw [cI hk,List.any_append,←Bool.or_assoc];simp
def axU{v:bb}:wd v keep keep.length=kx v keep:=by unfold wd kx;rw [bF]
def we(keep:List Int)(l:List bb):List bb:=l.filter fun v=>kx v keep
def iM(s:Store)(keep:List Int):Store:=if cv s then ⟨s.aJr.map (we keep),s.Now⟩ else s
def mp(keep:List Int)(zs:List (bb×(Nat→Value))):List (bb×(Nat→Value)):=zs.filter fun z=>kx z.1 keep
def lI(zss:List (List (bb×(Nat→Value))))(keep:List Int)(k:Nat):List (List (bb×(Nat→Value))):=(zss.take k).map (mp keep)++zss.drop k
section
variable{zss:List (List (bb×(Nat→Value)))}{keep:List Int}{k:Nat}{segs:List (List bb)}
def Ny:(lI zss keep k).length=zss.length:=by unfold lI;simp;omega
def apZ(hk:k < zss.length)(h:k < (lI zss keep k).length):(lI zss keep k)[k]'h=zss[k]:=by
 have h1:(lI zss keep k)[k]?=some zss[k]:=by unfold lI;rw [List.getElem?_append_right jq];simp [Nat.min_eq_left (Nat.le_of_lt hk),hk]
 exact (List.getElem?_eq_some_iff.1 h1).2
def axV(hk:k < zss.length):(lI zss keep k).set k (mp keep zss[k])=lI zss keep (k+1):=by unfold lI;have hl:((zss.take k).map (mp keep)).length=k:=yR;rw [List.set_append_right _ _ ab,hl,Nat.sub_self,List.drop_eq_getElem_cons hk,List.set_cons_zero,cI hk,bj];simp
def ap0:lI zss keep zss.length=zss.map (mp keep):=by unfold lI;simp
def axW:(zss.map (mp keep)).flatten.Sublist zss.flatten:=by
 induction zss with
 | nil=>exact List.Sublist.slnil
 | cons z l ih=>rw [List.map_cons,List.flatten_cons,List.flatten_cons];exact List.Sublist.append List.filter_sublist ih
def axX(hz:zss.map (List.map Prod.fst)=segs):(zss.map (mp keep)).map (List.map Prod.fst)=segs.map (we keep):=by rw [←hz,List.map_map,List.map_map];refine List.map_congr_left fun zs _=>?_;simp only [Function.comp_apply,mp,we,List.filter_map];rfl
def ap1(hz:zss.map (List.map Prod.fst)=segs):zss.length=segs.length:=by rw [←hz,aU]
def axY(hz:zss.map (List.map Prod.fst)=segs)(hk:k < zss.length)(hk2:k < segs.length):zss[k].map Prod.fst=segs[k]:=by subst hz;simp
def ap2(hz:zss.map (List.map Prod.fst)=segs)(hk:k < zss.length)(hk2:k < segs.length):zss[k].length=segs[k].length:=by rw [←axY hz hk hk2,aU]
def ap3(hz:zss.map (List.map Prod.fst)=segs)(hk:k < zss.length)(hk2:k < segs.length)(hj:j < zss[k].length)(hj2:j < segs[k].length):zss[k][j].1=segs[k][j]:=by subst hz;simp
def axZ(hj:j < zs.length)(h:kx zs[j].1 keep=true):mp keep (zs.take (j+1))=mp keep (zs.take j)++[zs[j]]:=by unfold mp;rw [cI hj,ic];simp [h]
def ax0(hj:j < zs.length)(h:kx zs[j].1 keep=false):mp keep (zs.take (j+1))=mp keep (zs.take j):=by unfold mp;rw [cI hj,ic];simp [h]
def ap4:(mp keep (zs.take j)).length≤j:=by have:=kh (fun z:bb×(Nat→Value)=>kx z.1 keep) (zs.take j);rw [cc] at this;unfold mp;omega
end
def wg(s:Store)(i j:Nat):List bb:=(s.aJr.take i).flatten++(s.aJr.getD i []).take j
def ne(s:Store)(keep:List Int)(i j:Nat):Nat:=((wg s i j).filter fun v=>!kx v keep).length
def ap5(hi:i < s.aJr.length)(hj:j < s.aJr[i].length):wg s i (j+1)=wg s i j++[s.aJr[i][j]]:=by unfold wg;rw [show s.aJr.getD i []=s.aJr[i] by simp [hi],cI hj,bn]
def ax1(hi:i < s.aJr.length):wg s i s.aJr[i].length=wg s (i+1) 0:=by unfold wg;rw [show s.aJr.getD i []=s.aJr[i] by simp [hi],bF,cI hi,List.flatten_append];simp
def ax2(hi:i < s.aJr.length)(hj:j < s.aJr[i].length)(h:kx s.aJr[i][j] keep=true):ne s keep i (j+1)=ne s keep i j:=by unfold ne;rw [ap5 hi hj,ic];simp [h]
def ax3(hi:i < s.aJr.length)(hj:j < s.aJr[i].length)(h:kx s.aJr[i][j] keep=false):ne s keep i (j+1)=ne s keep i j+1:=by unfold ne;rw [ap5 hi hj,ic];simp [h]
def ax4(hi:i < s.aJr.length):ne s keep i s.aJr[i].length=ne s keep (i+1) 0:=by unfold ne;rw [ax1 hi]
def ax5:ne s keep 0 0=0:=by simp [ne,wg]
def ax6(hi:i < s.aJr.length):ne s keep i j≤(bA s).length:=by
 unfold ne;refine Nat.le_trans (kh _ _) ?_;unfold wg bA;have h1:=Hm (s:=s) hi;have h2:(eU s (i+1)).length≤s.aJr.flatten.length:=by unfold eU;have e:s.aJr.flatten=(s.aJr.take (i+1)).flatten++(s.aJr.drop (i+1)).flatten:=aaM;rw [e,bv];omega
 rw [h1,bv] at h2;rw [bv,cc,show s.aJr.getD i []=s.aJr[i] by simp [hi]];unfold eU at h2;omega
def ap6(keep:List Int):∀l:List bb,dg (we keep l)≤dg l
 | []=>Nat.le_refl _
 | v::l=>by have ih:=ap6 keep l;unfold we dg at *;rw [List.filter_cons];split<;>simp only [List.length_cons,List.map_cons,List.sum_cons]<;>omega
def Xe(s:Store)(keep:List Int):cR (iM s keep)≤cR s:=by
 unfold iM;split
 ·unfold cR iH
  dsimp only;rw [aU,List.map_map];have:(s.aJr.map (dg∘we keep)).sum≤(s.aJr.map dg).sum:=by
   generalize s.aJr=l;induction l with
   | nil=>exact Nat.le_refl _
   | cons x l ih=>simp only [List.map_cons,List.sum_cons,Function.comp] at *;have:=ap6 keep x;omega
  omega
 ·exact Nat.le_refl _
def Nz(h:cv s=true):iM s keep=⟨s.aJr.map (we keep),s.Now⟩:=if_pos h
def ap7(h:cv s=false):iM s keep=s:=if_neg gJ
def NA(s:Store)(keep:List Int):Int:=if cv s then (nd s:Int) - (nd (iM s keep):Int) else 0
def NB(s:Store)(keep:List Int):Int:=if cv s then (ne s keep s.aJr.length 0:Int) else 0
def jD(l:List aJs):List Int:=l.map fun a=>a.Time
def eV(e:au):au:=⟨iM e.Store (jD e.aJs),e.aJw,e.Order,e.aJs,e.Done,e.aJE,e.Steps⟩
def yq(z:bb×(Nat→Value)):List PV:=[PV.nv (z.2 0) (PV.val (vI z.1.Id)),PV.nv (z.2 1) (PV.sl .v (z.1.Values.map ar)),PV.nv (z.2 2) (PV.val (vI z.1.aJG)),PV.nv (z.2 3) (PV.val (vI z.1.aJC))]
def ue(zs:List (bb×(Nat→Value))):List PV:=[PV.sl ba (zs.map yq)]
end
end Go.Proofs.YtmekkgdboplbjaaGreatDoor
