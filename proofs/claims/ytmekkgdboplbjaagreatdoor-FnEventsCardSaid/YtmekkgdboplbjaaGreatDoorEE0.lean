/- Definitions and their laws. No condition. -/
import Derived.Test.YtmekkgdboplbjaaGreatDoorEC0
import Derived.Test.YtmekkgdboplbjaaGreatDoorProg
set_option linter.all false
namespace Go.Proofs.YtmekkgdboplbjaaGreatDoor
open Go Go.RowKit M Tryz
set_option maxRecDepth 10000
section
section
variable{α:Type}{P:α→Bool}{xs ys:List α}{k:Nat}
def anx:(xs.take 0).all P=true:=aM
def IV(h:(xs.take k).all P=true)(hk:k < xs.length)(hp:P xs[k]=true):(xs.take (k+1)).all P=true:=by
 rw [cU hk,List.all_append,h];simp [hp]
def oM(hk:k < xs.length)(hp:P xs[k]=false):xs.all P=false:=by
 rw [List.all_eq_false];exact ⟨_,List.getElem_mem hk,by rw [hp];simp⟩
def mc(h:(xs.take xs.length).all P=true):xs.all P=true:=by rwa [cJ] at h
def Ae(h:(xs.take k).any P=false)(hk:k < xs.length)(hp:P xs[k]=false):(xs.take (k+1)).any P=false:=by
 rw [cU hk,List.any_append,h];simp [hp]
def xw(hk:k < xs.length)(hp:P xs[k]=true):xs.any P=true:=by
 rw [List.any_eq_true];exact ⟨_,List.getElem_mem hk,hp⟩
def ahg(h:(xs.take xs.length).any P=false):xs.any P=false:=by rwa [cJ] at h
def xx(h:xs.take k=ys.take k)(hk:k < xs.length)(hk':k < ys.length)(he:xs[k]=ys[k]):xs.take (k+1)=ys.take (k+1):=by
 rw [cU hk,cU hk',h,he]
def anz(hk:k < xs.length)(hk':k < ys.length)(he:¬xs[k]=ys[k]):¬xs=ys:=by
 rintro rfl;exact he rfl
def Af(hl:xs.length=ys.length)(h:xs.take xs.length=ys.take xs.length):xs=ys:=by
 rw [cJ] at h;rw [h,hl,cJ]
def wtk{f:α→Nat}(hk:k < xs.length):((xs.take (k+1)).map f).sum=((xs.take k).map f).sum+f xs[k]:=by
 rw [cU hk,bK,List.sum_append];simp
def anB{f:α→Nat}(xs:List α)(k:Nat):((xs.take k).map f).sum≤(xs.map f).sum:=by
 have h:xs=xs.take k++xs.drop k:=(ic _ _).symm
 have e:(xs.map f).sum=((xs.take k).map f).sum+((xs.drop k).map f).sum:=by
  rw [←List.sum_append,←bK,←h]
 omega
def fg{f:α→Nat}(hk:k < xs.length):f xs[k]≤(xs.map f).sum:=by
 have h1:=wtk (f:=f) hk
 have h2:=anB (f:=f) xs (k+1)
 omega
noncomputable def hE(x y:α):Bool:=@decide (x=y) (Classical.propDecidable _)
def xy{x y:α}(h:x=y):hE x y=true:=@decide_eq_true _ (Classical.propDecidable _) h
def Ag{x y:α}(h:¬x=y):hE x y=false:=@decide_eq_false _ (Classical.propDecidable _) h
def fZ{x y:α}:hE x y=true↔x=y:=@decide_eq_true_iff _ (Classical.propDecidable _)
def Dq(x:α):hE x x=true:=xy rfl
end
def pP{us:List Value}(h:us.length=1):∃v0,us=[v0]:=by
 rcases us with _|⟨v0,_|⟨v1,vs⟩⟩<;>first|exact ⟨_,rfl⟩|(simp at h;try omega)
def ahh{us:List Value}(h:us.length=2):∃v0 v1,us=[v0,v1]:=by
 rcases us with _|⟨v0,_|⟨v1,_|⟨v2,vs⟩⟩⟩<;>first|exact ⟨_,_,rfl⟩|(simp at h;try omega)
def tv{us:List Value}(h:us.length=8):∃v0 v1 v2 v3 v4 v5 v6 v7,us=[v0,v1,v2,v3,v4,v5,v6,v7]:=by
 rcases us with _|⟨v0,_|⟨v1,_|⟨v2,_|⟨v3,_|⟨v4,_|⟨v5,_|⟨v6,_|⟨v7,_|⟨v8,vs⟩⟩⟩⟩⟩⟩⟩⟩⟩<;>first|exact ⟨_,_,_,_,_,_,_,_,rfl⟩|(simp at h;try omega)
def ahi{us:List Value}(h:us.length=10):∃v0 v1 v2 v3 v4 v5 v6 v7 v8 v9,us=[v0,v1,v2,v3,v4,v5,v6,v7,v8,v9]:=by
 rcases us with _|⟨v0,_|⟨v1,_|⟨v2,_|⟨v3,_|⟨v4,_|⟨v5,_|⟨v6,_|⟨v7,_|⟨v8,_|⟨v9,_|⟨v10,vs⟩⟩⟩⟩⟩⟩⟩⟩⟩⟩⟩<;>first|exact ⟨_,_,_,_,_,_,_,_,_,_,rfl⟩|(simp at h;try omega)
def oN(x:Int):List PV:=[PV.val (.int .u8 x)]
def ahj(x:Int):Prop:=0≤x∧x≤255
def anC(o0:Fl)(x:List Int):List PV:=[PV.sl o0 (x.map oN)]
def anD(x:List Int):Prop:=∀y∈x,ahj y
def ar(x:Int):List PV:=[PV.val (vI x)]
def bo(_x:Int):Nat:=0
def anE(o0:Fl)(x:List Int):List PV:=[PV.sl o0 (x.map ar)]
def ro(x:List Int):Nat:=x.length+(x.map bo).sum
structure fC where
 Field:Int
 Low:Int
 High:Int
def bF(x:fC):List PV:=[PV.val (vI x.Field),PV.val (vI x.Low),PV.val (vI x.High)]
def Dr(x:fC):Nat:=bo x.Field+bo x.Low+bo x.High
structure Row where
 Id:Int
 Values:List Int
def cD(o0:Fl)(x:Row):List PV:=[PV.val (vI x.Id),PV.sl o0 (x.Values.map ar)]
def jr(x:Row):Nat:=bo x.Id+ro x.Values
def Ah(x:List fC):Nat:=x.length+(x.map Dr).sum
structure ax6 where
 Kind:Int
 Row:Row
 Field:Int
 Value:Int
def mR(x:ax6):Nat:=bo x.Kind+jr x.Row+bo x.Field+bo x.Value
structure ax4 where
 Id:Int
 ax8:Int
 ax5:List fC
 Out:List Int
def nM(o0 o1:Fl)(x:ax4):List PV:=[PV.val (vI x.Id),PV.val (vI x.ax8),PV.sl o0 (x.ax5.map bF),PV.sl o1 (x.Out.map ar)]
def fM(x:ax4):Nat:=bo x.Id+bo x.ax8+Ah x.ax5+ro x.Out
structure cZ where
 Kind:Int
 ax4:ax4
 Limit:Int
 Id:Int
 ax6:ax6
 Steps:Int
def Ds(o0 o1 o2:Fl)(x:cZ):List PV:=[PV.val (vI x.Kind),PV.val (vI x.ax4.Id),PV.val (vI x.ax4.ax8),PV.sl o0 (x.ax4.ax5.map bF),PV.sl o1 (x.ax4.Out.map ar),PV.val (vI x.Limit),PV.val (vI x.Id),PV.val (vI x.ax6.Kind),PV.val (vI x.ax6.Row.Id),PV.sl o2 (x.ax6.Row.Values.map ar),PV.val (vI x.ax6.Field),PV.val (vI x.ax6.Value),PV.val (vI x.Steps)]
def ki(x:cZ):Nat:=bo x.Kind+fM x.ax4+bo x.Limit+bo x.Id+mR x.ax6+bo x.Steps
def iN(x:List Row):Nat:=x.length+(x.map jr).sum
structure ax3 where
 ax4:ax4
 Time:Int
 ayc:List Int
 Age:Int
 Sent:Int
 Cap:Int
 Rows:List Row
def bd(o0 o1 o2 o3 o4:Fl)(x:ax3):List PV:=[PV.val (vI x.ax4.Id),PV.val (vI x.ax4.ax8),PV.sl o0 (x.ax4.ax5.map bF),PV.sl o1 (x.ax4.Out.map ar),PV.val (vI x.Time),PV.sl o2 (x.ayc.map ar),PV.val (vI x.Age),PV.val (vI x.Sent),PV.val (vI x.Cap),PV.sl o3 (x.Rows.map (cD o4))]
def eC(x:ax3):Nat:=fM x.ax4+bo x.Time+ro x.ayc+bo x.Age+bo x.Sent+bo x.Cap+iN x.Rows
def iO(x:List ax3):Nat:=x.length+(x.map eC).sum
structure hI where
 Segment:Int
 Base:Int
 Ids:List Int
 ax9:List Int
 Rows:List Int
def bz(o0 o1 o2:Fl)(x:hI):List PV:=[PV.val (vI x.Segment),PV.val (vI x.Base),PV.sl o0 (x.Ids.map ar),PV.sl o1 (x.ax9.map ar),PV.sl o2 (x.Rows.map ar)]
def tw(x:hI):Nat:=bo x.Segment+bo x.Base+ro x.Ids+ro x.ax9+ro x.Rows
def jt(x:List hI):Nat:=x.length+(x.map tw).sum
structure be where
 Id:Int
 Values:List Int
 ayh:Int
 ayd:Int
def gG(o0:Fl)(x:be):List PV:=[PV.val (vI x.Id),PV.sl o0 (x.Values.map ar),PV.val (vI x.ayh),PV.val (vI x.ayd)]
def dV(x:be):Nat:=bo x.Id+ro x.Values+bo x.ayh+bo x.ayd
def aO(o0 o1:Fl)(x:List be):List PV:=[PV.sl o0 (x.map (gG o1))]
def dv(x:List be):Nat:=x.length+(x.map dV).sum
def iy(x:List (List be)):Nat:=x.length+(x.map dv).sum
structure Store where
 ax2:List (List be)
 Now:Int
def cg(x:Store):Nat:=iy x.ax2+bo x.Now
structure jI where
 ax4:ax4
 Time:Int
 Steps:Int
 Rows:List Row
def bw(o0 o1 o2 o3:Fl)(x:jI):List PV:=[PV.val (vI x.ax4.Id),PV.val (vI x.ax4.ax8),PV.sl o0 (x.ax4.ax5.map bF),PV.sl o1 (x.ax4.Out.map ar),PV.val (vI x.Time),PV.val (vI x.Steps),PV.sl o2 (x.Rows.map (cD o3))]
def oO(x:jI):Nat:=fM x.ax4+bo x.Time+bo x.Steps+iN x.Rows
def kk(x:List jI):Nat:=x.length+(x.map oO).sum
structure aC where
 Store:Store
 ax7:Int
 Order:List Int
 ax3:List ax3
 Done:List jI
 ayf:List hI
 Steps:Int
def bA(x:aC):Nat:=cg x.Store+bo x.ax7+ro x.Order+iO x.ax3+kk x.Done+jt x.ayf+bo x.Steps
def IW(x:List cZ):Nat:=x.length+(x.map ki).sum
def IX(x:List ax4):Nat:=x.length+(x.map fM).sum
structure fO where
 From:Int
 To:Int
 Set:List Int
def uW(o0:Fl)(x:fO):List PV:=[PV.val (vI x.From),PV.val (vI x.To),PV.sl o0 (x.Set.map ar)]
def QQ(o0 o1:Fl)(x:List fO):List PV:=[PV.sl o0 (x.map (uW o1))]
structure md where
 Queries:List ax4
 Fields:List (List fO)
def QR(o0 o1 o2 o3 o4 o5:Fl)(x:md):List PV:=[PV.sl o0 (x.Queries.map (nM o1 o2)),PV.sl o3 (x.Fields.map (QQ o4 o5))]
def anF{α β:Type}{xs:List α}{g:α→List β}{k:Nat}(hk:k < xs.length):(xs.take (k+1)).flatMap g=(xs.take k).flatMap g++g xs[k]:=by
 rw [cU hk,List.flatMap_append];simp
def xz{α:Type}{xs:List α}{k:Nat}(hk:k < xs.length):xs.take (k+1)=xs.take k++[xs[k]]:=cU hk
def kl{α:Type}{l:List α}{d:α}{i:Nat}(h:i < l.length):l[i]=l.getD i d:=pi
def Dt{α β:Type}{l:List α}{f:α→β}{k:Nat}(h:k < l.length):(l.take (k+1)).map f=(l.take k).map f++[f l[k]]:=by
 rw [cU h,bK];rfl
def ahk{a b:Int}:(a==b)=decide (a=b):=rfl
def gj(x:List Int):ro x=x.length:=by
 have h:∀l:List Int,(l.map bo).sum=0:=by
  intro l
  induction l with
  | nil=>rfl
  | cons a l ih=>rw [List.map_cons,List.sum_cons,ih];rfl
 simp [ro,h]
def cv(xs:List Int)(x:Int):Bool:=xs.any (fun y=>y==x)
def aK(n l h:Int):Bool:=decide (l≤n)&&decide (n≤h)
def me(v:Int):Bool:=aK v 0 99
def bM(r:Row):Bool:=r.Values.all me&&(aK r.Id 0 999&&decide ((r.Values.length:Int)=3))
def pQ(l:List Row):Bool:=l.all bM&&decide ((l.length:Int)≤1000)
def mS(x:av):List PV:=[PV.val (.string (B x))]
def anG{x y:Row}:x=y↔x.Id=y.Id∧x.Values=y.Values:=by cases x;cases y;simp_all
def eV(l:List Int):Bool:=(List.range l.length).all fun i=>aK (l.getD i 0) 0 23&&(i==0||decide (l.getD (i - 1) 0 < l.getD i 0))
def Du(l:List Int)(k:Nat):Bool:=(List.range k).all fun i=>aK (l.getD i 0) 0 23&&(i==0||decide (l.getD (i - 1) 0 < l.getD i 0))
def anH{l:List Int}{k:Nat}:Du l (k+1)=(Du l k&&(aK (l.getD k 0) 0 23&&(k==0||decide (l.getD (k - 1) 0 < l.getD k 0)))):=by
 simp [Du,List.range_succ]
def anI{l:List Int}{k:Nat}(hk:k < l.length)(h:(aK (l.getD k 0) 0 23&&(k==0||decide (l.getD (k - 1) 0 < l.getD k 0)))=false):eV l=false:=by
 cases hs:eV l with
 | false=>rfl
 | true=>
  have:=List.all_eq_true.1 hs k (List.mem_range.2 hk)
  rw [h] at this;cases this
def IY{l:List Int}{k:Nat}:(aK (l.getD k 0) 0 23&&(k==0||decide (l.getD (k - 1) 0 < l.getD k 0)))=true↔(0≤l.getD k 0∧l.getD k 0≤23∧(k=0∨l.getD (k - 1) 0 < l.getD k 0)):=by
 simp [aK,and_assoc]
def pR(q:Int→Bool)(k:Nat):List Int:=((List.range k).map fun i:Nat=>(i:Int)).filter q
def anJ{q:Int→Bool}{k:Nat}:pR q (k+1)=pR q k++if q k then [(k:Int)] else []:=by
 simp only [pR,List.range_succ,bK,gW,List.map_cons,List.map_nil,List.filter_cons,List.filter_nil]
def ahl(q:Int→Bool)(k:Nat):(pR q k).length≤k:=by
 have:=kE q ((List.range k).map fun i:Nat=>(i:Int))
 simpa [pR] using this
def tx(a b:List Int):List Int:=if eV a&&eV b then pR (fun x=>cv a x&&cv b x) 24 else []
def QT{l:List Int}{x:Int}:cv l x=true↔x∈l:=by simp [cv]
def QU{l:List Int}(h:eV l=true){k:Nat}(hk:k < l.length):0≤l[k]∧l[k]≤23∧(k=0∨l.getD (k - 1) 0 < l[k]):=by
 have:=IY.1 (List.all_eq_true.1 h k (List.mem_range.2 hk))
 rwa [show l.getD k 0=l[k] by simp [hk]] at this
def ahm{l:List Int}(h:eV l=true):∀(j i:Nat) (hj:j < l.length) (hi:i < j),l[i] < l[j]
 | 0,i,_,hi=>by omega
 | j+1,i,hj,hi=>by
  have h1:=(QU h hj).2.2
  have e:l.getD (j+1 - 1) 0=l[j]:=by simp [show j < l.length by omega]
  rw [e] at h1
  rcases Nat.lt_or_ge i j with h2|h2
  ·have:=ahm h j i ab h2
   omega
  ·have:i=j:=by omega
   subst this
   omega
def anK{l:List Int}(h:eV l=true):l.Pairwise (· < ·):=by
 rw [List.pairwise_iff_getElem]
 intro i j hi hj hij
 exact ahm h j i hj hij
def ahn{m:Int}:∀{l:List Int},l.Pairwise (· < ·)→l.filter (fun x=>decide (x < m+1))=l.filter (fun x=>decide (x < m))++(if cv l m then [m] else [])
 | [],_=>by simp [cv]
 | x::l,h=>by
  rw [List.pairwise_cons] at h
  have ih:=ahn (m:=m) h.2
  have hhx:cv (x::l) m=(x==m||cv l m):=by simp [cv]
  by_cases h1:x < m
  ·have e1:decide (x < m+1)=true:=by simp;omega
   have e2:decide (x < m)=true:=Ff
   rw [List.filter_cons,List.filter_cons,if_pos e1,if_pos e2,ih,hhx,show (x==m)=false by simp;omega,Bool.false_or]
   rfl
  ·have hl:l.filter (fun x=>decide (x < m))=[]:=by
    rw [List.filter_eq_nil_iff];intro y hy;have:=h.1 y hy;simp;omega
   have hl1:l.filter (fun x=>decide (x < m+1))=[]:=by
    rw [List.filter_eq_nil_iff];intro y hy;have:=h.1 y hy;simp;omega
   have hm:cv l m=false:=by
    cases hc:cv l m with
    | false=>rfl
    | true=>have:=h.1 m (QT.1 hc);omega
   have e2:¬decide (x < m)=true:=Ff
   by_cases h2:x=m
   ·have e1:decide (x < m+1)=true:=by simp;omega
    rw [List.filter_cons,List.filter_cons,if_pos e1,if_neg e2,hl,hl1,hhx,hm,show (x==m)=true by simpa using h2]
    simp [h2]
   ·have e1:¬decide (x < m+1)=true:=by simp;omega
    rw [List.filter_cons,List.filter_cons,if_neg e1,if_neg e2,hl,hl1,hhx,hm,show (x==m)=false by simpa using h2]
    simp
def aho{l:List Int}(h:eV l=true):∀m:Nat,pR (fun x=>cv l x) m=l.filter (fun x=>decide (x < (m:Int)))
 | 0=>by
  rw [show pR (fun x=>cv l x) 0=[] from rfl,eq_comm,List.filter_eq_nil_iff]
  intro y hy
  obtain ⟨k,hk,rfl⟩:=List.mem_iff_getElem.1 hy
  have:=(QU h hk).1
  simp;omega
 | m+1=>by
  rw [anJ,aho h m]
  have:=ahn (m:=(m:Int)) (anK h)
  rw [show ((m+1:Nat):Int)=(m:Int)+1 by omega,this]
def ahp{l:List Int}(h:eV l=true):pR (fun x=>cv l x) 24=l:=by
 rw [aho h,List.filter_eq_self]
 intro y hy
 obtain ⟨k,hk,rfl⟩:=List.mem_iff_getElem.1 hy
 have:=(QU h hk).2.1
 simp;omega
def anL{l:List Int}(h:eV l=true):l.length≤24:=by
 have:=ahl (fun x=>cv l x) 24
 rwa [ahp h] at this
def QV{a b:List Int}(h:eV a=true):a.filter (fun x=>cv b x)=pR (fun x=>cv a x&&cv b x) 24:=by
 conv=>lhs;rw [←ahp h]
 simp only [pR,List.filter_filter]
 congr 1
 funext x
 exact Bool.and_comm _ _
def anM{a b:List Int}{k:Nat}(hk:0 < k→(eV a&&eV b)=true)(h:(k=a.length∧(eV a&&eV b)=true)∨(k=0∧(a.length=0∨(eV a&&eV b)=false))):(a.take k).filter (fun x=>cv b x)=tx a b:=by
 unfold tx
 rcases h with ⟨rfl,h⟩|⟨rfl,h⟩
 ·rw [cJ,if_pos h]
  rw [aX] at h
  exact QV h.1
 ·split
  ·rename_i h2
   rcases h with h|h
   ·have:a=[]:=kC h
    subst this
    rw [aX] at h2
    rw [←QV h2.1];simp
   ·rw [h] at h2;cases h2
  ·simp
def anN(a b:List Int):(tx a b).length≤24:=by
 unfold tx
 split
 ·exact ahl _ _
 ·simp
def mT{α:Type}(d:α)(p:α→Bool)(r:α→α→Bool)(l:List α)(k:Nat):Bool:=(List.range k).all fun i=>p (l.getD i d)&&(i==0||r (l.getD (i - 1) d) (l.getD i d))
def fh{α:Type}(d:α)(p:α→Bool)(r:α→α→Bool)(l:List α):Bool:=mT d p r l l.length
def Dv{α:Type}{d:α}{p:α→Bool}{r:α→α→Bool}{l:List α}{k:Nat}:mT d p r l (k+1)=(mT d p r l k&&(p (l.getD k d)&&(k==0||r (l.getD (k - 1) d) (l.getD k d)))):=by
 simp [mT,List.range_succ]
def mf{α:Type}{d:α}{p:α→Bool}{r:α→α→Bool}{l:List α}{k:Nat}:(p (l.getD k d)&&(k==0||r (l.getD (k - 1) d) (l.getD k d)))=true↔(p (l.getD k d)=true∧(k=0∨r (l.getD (k - 1) d) (l.getD k d)=true)):=by
 simp
def uX{α:Type}{d:α}{p:α→Bool}{r:α→α→Bool}{l:List α}{k:Nat}(hk:k < l.length)(h:(p (l.getD k d)&&(k==0||r (l.getD (k - 1) d) (l.getD k d)))=false):fh d p r l=false:=by
 cases hs:fh d p r l with
 | false=>rfl
 | true=>
  have:=List.all_eq_true.1 hs k (List.mem_range.2 hk)
  rw [h] at this;cases this
def uY{α:Type}{d:α}{p:α→Bool}{r:α→α→Bool}{l:List α}{k:Nat}(h:mT d p r l k=true)(hk:k=l.length):fh d p r l=true:=by subst hk;exact h
def fP{α:Type}{d:α}{l:List α}{k:Nat}(h:k < l.length):l.getD k d=l[k]:=pi
def nN(c:fC):Bool:=aK c.Field 0 2&&(decide (0≤c.Low)&&(decide (c.Low≤c.High)&&decide (c.High≤99)))
def rp(a b:fC):Bool:=decide (a.Field < b.Field)
def nO(l:List fC):Bool:=fh ⟨0,0,0⟩ nN rp l
def lA(v:Int):Bool:=aK v 0 2
def nP(l:List Int):Bool:=l.all lA&&aK l.length 1 3
def bN(q:ax4):Bool:=(aK q.Id 0 23&&(aK q.ax8 0 3&&decide ((q.ax5.length:Int)≤3)))&&(nO q.ax5&&nP q.Out)
def IZ{n l h:Int}:aK n l h=true↔l≤n∧n≤h:=by simp [aK]
def gDt{α:Type}{l:List α}{d:α}{i:Nat}(h:i < l.length):l[i]=l.getD i d:=pi
def ko(l:List Int)(f:Int):Int:=l.getD f.toNat 0
def Dw(r:Row)(c:fC):Bool:=aK (ko r.Values c.Field) c.Low c.High
def ik(q:ax4)(r:Row):Bool:=(bM r&&bN q)&&q.ax5.all (Dw r)
def mg(f v:Int)(c:fC):Bool:=!(c.Field==f)||aK v c.Low c.High
def kP(q:ax4)(f v:Int):Bool:=q.ax5.all (mg f v)
def Ai{r:Row}(h:bM r=true):r.Values.length=3:=by simp [bM,aK] at h;omega
def Dx{α:Type}{d:α}{p:α→Bool}{r:α→α→Bool}{l:List α}(h:fh d p r l=true){k:Nat}(hk:k < l.length):p l[k]=true:=by
 have:=List.all_eq_true.1 h k (List.mem_range.2 hk)
 rw [aX,fP hk] at this
 exact this.1
def ahr{q:ax4}(h:bN q=true){c:fC}(hc:c∈q.ax5):0≤c.Field∧c.Field≤2:=by
 obtain ⟨k,hk,rfl⟩:=List.mem_iff_getElem.1 hc
 unfold bN nO at h
 simp only [aX] at h
 have:=Dx h.2.1 hk
 simp [nN,aK] at this
 omega
def anO{q:ax4}{r:Row}(hq:bN q=true)(hr:bM r=true)(h:∀i:Nat,i < r.Values.length→kP q (i:Int) (r.Values.getD i 0)=true):ik q r=true:=by
 unfold ik
 rw [hr,hq,Bool.and_self,Bool.true_and,lQ]
 intro c hc
 have hf:=ahr hq hc
 have hl:=Ai hr
 have:=List.all_eq_true.1 (h c.Field.toNat ab) c hc
 unfold mg at this
 rw [Int.toNat_of_nonneg hf.1] at this
 simpa [Dw,ko] using this
def anP{q:ax4}{r:Row}{i:Nat}(h:kP q (i:Int) (r.Values.getD i 0)=false):ik q r=false:=by
 rw [←Bool.not_eq_true]
 intro hm
 unfold ik at hm
 rw [aX,lQ] at hm
 have:kP q (i:Int) (r.Values.getD i 0)=true:=by
  unfold kP
  rw [lQ]
  intro c hc
  unfold mg
  by_cases he:c.Field=(i:Int)
  ·have:=hm.2 c hc
   simp only [Dw,ko,he,Int.toNat_natCast] at this
   rw [this,Bool.or_true]
  ·simp [he]
 rw [h] at this;cases this
def pS(r:Row):Bool:=aK r.Id 0 999&&decide (r.Values.length=0)
def dK(u:ax6):Bool:=
 if u.Kind=1 then bM u.Row&&(decide (u.Field=0)&&decide (u.Value=0))
 else if u.Kind=2 then pS u.Row&&(decide (u.Field=0)&&decide (u.Value=0))
 else if u.Kind=3 then pS u.Row&&(aK u.Field 0 2&&aK u.Value 0 99) else false
def QW{α:Type}{x y:α}:hE x y=false↔¬x=y:=⟨fun h e=>(by rw [xy e] at h;simp at h),Ag⟩
def anQ{x y:fC}:x=y↔x.Field=y.Field∧x.Low=y.Low∧x.High=y.High:=by cases x;cases y;simp [fC.mk.injEq]
def ahs{x y:ax4}:x=y↔x.Id=y.Id∧x.ax8=y.ax8∧x.ax5=y.ax5∧x.Out=y.Out:=by cases x;cases y;simp [ax4.mk.injEq]
def anR{x y:ax6}:x=y↔x.Kind=y.Kind∧x.Row=y.Row∧x.Field=y.Field∧x.Value=y.Value:=by cases x;cases y;simp [ax6.mk.injEq]
def nQ(q:ax4):Bool:=decide (q.Id=0)&&(decide (q.ax8=0)&&(decide (q.ax5.length=0)&&decide (q.Out.length=0)))
def nR(u:ax6):Bool:=decide (u.Kind=0)&&(decide (u.Row.Id=0)&&(decide (u.Row.Values.length=0)&&(decide (u.Field=0)&&decide (u.Value=0))))
def Dy(q:ax4):hE q ⟨0,0,[],[]⟩=nQ q:=by
 rw [Bool.eq_iff_iff,fZ];cases q;simp [nQ,List.length_eq_zero_iff]
def Dz(u:ax6):hE u ⟨0,⟨0,[]⟩,0,0⟩=nR u:=by
 rw [Bool.eq_iff_iff,fZ];rcases u with ⟨a,⟨b,c⟩,d,e⟩;simp [nR,List.length_eq_zero_iff,and_assoc]
def dE(x:cZ):Bool:=
 if x.Kind=1 then bN x.ax4&&(aK x.Limit 0 32&&(decide (x.Id=0)&&(nR x.ax6&&decide (x.Steps=0))))
 else if x.Kind=2 then nQ x.ax4&&(decide (x.Limit=0)&&(aK x.Id 0 23&&(nR x.ax6&&decide (x.Steps=0))))
 else if x.Kind=3 then nQ x.ax4&&(decide (x.Limit=0)&&(decide (x.Id=0)&&(dK x.ax6&&decide (x.Steps=0))))
 else if x.Kind=4 then nQ x.ax4&&(decide (x.Limit=0)&&(decide (x.Id=0)&&(nR x.ax6&&aK x.Steps 1 100)))
 else false
def anS{x y:be}:x=y↔x.Id=y.Id∧x.Values=y.Values∧x.ayh=y.ayh∧x.ayd=y.ayd:=yk
def anT{x y:hI}:x=y↔x.Segment=y.Segment∧x.Base=y.Base∧x.Ids=y.Ids∧x.ax9=y.ax9∧x.Rows=y.Rows:=yk
def anU{x y:ax3}:x=y↔x.ax4=y.ax4∧x.Time=y.Time∧x.ayc=y.ayc∧x.Age=y.Age∧x.Sent=y.Sent∧x.Cap=y.Cap∧x.Rows=y.Rows:=yk
def anV{x y:jI}:x=y↔x.ax4=y.ax4∧x.Time=y.Time∧x.Steps=y.Steps∧x.Rows=y.Rows:=yk
def anW{x y:Store}:x=y↔x.ax2=y.ax2∧x.Now=y.Now:=yk
def anX{x y:aC}:x=y↔x.Store=y.Store∧x.ax7=y.ax7∧x.Order=y.Order∧x.ax3=y.ax3∧x.Done=y.Done∧x.ayf=y.ayf∧x.Steps=y.Steps:=yk
def Ja{α:Type}{a b:α}:hE a b=false↔¬a=b:=by rw [←Bool.not_eq_true,fZ]
end
end Go.Proofs.YtmekkgdboplbjaaGreatDoor
namespace Go.Proofs.YtmekkgdboplbjaaGreatDoor
open Go Go.RowKit M Tryz
set_option maxRecDepth 10000
def xA:prog.follows .mixedOrders=true:=ao
def aht:aE prog 102=true:=ao
def anY:aE prog 108=true:=ao
def anZ:aE prog 109=true:=ao
def QX:aE prog 110=true:=ao
def an0:aE prog 111=true:=ao
def an1:aE prog 112=true:=ao
def QY:aE prog 113=true:=ao
def DA:aE prog 125=true:=ao
def QZ:aE prog 170=true:=ao
def uZ:aE prog 172=true:=ao
def an2:aE prog 175=true:=ao
def Ra:aE prog 176=true:=ao
def an3:aE prog 177=true:=ao
def an4:aE prog 178=true:=ao
def an5:aE prog 179=true:=ao
def an6:aE prog 190=true:=ao
def ahu:aE prog 191=true:=ao
def an7:aE prog 192=true:=ao
def an8:aE prog 208=true:=ao
def ahv:aE prog 227=true:=ao
def an9:aE prog 228=true:=ao
def Jb:aE prog 230=true:=ao
def Rb:aE prog 232=true:=ao
def aoa:aE prog 283=true:=ao
def aob:aE prog 285=true:=ao
def rq:aE prog 74=true:=ao
def mh:aE prog 75=true:=ao
def Jc:aE prog 86=true:=ao
def Rc:aE prog 90=true:=ao
def Rd:aE prog 98=true:=ao
def kQ:cd prog 25 0=some 0:=ao
def tz:cd prog 25 1=some 1:=ao
def tB:cd prog 25 2=some 2:=ao
def rr:cd prog 25 3=some 3:=ao
def mU:cd prog 27 0=some 0:=ao
def va:cd prog 27 1=some 1:=ao
def Re:cd prog 29 0=some 0:=ao
def Aj:cd prog 29 1=some 1:=ao
def vb:cd prog 29 2=some 3:=ao
def pT:cd prog 29 3=some 4:=ao
def Rf:cd prog 31 0=some 0:=ao
def Ak:cd prog 31 1=some 1:=ao
def oP:cd prog 31 2=some 5:=ao
def pU:cd prog 31 3=some 6:=ao
def Al:cd prog 31 4=some 7:=ao
def DB:cd prog 31 5=some 12:=ao
def rt:cd prog 65 0=some 0:=ao
def DC:cd prog 65 1=some 1:=ao
def vc:cd prog 65 2=some 2:=ao
def aoc:eA prog 25=some [(0,1),(1,1),(2,1),(3,1)]:=ao
def ahw:eA prog 27=some [(0,1),(1,1)]:=ao
def aod:eA prog 29=some [(0,1),(1,2),(3,1),(4,1)]:=ao
def ahx(x y:Nat)(a0 a1 a2 b0 b1 b2:Int)(w:World):Sem.run prog (do eqGuard .neq 65 (.tmp x) (.tmp y) (.agg #[vI a0,vI a1,vI a2]) (.agg #[vI b0,vI b1,vI b2]);binOp .neq 65 (.agg #[vI a0,vI a1,vI a2]) (.agg #[vI b0,vI b1,vI b2]):Sem Value) w = .ok (.bool (!(a0==b0&&a1==b1&&a2==b2))) w:=by
 have hS:prog.underlying 65=some (.struct (prog.fieldsOf 65)):=ao
 have hp:prog.stoodInHeld 65=false:=ao
 have hm:prog.eqGuardType prog.depth 65=false:=ao
 have hU:=Tryz.underlying65
 have u3:=Tryz.underlying3
 have a3_:=Tryz.isAgg3
 have z3:=Tryz.sizeOf3
 rw [Sem.run_bind,run_eqGuard_agg w _ _ _ _ _ _ hm,Result.andThen_ok,run_neq_struct]
 rw [show (10000:Nat)=9999+1 from rfl,run_equalIn_agg w 9999 65 _ _ hS hp]
 simp only [Program.fieldsOf,hU]
 go_simp
 by_cases h0:a0=b0<;>by_cases h1:a1=b1<;>by_cases h2:a2=b2<;>simp_all
def il:fy prog 22=some (65,3,24):=ao
def cn:fy prog 23=some (3,1,8):=ao
def pV:fy prog 37=some (5,1,1):=ao
def mi:fy prog 54=some (27,2,32):=ao
def kp:dg prog 22=some (false,1):=ao
def cW:dg prog 23=some (false,1):=ao
def gO:dg prog 25=some (true,4):=ao
def ju:dg prog 27=some (true,2):=ao
def kq:dg prog 29=some (true,5):=ao
def bb:dg prog 3=some (false,1):=ao
def vd:dg prog 65=some (true,3):=ao
def nS:fI prog 25=some (.agg #[.int .i64 0,.int .i64 0,.slice none 0 0,.slice none 0 0]):=ao
def jJ:fI prog 27=some (.agg #[.int .i64 0,.slice none 0 0]):=ao
def tC:fI prog 29=some (.agg #[.int .i64 0,.int .i64 0,.slice none 0 0,.int .i64 0,.int .i64 0]):=ao
def iP:fI prog 3=some (.int .i64 0):=ao
def nU:fI prog 65=some (.agg #[.int .i64 0,.int .i64 0,.int .i64 0]):=ao
def ve{Fz:aA}{w:World}:aP [PV.val (.int .i64 0),PV.val (.int .i64 0),PV.sl aH [],PV.sl ai []] Fz w (Value.cells (.agg #[.int .i64 0,.int .i64 0,.slice none 0 0,.slice none 0 0])).toList []:=dt rfl (dt rfl (gt (gt (mG))))
def mV{Fz:aA}{w:World}:aP [PV.val (.int .i64 0),PV.sl ai []] Fz w (Value.cells (.agg #[.int .i64 0,.slice none 0 0])).toList []:=dt rfl (gt (mG))
def tD{Fz:aA}{w:World}:aP [PV.val (.int .i64 0),PV.val (.int .i64 0),PV.sl ai [],PV.val (.int .i64 0),PV.val (.int .i64 0)] Fz w (Value.cells (.agg #[.int .i64 0,.int .i64 0,.slice none 0 0,.int .i64 0,.int .i64 0])).toList []:=dt rfl (dt rfl (gt (dt rfl (dt rfl (mG)))))
def DD{Fz:aA}{w:World}:aP [PV.val (.int .i64 0),PV.val (.int .i64 0),PV.val (.int .i64 0)] Fz w (Value.cells (.agg #[.int .i64 0,.int .i64 0,.int .i64 0])).toList []:=dt rfl (dt rfl (dt rfl (mG)))
end Go.Proofs.YtmekkgdboplbjaaGreatDoor
namespace Go.Proofs.YtmekkgdboplbjaaGreatDoor
open Go Go.RowKit M Tryz
set_option maxRecDepth 10000
section
structure aG where
 b:List Int
 i:Nat
 h:Int
 hb:b.length≤9223372036854775807
def da(o:Fl)(c:aG):List PV:=[PV.sl o (c.b.map oN),PV.val (vI (c.i:Int)),PV.val (vI c.h)]
def Jd(code:List Int):Nat→Int
 | 0=>10101+code.length
 | k+1=>sK (wm (wm (Gg (Jd code k) 131) (IntKind.i64.wrap (code.getD k 0))) 7) 1073741823
def aS(code:List Int)(hb:code.length≤9223372036854775807):aG:=⟨code,0,Jd code (min code.length 4000),hb⟩
def vf(h:Int):Int:=wm (Gg h 6364136223846793005) 1442695040888963407
def Am(h:Int):Int:=sK (Gh (h.fdiv (2 ^ 33)) (h.fdiv (2 ^ 45))) 255
def hJ(c:aG):Int×aG:=if c.i < c.b.length then (sK (wm (Am (vf c.h)) (IntKind.i64.wrap (c.b.getD c.i 0))) 255,⟨c.b,c.i+1,vf c.h,c.hb⟩) else (Am (vf c.h),⟨c.b,c.i,vf c.h,c.hb⟩)
def aw(c:aG)(n:Int):Int×aG:=if n≤0 then (0,c) else ((hJ c).1.tmod n,(hJ c).2)
def bL(c:aG)(l:List Int):Int×aG:=(l.getD (aw c l.length).1.toNat 0,(aw c l.length).2)
def kR(w:Int)(c:aG):Nat→List Int×aG
 | 0=>([],c)
 | k+1=>((kR w c k).1++[(aw (kR w c k).2 w).1],(aw (kR w c k).2 w).2)
def iQ(c:aG)(id:Int):Row×aG:=(⟨id,(kR (bL c [3,6,100]).1 (bL c [3,6,100]).2 3).1⟩,(kR (bL c [3,6,100]).1 (bL c [3,6,100]).2 3).2)
structure ahy where
 id:Int
 l:List Row
 c:aG
def dw(id:Int)(c:aG):Nat→ahy
 | 0=>⟨id,[],c⟩
 | k+1=>⟨(dw id c k).id+1+(aw (iQ (dw id c k).c (dw id c k).id).2 3).1,(dw id c k).l++[(iQ (dw id c k).c (dw id c k).id).1],(aw (iQ (dw id c k).c (dw id c k).id).2 3).2⟩
def Je(c:aG)(most:Int):ahy:=dw (aw c 3).1 (aw (aw c 3).2 (most+1)).2 (aw (aw c 3).2 (most+1)).1.toNat
def pW(c:aG)(most:Int):List Row×aG:=((Je c most).l,(Je c most).c)
section
variable{c:aG}{n w id:Int}{k:Nat}{l:List Int}
def aoe(h:c.i < c.b.length):hJ c=(sK (wm (Am (vf c.h)) (IntKind.i64.wrap (c.b.getD c.i 0))) 255,⟨c.b,c.i+1,vf c.h,c.hb⟩):=if_pos h
def aof(h:¬c.i < c.b.length):hJ c=(Am (vf c.h),⟨c.b,c.i,vf c.h,c.hb⟩):=if_neg h
def aog(h:Int):0≤Am h∧Am h≤255:=WZ (m:=255) aj
def Jf(c:aG):0≤(hJ c).1∧(hJ c).1≤255:=by
 unfold hJ
 split
 ·exact WZ (m:=255) aj
 ·exact aog _
def ahz(h:n≤0):aw c n=(0,c):=if_pos h
def Rg(h:0 < n):aw c n=((hJ c).1.tmod n,(hJ c).2):=if_neg ab
def dW(c:aG)(n:Int):0≤(aw c n).1:=by
 by_cases h:n≤0
 ·rw [ahz h];exact Int.le_refl _
 ·rw [Rg ab];exact Int.tmod_nonneg n (Jf c).1
def dY(c:aG)(h:0 < n):(aw c n).1 < n:=by
 rw [Rg h];exact Int.tmod_lt_of_pos _ h
def Rh(c:aG)(h:0 < l.length):(bL c l).1∈l:=by
 have h1:=dW c (l.length:Int)
 have h2:=dY c (n:=(l.length:Int)) ab
 have h3:(aw c (l.length:Int)).1.toNat < l.length:=ab
 show l.getD _ 0∈l
 rw [List.getD_eq_getElem?_getD,List.getElem?_eq_getElem h3]
 exact List.getElem_mem h3
def aoh(c:aG):0≤(bL c [3,6,100]).1∧(bL c [3,6,100]).1≤100:=by
 have h:=Rh c (l:=[3,6,100]) aj
 simp at h;omega
def DE:((kR w c k).1).length=k:=by
 induction k with
 | zero=>rfl
 | succ k ih=>rw [kR,bJ,ih];rfl
def ahA(c:aG)(id:Int):jr (iQ c id).1=3:=by
 unfold iQ jr
 simp only [gj,DE,bo]
def ahB(h:0≤id∧id≤2):0≤(dw id c k).id∧(dw id c k).id≤3 * k+2:=by
 induction k with
 | zero=>exact ⟨h.1,by rw [dw];dsimp only;omega⟩
 | succ k ih=>
  rw [dw]
  have h1:=dW (iQ (dw id c k).c (dw id c k).id).2 3
  have h2:=dY (iQ (dw id c k).c (dw id c k).id).2 (n:=3) aj
  dsimp only;omega
def Ri:(dw id c k).l.length=k:=by
 induction k with
 | zero=>rfl
 | succ k ih=>rw [dw];dsimp only;rw [bJ,ih];rfl
def aoi:((dw id c k).l.map jr).sum=3 * k:=by
 induction k with
 | zero=>rfl
 | succ k ih=>
  rw [dw];dsimp only
  rw [bK,List.sum_append,ih,List.map_cons,List.map_nil,List.sum_cons,List.sum_nil,ahA];omega
def aoj(c:aG){most:Int}(h:0≤most):(iN (pW c most).1:Int)≤4 * most:=by
 have h1:=dW (aw c 3).2 (most+1)
 have h2:=dY (aw c 3).2 (n:=most+1) ab
 have h3:=Ri (id:=(aw c 3).1) (c:=(aw (aw c 3).2 (most+1)).2) (k:=(aw (aw c 3).2 (most+1)).1.toNat)
 have h4:=aoi (id:=(aw c 3).1) (c:=(aw (aw c 3).2 (most+1)).2) (k:=(aw (aw c 3).2 (most+1)).1.toNat)
 unfold iN pW Je
 dsimp only
 rw [h3,h4];omega
end
end
structure tE where
 l:List fC
 c:aG
@[reducible] def ax1 (w:Int) (c:aG):aG:=(aw c 2).2
@[reducible] def An (w:Int) (c:aG):Int:=(aw (aw c 2).2 w).1
@[reducible] def ahC (w:Int) (c:aG):Int:=min 99 (An w c+(aw (aw (aw c 2).2 w).2 w).1)
@[reducible] def Ao (w:Int) (c:aG):aG:=(aw (aw (aw c 2).2 w).2 w).2
def tF(w:Int)(f:Int)(s:tE):tE:=
 if (aw s.c 2).1=0 then
  ⟨s.l++[⟨f,An w s.c,if (aw (Ao w s.c) 3).1=0 then An w s.c else ahC w s.c⟩],(aw (Ao w s.c) 3).2⟩
 else ⟨s.l,(aw s.c 2).2⟩
def aok{w f:Int}{s:tE}(h:(aw s.c 2).1=0)(h2:(aw (Ao w s.c) 3).1=0):tF w f s=⟨s.l++[⟨f,An w s.c,An w s.c⟩],(aw (Ao w s.c) 3).2⟩:=by unfold tF;rw [if_pos h,if_pos h2]
def aol{w f:Int}{s:tE}(h:(aw s.c 2).1=0)(h2:¬(aw (Ao w s.c) 3).1=0):tF w f s=⟨s.l++[⟨f,An w s.c,ahC w s.c⟩],(aw (Ao w s.c) 3).2⟩:=by unfold tF;rw [if_pos h,if_neg h2]
def aom{w f:Int}{s:tE}(h:¬(aw s.c 2).1=0):tF w f s=⟨s.l,(aw s.c 2).2⟩:=by unfold tF;rw [if_neg h]
def jK(w:Int)(s:tE):Nat→tE
 | 0=>s
 | k+1=>tF w (k:Int) (jK w s k)
def Rj{w:Int}{s:tE}:∀k,(jK w s k).l.length≤s.l.length+k
 | 0=>Nat.le_refl _
 | k+1=>by
  have ih:=Rj (w:=w) (s:=s) k
  show (tF w (k:Int) (jK w s k)).l.length≤_
  unfold tF
  split
  ·simp only [bJ,List.length_cons,List.length_nil];omega
  ·dsimp only;omega
@[reducible] def Jg (c:aG):Int×aG:=bL (aw c 4).2 [3,6,100]
def tG(c:aG):tE:=jK (Jg c).1 ⟨[],(Jg c).2⟩ 3
def kS(c:aG):Int×aG:=aw (tG c).c 3
def DF(c:aG):List Int×aG:=kR 3 (kS c).2 (1+(kS c).1).toNat
def mj(c:aG)(id:Int):ax4×aG:=(⟨id,(aw c 4).1,(tG c).l,(DF c).1⟩,(DF c).2)
def ahD(c:aG):0≤(kS c).1∧(kS c).1≤2:=by
 have h1:=dW (tG c).c 3
 have h2:=dY (tG c).c (n:=3) aj
 unfold kS;omega
def Jh(c:aG)(id:Int):fM (mj c id).1≤6:=by
 have h1:=Rj (w:=(Jg c).1) (s:=⟨[],(Jg c).2⟩) 3
 have h2:=ahD c
 have h3:(DF c).1.length=(1+(kS c).1).toNat:=DE
 have hc:∀l:List fC,(l.map Dr).sum=0:=by
  intro l
  induction l with
  | nil=>rfl
  | cons a c ih=>rw [List.map_cons,List.sum_cons,ih];rfl
 unfold mj fM Ah
 simp only [gj,bo,hc]
 have:(tG c).l.length≤0+3:=h1
 omega
def v0:be:=⟨0,[],0,0⟩
def eW(now:Int)(v:be):Bool:=bM ⟨v.Id,v.Values⟩&&(aK v.ayh 0 now&&(decide (v.ayd = -1)||aK v.ayd (v.ayh+1) now))
def gy(a b:be):Bool:=!(a.Id==b.Id)||((!(a.ayd == -1)&&decide (a.ayd≤b.ayh))||(!(b.ayd == -1)&&decide (b.ayd≤a.ayh)))
def gk(v:be)(t:Int):Bool:=decide (v.ayh≤t)&&(decide (v.ayd = -1)||decide (v.ayd > t))
def xB(v w:be):Bool:=gk v w.ayh||gk w v.ayh
def ahE{now:Int}{v w:be}(hv:eW now v=true)(hw:eW now w=true):(v.Id==w.Id&&xB v w) = !gy v w:=by
 have h1:v.ayd = -1∨v.ayh < v.ayd:=by simp [eW,aK] at hv;omega
 have h2:w.ayd = -1∨w.ayh < w.ayd:=by simp [eW,aK] at hw;omega
 have h3:0≤v.ayh∧0≤w.ayh:=by simp [eW,aK] at hv hw;omega
 rw [Bool.eq_iff_iff]
 simp only [xB,gk,gy,aX,Bool.or_eq_true,Bool.not_eq_true',beq_iff_eq,decide_eq_true_eq,Bool.or_eq_false_iff,Bool.not_eq_false',Bool.and_eq_false_iff,decide_eq_false_iff_not]
 omega
def bu(s:Store):List be:=s.ax2.flatten
def iq(L:List be)(i k:Nat):Bool:=(List.range k).all fun m=>gy (L.getD i v0) (L.getD m v0)
def oQ(now:Int)(L:List be)(i:Nat):Bool:=eW now (L.getD i v0)&&iq L i i
def oR(now:Int)(L:List be)(i:Nat):Bool:=(List.range i).all (oQ now L)
def mW(l:List be):Bool:=decide ((l.length:Int)≤4)
def ru(s:Store):Bool:=aK s.ax2.length 1 8&&aK s.Now 0 100000
def cN(s:Store):Bool:=(ru s&&s.ax2.all mW)&&oR s.Now (bu s) (bu s).length
def aon{L:List be}{i k:Nat}:iq L i (k+1)=(iq L i k&&gy (L.getD i v0) (L.getD k v0)):=by simp [iq,List.range_succ]
def ahF{now:Int}{L:List be}{i:Nat}:oR now L (i+1)=(oR now L i&&oQ now L i):=by simp [oR,List.range_succ]
def Rk{now:Int}{L:List be}{i j:Nat}(h:oR now L i=true)(hj:j < i):eW now (L.getD j v0)=true:=by
 have:=List.all_eq_true.1 h j (List.mem_range.2 hj)
 unfold oQ at this
 rw [aX] at this
 exact this.1
def Ji{s:Store}{i:Nat}(hi:i < (bu s).length)(h:oQ s.Now (bu s) i=false):cN s=false:=by
 have:oR s.Now (bu s) (bu s).length=false:=by
  rw [←Bool.not_eq_true]
  intro hh
  have:=List.all_eq_true.1 hh i (List.mem_range.2 hi)
  rw [h] at this;cases this
 unfold cN;rw [this,Bool.and_false]
def ahG{now:Int}{L:List be}{i:Nat}(h:eW now (L.getD i v0)=false):oQ now L i=false:=by unfold oQ;rw [h];rfl
def ahH{now:Int}{L:List be}{i k:Nat}(hk:k < i)(h:gy (L.getD i v0) (L.getD k v0)=false):oQ now L i=false:=by
 have:iq L i i=false:=by
  rw [←Bool.not_eq_true]
  intro hh
  have:=List.all_eq_true.1 hh k (List.mem_range.2 hk)
  rw [h] at this;cases this
 unfold oQ;rw [this,Bool.and_false]
def ahI{s:Store}{k:Nat}(hk:k < s.ax2.length)(h:¬((s.ax2[k].length:Int)≤4)):cN s=false:=by
 have:s.ax2.all mW=false:=oM hk (by simpa [mW] using h)
 unfold cN;rw [this];simp
def ek(s:Store)(k:Nat):List be:=(s.ax2.take k).flatten
def DG{s:Store}{k:Nat}(hk:k < s.ax2.length):ek s (k+1)=ek s k++s.ax2[k]:=by
 unfold ek;rw [cU hk,List.flatten_append];simp
def Jj{s:Store}{k:Nat}(hk:k < s.ax2.length):bu s=ek s k++(s.ax2[k]++(s.ax2.drop (k+1)).flatten):=by
 unfold bu ek
 rw [←List.flatten_cons,←List.flatten_append,←List.drop_eq_getElem_cons hk,ic]
def Rl{s:Store}:ek s s.ax2.length=bu s:=by unfold ek bu;rw [cJ]
def ahJ{s:Store}{k j:Nat}(hk:k < s.ax2.length)(hj:j < s.ax2[k].length):(ek s k).length+j < (bu s).length∧(bu s).getD ((ek s k).length+j) v0=s.ax2[k][j]:=by
 rw [Jj hk]
 refine ⟨by simp only [bJ];omega,?_⟩
 rw [List.getD_eq_getElem?_getD,List.getElem?_append_right ab,show (ek s k).length+j - (ek s k).length=j by omega,List.getElem?_append_left hj,List.getElem?_eq_getElem hj]
 rfl
def aoo{s:Store}{k j:Nat}(hk:k < s.ax2.length)(hj:j≤s.ax2[k].length):ek s k++s.ax2[k].take j=(bu s).take ((ek s k).length+j):=by
 rw [Jj hk,List.take_length_add_append,List.take_append_of_le_length hj]
def vg(s:Store):(bu s).length≤cg s:=by
 unfold cg iy bu
 rw [List.length_flatten]
 have:(s.ax2.map List.length).sum≤(s.ax2.map dv).sum:=by
  generalize s.ax2=l
  induction l with
  | nil=>simp
  | cons x l ih=>simp only [List.map_cons,List.sum_cons];unfold dv at *;omega
 omega
def jL(v:be):Row:=⟨v.Id,v.Values⟩
def pX{s:Store}(h:cN s=true):s.ax2.length≤8∧1≤s.ax2.length∧0≤s.Now∧s.Now≤100000∧(∀g∈s.ax2,g.length≤4)∧∀i,i < (bu s).length→eW s.Now ((bu s).getD i v0)=true:=by
 unfold cN ru at h
 simp only [aX,aK,decide_eq_true_eq] at h
 refine ⟨ab,ab,ab,ab,fun g hg=>?_,fun i hi=>Rk h.2 hi⟩
 have:=List.all_eq_true.1 h.1.2 g hg
 simp [mW] at this;omega
def Rm{s:Store}(h:cN s=true){k j:Nat}(hk:k < s.ax2.length)(hj:j < s.ax2[k].length):eW s.Now s.ax2[k][j]=true:=by
 have h1:=ahJ hk hj
 rw [←h1.2]
 exact (pX h).2.2.2.2.2 _ h1.1
def Ap:ax4:=⟨0,0,[],[]⟩
def mX:fO:=⟨0,0,[]⟩
def xC(a b:ax4):Bool:=decide (a.Id < b.Id)
def eQ(l:List ax4):Bool:=fh Ap bN xC l&&decide ((l.length:Int)≤24)
def vh{l:List ax4}(h:eQ l=true):l.length≤24∧∀q∈l,bN q=true:=by
 unfold eQ at h
 rw [aX] at h
 refine ⟨by have:=of_decide_eq_true h.2;omega,fun q hq=>?_⟩
 obtain ⟨k,hk,rfl⟩:=List.mem_iff_getElem.1 hq
 exact Dx h.1 hk
def aop{q:ax4}(h:bN q=true):q.ax5.length≤3∧q.Out.length≤3:=by
 unfold bN nP at h
 simp only [aX,aK,decide_eq_true_eq] at h
 omega
def iz(l:List ax4)(f v:Int):List Int:=(l.filter fun q=>kP q f v).map ax4.Id
def Jk(l:List ax4)(f v:Int):List Int:=if eQ l&&(aK f 0 2&&aK v 0 99) then iz l f v else []
def aoq{l:List ax4}{f v:Int}{k:Nat}(hk:k < l.length)(h:kP l[k] f v=true):iz (l.take (k+1)) f v=iz (l.take k) f v++[l[k].Id]:=by
 unfold iz;rw [cU hk,gW];simp [h]
def aor{l:List ax4}{f v:Int}{k:Nat}(hk:k < l.length)(h:kP l[k] f v=false):iz (l.take (k+1)) f v=iz (l.take k) f v:=by
 unfold iz;rw [cU hk,gW];simp [h]
def Rn(l:List ax4)(f v:Int):(iz l f v).length≤l.length:=by
 unfold iz;rw [bf];exact kE _ _
def aos{l:List ax4}{f v:Int}{k:Nat}(h:(k=l.length∧(eQ l&&(aK f 0 2&&aK v 0 99))=true)∨(k=0∧(l.length=0∨(eQ l&&(aK f 0 2&&aK v 0 99))=false))):iz (l.take k) f v=Jk l f v:=by
 unfold Jk
 rcases h with ⟨rfl,h⟩|⟨rfl,h⟩
 ·rw [if_pos h,cJ]
 ·split
  ·rename_i h2
   rcases h with h|h
   ·rw [kC h];rfl
   ·rw [h] at h2;cases h2
  ·rfl
noncomputable def pY(out:List fO)(s:List Int):Bool:=!(out.length==0)&&hE (out.getD (out.length - 1) mX).Set s
def aot{out:List fO}{s:List Int}(h0:0 < out.length)(h:hE (out.getD (out.length - 1) mX).Set s=true):pY out s=true:=by
 unfold pY;rw [h,Bool.and_true];simp;exact List.length_pos_iff.1 h0
noncomputable def Aq(out:List fO)(v:Int)(s:List Int):List fO:=if pY out s then out.set (out.length - 1) ⟨(out.getD (out.length - 1) mX).From,v,(out.getD (out.length - 1) mX).Set⟩ else out++[⟨v,v,s⟩]
def aou{out:List fO}{v:Int}{s:List Int}(h:pY out s=true):Aq out v s=out.set (out.length - 1) ⟨(out.getD (out.length - 1) mX).From,v,(out.getD (out.length - 1) mX).Set⟩:=if_pos h
def aov{out:List fO}{v:Int}{s:List Int}(h:pY out s=false):Aq out v s=out++[⟨v,v,s⟩]:=if_neg iF
noncomputable def en(l:List ax4)(f:Int):Nat→List fO
 | 0=>[]
 | k+1=>Aq (en l f k) k (iz l f k)
def Ro(l:List ax4)(f:Int):∀k,(en l f k).length≤k
 | 0=>Nat.le_refl _
 | k+1=>by
  have:=Ro l f k
  rw [en]
  unfold Aq
  split
  ·rw [List.length_set];omega
  ·rw [bJ];simp;omega
def ahK(l:List ax4)(f:Int):∀k,∀s∈en l f k,s.Set.length≤l.length
 | 0,s,h=>nomatch h
 | k+1,s,h=>by
  have ih:=ahK l f k
  rw [en] at h
  unfold Aq at h
  split at h
  ·rename_i hl
   rcases List.mem_or_eq_of_mem_set h with h|rfl
   ·exact ih s h
   ·have hne:0 < (en l f k).length:=by
     unfold pY at hl
     rw [aX] at hl
     have:=hl.1
     simp at this
     exact List.length_pos_iff.2 this
    have hlt:(en l f k).length - 1 < (en l f k).length:=ab
    show ((en l f k).getD _ mX).Set.length≤_
    rw [List.getD_eq_getElem?_getD,List.getElem?_eq_getElem hlt]
    exact ih _ (List.getElem_mem hlt)
  ·rcases List.mem_append.1 h with h|h
   ·exact ih s h
   ·simp at h;subst h;exact Rn _ _ _
noncomputable def jc(l:List ax4)(f:Int):List fO:=if eQ l&&aK f 0 2 then en l f 100 else []
def aow(l:List ax4)(f:Int):(jc l f).length≤100∧∀s∈jc l f,s.Set.length≤24:=by
 unfold jc
 split
 ·rename_i h
  rw [aX] at h
  have:=vh h.1
  exact ⟨Ro _ _ _,fun s hs=>Nat.le_trans (ahK _ _ _ s hs) this.1⟩
 ·exact ⟨aM,fun s hs=>nomatch hs⟩
def jM(v:Int)(s:fO):Bool:=aK v s.From s.To
def jd(l:List fO)(v:Int):List Int:=match l.find? (jM v) with
 | some s=>s.Set
 | none=>[]
def aox{l:List fO}{v:Int}{k:Nat}(hk:k < l.length)(h:(l.take k).any (jM v)=false)(hy:jM v l[k]=true):jd l v=l[k].Set:=by
 unfold jd
 have e:l=l.take k++l[k]::l.drop (k+1):=Uy
 have hn:(l.take k).find? (jM v)=none:=by
  rw [List.find?_eq_none]
  intro x hx hp
  rw [List.any_eq_false] at h
  exact h x hx hp
 have:l.find? (jM v)=some l[k]:=by
  conv=>lhs;rw [e]
  rw [List.find?_append,hn,List.find?_cons_of_pos hy]
  rfl
 rw [this]
def aoy{l:List fO}{v:Int}(h:l.any (jM v)=false):jd l v=[]:=by
 unfold jd
 have hn:l.find? (jM v)=none:=by
  rw [List.find?_eq_none]
  intro x hx hp
  rw [List.any_eq_false] at h
  exact h x hx hp
 rw [hn]
def aoz{l:List fO}{m:Nat}(h:∀s∈l,s.Set.length≤m)(v:Int):(jd l v).length≤m:=by
 unfold jd
 split
 ·rename_i s hs;exact h s (List.mem_of_find?_eq_some hs)
 ·exact Nat.zero_le _
noncomputable def ahL(x:md)(k:Nat):Bool:=(List.range k).all fun f=>hE (x.Fields.getD f []) (jc x.Queries (f:Int))
noncomputable def DH(x:md):Bool:=(eQ x.Queries&&decide (x.Fields.length=3))&&ahL x 3
def aoA{x:md}(h:DH x=true):eQ x.Queries=true∧x.Fields.length=3∧∀f,f < 3→x.Fields.getD f []=jc x.Queries (f:Int):=by
 unfold DH at h
 simp only [aX,decide_eq_true_eq] at h
 exact ⟨h.1.1,h.1.2,fun f hf=>fZ.1 (List.all_eq_true.1 h.2 f (List.mem_range.2 hf))⟩
noncomputable def pZ(l:List ax4):md:=if eQ l then ⟨l,[jc l 0,jc l 1,jc l 2]⟩ else ⟨[],[]⟩
def aoB{l:List ax4}(h:eQ l=true):DH (pZ l)=true:=by
 unfold pZ
 rw [if_pos h]
 unfold DH
 rw [h]
 simp only [List.length_cons,List.length_nil,Bool.true_and,aX,decide_eq_true_eq]
 refine ⟨aj,?_⟩
 unfold ahL
 rw [lQ]
 intro f hf
 have:=List.mem_range.1 hf
 have:f=0∨f=1∨f=2:=ab
 rcases this with rfl|rfl|rfl<;>exact xy rfl
noncomputable def vi(l:List ax4)(k:Nat):List (List fO):=(List.range k).map fun f:Nat=>jc l (f:Int)
def vj(l:List ax4):List Int:=l.map ax4.Id
def iR(o:List Int):Bool:=decide (o.length=3)&&(cv o 0&&(cv o 1&&cv o 2))
def ahM{o:List Int}(h:iR o=true):o.length=3∧∀f∈o,0≤f∧f≤2:=by
 unfold iR at h
 simp only [aX,decide_eq_true_eq] at h
 obtain ⟨h1,h2,h3,h4⟩:=h
 match o,h1 with
 | [a,b,c],_=>
  simp [cv] at h2 h3 h4
  refine ⟨rfl,fun f hf=>?_⟩
  simp at hf
  omega
def Ar(o:List Int)(k:Nat):Bool:=(List.range k).all fun i=>aK (o.getD i 0) 0 2&&!cv (o.take i) (o.getD i 0)
def aoC{o:List Int}{k:Nat}:Ar o (k+1)=(Ar o k&&(aK (o.getD k 0) 0 2&&!cv (o.take k) (o.getD k 0))):=by simp [Ar,List.range_succ]
def ahN{o:List Int}(h:o.length=3):Ar o 3=iR o:=by
 match o,h with
 | [a,b,c],_=>
  rw [Bool.eq_iff_iff]
  simp [Ar,iR,cv,aK,List.range_succ]
  omega
def aoD{o:List Int}{k:Nat}(hl:o.length=3)(hk:k < 3)(h:(aK (o.getD k 0) 0 2&&!cv (o.take k) (o.getD k 0))=false):iR o=false:=by
 rw [←ahN hl,←Bool.not_eq_true]
 intro hh
 have:=List.all_eq_true.1 hh k (List.mem_range.2 hk)
 rw [h] at this;cases this
def tH(x:md)(r:Row)(s:List Int×Int)(f:Int):List Int×Int:=if s.1=[] then s else (tx s.1 (jd (x.Fields.getD f.toNat []) (ko r.Values f)),s.2+1+min (s.1.length:Int) ((jd (x.Fields.getD f.toNat []) (ko r.Values f)).length:Int))
def gP(x:md)(r:Row)(o:List Int)(k:Nat):List Int×Int:=(o.take k).foldl (tH x r) (vj x.Queries,0)
def ahO{x:md}{r:Row}{o:List Int}{k:Nat}(hk:k < o.length)(h:(gP x r o k).1≠[]):gP x r o (k+1)=(tx (gP x r o k).1 (jd (x.Fields.getD o[k].toNat []) (ko r.Values o[k])),(gP x r o k).2+1+min ((gP x r o k).1.length:Int) ((jd (x.Fields.getD o[k].toNat []) (ko r.Values o[k])).length:Int)):=by
 unfold gP
 rw [cU hk,List.foldl_append]
 show tH x r (gP x r o k) o[k]=_
 unfold tH
 rw [if_neg h];rfl
def ahP{x:md}{r:Row}:∀(o:List Int) (s:List Int×Int),s.1=[]→o.foldl (tH x r) s=s
 | [],s,_=>rfl
 | f::o,s,h=>by
  rw [List.foldl_cons]
  have:tH x r s f=s:=if_pos h
  rw [this];exact ahP o s h
noncomputable def xD(x:md)(r:Row)(o:List Int):List Int×Int:=o.foldl (tH x r) (vj x.Queries,0)
def aoE{x:md}{r:Row}{o:List Int}{k:Nat}(h:k=o.length∨(gP x r o k).1=[]):gP x r o k=xD x r o:=by
 rcases h with rfl|h
 ·unfold gP xD;rw [cJ]
 ·unfold xD
  have e:o=o.take k++o.drop k:=(ic _ _).symm
  conv=>rhs;rw [e,List.foldl_append]
  exact (ahP _ _ h).symm
def ahQ{x:md}(hx:x.Queries.length≤24)(r:Row)(o:List Int):∀k,(gP x r o k).1.length≤24∧0≤(gP x r o k).2∧(gP x r o k).2≤25 * k
 | 0=>by refine ⟨?_,?_,?_⟩<;>simp [gP,vj];exact hx
 | k+1=>by
  have ih:=ahQ hx r o k
  by_cases hk:k < o.length
  ·by_cases h:(gP x r o k).1=[]
   ·have e:gP x r o (k+1)=gP x r o k:=by
     unfold gP
     rw [cU hk,List.foldl_append]
     exact if_pos h
    rw [e];omega
   ·rw [ahO hk h]
    have:=anN (gP x r o k).1 (jd (x.Fields.getD o[k].toNat []) (ko r.Values o[k]))
    dsimp only;omega
  ·have e:gP x r o (k+1)=gP x r o k:=by
    unfold gP
    rw [qG ab,qG ab]
   rw [e];omega
def aoF{l:List ax4}(h:eQ l=true):IX l≤1000:=by
 have h1:=vh h
 have h2:∀q∈l,fM q≤10:=fun q hq=>by
  have:=aop (h1.2 q hq)
  have hc:∀c:List fC,(c.map Dr).sum=0:=by
   intro c
   induction c with
   | nil=>rfl
   | cons a c ih=>rw [List.map_cons,List.sum_cons,ih];rfl
  unfold fM Ah
  simp only [gj,bo,hc]
  omega
 have h3:(l.map fM).sum≤l.length * 10:=by
  clear h h1
  induction l with
  | nil=>simp
  | cons q l ih=>
   have a:=h2 q aM
   have b:=ih fun x hx=>h2 x gC
   simp only [List.map_cons,List.sum_cons,List.length_cons,Nat.succ_mul];omega
 unfold IX
 have:l.length * 10≤24 * 10:=Nat.mul_le_mul h1.1 (Nat.le_refl _)
 omega
def aoG{l:List ax4}{k:Nat}:vi l (k+1)=vi l k++[jc l (k:Int)]:=by unfold vi;rw [List.range_succ,bK];rfl
def aoH{l:List ax4}{k:Nat}:(vi l k).length=k:=by unfold vi;rw [bf,List.length_range]
def aoI{l:List ax4}(h:eQ l=true):pZ l=⟨l,vi l 3⟩:=by unfold pZ;rw [if_pos h];rfl
def aoJ{l:List ax4}(h:eQ l=false):pZ l=⟨[],[]⟩:=by unfold pZ;rw [if_neg iF]
def PV.to_eqv{o:Fl}{es ds:List (List PV)}(h:es=ds):(PV.sl o es).To (PV.sl .v ds):=by subst h;exact ut
def kT{a b:av}(h:a=b):[PV.val (.string (B a))]=[PV.val (.string (B b))]:=by rw [h]
abbrev itoa(n:Int):av:=Lib.itoa n
def eH{n:Int}(h:ee n):(itoa n).length≤21:=Lib.itoa_length_le n h.1 h.2
def DI{u:Nat}(h:10≤u):Lib.decDigits u=Lib.decDigits (u / 10)++[UInt8.ofNat (48+u%10)]:=by rw [Lib.decDigits,dif_neg ab]
def xE{u:Nat}(h:u < 10):Lib.decDigits u=[UInt8.ofNat (48+u)]:=by rw [Lib.decDigits,dif_pos h]
def tJ(n q:Int)(s:av):Prop:=(if q=0 then s else Lib.decDigits q.natAbs++s)=Lib.decDigits n.natAbs
def aoK{n:Int}(h:n≠0):tJ n n []:=by unfold tJ;rw [if_neg h,fV]
def As(q:Int):(q.tdiv 10).natAbs=q.natAbs / 10:=by rw [Int.natAbs_tdiv];rfl
def aoL(q:Int):(q.tmod 10).natAbs=q.natAbs%10:=by rw [Int.natAbs_tmod];rfl
def aoM{n q d:Int}{s:av}(h:tJ n q s)(hq:q≠0)(hd:d=((q.natAbs%10:Nat):Int)):tJ n (q.tdiv 10) (ii [48+d]++s):=by
 have e:ii [48+d]=[UInt8.ofNat (48+q.natAbs%10)]:=by
  subst hd
  show [UInt8.ofNat (48+((q.natAbs%10:Nat):Int)).toNat]=_
  congr 2
 unfold tJ at h ⊢
 rw [if_neg hq] at h
 rw [e,←h]
 by_cases h0:q.tdiv 10=0
 ·rw [if_pos h0]
  have:q.natAbs / 10=0:=by rw [←As,h0];rfl
  rw [xE ab,show q.natAbs%10=q.natAbs by omega]
 ·rw [if_neg h0]
  have:q.natAbs / 10≠0:=by rw [←As];omega
  rw [DI (u:=q.natAbs) ab,As,bB]
def aoN{n:Int}{s:av}(h:tJ n 0 s):s=Lib.decDigits n.natAbs:=by unfold tJ at h;rwa [if_pos rfl] at h
def ahR{n q:Int}{s:av}(h:tJ n q s)(hn:ee n):s.length≤20:=by
 have hd:(Lib.decDigits n.natAbs).length≤20:=by
  rw [Lib.decDigits_length];exact Lib.nDigits_le20 _ (by unfold ee at hn;omega)
 rw [←h] at hd
 split at hd
 ·exact hd
 ·rw [bJ] at hd;omega
def xF{n:Int}(h:n < 0):itoa n=45::Lib.decDigits n.natAbs:=by show Lib.itoa n=_;rw [Lib.itoa,if_pos h]
def rx{n:Int}(h:¬n < 0):itoa n=Lib.decDigits n.natAbs:=by show Lib.itoa n=_;rw [Lib.itoa,if_neg h];congr 1;omega
def aoO:itoa 0=[48]:=by rw [rx ab];exact xE aj
def At{α:Type}{P:List α→Prop}(h0:P [])(h1:∀l a,P l→P (l++[a]))(l:List α):P l:=by
 have h:∀r:List α,P r.reverse:=by
  intro r
  induction r with
  | nil=>exact h0
  | cons a r ih=>rw [List.reverse_cons];exact h1 _ _ ih
 simpa using h l.reverse
def Au{xs:List av}{y sep:av}:ja (xs++[y]) sep=(if xs=[] then y else ja xs sep++sep++y):=by
 cases xs with
 | nil=>simp [ja,Lib.join_one]
 | cons x r=>
  rw [if_neg aM]
  unfold ja
  rw [List.cons_append,Lib.join_cons,Lib.join_cons]
  simp [Lib.joinTail,bB]
def ahS{sep:av}:ja [] sep=[]:=rfl
def Jl{m:Nat}{sep:av}{xs:List av}(h:∀x∈xs,x.length≤m):(ja xs sep).length≤xs.length * (m+sep.length):=by
 induction xs using At with
 | h0=>simp [ahS]
 | h1 xs y ih=>
  have h1:=ih fun x hx=>h x gC
  have h2:=h y aM
  rw [Au,bJ,List.length_singleton,Nat.succ_mul]
  split
  ·omega
  ·simp only [bJ];omega
def ahT{xs:List av}{a b sep:av}(h:xs≠[]):ja (xs++[a,b]) sep=ja xs sep++sep++a++sep++b:=by
 rw [show xs++[a,b]=(xs++[a])++[b] by simp,Au,if_neg aM,Au,if_neg h]
def eX(l:List Int):av:=ja (l.map itoa) [44]
def vk{l:List Int}(h:∀x∈l,ee x):(eX l).length≤l.length * 22:=by
 have:=Jl (m:=21) (sep:=[44]) (xs:=l.map itoa) (by intro x hx;obtain ⟨y,hy,rfl⟩:=List.mem_map.1 hx;exact eH (h y hy))
 simpa [eX] using this
def aoP{l:List Int}{k:Nat}(hk:k < l.length):eX (l.take (k+1))=(if k=0 then itoa l[k] else eX (l.take k)++[44]++itoa l[k]):=by
 unfold eX
 rw [xz hk,bK,List.map_cons,List.map_nil,Au]
 by_cases h:k=0
 ·subst h;simp
 ·rw [if_neg h,if_neg]
  intro e
  have:=congrArg List.length e
  simp at this
  rcases this with e|e
  ·exact h e
  ·rw [e] at hk;simp at hk
def tK(x:hI)(i:Nat):Bool:=aK (x.ax9.getD i 0) 0 3&&aK (x.Rows.getD i 0) 0 x.Base
def tL(x:hI)(k:Nat):Bool:=(List.range k).all (tK x)
def aoQ{x:hI}{k:Nat}:tL x (k+1)=(tL x k&&tK x k):=by simp [tL,List.range_succ]
def oS(x:hI):Bool:=eV x.Ids&&(aK x.Ids.length 1 8&&(decide (x.ax9.length=x.Ids.length)&&decide (x.Rows.length=x.Ids.length)))
def gQ(x:hI):Bool:=(oS x&&tL x x.Ids.length)&&(aK x.Segment 0 7&&aK x.Base 0 4)
def ahU{x:hI}(h:oS x=true):1≤x.Ids.length∧x.Ids.length≤8∧x.ax9.length=x.Ids.length∧x.Rows.length=x.Ids.length:=by
 simp [oS,aK] at h;omega
def aoR{x:hI}{k:Nat}(hk:k < x.Ids.length)(h:tK x k=false):gQ x=false:=by
 have:tL x x.Ids.length=false:=by
  rw [←Bool.not_eq_true]
  intro hh
  have:=List.all_eq_true.1 hh k (List.mem_range.2 hk)
  rw [h] at this;cases this
 unfold gQ;rw [this];simp
section
def jN:ax3:=⟨⟨0,0,[],[]⟩,0,[],0,0,0,[]⟩
def nV(a b:ax3):Bool:=decide (a.ax4.Id < b.ax4.Id)
def mY(n v:Int):Bool:=aK v 0 (n - 1)
def mZ(a b:Int):Bool:=decide (a < b)
def na(l:List Int)(n:Int):Bool:=fh 0 (mY n) mZ l&&decide (0 < l.length)
def gz(s:Store)(a:ax3):Bool:=na a.ayc s.ax2.length&&(bN a.ax4&&(aK a.Time 0 s.Now&&(aK a.Age 0 100000&&(aK a.Sent 0 1000&&(aK a.Cap 0 32&&pQ a.Rows)))))
def kU(now:Int)(f:jI):Bool:=bN f.ax4&&(aK f.Time 0 now&&(aK f.Steps 0 100000&&pQ f.Rows))
def lB(e:aC):Bool:=(cN e.Store&&(aK e.ax7 0 (e.Store.ax2.length - 1)&&(iR e.Order&&aK e.Steps 0 100000)))&&(decide ((e.ax3.length:Int)≤8)&&(decide ((e.Done.length:Int)≤1000)&&decide ((e.ayf.length:Int)≤1000)))
def bn(e:aC):Bool:=lB e&&(fh jN (gz e.Store) nV e.ax3&&(e.Done.all (kU e.Store.Now)&&e.ayf.all gQ))
def aoS{e:aC}(h:lB e=false):bn e=false:=by unfold bn;rw [h];rfl
def ahV{e:aC}(h:fh jN (gz e.Store) nV e.ax3=false):bn e=false:=Lu
def ahW{e:aC}(h:e.Done.all (kU e.Store.Now)=false):bn e=false:=Lu
def ahX{e:aC}(h:e.ayf.all gQ=false):bn e=false:=Lu
def ahY{e:aC}(h1:lB e=true)(h2:fh jN (gz e.Store) nV e.ax3=true)(h3:e.Done.all (kU e.Store.Now)=true)(h4:e.ayf.all gQ=true):bn e=true:=by unfold bn;rw [h1,h2,h3,h4];rfl
def jv{e:aC}(h:bn e=true):cN e.Store=true∧iR e.Order=true∧0≤e.ax7∧e.ax7.toNat < e.Store.ax2.length∧e.ax3.length≤8∧e.Done.length≤1000∧e.ayf.length≤1000∧0≤e.Steps∧e.Steps≤100000∧(∀a∈e.ax3,gz e.Store a=true)∧(∀f∈e.Done,kU e.Store.Now f=true)∧∀c∈e.ayf,gQ c=true:=by
 unfold bn lB at h
 simp only [aX,aK,decide_eq_true_eq] at h
 obtain ⟨⟨⟨h1,h2,h3,h4⟩,h5,h6,h7⟩,h8,h9,h10⟩:=h
 refine ⟨h1,h3,ab,ab,ab,ab,ab,ab,ab,fun a ha=>?_,List.all_eq_true.1 h9,List.all_eq_true.1 h10⟩
 obtain ⟨k,hk,rfl⟩:=List.mem_iff_getElem.1 ha
 exact Dx h8 hk
def xG(o:List Int)(k:Nat):Bool:=(List.range k).all fun i=>cv o (i:Int)
def Jm{o:List Int}{k:Nat}:xG o (k+1)=(xG o k&&cv o (k:Int)):=by simp [xG,List.range_succ]
def ahZ{o:List Int}:(xG o 3&&decide (o.length=3))=iR o:=by
 rw [Bool.and_comm,iR,Jm,Jm,Jm]
 show _=(decide (o.length=3)&&(cv o ((0:Nat):Int)&&(cv o ((1:Nat):Int)&&cv o ((2:Nat):Int))))
 simp [xG,Bool.and_assoc]
def aoT{o:List Int}{k:Nat}(hk:k < 3)(h:cv o (k:Int)=false):iR o=false:=by
 rw [←ahZ]
 have:xG o 3=false:=by
  rw [←Bool.not_eq_true]
  intro hh
  have:=List.all_eq_true.1 hh k (List.mem_range.2 hk)
  rw [h] at this;cases this
 rw [this];rfl
def ry(a:ax3):Bool:=decide (a.Cap=0)||decide (a.Sent < a.Cap)
def xH(e:aC)(i:Int):Bool:=bn e&&aK i 0 (e.ax3.length - 1)&&ry (e.ax3.getD i.toNat jN)
def kV(e:aC)(a:ax3):Bool:=ry a&&cv a.ayc e.ax7
def je(e:aC)(l:List ax3):List Int:=(l.filter (kV e)).map fun a=>a.ax4.Id
def parts(e:aC):List Int:=if bn e then je e e.ax3 else []
section
variable{e:aC}{l:List ax3}{k:Nat}{id:Int}
def aoU(h:bn e=true)(hk:k < e.ax3.length):xH e (k:Int)=ry e.ax3[k]:=by
 unfold xH
 rw [h,show aK (k:Int) 0 (e.ax3.length - 1)=true by simp [aK];omega,Int.toNat_natCast,List.getD_eq_getElem?_getD,List.getElem?_eq_getElem hk];rfl
def aoV(hk:k < l.length)(h:kV e l[k]=true):je e (l.take (k+1))=je e (l.take k)++[l[k].ax4.Id]:=by
 unfold je;rw [cU hk,gW];simp [h]
def aoW(hk:k < l.length)(h:kV e l[k]=false):je e (l.take (k+1))=je e (l.take k):=by
 unfold je;rw [cU hk,gW];simp [h]
def Rp:(je e l).length≤l.length:=by
 unfold je;rw [bf];exact kE _ _
def vl(h:bn e=true):parts e=je e e.ax3:=if_pos h
def ah0(h:bn e=false):parts e=[]:=if_neg iF
def aoX(h:(k=e.ax3.length∧bn e=true)∨(k=0∧(e.ax3.length=0∨bn e=false))):je e (e.ax3.take k)=parts e:=by
 rcases h with ⟨rfl,h⟩|⟨rfl,h⟩
 ·rw [cJ,vl h]
 ·rw [List.take_zero]
  rcases h with h|h
  ·unfold parts
   rw [kC h]
   split<;>rfl
  ·rw [ah0 h];rfl
def DJ:(parts e).length≤e.ax3.length:=by
 unfold parts
 split
 ·exact Rp
 ·exact Nat.zero_le _
def gR(id:Int)(a:ax3):Bool:=a.ax4.Id==id
def eD(l:List ax3)(id:Int):Int:=if l.any (gR id) then ((l.findIdx (gR id):Nat):Int) else -1
def Rq(hk:k < l.length)(h:(l.take k).any (gR id)=false)(hy:gR id l[k]=true):eD l id=(k:Int):=by
 have e:l.findIdx (gR id)=k:=by
  rw [List.findIdx_eq hk]
  refine ⟨hy,fun j hj=>?_⟩
  rw [List.any_eq_false] at h
  have:=h l[j] VO
  simpa using this
 unfold eD
 rw [if_pos (xw hk hy),e]
def aoY(h:l.any (gR id)=false):eD l id = -1:=if_neg iF
def aoZ(h:id∈je e l):0≤eD l id∧(eD l id).toNat < l.length:=by
 unfold je at h
 obtain ⟨a,ha,rfl⟩:=List.mem_map.1 h
 have ha:=(List.mem_filter.1 ha).1
 have hany:l.any (gR a.ax4.Id)=true:=List.any_eq_true.2 ⟨a,ha,by simp [gR]⟩
 have hlt:l.findIdx (gR a.ax4.Id) < l.length:=List.findIdx_lt_length_of_exists ⟨a,ha,by simp [gR]⟩
 unfold eD
 rw [if_pos hany]
 omega
end
def tN(l:List ax3)(ids:List Int):List ax4:=ids.map fun id=>(l.getD (eD l id).toNat jN).ax4
def rz:List (List Int):=[[0,1,2],[0,2,1],[1,0,2],[1,2,0],[2,0,1],[2,1,0]]
def ao0{k:Nat}(h:k < rz.length):rz[k].length=3:=by
 have:∀o∈rz,o.length=3:=aj
 exact this _ (List.getElem_mem h)
end
def vm(s:Store):Nat:=(bu s).length
def xI(s:Store)(k:Nat):Nat:=(ek s k).length
def ah1{s:Store}{k:Nat}(hk:k < s.ax2.length):xI s (k+1)=xI s k+s.ax2[k].length:=by unfold xI;rw [DG hk,bJ]
def ao1{s:Store}(k:Nat)(hk:k≤s.ax2.length):xI s k≤vm s:=by
 unfold xI vm ek bu
 have e:s.ax2.flatten=(s.ax2.take k).flatten++(s.ax2.drop k).flatten:=UE
 rw [e,bJ];omega
section
def jw(v:be)(keep:List Int):Bool:=decide (v.ayd = -1)||keep.any (gk v)
def ao2{v:be}{keep:List Int}{k:Nat}(hk:k < keep.length)(h:gk v keep[k]=true):jw v keep=true:=by unfold jw;rw [xw hk h];simp
def ao3{v:be}{keep:List Int}(h:keep.any (gk v)=false):jw v keep=decide (v.ayd = -1):=by unfold jw;rw [h];simp
def tO(v:be)(keep:List Int)(k:Nat):Bool:=decide (v.ayd = -1)||(keep.take k).any (gk v)
def ao4{v:be}{keep:List Int}{k:Nat}(hk:k < keep.length):tO v keep (k+1)=(tO v keep k||gk v keep[k]):=by
 unfold tO;rw [cU hk,List.any_append,←Bool.or_assoc];simp
def ao5{v:be}{keep:List Int}:tO v keep keep.length=jw v keep:=by unfold tO jw;rw [cJ]
def tP(keep:List Int)(l:List be):List be:=l.filter fun v=>jw v keep
def hO(s:Store)(keep:List Int):Store:=if cN s then ⟨s.ax2.map (tP keep),s.Now⟩ else s
def kW(keep:List Int)(zs:List (be×(Nat→Value))):List (be×(Nat→Value)):=zs.filter fun z=>jw z.1 keep
def kr(zss:List (List (be×(Nat→Value))))(keep:List Int)(k:Nat):List (List (be×(Nat→Value))):=(zss.take k).map (kW keep)++zss.drop k
section
variable{zss:List (List (be×(Nat→Value)))}{keep:List Int}{k:Nat}{segs:List (List be)}
def Jn:(kr zss keep k).length=zss.length:=by unfold kr;simp;omega
def ah2(hk:k < zss.length)(h:k < (kr zss keep k).length):(kr zss keep k)[k]'h=zss[k]:=by
 have h1:(kr zss keep k)[k]?=some zss[k]:=by
  unfold kr
  rw [List.getElem?_append_right iV]
  simp [Nat.min_eq_left (Nat.le_of_lt hk),hk]
 exact (List.getElem?_eq_some_iff.1 h1).2
def ao6(hk:k < zss.length):(kr zss keep k).set k (kW keep zss[k])=kr zss keep (k+1):=by
 unfold kr
 have hl:((zss.take k).map (kW keep)).length=k:=by rw [bf,cI];omega
 rw [List.set_append_right _ _ ab,hl,Nat.sub_self,List.drop_eq_getElem_cons hk,List.set_cons_zero,cU hk,bK]
 simp
def ah3:kr zss keep zss.length=zss.map (kW keep):=by unfold kr;simp
def ao7:(zss.map (kW keep)).flatten.Sublist zss.flatten:=by
 induction zss with
 | nil=>exact List.Sublist.slnil
 | cons z l ih=>rw [List.map_cons,List.flatten_cons,List.flatten_cons];exact List.Sublist.append List.filter_sublist ih
def ao8(hz:zss.map (List.map Prod.fst)=segs):(zss.map (kW keep)).map (List.map Prod.fst)=segs.map (tP keep):=by
 rw [←hz,List.map_map,List.map_map]
 refine List.map_congr_left fun zs _=>?_
 simp only [Function.comp_apply,kW,tP,List.filter_map]
 rfl
def ah4(hz:zss.map (List.map Prod.fst)=segs):zss.length=segs.length:=by rw [←hz,bf]
def ao9(hz:zss.map (List.map Prod.fst)=segs)(hk:k < zss.length)(hk2:k < segs.length):zss[k].map Prod.fst=segs[k]:=by subst hz;simp
def ah5(hz:zss.map (List.map Prod.fst)=segs)(hk:k < zss.length)(hk2:k < segs.length):zss[k].length=segs[k].length:=by rw [←ao9 hz hk hk2,bf]
def ah6(hz:zss.map (List.map Prod.fst)=segs)(hk:k < zss.length)(hk2:k < segs.length){j:Nat}(hj:j < zss[k].length)(hj2:j < segs[k].length):zss[k][j].1=segs[k][j]:=by
 subst hz;simp
def apa{zs:List (be×(Nat→Value))}{j:Nat}(hj:j < zs.length)(h:jw zs[j].1 keep=true):kW keep (zs.take (j+1))=kW keep (zs.take j)++[zs[j]]:=by
 unfold kW;rw [cU hj,gW];simp [h]
def apb{zs:List (be×(Nat→Value))}{j:Nat}(hj:j < zs.length)(h:jw zs[j].1 keep=false):kW keep (zs.take (j+1))=kW keep (zs.take j):=by
 unfold kW;rw [cU hj,gW];simp [h]
def ah7{zs:List (be×(Nat→Value))}{j:Nat}:(kW keep (zs.take j)).length≤j:=by
 have:=kE (fun z:be×(Nat→Value)=>jw z.1 keep) (zs.take j)
 rw [cI] at this
 unfold kW;omega
end
def tQ(s:Store)(i j:Nat):List be:=(s.ax2.take i).flatten++(s.ax2.getD i []).take j
def lC(s:Store)(keep:List Int)(i j:Nat):Nat:=((tQ s i j).filter fun v=>!jw v keep).length
def ah8{s:Store}{i j:Nat}(hi:i < s.ax2.length)(hj:j < s.ax2[i].length):tQ s i (j+1)=tQ s i j++[s.ax2[i][j]]:=by
 unfold tQ
 rw [show s.ax2.getD i []=s.ax2[i] by simp [hi],cU hj,bB]
def apc{s:Store}{i:Nat}(hi:i < s.ax2.length):tQ s i s.ax2[i].length=tQ s (i+1) 0:=by
 unfold tQ
 rw [show s.ax2.getD i []=s.ax2[i] by simp [hi],cJ,cU hi,List.flatten_append]
 simp
def apd{s:Store}{keep:List Int}{i j:Nat}(hi:i < s.ax2.length)(hj:j < s.ax2[i].length)(h:jw s.ax2[i][j] keep=true):lC s keep i (j+1)=lC s keep i j:=by
 unfold lC;rw [ah8 hi hj,gW];simp [h]
def ape{s:Store}{keep:List Int}{i j:Nat}(hi:i < s.ax2.length)(hj:j < s.ax2[i].length)(h:jw s.ax2[i][j] keep=false):lC s keep i (j+1)=lC s keep i j+1:=by
 unfold lC;rw [ah8 hi hj,gW];simp [h]
def apf{s:Store}{keep:List Int}{i:Nat}(hi:i < s.ax2.length):lC s keep i s.ax2[i].length=lC s keep (i+1) 0:=by unfold lC;rw [apc hi]
def apg{s:Store}{keep:List Int}:lC s keep 0 0=0:=by simp [lC,tQ]
def aph{s:Store}{keep:List Int}{i j:Nat}(hi:i < s.ax2.length):lC s keep i j≤(bu s).length:=by
 unfold lC
 refine Nat.le_trans (kE _ _) ?_
 unfold tQ bu
 have h1:=DG (s:=s) hi
 have h2:(ek s (i+1)).length≤s.ax2.flatten.length:=by
  unfold ek
  have e:s.ax2.flatten=(s.ax2.take (i+1)).flatten++(s.ax2.drop (i+1)).flatten:=UE
  rw [e,bJ];omega
 rw [h1,bJ] at h2
 rw [bJ,cI,show s.ax2.getD i []=s.ax2[i] by simp [hi]]
 unfold ek at h2;omega
def ah9(keep:List Int):∀l:List be,dv (tP keep l)≤dv l
 | []=>Nat.le_refl _
 | v::l=>by
  have ih:=ah9 keep l
  unfold tP dv at *
  rw [List.filter_cons]
  split<;>simp only [List.length_cons,List.map_cons,List.sum_cons]<;>omega
def Rr(s:Store)(keep:List Int):cg (hO s keep)≤cg s:=by
 unfold hO
 split
 ·unfold cg iy
  dsimp only
  rw [bf,List.map_map]
  have:(s.ax2.map (dv∘tP keep)).sum≤(s.ax2.map dv).sum:=by
   generalize s.ax2=l
   induction l with
   | nil=>exact Nat.le_refl _
   | cons x l ih=>simp only [List.map_cons,List.sum_cons,Function.comp] at *;have:=ah9 keep x;omega
  omega
 ·exact Nat.le_refl _
def Jo{s:Store}{keep:List Int}(h:cN s=true):hO s keep=⟨s.ax2.map (tP keep),s.Now⟩:=if_pos h
def aia{s:Store}{keep:List Int}(h:cN s=false):hO s keep=s:=if_neg iF
def Jp(s:Store)(keep:List Int):Int:=if cN s then (vm s:Int) - (vm (hO s keep):Int) else 0
def Jq(s:Store)(keep:List Int):Int:=if cN s then (lC s keep s.ax2.length 0:Int) else 0
def iS(l:List ax3):List Int:=l.map fun a=>a.Time
def dZ(e:aC):aC:=⟨hO e.Store (iS e.ax3),e.ax7,e.Order,e.ax3,e.Done,e.ayf,e.Steps⟩
def vn(z:be×(Nat→Value)):List PV:=[PV.nv (z.2 0) (PV.val (vI z.1.Id)),PV.nv (z.2 1) (PV.sl .v (z.1.Values.map ar)),PV.nv (z.2 2) (PV.val (vI z.1.ayh)),PV.nv (z.2 3) (PV.val (vI z.1.ayd))]
def rC(zs:List (be×(Nat→Value))):List PV:=[PV.sl bc (zs.map vn)]
end
def kX(id:Int)(v:be):Bool:=decide (v.Id=id)&&decide (v.ayd = -1)
def jO(id:Int)(l:List be):Bool:=l.any (kX id)
def xJ(s:Store)(i:Nat):List be:=s.ax2.getD i []
def cF(s:Store)(id:Int):Int:=if s.ax2.any (jO id) then ((s.ax2.findIdx (jO id):Nat):Int) else -1
def oT(s:Store)(id:Int):Int:=if s.ax2.any (jO id) then (((xJ s (s.ax2.findIdx (jO id))).findIdx (kX id):Nat):Int) else -1
def Rs{α:Type}{P:α→Bool}{l:List α}{k:Nat}(hk:k < l.length)(h:(l.take k).any P=false)(hy:P l[k]=true):l.findIdx P=k:=by
 rw [List.findIdx_eq hk]
 refine ⟨hy,fun j hj=>?_⟩
 rw [List.any_eq_false] at h
 have:=h l[j] VO
 simpa using this
def aib{s:Store}{id:Int}{i k:Nat}(hi:i < s.ax2.length)(h1:(s.ax2.take i).any (jO id)=false)(hk:k < s.ax2[i].length)(h2:(s.ax2[i].take k).any (kX id)=false)(hy:kX id s.ax2[i][k]=true):cF s id=(i:Int)∧oT s id=(k:Int):=by
 have ha:jO id s.ax2[i]=true:=xw hk hy
 have hany:s.ax2.any (jO id)=true:=xw hi ha
 have e1:=Rs hi h1 ha
 have e2:=Rs hk h2 hy
 unfold cF oT xJ
 rw [if_pos hany,if_pos hany,e1,List.getD_eq_getElem?_getD,List.getElem?_eq_getElem hi]
 exact ⟨rfl,by show ((s.ax2[i].findIdx (kX id):Nat):Int)=_;rw [e2]⟩
def aic{s:Store}{id:Int}(h:s.ax2.any (jO id)=false):cF s id = -1∧oT s id = -1:=by
 unfold cF oT
 rw [if_neg iF,if_neg iF]
 exact ⟨rfl,rfl⟩
def tR{s:Store}{id:Int}(h:0≤cF s id):∃i k:Nat,∃hi:i < s.ax2.length,∃hk:k < s.ax2[i].length,cF s id=(i:Int)∧oT s id=(k:Int)∧kX id s.ax2[i][k]=true:=by
 unfold cF at h
 split at h
 ·rename_i ha
  obtain ⟨l,hl,hp⟩:=List.any_eq_true.1 ha
  have hi:s.ax2.findIdx (jO id) < s.ax2.length:=List.findIdx_lt_length_of_exists ⟨l,hl,hp⟩
  have hpi:jO id (s.ax2[s.ax2.findIdx (jO id)])=true:=List.findIdx_getElem (w:=hi)
  obtain ⟨v,hv,hvp⟩:=List.any_eq_true.1 hpi
  have hk:s.ax2[s.ax2.findIdx (jO id)].findIdx (kX id) < s.ax2[s.ax2.findIdx (jO id)].length:=List.findIdx_lt_length_of_exists ⟨v,hv,hvp⟩
  refine ⟨_,_,hi,hk,?_,?_,List.findIdx_getElem (w:=hk)⟩
  ·unfold cF;rw [if_pos ha]
  ·unfold oT xJ;rw [if_pos ha,List.getD_eq_getElem?_getD,List.getElem?_eq_getElem hi];rfl
 ·omega
def jx(l:List be):Bool:=decide ((l.length:Int) < 4)
def jP(L:List (List be)):Int:=if L.any jx then ((L.findIdx jx:Nat):Int) else -1
def aid{L:List (List be)}{k:Nat}(hk:k < L.length)(h:(L.take k).any jx=false)(hy:jx L[k]=true):jP L=(k:Int):=by
 unfold jP;rw [if_pos (xw hk hy),Rs hk h hy]
def aie{L:List (List be)}(h:L.any jx=false):jP L = -1:=if_neg iF
def Rt{L:List (List be)}(h:0≤jP L):∃r:Nat,∃hr:r < L.length,jP L=(r:Int)∧L[r].length < 4:=by
 unfold jP at h
 split at h
 ·rename_i ha
  obtain ⟨l,hl,hp⟩:=List.any_eq_true.1 ha
  have hr:L.findIdx jx < L.length:=List.findIdx_lt_length_of_exists ⟨l,hl,hp⟩
  have hpi:jx L[L.findIdx jx]=true:=List.findIdx_getElem (w:=hr)
  refine ⟨_,hr,by unfold jP;rw [if_pos ha],?_⟩
  have:∀l:List be,jx l=true→l.length < 4:=fun l hl=>by unfold jx at hl;simp only [decide_eq_true_eq] at hl;omega
  exact this _ hpi
 ·omega
def ml(n:Int)(v:be):be:=⟨v.Id,v.Values,v.ayh,n⟩
def Ru(s:Store)(i k:Int):be:=(xJ s i.toNat).getD k.toNat v0
def dG(s:Store)(u:ax6):List (List be):=if 0≤cF s u.Row.Id then s.ax2.set (cF s u.Row.Id).toNat ((xJ s (cF s u.Row.Id).toNat).set (oT s u.Row.Id).toNat (ml (s.Now+1) (Ru s (cF s u.Row.Id) (oT s u.Row.Id)))) else s.ax2
def gA(s:Store)(u:ax6):List Int:=if 0≤cF s u.Row.Id then (Ru s (cF s u.Row.Id) (oT s u.Row.Id)).Values else u.Row.Values
def jQ(s:Store)(u:ax6):List Int:=if u.Kind=3 then (gA s u).set u.Field.toNat u.Value else gA s u
def mm(s:Store)(u:ax6):be:=⟨u.Row.Id,jQ s u,s.Now+1,-1⟩
def Av(L:List (List be))(r:Nat)(v:be):List (List be):=L.set r (L.getD r []++[v])
def kt(s:Store)(u:ax6):Bool:=((cN s&&dK u)&&decide (s.Now < 100000))&&(decide (0≤cF s u.Row.Id)==!decide (u.Kind=1)&&(decide (u.Kind=2)||decide (0≤jP s.ax2)))
def DK(s:Store)(u:ax6):Store:=⟨if u.Kind=2 then dG s u else Av (dG s u) (jP s.ax2).toNat (mm s u),s.Now+1⟩
def eI(s:Store)(u:ax6):Store×Bool:=if kt s u then (DK s u,true) else (s,false)
def DL{s:Store}{u:ax6}(h:kt s u=false):eI s u=(s,false):=if_neg iF
def Rv{s:Store}{u:ax6}(h:kt s u=true):eI s u=(DK s u,true):=if_pos h
def xK{s:Store}{u:ax6}(h:kt s u=true)(hk:u.Kind=2):eI s u=(⟨dG s u,s.Now+1⟩,true):=by rw [Rv h];unfold DK;rw [if_pos hk]
def Aw{s:Store}{u:ax6}{r:Nat}(h:kt s u=true)(hk:¬u.Kind=2)(hr:jP s.ax2=(r:Int)):eI s u=(⟨Av (dG s u) r (mm s u),s.Now+1⟩,true):=by
 rw [Rv h];unfold DK;rw [if_neg hk,hr];rfl
def qa{s:Store}{u:ax6}{i k:Nat}(hi:i < s.ax2.length)(hk:k < s.ax2[i].length)(h1:cF s u.Row.Id=(i:Int))(h2:oT s u.Row.Id=(k:Int)):dG s u=s.ax2.set i (s.ax2[i].set k (ml (s.Now+1) s.ax2[i][k]))∧gA s u=s.ax2[i][k].Values:=by
 have e1:xJ s i=s.ax2[i]:=by unfold xJ;simp [hi]
 unfold dG gA Ru
 rw [h1,h2,if_pos ab,if_pos ab,Int.toNat_natCast,Int.toNat_natCast,e1]
 simp [hk]
def tS{s:Store}{u:ax6}(h:¬0≤cF s u.Row.Id):dG s u=s.ax2∧gA s u=u.Row.Values:=by
 unfold dG gA;rw [if_neg h,if_neg h];exact ⟨rfl,rfl⟩
def aif(s:Store)(u:ax6):(dG s u).map List.length=s.ax2.map List.length:=by
 by_cases h:0≤cF s u.Row.Id
 ·obtain ⟨i,k,hi,hk,h1,h2,_⟩:=tR h
  rw [(qa hi hk h1 h2).1]
  apply List.ext_getElem
  ·simp
  ·intro j hj1 hj2
   simp only [List.getElem_map,List.getElem_set]
   split
   ·rename_i hij;subst hij;simp
   ·rfl
 ·rw [(tS h).1]
def Ax(s:Store)(u:ax6):(dG s u).length=s.ax2.length:=by
 have:=congrArg List.length (aif s u)
 simpa using this
def Jr(s:Store)(u:ax6){k:Nat}(hk:k < (dG s u).length)(hk2:k < s.ax2.length):(dG s u)[k].length=s.ax2[k].length:=by
 have h:=aif s u
 have:=List.getElem_of_eq h (show k < ((dG s u).map List.length).length by rw [bf];exact hk)
 simpa using this
def api(n:Int)(v:be):dV (ml n v)=dV v:=by unfold ml dV;simp only [bo]
def Js{α:Type}{f:α→Nat}:∀{l:List α} {i:Nat} {x:α} (hi:i < l.length),((l.set i x).map f).sum+f l[i]=(l.map f).sum+f x
 | y::l,0,x,_=>by simp;omega
 | y::l,i+1,x,h=>by
  have:=Js (f:=f) (l:=l) (i:=i) (x:=x) ou
  simp only [List.set_cons_succ,List.map_cons,List.sum_cons,List.getElem_cons_succ]
  omega
def aig(s:Store)(u:ax6):iy (dG s u)=iy s.ax2:=by
 by_cases h:0≤cF s u.Row.Id
 ·obtain ⟨i,k,hi,hk,h1,h2,_⟩:=tR h
  rw [(qa hi hk h1 h2).1]
  have e1:=Js (f:=dv) (x:=s.ax2[i].set k (ml (s.Now+1) s.ax2[i][k])) hi
  have e2:=Js (f:=dV) (x:=ml (s.Now+1) s.ax2[i][k]) hk
  rw [api] at e2
  have e3:dv (s.ax2[i].set k (ml (s.Now+1) s.ax2[i][k]))=dv s.ax2[i]:=by unfold dv;rw [List.length_set];omega
  unfold iy
  rw [List.length_set];omega
 ·rw [(tS h).1]
def aih(s:Store)(u:ax6):(jQ s u).length≤cg s+mR u:=by
 have h0:(jQ s u).length=(gA s u).length:=by unfold jQ;split<;>simp
 rw [h0]
 by_cases h:0≤cF s u.Row.Id
 ·obtain ⟨i,k,hi,hk,h1,h2,_⟩:=tR h
  rw [(qa hi hk h1 h2).2]
  have w1:=fg (f:=dv) hi
  have w2:=fg (f:=dV) hk
  have w3:dv s.ax2[i]=s.ax2[i].length+(s.ax2[i].map dV).sum:=rfl
  have w4:dV s.ax2[i][k]=s.ax2[i][k].Values.length:=yp
  unfold cg iy
  simp only [bo];omega
 ·rw [(tS h).2]
  unfold mR jr
  simp only [gj,bo];omega
def Jt{s:Store}{u:ax6}(hs:cN s=true)(h:0≤cF s u.Row.Id):(gA s u).length=3:=by
 obtain ⟨i,k,hi,hk,h1,h2,_⟩:=tR h
 rw [(qa hi hk h1 h2).2]
 have hv:=Rm hs hi hk
 unfold eW at hv
 rw [aX] at hv
 exact Ai hv.1
def Rw{u:ax6}(h:dK u=true)(hk:u.Kind=3):0≤u.Field∧u.Field≤2:=by
 unfold dK at h
 rw [if_neg ab,if_neg ab,if_pos hk] at h
 simp only [aX,aK,decide_eq_true_eq] at h
 exact h.2.1
def Ju{s:Store}{u:ax6}(h1:cN s=true)(h2:dK u=true)(h3:s.Now < 100000)(h4:0≤cF s u.Row.Id↔¬u.Kind=1)(h5:u.Kind=2∨0≤jP s.ax2):kt s u=true:=by
 unfold kt
 rw [h1,h2,decide_eq_true h3]
 have e1:(decide (0≤cF s u.Row.Id)==!decide (u.Kind=1))=true:=by
  by_cases a:0≤cF s u.Row.Id<;>by_cases b:u.Kind=1<;>simp_all
 have e2:(decide (u.Kind=2)||decide (0≤jP s.ax2))=true:=by
  rcases h5 with h|h<;>simp [h]
 rw [e1,e2];rfl
def xL{s:Store}{u:ax6}(h:kt s u=true):cN s=true∧dK u=true∧s.Now < 100000∧(0≤cF s u.Row.Id↔¬u.Kind=1)∧(u.Kind=2∨0≤jP s.ax2):=by
 unfold kt at h
 simp only [aX,Bool.or_eq_true,decide_eq_true_eq] at h
 obtain ⟨⟨⟨h1,h2⟩,h3⟩,h4,h5⟩:=h
 refine ⟨h1,h2,h3,?_,h5⟩
 by_cases a:0≤cF s u.Row.Id<;>by_cases b:u.Kind=1<;>simp_all
def xM{L:List (List be)}{r:Nat}{v:be}(hr:r < L.length):Av L r v=L.set r (L[r]++[v]):=by unfold Av;simp [hr]
def aii{α:Type}{d:α}{p:α→Bool}{key:α→Int}{l:List α}(h:fh d p (fun a b=>decide (key a < key b)) l=true):l.Pairwise (fun a b=>key a < key b):=by
 have step:∀j:Nat,(hj:j+1 < l.length)→key l[j] < key l[j+1]:=fun j hj=>by
  have h1:=List.all_eq_true.1 h (j+1) (List.mem_range.2 hj)
  rw [aX,fP hj,show j+1 - 1=j from rfl,fP (show j < l.length by omega)] at h1
  have h2:=h1.2
  simpa using h2
 have lt:∀(j i:Nat) (hj:j < l.length) (hi:i < j),key l[i] < key l[j]:=by
  intro j
  induction j with
  | zero=>intro i _ hi;omega
  | succ j ih=>
   intro i hj hi
   have h1:=step j hj
   rcases Nat.lt_or_ge i j with h2|h2
   ·have:=ih i ab h2;omega
   ·have:i=j:=by omega
    subst this;exact h1
 rw [List.pairwise_iff_getElem]
 exact fun i j hi hj hij=>lt j i hj hij
def apj{l:List Int}(h:∀x∈l,0≤x∧x≤23)(hp:l.Pairwise (· < ·)):eV l=true:=by
 unfold eV
 rw [lQ]
 intro i hi
 have hi:=List.mem_range.1 hi
 rw [List.pairwise_iff_getElem] at hp
 refine IY.2 ?_
 rw [show l.getD i 0=l[i] by simp [hi]]
 have:=h _ (List.getElem_mem hi)
 refine ⟨this.1,this.2,?_⟩
 rcases Nat.eq_zero_or_pos i with h0|h0
 ·exact .inl h0
 ·right
  rw [show l.getD (i - 1) 0=l[i - 1]'(ab) by simp [show i - 1 < l.length by omega]]
  exact hp (i - 1) i ab hi ab
def apk{l:List fO}{s:fO}{v:Int}(h:jM v s=false):jd (l++[s]) v=jd l v:=by
 unfold jd
 rw [List.find?_append]
 cases hf:l.find? (jM v) with
 | some t=>rfl
 | none=>simp [h]
def apl{l:List fO}{s:fO}{v:Int}(hl:∀t∈l,jM v t=false)(h:jM v s=true):jd (l++[s]) v=s.Set:=by
 unfold jd
 rw [List.find?_append,List.find?_eq_none.2 (fun t ht=>by simp [hl t ht])]
 simp [h]
structure Rx(l:List ax4)(f:Int)(k:Nat)(out:List fO):Prop where
 none:k=0→out=[]
 some:0 < k→∃(a:List fO) (s:fO),out=a++[s]∧s.To=(k:Int) - 1∧s.From≤(k:Int) - 1∧(∀v:Int,s.From≤v→v≤(k:Int) - 1→iz l f v=s.Set)∧(∀t∈a,t.To < s.From)∧(∀v:Int,0≤v→v < s.From→jd a v=iz l f v)
def Rx.find{l:List ax4}{f:Int}{k:Nat}{out:List fO}(h:Rx l f k out){v:Int}(h0:0≤v)(hv:v < k):jd out v=iz l f v:=by
 obtain ⟨a,s,rfl,h1,h2,h3,h4,h5⟩:=h.some ab
 by_cases hc:s.From≤v
 ·rw [apl (fun t ht=>by have:=h4 t ht;simp [jM,aK];omega) (by simp [jM,aK];omega),h3 v hc ab]
 ·rw [apk (by simp [jM,aK];omega),h5 v h0 ab]
def aij(l:List ax4)(f:Int):∀k:Nat,Rx l f k (en l f k)
 | 0=>⟨fun _=>rfl,fun h=>absurd h (Nat.lt_irrefl 0)⟩
 | k+1=>by
  have ih:=aij l f k
  refine ⟨fun h=>by omega,fun _=>?_⟩
  rw [en]
  have fresh:∃(a:List fO) (s:fO),en l f k++[⟨(k:Int),(k:Int),iz l f k⟩]=a++[s]∧s.To=((k+1:Nat):Int) - 1∧s.From≤((k+1:Nat):Int) - 1∧(∀v:Int,s.From≤v→v≤((k+1:Nat):Int) - 1→iz l f v=s.Set)∧(∀t∈a,t.To < s.From)∧(∀v:Int,0≤v→v < s.From→jd a v=iz l f v):=by
   refine ⟨_,_,rfl,ot,ot,fun v h1 h2=>?_,fun t ht=>?_,fun v h1 h2=>ih.find h1 h2⟩
   ·dsimp only at h1 ⊢
    rw [show v=(k:Int) by omega]
   ·dsimp only
    rcases Nat.eq_zero_or_pos k with h0|h0
    ·rw [ih.none h0] at ht;cases ht
    ·obtain ⟨a,s,he,h1,h2,_,h4,_⟩:=ih.some h0
     rw [he] at ht
     rcases List.mem_append.1 ht with ht|ht
     ·have:=h4 t ht;omega
     ·simp at ht;subst ht;omega
  unfold Aq
  split
  ·rename_i hl
   rcases Nat.eq_zero_or_pos k with h0|h0
   ·rw [ih.none h0] at hl;cases hl
   ·obtain ⟨a,s,he,h1,h2,h3,h4,h5⟩:=ih.some h0
    rw [he] at hl ⊢
    have hlen:(a++[s]).length - 1=a.length:=aM
    have hg:(a++[s]).getD a.length mX=s:=aM
    unfold pY at hl
    rw [hlen,hg,aX] at hl
    have hs:s.Set=iz l f k:=fZ.1 hl.2
    rw [hlen,hg,List.set_append_right (h:=Nat.le_refl _),Nat.sub_self,List.set_cons_zero]
    refine ⟨a,_,rfl,ot,ot,fun v k1 k2=>?_,h4,h5⟩
    dsimp only at k1 ⊢
    by_cases hk:v=(k:Int)
    ·rw [hk,hs]
    ·exact h3 v k1 ab
  ·exact fresh
def apm{l:List ax4}{f v:Int}(hl:eQ l=true)(hf:0≤f∧f≤2)(hv:0≤v∧v≤99):jd (jc l f) v=iz l f v:=by
 have hc:(eQ l&&aK f 0 2)=true:=by rw [hl,Bool.true_and];exact IZ.2 hf
 unfold jc
 rw [if_pos hc]
 have h:=aij l f 100
 generalize en l f 100=out at h ⊢
 exact h.find hv.1 ab
def aik{l:List ax4}(h:eQ l=true):l.Pairwise (fun a b=>a.Id < b.Id):=by
 unfold eQ at h
 rw [aX] at h
 exact aii h.1
def apn{q:ax4}(h:bN q=true):0≤q.Id∧q.Id≤23:=by
 unfold bN at h
 simp only [aX,aK,decide_eq_true_eq] at h
 exact h.1.1
def Ry{l:List ax4}(h:eQ l=true)(P:ax4→Bool):eV ((l.filter P).map ax4.Id)=true:=by
 refine apj (fun x hx=>?_) ?_
 ·obtain ⟨q,hq,rfl⟩:=List.mem_map.1 hx
  exact apn ((vh h).2 q (List.mem_filter.1 hq).1)
 ·rw [List.pairwise_map]
  exact (aik h).filter P
def apo{α:Type}{key:α→Int}{l:List α}(h:l.Pairwise (fun a b=>key a < key b)){a b:α}(ha:a∈l)(hb:b∈l)(he:key a=key b):a=b:=by
 obtain ⟨i,hi,rfl⟩:=List.mem_iff_getElem.1 ha
 obtain ⟨j,hj,rfl⟩:=List.mem_iff_getElem.1 hb
 rw [List.pairwise_iff_getElem] at h
 rcases Nat.lt_trichotomy i j with h1|h1|h1
 ·have:=h i j hi hj h1;omega
 ·subst h1;rfl
 ·have:=h j i hj hi h1;omega
def ail{l:List ax4}(h:eQ l=true)(P:ax4→Bool){q:ax4}(hq:q∈l):cv ((l.filter P).map ax4.Id) q.Id=P q:=by
 rw [Bool.eq_iff_iff,QT,Fy]
 constructor
 ·rintro ⟨r,hr,he⟩
  have hr:=List.mem_filter.1 hr
  rw [←apo (aik h) hr.1 hq he];exact hr.2
 ·intro hp
  exact ⟨q,List.mem_filter.2 ⟨hq,hp⟩,rfl⟩
def apq{l:List ax4}(h:eQ l=true)(P A:ax4→Bool):tx ((l.filter P).map ax4.Id) ((l.filter A).map ax4.Id)=(l.filter fun q=>P q&&A q).map ax4.Id:=by
 unfold tx
 rw [Ry h P,Ry h A,Bool.and_self,if_pos rfl,←QV (Ry h P),List.filter_map,List.filter_filter]
 congr 1
 refine List.filter_congr fun q hq=>?_
 show (cv ((l.filter A).map ax4.Id) q.Id&&P q)=_
 rw [ail h A hq,Bool.and_comm]
def aim{l:List ax4}{x:md}{r:Row}(hl:eQ l=true)(hx:∀f:Int,0≤f→f≤2→x.Fields.getD f.toNat []=jc l f)(hv:∀f:Int,0≤f→f≤2→0≤ko r.Values f∧ko r.Values f≤99):∀(o:List Int) (P:ax4→Bool) (s:List Int×Int),(∀f∈o,0≤f∧f≤2)→s.1=(l.filter P).map ax4.Id→(o.foldl (tH x r) s).1=(l.filter fun q=>P q&&o.all fun f=>kP q f (ko r.Values f)).map ax4.Id
 | [],P,s,_,hs=>by rw [List.foldl_nil,hs];simp
 | f::o,P,s,ho,hs=>by
  rw [List.foldl_cons]
  have hf:=ho f (List.mem_cons_self ..)
  have hn:(tH x r s f).1=(l.filter fun q=>P q&&kP q f (ko r.Values f)).map ax4.Id:=by
   unfold tH
   split
   ·rename_i h0
    rw [h0] at hs
    rw [h0,eq_comm,List.map_eq_nil_iff,List.filter_eq_nil_iff]
    intro q hq hp
    rw [aX] at hp
    have:q.Id∈(l.filter P).map ax4.Id:=List.mem_map_of_mem (List.mem_filter.2 ⟨hq,hp.1⟩)
    rw [←hs] at this;cases this
   ·dsimp only
    rw [hs,hx f hf.1 hf.2,apm hl hf (hv f hf.1 hf.2)]
    exact apq hl P _
  rw [aim hl hx hv o _ _ (fun g hg=>ho g (List.mem_cons_of_mem _ hg)) hn]
  congr 1
  refine List.filter_congr fun q _=>?_
  rw [List.all_cons,Bool.and_assoc]
def apr{o:List Int}(h:iR o=true):(0:Int)∈o∧(1:Int)∈o∧(2:Int)∈o:=by
 unfold iR at h
 simp only [aX,QT] at h
 exact h.2
def aps{r:Row}(h:bM r=true){f:Int}(h0:0≤f)(h2:f≤2):0≤ko r.Values f∧ko r.Values f≤99:=by
 have hl:=Ai h
 unfold bM at h
 simp only [aX] at h
 have hlt:f.toNat < r.Values.length:=ab
 have:=List.all_eq_true.1 h.1 _ (List.getElem_mem hlt)
 unfold ko
 rw [fP hlt]
 exact IZ.1 this
def apt{o:List Int}{q:ax4}{r:Row}(ho:iR o=true)(hr:bM r=true)(hq:bN q=true):(o.all fun f=>kP q f (ko r.Values f))=ik q r:=by
 rw [Bool.eq_iff_iff,lQ]
 unfold ik
 rw [hr,hq,Bool.and_self,Bool.true_and,lQ]
 constructor
 ·intro h c hc
  have hf:=ahr hq hc
  have hfo:c.Field∈o:=by
   have:=apr ho
   have:c.Field=0∨c.Field=1∨c.Field=2:=ab
   rcases this with h|h|h<;>rw [h]<;>simp_all
  have:=List.all_eq_true.1 (h _ hfo) c hc
  simpa [mg,Dw] using this
 ·intro h f _
  unfold kP
  rw [lQ]
  intro c hc
  have:=h c hc
  unfold mg
  by_cases he:c.Field=f
  ·subst he;unfold Dw at this;simp [this]
  ·simp [he]
def apu{l:List ax4}{r:Row}{o:List Int}{q:ax4}(hl:eQ l=true)(hr:bM r=true)(ho:iR o=true)(hq:q∈l):cv (xD (pZ l) r o).1 q.Id=ik q r:=by
 have hb:pZ l=⟨l,[jc l 0,jc l 1,jc l 2]⟩:=if_pos hl
 rw [hb]
 unfold xD
 rw [aim (l:=l) hl (fun f h0 h2=>by
  have:f=0∨f=1∨f=2:=ab
  rcases this with rfl|rfl|rfl<;>rfl) (fun f h0 h2=>aps hr h0 h2) o (fun _=>true) _ (ahM ho).2 (by
   show l.map ax4.Id=_
   rw [List.filter_eq_self.2 (fun _ _=>rfl)]),ail hl _ hq,Bool.true_and,apt ho hr ((vh hl).2 q hq)]
end Go.Proofs.YtmekkgdboplbjaaGreatDoor
