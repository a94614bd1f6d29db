/- Definitions and their laws. No condition. -/
import Derived.Test.YtmekkgdboplbjaaGreatDoorDC0
import Derived.Test.YtmekkgdboplbjaaGreatDoorProg
set_option linter.all false
namespace Go.Proofs.YtmekkgdboplbjaaGreatDoor
open Go Go.RowKit M Tryz
set_option maxRecDepth 10000
section
section
variable{α:Type}{P:α→Bool}{xs ys:List α}{k:Nat}
def Tr:(xs.take 0).all P=true:=aF
def ym(h:(xs.take k).all P=true)(hk:k < xs.length)(hp:P xs[k]=true):(xs.take (k+1)).all P=true:=by
 rw [cG hk,List.all_append,h];simp [hp]
def mC(hk:k < xs.length)(hp:P xs[k]=false):xs.all P=false:=by
 rw [List.all_eq_false];exact ⟨_,List.getElem_mem hk,by rw [hp];simp⟩
def kH(h:(xs.take xs.length).all P=true):xs.all P=true:=by rwa [cC] at h
def sW(h:(xs.take k).any P=false)(hk:k < xs.length)(hp:P xs[k]=false):(xs.take (k+1)).any P=false:=by
 rw [cG hk,List.any_append,h];simp [hp]
def qA(hk:k < xs.length)(hp:P xs[k]=true):xs.any P=true:=by
 rw [List.any_eq_true];exact ⟨_,List.getElem_mem hk,hp⟩
def MD(h:(xs.take xs.length).any P=false):xs.any P=false:=by rwa [cC] at h
def ME(h:xs.take k=ys.take k)(hk:k < xs.length)(hk':k < ys.length)(he:xs[k]=ys[k]):xs.take (k+1)=ys.take (k+1):=by
 rw [cG hk,cG hk',h,he]
def Ts(hk:k < xs.length)(hk':k < ys.length)(he:¬xs[k]=ys[k]):¬xs=ys:=by
 rintro rfl;exact he rfl
def Tt(hl:xs.length=ys.length)(h:xs.take xs.length=ys.take xs.length):xs=ys:=by
 rw [cC] at h;rw [h,hl,cC]
def Tu{f:α→Nat}(hk:k < xs.length):((xs.take (k+1)).map f).sum=((xs.take k).map f).sum+f xs[k]:=by
 rw [cG hk,bL,List.sum_append];simp
def Tv{f:α→Nat}(xs:List α)(k:Nat):((xs.take k).map f).sum≤(xs.map f).sum:=by
 have h:xs=xs.take k++xs.drop k:=(fh _ _).symm
 have e:(xs.map f).sum=((xs.take k).map f).sum+((xs.drop k).map f).sum:=by
  rw [←List.sum_append,←bL,←h]
 omega
def gw{f:α→Nat}(hk:k < xs.length):f xs[k]≤(xs.map f).sum:=by
 have h1:=Tu (f:=f) hk
 have h2:=Tv (f:=f) xs (k+1)
 omega
noncomputable def kI(x y:α):Bool:=@decide (x=y) (Classical.propDecidable _)
def CU{x y:α}(h:x=y):kI x y=true:=@decide_eq_true _ (Classical.propDecidable _) h
def CV{x y:α}(h:¬x=y):kI x y=false:=@decide_eq_false _ (Classical.propDecidable _) h
def mD{x y:α}:kI x y=true↔x=y:=@decide_eq_true_iff _ (Classical.propDecidable _)
def Tw(x:α):kI x x=true:=CU rfl
end
def Tx{us:List Value}(h:us.length=2):∃v0 v1,us=[v0,v1]:=by
 rcases us with _|⟨v0,_|⟨v1,_|⟨v2,vs⟩⟩⟩<;>first|exact ⟨_,_,rfl⟩|(simp at h;try omega)
def va(x:Int):List PV:=[PV.val (.int .u8 x)]
def MF(x:Int):Prop:=0≤x∧x≤255
def Ty(o0:Fl)(x:List Int):List PV:=[PV.sl o0 (x.map va)]
def Tz(x:List Int):Prop:=∀y∈x,MF y
def ax(x:Int):List PV:=[PV.val (vI x)]
def aX(_x:Int):Nat:=0
def mE(x:List Int):Nat:=x.length+(x.map aX).sum
structure dt where
 Field:Int
 Low:Int
 High:Int
def bU(x:dt):List PV:=[PV.val (vI x.Field),PV.val (vI x.Low),PV.val (vI x.High)]
def yn(x:dt):Nat:=aX x.Field+aX x.Low+aX x.High
structure Row where
 Id:Int
 Values:List Int
def cg(o0:Fl)(x:Row):List PV:=[PV.val (vI x.Id),PV.sl o0 (x.Values.map ax)]
def gx(x:Row):Nat:=aX x.Id+mE x.Values
def vb(x:List dt):Nat:=x.length+(x.map yn).sum
structure adb where
 Kind:Int
 Row:Row
 Field:Int
 Value:Int
def iB(x:adb):Nat:=aX x.Kind+gx x.Row+aX x.Field+aX x.Value
structure ac9 where
 Id:Int
 ade:Int
 ada:List dt
 Out:List Int
def fI(x:ac9):Nat:=aX x.Id+aX x.ade+vb x.ada+mE x.Out
structure bR where
 Kind:Int
 ac9:ac9
 Limit:Int
 Id:Int
 adb:adb
 Steps:Int
def yo(x:bR):Nat:=aX x.Kind+fI x.ac9+aX x.Limit+aX x.Id+iB x.adb+aX x.Steps
def eg(x:List Row):Nat:=x.length+(x.map gx).sum
structure ac8 where
 ac9:ac9
 Time:Int
 adi:List Int
 Age:Int
 Sent:Int
 Cap:Int
 Rows:List Row
def bz(o0 o1 o2 o3 o4:Fl)(x:ac8):List PV:=[PV.val (vI x.ac9.Id),PV.val (vI x.ac9.ade),PV.sl o0 (x.ac9.ada.map bU),PV.sl o1 (x.ac9.Out.map ax),PV.val (vI x.Time),PV.sl o2 (x.adi.map ax),PV.val (vI x.Age),PV.val (vI x.Sent),PV.val (vI x.Cap),PV.sl o3 (x.Rows.map (cg o4))]
def dc(x:ac8):Nat:=fI x.ac9+aX x.Time+mE x.adi+aX x.Age+aX x.Sent+aX x.Cap+eg x.Rows
def jZ(x:List ac8):Nat:=x.length+(x.map dc).sum
structure hE where
 Segment:Int
 Base:Int
 Ids:List Int
 adf:List Int
 Rows:List Int
def cm(o0 o1 o2:Fl)(x:hE):List PV:=[PV.val (vI x.Segment),PV.val (vI x.Base),PV.sl o0 (x.Ids.map ax),PV.sl o1 (x.adf.map ax),PV.sl o2 (x.Rows.map ax)]
def sY(x:hE):Nat:=aX x.Segment+aX x.Base+mE x.Ids+mE x.adf+mE x.Rows
def kJ(x:List hE):Nat:=x.length+(x.map sY).sum
structure aM where
 Id:Int
 Values:List Int
 ado:Int
 adj:Int
def nH(o0:Fl)(x:aM):List PV:=[PV.val (vI x.Id),PV.sl o0 (x.Values.map ax),PV.val (vI x.ado),PV.val (vI x.adj)]
def eP(x:aM):Nat:=aX x.Id+mE x.Values+aX x.ado+aX x.adj
def be(o0 o1:Fl)(x:List aM):List PV:=[PV.sl o0 (x.map (nH o1))]
def dS(x:List aM):Nat:=x.length+(x.map eP).sum
def kb(x:List (List aM)):Nat:=x.length+(x.map dS).sum
structure Store where
 ac7:List (List aM)
 Now:Int
def eQ(x:Store):Nat:=kb x.ac7+aX x.Now
structure fJ where
 ac9:ac9
 Time:Int
 Steps:Int
 Rows:List Row
def cn(o0 o1 o2 o3:Fl)(x:fJ):List PV:=[PV.val (vI x.ac9.Id),PV.val (vI x.ac9.ade),PV.sl o0 (x.ac9.ada.map bU),PV.sl o1 (x.ac9.Out.map ax),PV.val (vI x.Time),PV.val (vI x.Steps),PV.sl o2 (x.Rows.map (cg o3))]
def mF(x:fJ):Nat:=fI x.ac9+aX x.Time+aX x.Steps+eg x.Rows
def mG(x:List fJ):Nat:=x.length+(x.map mF).sum
structure ar where
 Store:Store
 adc:Int
 Order:List Int
 ac8:List ac8
 Done:List fJ
 adl:List hE
 Steps:Int
def bw(x:ar):Nat:=eQ x.Store+aX x.adc+mE x.Order+jZ x.ac8+mG x.Done+kJ x.adl+aX x.Steps
structure lC where
 From:Int
 To:Int
 Set:List Int
structure acU where
 Queries:List ac9
 Fields:List (List lC)
def TA{α β:Type}{xs:List α}{g:α→List β}{k:Nat}(hk:k < xs.length):(xs.take (k+1)).flatMap g=(xs.take k).flatMap g++g xs[k]:=by
 rw [cG hk,List.flatMap_append];simp
def sZ{α:Type}{xs:List α}{k:Nat}(hk:k < xs.length):xs.take (k+1)=xs.take k++[xs[k]]:=cG hk
def oR{α:Type}{l:List α}{d:α}{i:Nat}(h:i < l.length):l[i]=l.getD i d:=jn
def CW{α β:Type}{l:List α}{f:α→β}{k:Nat}(h:k < l.length):(l.take (k+1)).map f=(l.take k).map f++[f l[k]]:=by
 rw [cG h,bL];rfl
def MG{a b:Int}:(a==b)=decide (a=b):=rfl
def fy(x:List Int):mE x=x.length:=by
 have h:∀l:List Int,(l.map aX).sum=0:=by
  intro l
  induction l with
  | nil=>rfl
  | cons a l ih=>rw [List.map_cons,List.sum_cons,ih];rfl
 simp [mE,h]
def eR(xs:List Int)(x:Int):Bool:=xs.any (fun y=>y==x)
def aE(n l h:Int):Bool:=decide (l≤n)&&decide (n≤h)
def ja(v:Int):Bool:=aE v 0 99
def bf(r:Row):Bool:=r.Values.all ja&&(aE r.Id 0 999&&decide ((r.Values.length:Int)=3))
def fZ(l:List Row):Bool:=l.all bf&&decide ((l.length:Int)≤1000)
def nI(x:am):List PV:=[PV.val (.string (B x))]
def TB{x y:Row}:x=y↔x.Id=y.Id∧x.Values=y.Values:=by cases x;cases y;simp_all
def vc(l:List Int):Bool:=(List.range l.length).all fun i=>aE (l.getD i 0) 0 23&&(i==0||decide (l.getD (i - 1) 0 < l.getD i 0))
def yp(l:List Int)(k:Nat):Bool:=(List.range k).all fun i=>aE (l.getD i 0) 0 23&&(i==0||decide (l.getD (i - 1) 0 < l.getD i 0))
def TC{l:List Int}{k:Nat}:yp l (k+1)=(yp l k&&(aE (l.getD k 0) 0 23&&(k==0||decide (l.getD (k - 1) 0 < l.getD k 0)))):=by
 simp [yp,List.range_succ]
def TD{l:List Int}{k:Nat}(hk:k < l.length)(h:(aE (l.getD k 0) 0 23&&(k==0||decide (l.getD (k - 1) 0 < l.getD k 0)))=false):vc l=false:=by
 cases hs:vc l with
 | false=>rfl
 | true=>
  have:=List.all_eq_true.1 hs k (List.mem_range.2 hk)
  rw [h] at this;cases this
def MH{l:List Int}{k:Nat}:(aE (l.getD k 0) 0 23&&(k==0||decide (l.getD (k - 1) 0 < l.getD k 0)))=true↔(0≤l.getD k 0∧l.getD k 0≤23∧(k=0∨l.getD (k - 1) 0 < l.getD k 0)):=by
 simp [aE,and_assoc]
def lG{α:Type}(d:α)(p:α→Bool)(r:α→α→Bool)(l:List α)(k:Nat):Bool:=(List.range k).all fun i=>p (l.getD i d)&&(i==0||r (l.getD (i - 1) d) (l.getD i d))
def eS{α:Type}(d:α)(p:α→Bool)(r:α→α→Bool)(l:List α):Bool:=lG d p r l l.length
def CX{α:Type}{d:α}{p:α→Bool}{r:α→α→Bool}{l:List α}{k:Nat}:lG d p r l (k+1)=(lG d p r l k&&(p (l.getD k d)&&(k==0||r (l.getD (k - 1) d) (l.getD k d)))):=by
 simp [lG,List.range_succ]
def oS{α:Type}{d:α}{p:α→Bool}{r:α→α→Bool}{l:List α}{k:Nat}:(p (l.getD k d)&&(k==0||r (l.getD (k - 1) d) (l.getD k d)))=true↔(p (l.getD k d)=true∧(k=0∨r (l.getD (k - 1) d) (l.getD k d)=true)):=by
 simp
def yq{α:Type}{d:α}{p:α→Bool}{r:α→α→Bool}{l:List α}{k:Nat}(hk:k < l.length)(h:(p (l.getD k d)&&(k==0||r (l.getD (k - 1) d) (l.getD k d)))=false):eS d p r l=false:=by
 cases hs:eS d p r l with
 | false=>rfl
 | true=>
  have:=List.all_eq_true.1 hs k (List.mem_range.2 hk)
  rw [h] at this;cases this
def yr{α:Type}{d:α}{p:α→Bool}{r:α→α→Bool}{l:List α}{k:Nat}(h:lG d p r l k=true)(hk:k=l.length):eS d p r l=true:=by subst hk;exact h
def iC{α:Type}{d:α}{l:List α}{k:Nat}(h:k < l.length):l.getD k d=l[k]:=jn
def iD(c:dt):Bool:=aE c.Field 0 2&&(decide (0≤c.Low)&&(decide (c.Low≤c.High)&&decide (c.High≤99)))
def mH(a b:dt):Bool:=decide (a.Field < b.Field)
def jA(l:List dt):Bool:=eS ⟨0,0,0⟩ iD mH l
def hI(v:Int):Bool:=aE v 0 2
def kc(l:List Int):Bool:=l.all hI&&aE l.length 1 3
def aQ(q:ac9):Bool:=(aE q.Id 0 23&&(aE q.ade 0 3&&decide ((q.ada.length:Int)≤3)))&&(jA q.ada&&kc q.Out)
def CY{α:Type}{l:List α}{d:α}{i:Nat}(h:i < l.length):l[i]=l.getD i d:=jn
def vd(l:List Int)(f:Int):Int:=l.getD f.toNat 0
def mI(r:Row)(c:dt):Bool:=aE (vd r.Values c.Field) c.Low c.High
def eh(q:ac9)(r:Row):Bool:=(bf r&&aQ q)&&q.ada.all (mI r)
def mJ(f v:Int)(c:dt):Bool:=!(c.Field==f)||aE v c.Low c.High
def mK(q:ac9)(f v:Int):Bool:=q.ada.all (mJ f v)
def yt{r:Row}(h:bf r=true):r.Values.length=3:=by simp [bf,aE] at h;omega
def CZ{α:Type}{d:α}{p:α→Bool}{r:α→α→Bool}{l:List α}(h:eS d p r l=true){k:Nat}(hk:k < l.length):p l[k]=true:=by
 have:=List.all_eq_true.1 h k (List.mem_range.2 hk)
 rw [aT,iC hk] at this
 exact this.1
def MI{q:ac9}(h:aQ q=true){c:dt}(hc:c∈q.ada):0≤c.Field∧c.Field≤2:=by
 obtain ⟨k,hk,rfl⟩:=List.mem_iff_getElem.1 hc
 unfold aQ jA at h
 simp only [aT] at h
 have:=CZ h.2.1 hk
 simp [iD,aE] at this
 omega
def TE{q:ac9}{r:Row}(hq:aQ q=true)(hr:bf r=true)(h:∀i:Nat,i < r.Values.length→mK q (i:Int) (r.Values.getD i 0)=true):eh q r=true:=by
 unfold eh
 rw [hr,hq,Bool.and_self,Bool.true_and,nk]
 intro c hc
 have hf:=MI hq hc
 have hl:=yt hr
 have:=List.all_eq_true.1 (h c.Field.toNat ab) c hc
 unfold mJ at this
 rw [Int.toNat_of_nonneg hf.1] at this
 simpa [mI,vd] using this
def TF{q:ac9}{r:Row}{i:Nat}(h:mK q (i:Int) (r.Values.getD i 0)=false):eh q r=false:=by
 rw [←Bool.not_eq_true]
 intro hm
 unfold eh at hm
 rw [aT,nk] at hm
 have:mK q (i:Int) (r.Values.getD i 0)=true:=by
  unfold mK
  rw [nk]
  intro c hc
  unfold mJ
  by_cases he:c.Field=(i:Int)
  ·have:=hm.2 c hc
   simp only [mI,vd,he,Int.toNat_natCast] at this
   rw [this,Bool.or_true]
  ·simp [he]
 rw [h] at this;cases this
def lH(r:Row):Bool:=aE r.Id 0 999&&decide (r.Values.length=0)
def ci(u:adb):Bool:=
 if u.Kind=1 then bf u.Row&&(decide (u.Field=0)&&decide (u.Value=0))
 else if u.Kind=2 then lH u.Row&&(decide (u.Field=0)&&decide (u.Value=0))
 else if u.Kind=3 then lH u.Row&&(aE u.Field 0 2&&aE u.Value 0 99) else false
def MJ{α:Type}{x y:α}:kI x y=false↔¬x=y:=⟨fun h e=>(by rw [CU e] at h;simp at h),CV⟩
def TG{x y:dt}:x=y↔x.Field=y.Field∧x.Low=y.Low∧x.High=y.High:=by cases x;cases y;simp [dt.mk.injEq]
def TH{x y:ac9}:x=y↔x.Id=y.Id∧x.ade=y.ade∧x.ada=y.ada∧x.Out=y.Out:=by cases x;cases y;simp [ac9.mk.injEq]
def TI{x y:adb}:x=y↔x.Kind=y.Kind∧x.Row=y.Row∧x.Field=y.Field∧x.Value=y.Value:=by cases x;cases y;simp [adb.mk.injEq]
def ta(q:ac9):Bool:=decide (q.Id=0)&&(decide (q.ade=0)&&(decide (q.ada.length=0)&&decide (q.Out.length=0)))
def tb(u:adb):Bool:=decide (u.Kind=0)&&(decide (u.Row.Id=0)&&(decide (u.Row.Values.length=0)&&(decide (u.Field=0)&&decide (u.Value=0))))
def ve(q:ac9):kI q ⟨0,0,[],[]⟩=ta q:=by
 rw [Bool.eq_iff_iff,mD];cases q;simp [ta,List.length_eq_zero_iff]
def vf(u:adb):kI u ⟨0,⟨0,[]⟩,0,0⟩=tb u:=by
 rw [Bool.eq_iff_iff,mD];rcases u with ⟨a,⟨b,c⟩,d,e⟩;simp [tb,List.length_eq_zero_iff,and_assoc]
def ca(x:bR):Bool:=
 if x.Kind=1 then aQ x.ac9&&(aE x.Limit 0 32&&(decide (x.Id=0)&&(tb x.adb&&decide (x.Steps=0))))
 else if x.Kind=2 then ta x.ac9&&(decide (x.Limit=0)&&(aE x.Id 0 23&&(tb x.adb&&decide (x.Steps=0))))
 else if x.Kind=3 then ta x.ac9&&(decide (x.Limit=0)&&(decide (x.Id=0)&&(ci x.adb&&decide (x.Steps=0))))
 else if x.Kind=4 then ta x.ac9&&(decide (x.Limit=0)&&(decide (x.Id=0)&&(tb x.adb&&aE x.Steps 1 100)))
 else false
end
end Go.Proofs.YtmekkgdboplbjaaGreatDoor
namespace Go.Proofs.YtmekkgdboplbjaaGreatDoor
open Go Go.RowKit M Tryz
set_option maxRecDepth 10000
def TJ:prog.follows .mixedOrders=true:=aq
def MK:aL prog 102=true:=aq
def TK:aL prog 111=true:=aq
def TL:aL prog 112=true:=aq
def Da:aL prog 113=true:=aq
def Db:aL prog 170=true:=aq
def oT:aL prog 172=true:=aq
def TM:aL prog 175=true:=aq
def Dc:aL prog 176=true:=aq
def TN:aL prog 177=true:=aq
def TO:aL prog 178=true:=aq
def TP:aL prog 179=true:=aq
def TQ:aL prog 190=true:=aq
def ML:aL prog 191=true:=aq
def TR:aL prog 192=true:=aq
def MM:aL prog 227=true:=aq
def TS:aL prog 228=true:=aq
def TT:aL prog 283=true:=aq
def TU:aL prog 285=true:=aq
def mL:aL prog 74=true:=aq
def Dd:aL prog 75=true:=aq
def yu:aL prog 86=true:=aq
def De:aL prog 90=true:=aq
def MN:aL prog 98=true:=aq
def nJ:bM prog 25 0=some 0:=aq
def vg:bM prog 25 1=some 1:=aq
def kK:bM prog 25 2=some 2:=aq
def tc:bM prog 25 3=some 3:=aq
def mM:bM prog 27 0=some 0:=aq
def lI:bM prog 27 1=some 1:=aq
def MO:bM prog 29 0=some 0:=aq
def tf:bM prog 29 1=some 1:=aq
def yv:bM prog 29 2=some 3:=aq
def qB:bM prog 29 3=some 4:=aq
def MP:bM prog 31 0=some 0:=aq
def vh:bM prog 31 1=some 1:=aq
def tg:bM prog 31 2=some 5:=aq
def th:bM prog 31 3=some 6:=aq
def MQ:bM prog 31 4=some 7:=aq
def qC:bM prog 31 5=some 12:=aq
def oU:bM prog 65 0=some 0:=aq
def vi:bM prog 65 1=some 1:=aq
def oV:bM prog 65 2=some 2:=aq
def TV:eL prog 25=some [(0,1),(1,1),(2,1),(3,1)]:=aq
def MR:eL prog 27=some [(0,1),(1,1)]:=aq
def TW:eL prog 29=some [(0,1),(1,2),(3,1),(4,1)]:=aq
def TX(x y:Nat)(a0 a1 a2 b0 b1 b2:Int)(w:World):Sem.run prog (do eqGuard .neq 65 (.tmp x) (.tmp y) (.agg #[vI a0,vI a1,vI a2]) (.agg #[vI b0,vI b1,vI b2]);binOp .neq 65 (.agg #[vI a0,vI a1,vI a2]) (.agg #[vI b0,vI b1,vI b2]):Sem Value) w = .ok (.bool (!(a0==b0&&a1==b1&&a2==b2))) w:=by
 have hS:prog.underlying 65=some (.struct (prog.fieldsOf 65)):=aq
 have hp:prog.stoodInHeld 65=false:=aq
 have hm:prog.eqGuardType prog.depth 65=false:=aq
 have hU:=Tryz.underlying65
 have u3:=Tryz.underlying3
 have a3_:=Tryz.isAgg3
 have z3:=Tryz.sizeOf3
 rw [Sem.run_bind,run_eqGuard_agg w _ _ _ _ _ _ hm,Result.andThen_ok,run_neq_struct]
 rw [show (10000:Nat)=9999+1 from rfl,run_equalIn_agg w 9999 65 _ _ hS hp]
 simp only [Program.fieldsOf,hU]
 go_simp
 by_cases h0:a0=b0<;>by_cases h1:a1=b1<;>by_cases h2:a2=b2<;>simp_all
def gK:dY prog 22=some (65,3,24):=aq
def ej:dY prog 23=some (3,1,8):=aq
def Df:dY prog 37=some (5,1,1):=aq
def jb:dY prog 54=some (27,2,32):=aq
def lJ:cl prog 22=some (false,1):=aq
def ek:cl prog 23=some (false,1):=aq
def gi:cl prog 25=some (true,4):=aq
def gM:cl prog 27=some (true,2):=aq
def nK:cl prog 29=some (true,5):=aq
def bB:cl prog 3=some (false,1):=aq
def ti:cl prog 65=some (true,3):=aq
def qD:dX prog 25=some (.agg #[.int .i64 0,.int .i64 0,.slice none 0 0,.slice none 0 0]):=aq
def lK:dX prog 27=some (.agg #[.int .i64 0,.slice none 0 0]):=aq
def vj:dX prog 29=some (.agg #[.int .i64 0,.int .i64 0,.slice none 0 0,.int .i64 0,.int .i64 0]):=aq
def nL:dX prog 3=some (.int .i64 0):=aq
def oW:dX prog 65=some (.agg #[.int .i64 0,.int .i64 0,.int .i64 0]):=aq
def qE{Fz:ay}{w:World}:aC [PV.val (.int .i64 0),PV.val (.int .i64 0),PV.sl bb [],PV.sl ak []] Fz w (Value.cells (.agg #[.int .i64 0,.int .i64 0,.slice none 0 0,.slice none 0 0])).toList []:=cr rfl (cr rfl (eM (eM (kz))))
def qF{Fz:ay}{w:World}:aC [PV.val (.int .i64 0),PV.sl ak []] Fz w (Value.cells (.agg #[.int .i64 0,.slice none 0 0])).toList []:=cr rfl (eM (kz))
def vk{Fz:ay}{w:World}:aC [PV.val (.int .i64 0),PV.val (.int .i64 0),PV.sl ak [],PV.val (.int .i64 0),PV.val (.int .i64 0)] Fz w (Value.cells (.agg #[.int .i64 0,.int .i64 0,.slice none 0 0,.int .i64 0,.int .i64 0])).toList []:=cr rfl (cr rfl (eM (cr rfl (cr rfl (kz)))))
def yw{Fz:ay}{w:World}:aC [PV.val (.int .i64 0),PV.val (.int .i64 0),PV.val (.int .i64 0)] Fz w (Value.cells (.agg #[.int .i64 0,.int .i64 0,.int .i64 0])).toList []:=cr rfl (cr rfl (cr rfl (kz)))
end Go.Proofs.YtmekkgdboplbjaaGreatDoor
namespace Go.Proofs.YtmekkgdboplbjaaGreatDoor
open Go Go.RowKit M Tryz
set_option maxRecDepth 10000
def v0:aM:=⟨0,[],0,0⟩
def en(now:Int)(v:aM):Bool:=bf ⟨v.Id,v.Values⟩&&(aE v.ado 0 now&&(decide (v.adj = -1)||aE v.adj (v.ado+1) now))
def gj(a b:aM):Bool:=!(a.Id==b.Id)||((!(a.adj == -1)&&decide (a.adj≤b.ado))||(!(b.adj == -1)&&decide (b.adj≤a.ado)))
def eB(v:aM)(t:Int):Bool:=decide (v.ado≤t)&&(decide (v.adj = -1)||decide (v.adj > t))
def qG(v w:aM):Bool:=eB v w.ado||eB w v.ado
def MS{now:Int}{v w:aM}(hv:en now v=true)(hw:en now w=true):(v.Id==w.Id&&qG v w) = !gj v w:=by
 have h1:v.adj = -1∨v.ado < v.adj:=by simp [en,aE] at hv;omega
 have h2:w.adj = -1∨w.ado < w.adj:=by simp [en,aE] at hw;omega
 have h3:0≤v.ado∧0≤w.ado:=by simp [en,aE] at hv hw;omega
 rw [Bool.eq_iff_iff]
 simp only [qG,eB,gj,aT,Bool.or_eq_true,Bool.not_eq_true',beq_iff_eq,decide_eq_true_eq,Bool.or_eq_false_iff,Bool.not_eq_false',Bool.and_eq_false_iff,decide_eq_false_iff_not]
 omega
def aY(s:Store):List aM:=s.ac7.flatten
def iU(L:List aM)(i k:Nat):Bool:=(List.range k).all fun m=>gj (L.getD i v0) (L.getD m v0)
def lL(now:Int)(L:List aM)(i:Nat):Bool:=en now (L.getD i v0)&&iU L i i
def lM(now:Int)(L:List aM)(i:Nat):Bool:=(List.range i).all (lL now L)
def mN(l:List aM):Bool:=decide ((l.length:Int)≤4)
def oX(s:Store):Bool:=aE s.ac7.length 1 8&&aE s.Now 0 100000
def bV(s:Store):Bool:=(oX s&&s.ac7.all mN)&&lM s.Now (aY s) (aY s).length
def TY{L:List aM}{i k:Nat}:iU L i (k+1)=(iU L i k&&gj (L.getD i v0) (L.getD k v0)):=by simp [iU,List.range_succ]
def TZ{now:Int}{L:List aM}{i:Nat}:lM now L (i+1)=(lM now L i&&lL now L i):=by simp [lM,List.range_succ]
def Dg{now:Int}{L:List aM}{i j:Nat}(h:lM now L i=true)(hj:j < i):en now (L.getD j v0)=true:=by
 have:=List.all_eq_true.1 h j (List.mem_range.2 hj)
 unfold lL at this
 rw [aT] at this
 exact this.1
def MT{s:Store}{i:Nat}(hi:i < (aY s).length)(h:lL s.Now (aY s) i=false):bV s=false:=by
 have:lM s.Now (aY s) (aY s).length=false:=by
  rw [←Bool.not_eq_true]
  intro hh
  have:=List.all_eq_true.1 hh i (List.mem_range.2 hi)
  rw [h] at this;cases this
 unfold bV;rw [this,Bool.and_false]
def Ua{now:Int}{L:List aM}{i:Nat}(h:en now (L.getD i v0)=false):lL now L i=false:=by unfold lL;rw [h];rfl
def Ub{now:Int}{L:List aM}{i k:Nat}(hk:k < i)(h:gj (L.getD i v0) (L.getD k v0)=false):lL now L i=false:=by
 have:iU L i i=false:=by
  rw [←Bool.not_eq_true]
  intro hh
  have:=List.all_eq_true.1 hh k (List.mem_range.2 hk)
  rw [h] at this;cases this
 unfold lL;rw [this,Bool.and_false]
def Uc{s:Store}{k:Nat}(hk:k < s.ac7.length)(h:¬((s.ac7[k].length:Int)≤4)):bV s=false:=by
 have:s.ac7.all mN=false:=mC hk (by simpa [mN] using h)
 unfold bV;rw [this];simp
def cX(s:Store)(k:Nat):List aM:=(s.ac7.take k).flatten
def Dh{s:Store}{k:Nat}(hk:k < s.ac7.length):cX s (k+1)=cX s k++s.ac7[k]:=by
 unfold cX;rw [cG hk,List.flatten_append];simp
def Di{s:Store}{k:Nat}(hk:k < s.ac7.length):aY s=cX s k++(s.ac7[k]++(s.ac7.drop (k+1)).flatten):=by
 unfold aY cX
 rw [←List.flatten_cons,←List.flatten_append,←List.drop_eq_getElem_cons hk,fh]
def MU{s:Store}:cX s s.ac7.length=aY s:=by unfold cX aY;rw [cC]
def MV{s:Store}{k j:Nat}(hk:k < s.ac7.length)(hj:j < s.ac7[k].length):(cX s k).length+j < (aY s).length∧(aY s).getD ((cX s k).length+j) v0=s.ac7[k][j]:=by
 rw [Di hk]
 refine ⟨by simp only [aZ];omega,?_⟩
 rw [List.getD_eq_getElem?_getD,List.getElem?_append_right ab,show (cX s k).length+j - (cX s k).length=j by omega,List.getElem?_append_left hj,List.getElem?_eq_getElem hj]
 rfl
def Ud{s:Store}{k j:Nat}(hk:k < s.ac7.length)(hj:j≤s.ac7[k].length):cX s k++s.ac7[k].take j=(aY s).take ((cX s k).length+j):=by
 rw [Di hk,List.take_length_add_append,List.take_append_of_le_length hj]
def yx(s:Store):(aY s).length≤eQ s:=by
 unfold eQ kb aY
 rw [List.length_flatten]
 have:(s.ac7.map List.length).sum≤(s.ac7.map dS).sum:=by
  generalize s.ac7=l
  induction l with
  | nil=>simp
  | cons x l ih=>simp only [List.map_cons,List.sum_cons];unfold dS at *;omega
 omega
def kL(v:aM):Row:=⟨v.Id,v.Values⟩
def qH{s:Store}(h:bV s=true):s.ac7.length≤8∧1≤s.ac7.length∧0≤s.Now∧s.Now≤100000∧(∀g∈s.ac7,g.length≤4)∧∀i,i < (aY s).length→en s.Now ((aY s).getD i v0)=true:=by
 unfold bV oX at h
 simp only [aT,aE,decide_eq_true_eq] at h
 refine ⟨ab,ab,ab,ab,fun g hg=>?_,fun i hi=>Dg h.2 hi⟩
 have:=List.all_eq_true.1 h.1.2 g hg
 simp [mN] at this;omega
def Dj{s:Store}(h:bV s=true){k j:Nat}(hk:k < s.ac7.length)(hj:j < s.ac7[k].length):en s.Now s.ac7[k][j]=true:=by
 have h1:=MV hk hj
 rw [←h1.2]
 exact (qH h).2.2.2.2.2 _ h1.1
def Dk(l:List ac9)(f v:Int):List Int:=(l.filter fun q=>mK q f v).map ac9.Id
def oY(v:Int)(s:lC):Bool:=aE v s.From s.To
def qI(l:List lC)(v:Int):List Int:=match l.find? (oY v) with
 | some s=>s.Set
 | none=>[]
def oZ(o:List Int):Bool:=decide (o.length=3)&&(eR o 0&&(eR o 1&&eR o 2))
def PV.to_eqv{o:Fl}{es ds:List (List PV)}(h:es=ds):(PV.sl o es).To (PV.sl .v ds):=by subst h;exact rN
def fK{a b:am}(h:a=b):[PV.val (.string (B a))]=[PV.val (.string (B b))]:=by rw [h]
abbrev itoa(n:Int):am:=Lib.itoa n
def dj{n:Int}(h:cq n):(itoa n).length≤21:=Lib.itoa_length_le n h.1 h.2
def vl{u:Nat}(h:10≤u):Lib.decDigits u=Lib.decDigits (u / 10)++[UInt8.ofNat (48+u%10)]:=by rw [Lib.decDigits,dif_neg ab]
def pb{u:Nat}(h:u < 10):Lib.decDigits u=[UInt8.ofNat (48+u)]:=by rw [Lib.decDigits,dif_pos h]
def nM(n q:Int)(s:am):Prop:=(if q=0 then s else Lib.decDigits q.natAbs++s)=Lib.decDigits n.natAbs
def Ue{n:Int}(h:n≠0):nM n n []:=by unfold nM;rw [if_neg h,dJ]
def tj(q:Int):(q.tdiv 10).natAbs=q.natAbs / 10:=by rw [Int.natAbs_tdiv];rfl
def Uf(q:Int):(q.tmod 10).natAbs=q.natAbs%10:=by rw [Int.natAbs_tmod];rfl
def Ug{n q d:Int}{s:am}(h:nM n q s)(hq:q≠0)(hd:d=((q.natAbs%10:Nat):Int)):nM n (q.tdiv 10) (jv [48+d]++s):=by
 have e:jv [48+d]=[UInt8.ofNat (48+q.natAbs%10)]:=by
  subst hd
  show [UInt8.ofNat (48+((q.natAbs%10:Nat):Int)).toNat]=_
  congr 2
 unfold nM at h ⊢
 rw [if_neg hq] at h
 rw [e,←h]
 by_cases h0:q.tdiv 10=0
 ·rw [if_pos h0]
  have:q.natAbs / 10=0:=by rw [←tj,h0];rfl
  rw [pb ab,show q.natAbs%10=q.natAbs by omega]
 ·rw [if_neg h0]
  have:q.natAbs / 10≠0:=by rw [←tj];omega
  rw [vl (u:=q.natAbs) ab,tj,aW]
def Uh{n:Int}{s:am}(h:nM n 0 s):s=Lib.decDigits n.natAbs:=by unfold nM at h;rwa [if_pos rfl] at h
def MW{n q:Int}{s:am}(h:nM n q s)(hn:cq n):s.length≤20:=by
 have hd:(Lib.decDigits n.natAbs).length≤20:=by
  rw [Lib.decDigits_length];exact Lib.nDigits_le20 _ (by unfold cq at hn;omega)
 rw [←h] at hd
 split at hd
 ·exact hd
 ·rw [aZ] at hd;omega
def yy{n:Int}(h:n < 0):itoa n=45::Lib.decDigits n.natAbs:=by show Lib.itoa n=_;rw [Lib.itoa,if_pos h]
def pc{n:Int}(h:¬n < 0):itoa n=Lib.decDigits n.natAbs:=by show Lib.itoa n=_;rw [Lib.itoa,if_neg h];congr 1;omega
def Ui:itoa 0=[48]:=by rw [pc ab];exact pb ae
def vm{α:Type}{P:List α→Prop}(h0:P [])(h1:∀l a,P l→P (l++[a]))(l:List α):P l:=by
 have h:∀r:List α,P r.reverse:=by
  intro r
  induction r with
  | nil=>exact h0
  | cons a r ih=>rw [List.reverse_cons];exact h1 _ _ ih
 simpa using h l.reverse
def pd{xs:List am}{y sep:am}:ee (xs++[y]) sep=(if xs=[] then y else ee xs sep++sep++y):=by
 cases xs with
 | nil=>simp [ee,Lib.join_one]
 | cons x r=>
  rw [if_neg aF]
  unfold ee
  rw [List.cons_append,Lib.join_cons,Lib.join_cons]
  simp [Lib.joinTail,aW]
def Dl{sep:am}:ee [] sep=[]:=rfl
def vn{m:Nat}{sep:am}{xs:List am}(h:∀x∈xs,x.length≤m):(ee xs sep).length≤xs.length * (m+sep.length):=by
 induction xs using vm with
 | h0=>simp [Dl]
 | h1 xs y ih=>
  have h1:=ih fun x hx=>h x fS
  have h2:=h y aF
  rw [pd,aZ,List.length_singleton,Nat.succ_mul]
  split
  ·omega
  ·simp only [aZ];omega
def MX{xs:List am}{a b sep:am}(h:xs≠[]):ee (xs++[a,b]) sep=ee xs sep++sep++a++sep++b:=by
 rw [show xs++[a,b]=(xs++[a])++[b] by simp,pd,if_neg aF,pd,if_neg h]
def cJ(l:List Int):am:=ee (l.map itoa) [44]
def mO{l:List Int}(h:∀x∈l,cq x):(cJ l).length≤l.length * 22:=by
 have:=vn (m:=21) (sep:=[44]) (xs:=l.map itoa) (by intro x hx;obtain ⟨y,hy,rfl⟩:=List.mem_map.1 hx;exact dj (h y hy))
 simpa [cJ] using this
def Uj{l:List Int}{k:Nat}(hk:k < l.length):cJ (l.take (k+1))=(if k=0 then itoa l[k] else cJ (l.take k)++[44]++itoa l[k]):=by
 unfold cJ
 rw [sZ hk,bL,List.map_cons,List.map_nil,pd]
 by_cases h:k=0
 ·subst h;simp
 ·rw [if_neg h,if_neg]
  intro e
  have:=congrArg List.length e
  simp at this
  rcases this with e|e
  ·exact h e
  ·rw [e] at hk;simp at hk
def pf(x:hE)(i:Nat):Bool:=aE (x.adf.getD i 0) 0 3&&aE (x.Rows.getD i 0) 0 x.Base
def pg(x:hE)(k:Nat):Bool:=(List.range k).all (pf x)
def Uk{x:hE}{k:Nat}:pg x (k+1)=(pg x k&&pf x k):=by simp [pg,List.range_succ]
def mP(x:hE):Bool:=vc x.Ids&&(aE x.Ids.length 1 8&&(decide (x.adf.length=x.Ids.length)&&decide (x.Rows.length=x.Ids.length)))
def gk(x:hE):Bool:=(mP x&&pg x x.Ids.length)&&(aE x.Segment 0 7&&aE x.Base 0 4)
def Ul{x:hE}(h:mP x=true):1≤x.Ids.length∧x.Ids.length≤8∧x.adf.length=x.Ids.length∧x.Rows.length=x.Ids.length:=by
 simp [mP,aE] at h;omega
def Um{x:hE}{k:Nat}(hk:k < x.Ids.length)(h:pf x k=false):gk x=false:=by
 have:pg x x.Ids.length=false:=by
  rw [←Bool.not_eq_true]
  intro hh
  have:=List.all_eq_true.1 hh k (List.mem_range.2 hk)
  rw [h] at this;cases this
 unfold gk;rw [this];simp
section
def nN:ac8:=⟨⟨0,0,[],[]⟩,0,[],0,0,0,[]⟩
def nO(a b:ac8):Bool:=decide (a.ac9.Id < b.ac9.Id)
def mQ(n v:Int):Bool:=aE v 0 (n - 1)
def mR(a b:Int):Bool:=decide (a < b)
def ph(l:List Int)(n:Int):Bool:=eS 0 (mQ n) mR l&&decide (0 < l.length)
def gn(s:Store)(a:ac8):Bool:=ph a.adi s.ac7.length&&(aQ a.ac9&&(aE a.Time 0 s.Now&&(aE a.Age 0 100000&&(aE a.Sent 0 1000&&(aE a.Cap 0 32&&fZ a.Rows)))))
def jB(now:Int)(f:fJ):Bool:=aQ f.ac9&&(aE f.Time 0 now&&(aE f.Steps 0 100000&&fZ f.Rows))
def kd(e:ar):Bool:=(bV e.Store&&(aE e.adc 0 (e.Store.ac7.length - 1)&&(oZ e.Order&&aE e.Steps 0 100000)))&&(decide ((e.ac8.length:Int)≤8)&&(decide ((e.Done.length:Int)≤1000)&&decide ((e.adl.length:Int)≤1000)))
def aP(e:ar):Bool:=kd e&&(eS nN (gn e.Store) nO e.ac8&&(e.Done.all (jB e.Store.Now)&&e.adl.all gk))
def Un{e:ar}(h:kd e=false):aP e=false:=by unfold aP;rw [h];rfl
def Uo{e:ar}(h:eS nN (gn e.Store) nO e.ac8=false):aP e=false:=Ad
def Up{e:ar}(h:e.Done.all (jB e.Store.Now)=false):aP e=false:=Ad
def Uq{e:ar}(h:e.adl.all gk=false):aP e=false:=Ad
def MY{e:ar}(h1:kd e=true)(h2:eS nN (gn e.Store) nO e.ac8=true)(h3:e.Done.all (jB e.Store.Now)=true)(h4:e.adl.all gk=true):aP e=true:=by unfold aP;rw [h1,h2,h3,h4];rfl
def kN{e:ar}(h:aP e=true):bV e.Store=true∧oZ e.Order=true∧0≤e.adc∧e.adc.toNat < e.Store.ac7.length∧e.ac8.length≤8∧e.Done.length≤1000∧e.adl.length≤1000∧0≤e.Steps∧e.Steps≤100000∧(∀a∈e.ac8,gn e.Store a=true)∧(∀f∈e.Done,jB e.Store.Now f=true)∧∀c∈e.adl,gk c=true:=by
 unfold aP kd at h
 simp only [aT,aE,decide_eq_true_eq] at h
 obtain ⟨⟨⟨h1,h2,h3,h4⟩,h5,h6,h7⟩,h8,h9,h10⟩:=h
 refine ⟨h1,h3,ab,ab,ab,ab,ab,ab,ab,fun a ha=>?_,List.all_eq_true.1 h9,List.all_eq_true.1 h10⟩
 obtain ⟨k,hk,rfl⟩:=List.mem_iff_getElem.1 ha
 exact CZ h8 hk
def qJ(o:List Int)(k:Nat):Bool:=(List.range k).all fun i=>eR o (i:Int)
def yz{o:List Int}{k:Nat}:qJ o (k+1)=(qJ o k&&eR o (k:Int)):=by simp [qJ,List.range_succ]
def MZ{o:List Int}:(qJ o 3&&decide (o.length=3))=oZ o:=by
 rw [Bool.and_comm,oZ,yz,yz,yz]
 show _=(decide (o.length=3)&&(eR o ((0:Nat):Int)&&(eR o ((1:Nat):Int)&&eR o ((2:Nat):Int))))
 simp [qJ,Bool.and_assoc]
def Ur{o:List Int}{k:Nat}(hk:k < 3)(h:eR o (k:Int)=false):oZ o=false:=by
 rw [←MZ]
 have:qJ o 3=false:=by
  rw [←Bool.not_eq_true]
  intro hh
  have:=List.all_eq_true.1 hh k (List.mem_range.2 hk)
  rw [h] at this;cases this
 rw [this];rfl
def mS(a:ac8):Bool:=decide (a.Cap=0)||decide (a.Sent < a.Cap)
def eC(e:ar)(a:ac8):Bool:=mS a&&eR a.adi e.adc
def jc(e:ar)(l:List ac8):List Int:=(l.filter (eC e)).map fun a=>a.ac9.Id
def parts(e:ar):List Int:=if aP e then jc e e.ac8 else []
section
variable{e:ar}{l:List ac8}{k:Nat}{id:Int}
def Us(hk:k < l.length)(h:eC e l[k]=true):jc e (l.take (k+1))=jc e (l.take k)++[l[k].ac9.Id]:=by
 unfold jc;rw [cG hk,eY];simp [h]
def Ut(hk:k < l.length)(h:eC e l[k]=false):jc e (l.take (k+1))=jc e (l.take k):=by
 unfold jc;rw [cG hk,eY];simp [h]
def Na:(jc e l).length≤l.length:=by
 unfold jc;rw [aO];exact jO _ _
def vo(h:aP e=true):parts e=jc e e.ac8:=if_pos h
def Uu(h:aP e=false):parts e=[]:=if_neg eJ
def Dm:(parts e).length≤e.ac8.length:=by
 unfold parts
 split
 ·exact Na
 ·exact Nat.zero_le _
def jd(id:Int)(a:ac8):Bool:=a.ac9.Id==id
def fL(l:List ac8)(id:Int):Int:=if l.any (jd id) then ((l.findIdx (jd id):Nat):Int) else -1
def Nb(hk:k < l.length)(h:(l.take k).any (jd id)=false)(hy:jd id l[k]=true):fL l id=(k:Int):=by
 have e:l.findIdx (jd id)=k:=by
  rw [List.findIdx_eq hk]
  refine ⟨hy,fun j hj=>?_⟩
  rw [List.any_eq_false] at h
  have:=h l[j] GA
  simpa using this
 unfold fL
 rw [if_pos (qA hk hy),e]
def Uv(h:l.any (jd id)=false):fL l id = -1:=if_neg eJ
end
def Uw{o:Fl}{es es':List (List PV)}(h:es=es'):(PV.sl o es).To (PV.sl .v es'):=by subst h;exact rN
end
def pi(s:Store):Nat:=(aY s).length
def qK(s:Store)(k:Nat):Nat:=(cX s k).length
def Nc{s:Store}{k:Nat}(hk:k < s.ac7.length):qK s (k+1)=qK s k+s.ac7[k].length:=by unfold qK;rw [Dh hk,aZ]
def Ux{s:Store}(k:Nat)(hk:k≤s.ac7.length):qK s k≤pi s:=by
 unfold qK pi cX aY
 have e:s.ac7.flatten=(s.ac7.take k).flatten++(s.ac7.drop k).flatten:=by rw [←List.flatten_append,fh]
 rw [e,aZ];omega
section
def hJ(v:aM)(keep:List Int):Bool:=decide (v.adj = -1)||keep.any (eB v)
def Uy{v:aM}{keep:List Int}{k:Nat}(hk:k < keep.length)(h:eB v keep[k]=true):hJ v keep=true:=by unfold hJ;rw [qA hk h];simp
def Uz{v:aM}{keep:List Int}(h:keep.any (eB v)=false):hJ v keep=decide (v.adj = -1):=by unfold hJ;rw [h];simp
def jC(keep:List Int)(l:List aM):List aM:=l.filter fun v=>hJ v keep
def cP(s:Store)(keep:List Int):Store:=if bV s then ⟨s.ac7.map (jC keep),s.Now⟩ else s
def iE(keep:List Int)(zs:List (aM×(Nat→Value))):List (aM×(Nat→Value)):=zs.filter fun z=>hJ z.1 keep
def je(zss:List (List (aM×(Nat→Value))))(keep:List Int)(k:Nat):List (List (aM×(Nat→Value))):=(zss.take k).map (iE keep)++zss.drop k
section
variable{zss:List (List (aM×(Nat→Value)))}{keep:List Int}{k:Nat}{segs:List (List aM)}
def Nd:(je zss keep k).length=zss.length:=by unfold je;simp;omega
def UA(hk:k < zss.length)(h:k < (je zss keep k).length):(je zss keep k)[k]'h=zss[k]:=by
 have h1:(je zss keep k)[k]?=some zss[k]:=by
  unfold je
  rw [List.getElem?_append_right iR]
  simp [Nat.min_eq_left (Nat.le_of_lt hk),hk]
 exact (List.getElem?_eq_some_iff.1 h1).2
def UB(hk:k < zss.length):(je zss keep k).set k (iE keep zss[k])=je zss keep (k+1):=by
 unfold je
 have hl:((zss.take k).map (iE keep)).length=k:=zV
 rw [List.set_append_right _ _ ab,hl,Nat.sub_self,List.drop_eq_getElem_cons hk,List.set_cons_zero,cG hk,bL]
 simp
def Nf:je zss keep zss.length=zss.map (iE keep):=by unfold je;simp
def UC:(zss.map (iE keep)).flatten.Sublist zss.flatten:=by
 induction zss with
 | nil=>exact List.Sublist.slnil
 | cons z l ih=>rw [List.map_cons,List.flatten_cons,List.flatten_cons];exact List.Sublist.append List.filter_sublist ih
def UD(hz:zss.map (List.map Prod.fst)=segs):(zss.map (iE keep)).map (List.map Prod.fst)=segs.map (jC keep):=by
 rw [←hz,List.map_map,List.map_map]
 refine List.map_congr_left fun zs _=>?_
 simp only [Function.comp_apply,iE,jC,List.filter_map]
 rfl
def UE(hz:zss.map (List.map Prod.fst)=segs):zss.length=segs.length:=by rw [←hz,aO]
def UF(hz:zss.map (List.map Prod.fst)=segs)(hk:k < zss.length)(hk2:k < segs.length):zss[k].map Prod.fst=segs[k]:=by subst hz;simp
def UG(hz:zss.map (List.map Prod.fst)=segs)(hk:k < zss.length)(hk2:k < segs.length):zss[k].length=segs[k].length:=by rw [←UF hz hk hk2,aO]
def UH(hz:zss.map (List.map Prod.fst)=segs)(hk:k < zss.length)(hk2:k < segs.length){j:Nat}(hj:j < zss[k].length)(hj2:j < segs[k].length):zss[k][j].1=segs[k][j]:=by
 subst hz;simp
def UI{zs:List (aM×(Nat→Value))}{j:Nat}(hj:j < zs.length)(h:hJ zs[j].1 keep=true):iE keep (zs.take (j+1))=iE keep (zs.take j)++[zs[j]]:=by
 unfold iE;rw [cG hj,eY];simp [h]
def UJ{zs:List (aM×(Nat→Value))}{j:Nat}(hj:j < zs.length)(h:hJ zs[j].1 keep=false):iE keep (zs.take (j+1))=iE keep (zs.take j):=by
 unfold iE;rw [cG hj,eY];simp [h]
def UK{zs:List (aM×(Nat→Value))}{j:Nat}:(iE keep (zs.take j)).length≤j:=by
 have:=jO (fun z:aM×(Nat→Value)=>hJ z.1 keep) (zs.take j)
 rw [cu] at this
 unfold iE;omega
end
def Ng(keep:List Int):∀l:List aM,dS (jC keep l)≤dS l
 | []=>Nat.le_refl _
 | v::l=>by
  have ih:=Ng keep l
  unfold jC dS at *
  rw [List.filter_cons]
  split<;>simp only [List.length_cons,List.map_cons,List.sum_cons]<;>omega
def Nh(s:Store)(keep:List Int):eQ (cP s keep)≤eQ s:=by
 unfold cP
 split
 ·unfold eQ kb
  dsimp only
  rw [aO,List.map_map]
  have:(s.ac7.map (dS∘jC keep)).sum≤(s.ac7.map dS).sum:=by
   generalize s.ac7=l
   induction l with
   | nil=>exact Nat.le_refl _
   | cons x l ih=>simp only [List.map_cons,List.sum_cons,Function.comp] at *;have:=Ng keep x;omega
  omega
 ·exact Nat.le_refl _
def yA{s:Store}{keep:List Int}(h:bV s=true):cP s keep=⟨s.ac7.map (jC keep),s.Now⟩:=if_pos h
def UL{s:Store}{keep:List Int}(h:bV s=false):cP s keep=s:=if_neg eJ
def yB(s:Store)(keep:List Int):Int:=if bV s then (pi s:Int) - (pi (cP s keep):Int) else 0
def fk(l:List ac8):List Int:=l.map fun a=>a.Time
def cF(e:ar):ar:=⟨cP e.Store (fk e.ac8),e.adc,e.Order,e.ac8,e.Done,e.adl,e.Steps⟩
def vp(z:aM×(Nat→Value)):List PV:=[PV.nv (z.2 0) (PV.val (vI z.1.Id)),PV.nv (z.2 1) (PV.sl .v (z.1.Values.map ax)),PV.nv (z.2 2) (PV.val (vI z.1.ado)),PV.nv (z.2 3) (PV.val (vI z.1.adj))]
def tk(zs:List (aM×(Nat→Value))):List PV:=[PV.sl bJ (zs.map vp)]
end
def UM{α:Type}{d:α}{p:α→Bool}{key:α→Int}{l:List α}(h:eS d p (fun a b=>decide (key a < key b)) l=true):l.Pairwise (fun a b=>key a < key b):=by
 have step:∀j:Nat,(hj:j+1 < l.length)→key l[j] < key l[j+1]:=fun j hj=>by
  have h1:=List.all_eq_true.1 h (j+1) (List.mem_range.2 hj)
  rw [aT,iC hj,show j+1 - 1=j from rfl,iC (show j < l.length by omega)] at h1
  have h2:=h1.2
  simpa using h2
 have lt:∀(j i:Nat) (hj:j < l.length) (hi:i < j),key l[i] < key l[j]:=by
  intro j
  induction j with
  | zero=>intro i _ hi;omega
  | succ j ih=>
   intro i hj hi
   have h1:=step j hj
   rcases Nat.lt_or_ge i j with h2|h2
   ·have:=ih i ab h2;omega
   ·have:i=j:=by omega
    subst this;exact h1
 rw [List.pairwise_iff_getElem]
 exact fun i j hi hj hij=>lt j i hj hij
def UN{l:List lC}{s:lC}{v:Int}(h:oY v s=false):qI (l++[s]) v=qI l v:=by
 unfold qI
 rw [List.find?_append]
 cases hf:l.find? (oY v) with
 | some t=>rfl
 | none=>simp [h]
def UO{l:List lC}{s:lC}{v:Int}(hl:∀t∈l,oY v t=false)(h:oY v s=true):qI (l++[s]) v=s.Set:=by
 unfold qI
 rw [List.find?_append,List.find?_eq_none.2 (fun t ht=>by simp [hl t ht])]
 simp [h]
structure Ni(l:List ac9)(f:Int)(k:Nat)(out:List lC):Prop where
 none:k=0→out=[]
 some:0 < k→∃(a:List lC) (s:lC),out=a++[s]∧s.To=(k:Int) - 1∧s.From≤(k:Int) - 1∧(∀v:Int,s.From≤v→v≤(k:Int) - 1→Dk l f v=s.Set)∧(∀t∈a,t.To < s.From)∧(∀v:Int,0≤v→v < s.From→qI a v=Dk l f v)
def Ni.find{l:List ac9}{f:Int}{k:Nat}{out:List lC}(h:Ni l f k out){v:Int}(h0:0≤v)(hv:v < k):qI out v=Dk l f v:=by
 obtain ⟨a,s,rfl,h1,h2,h3,h4,h5⟩:=h.some ab
 by_cases hc:s.From≤v
 ·rw [UO (fun t ht=>by have:=h4 t ht;simp [oY,aE];omega) (by simp [oY,aE];omega),h3 v hc ab]
 ·rw [UN (by simp [oY,aE];omega),h5 v h0 ab]
section
def dk(e:ar):List aM:=e.Store.ac7.getD e.adc.toNat []
def bD(l:List aM)(t:Int):List Row:=(l.filter fun v=>eB v t).map kL
def iF(e:ar)(a:ac8):List Row:=(bD (dk e) a.Time).filter (eh a.ac9)
def gN(e:ar)(a:ac8)(j:Nat):List Row:=((bD (dk e) a.Time).take j).filter (eh a.ac9)
def fl(l:List Int)(x:Int):List Int:=l.filter fun y=>!(y==x)
def kO(e:ar)(a:ac8):ac8:=⟨a.ac9,a.Time,fl a.adi e.adc,a.Age,a.Sent+((iF e a).length:Int),a.Cap,a.Rows++iF e a⟩
def jD(e:ar)(ids:List Int)(a:ac8):ac8:=if eR ids a.ac9.Id then kO e a else a
def cQ(e:ar)(k:Nat):List ac8:=e.ac8.map (jD e ((parts e).take k))
def yC(e:ar)(id:Int):ac8:=e.ac8.getD (fL e.ac8 id).toNat nN
def yD(e:ar)(id:Int):Int:=(yC e id).ac9.ade
def yE(e:ar)(id:Int):Int:=((iF e (yC e id)).length:Int)
def dV(e:ar)(k:Nat):hE:=⟨e.adc,((dk e).length:Int),(parts e).take k,((parts e).take k).map (yD e),((parts e).take k).map (yE e)⟩
def iG(n:Int)(a:ac8):ac8:=⟨a.ac9,a.Time,a.adi,a.Age+1,if (a.Age+1).tmod n=0 then 0 else a.Sent,a.Cap,a.Rows⟩
def cc(a:ac8):Bool:=decide (a.adi.length=0)
def hO(a:ac8):fJ:=⟨a.ac9,a.Time,a.Age,a.Rows⟩
def cj(e:ar)(k:Nat):List ac8:=(cQ e k).map (iG (e.Store.ac7.length:Int))
def jf(e:ar)(k m:Nat):List ac8:=((cj e k).take m).filter fun a=>!cc a
def hP(e:ar)(k m:Nat):List fJ:=(((cj e k).take m).filter cc).map hO
def kP(e:ar)(k:Nat):List hE:=if (parts e).length=0 then e.adl else e.adl++[dV e k]
def Dn(e:ar)(k m:Nat):ar:=⟨e.Store,(e.adc+1).tmod (e.Store.ac7.length:Int),e.Order,jf e k m,e.Done++hP e k m,kP e k,e.Steps+1⟩
def ke(e:ar):ar:=Dn e (parts e).length e.ac8.length
def jg(e:ar):Bool:=aP e&&(decide (e.Steps < 100000)&&(decide ((e.adl.length:Int) < 1000)&&decide ((e.Done.length:Int)+(e.ac8.length:Int)≤1000)))
def bS(e:ar):ar:=if jg e then cF (ke e) else e
def Nj{e:ar}(h:jg e=false):bS e=e:=if_neg eJ
def tl{e:ar}(h:jg e=true):bS e=cF (ke e):=if_pos h
def yF{e:ar}(h:jg e=true):aP e=true∧e.Steps < 100000∧(e.adl.length:Int) < 1000∧(e.Done.length:Int)+(e.ac8.length:Int)≤1000:=by
 unfold jg at h
 simp only [aT,decide_eq_true_eq] at h
 exact ⟨h.1,h.2.1,h.2.2.1,h.2.2.2⟩
def pj{e:ar}(h:aP e=true):e.ac8.Pairwise (fun a b=>a.ac9.Id < b.ac9.Id):=by
 unfold aP at h
 simp only [aT] at h
 exact UM h.2.1
def yG{e:ar}(h:aP e=true){i j:Nat}(hi:i < e.ac8.length)(hj:j < e.ac8.length)(he:e.ac8[i].ac9.Id=e.ac8[j].ac9.Id):i=j:=by
 have hp:=pj h
 rw [List.pairwise_iff_getElem] at hp
 rcases Nat.lt_trichotomy i j with h1|h1|h1
 ·have:=hp i j hi hj h1;omega
 ·exact h1
 ·have:=hp j i hj hi h1;omega
def Do{e:ar}(h:aP e=true):(parts e).Pairwise (· < ·):=by
 rw [vo h]
 unfold jc
 rw [List.pairwise_map]
 exact (pj h).filter _
def UP{l:List Int}(hp:l.Pairwise (· < ·)){k:Nat}(hk:k < l.length)(x:Int):eR (l.take (k+1)) x=(eR (l.take k) x||(l[k]==x)):=by
 unfold eR
 rw [cG hk,List.any_append];simp
def UQ{l:List Int}(hp:l.Pairwise (· < ·)){k:Nat}(hk:k < l.length):eR (l.take k) l[k]=false:=by
 unfold eR
 rw [List.any_eq_false]
 intro y hy
 obtain ⟨j,hj,rfl⟩:=List.mem_iff_getElem.1 hy
 rw [cu] at hj
 rw [List.pairwise_iff_getElem] at hp
 have:=hp j k ab hk ab
 simp
 omega
def Nk{e:ar}{k:Nat}(hok:aP e=true)(hk:k < (parts e).length):∃i,∃hi:i < e.ac8.length,fL e.ac8 (parts e)[k]=(i:Int)∧e.ac8[i].ac9.Id=(parts e)[k]∧eC e e.ac8[i]=true:=by
 have hm:∀x,x∈parts e→x∈jc e e.ac8:=fun x hx=>by rwa [vo hok] at hx
 have hm:=hm _ (List.getElem_mem hk)
 unfold jc at hm
 obtain ⟨a,ha,hid⟩:=List.mem_map.1 hm
 obtain ⟨ha,hp⟩:=List.mem_filter.1 ha
 obtain ⟨i,hi,rfl⟩:=List.mem_iff_getElem.1 ha
 refine ⟨i,hi,?_,hid,hp⟩
 refine Nb hi ?_ (by unfold jd;rw [hid];simp)
 rw [List.any_eq_false]
 intro b hb
 obtain ⟨j,hj,rfl⟩:=List.mem_iff_getElem.1 hb
 rw [cu] at hj
 intro hc
 unfold jd at hc
 have hc:e.ac8[j].ac9.Id=(parts e)[k]:=by simpa using hc
 have:=yG hok (show j < e.ac8.length by omega) hi (hc.trans hid.symm)
 omega
section
variable{e:ar}{k i j m:Nat}
def pk:(cQ e k).length=e.ac8.length:=by unfold cQ;rw [aO]
def yH(h:i < (cQ e k).length)(hi:i < e.ac8.length):(cQ e k)[i]=jD e ((parts e).take k) e.ac8[i]:=List.getElem_map (jD e ((parts e).take k))
def UR(hok:aP e=true)(hk:k < (parts e).length)(hi:i < e.ac8.length)(hid:e.ac8[i].ac9.Id=(parts e)[k])(h:i < (cQ e k).length):(cQ e k)[i]=e.ac8[i]:=by
 rw [yH h hi]
 unfold jD
 rw [hid,UQ (Do hok) hk,if_neg aF]
def US(hok:aP e=true)(hk:k < (parts e).length)(hi:i < e.ac8.length)(hid:e.ac8[i].ac9.Id=(parts e)[k]):(cQ e k).set i (kO e e.ac8[i])=cQ e (k+1):=by
 refine List.ext_getElem (by rw [List.length_set,pk,pk]) fun j h1 h2=>?_
 have hj:j < e.ac8.length:=by rw [pk] at h2;exact h2
 rw [List.getElem_set,yH h2 hj]
 unfold jD
 rw [UP (Do hok) hk]
 split
 ·rename_i hij
  subst hij
  rw [hid];simp
 ·rename_i hij
  rw [yH _ hj]
  unfold jD
  have:((parts e)[k]==e.ac8[j].ac9.Id)=false:=by
   rw [beq_eq_false_iff_ne]
   intro hc
   exact hij (yG hok hi hj (hid.trans hc))
  rw [this,Bool.or_false]
def UT:cQ e 0=e.ac8:=by
 unfold cQ
 have:∀a:ac8,jD e ((parts e).take 0) a=a:=fun a=>by unfold jD eR;simp
 rw [List.map_congr_left (g:=id) (fun a _=>this a),List.map_id]
def Nl{id:Int}(hi:i < e.ac8.length)(hf:fL e.ac8 id=(i:Int)):yC e id=e.ac8[i]:=by
 unfold yC;rw [hf];simp [hi]
def UU(hk:k < (parts e).length)(hi:i < e.ac8.length)(hf:fL e.ac8 (parts e)[k]=(i:Int)):dV e (k+1)=⟨e.adc,((dk e).length:Int),(dV e k).Ids++[(parts e)[k]],(dV e k).adf++[e.ac8[i].ac9.ade],(dV e k).Rows++[((iF e e.ac8[i]).length:Int)]⟩:=by
 have ha:=Nl hi hf
 unfold dV
 rw [cG hk]
 simp only [bL,List.map_cons,List.map_nil,yD,yE,ha]
def Dp(hk:k≤(parts e).length):(dV e k).Ids.length=k∧(dV e k).adf.length=k∧(dV e k).Rows.length=k:=by
 unfold dV
 simp only [aO,cu]
 omega
def Nn{a:ac8}(hj:j < (bD (dk e) a.Time).length)(h:eh a.ac9 (bD (dk e) a.Time)[j]=true):gN e a (j+1)=gN e a j++[(bD (dk e) a.Time)[j]]:=by
 unfold gN;rw [cG hj,eY];simp [h]
def No{a:ac8}(hj:j < (bD (dk e) a.Time).length)(h:eh a.ac9 (bD (dk e) a.Time)[j]=false):gN e a (j+1)=gN e a j:=by
 unfold gN;rw [cG hj,eY];simp [h]
def Dq{a:ac8}:gN e a (bD (dk e) a.Time).length=iF e a:=by unfold gN iF;rw [cC]
def yI(l:List aM)(t:Int):(bD l t).length≤l.length:=by unfold bD;rw [aO];exact jO _ _
def Np(h:e.adc.toNat < e.Store.ac7.length):e.Store.ac7[e.adc.toNat]=dk e:=by unfold dk;simp [h]
def Dr(hok:aP e=true):(dk e).length≤4:=by
 have hf:=kN hok
 rw [←Np hf.2.2.2.1]
 exact (qH hf.1).2.2.2.2.1 _ (List.getElem_mem _)
def yJ:(cj e k).length=e.ac8.length:=by unfold cj;rw [aO,pk]
def Nq(h:m < (cj e k).length)(h2:m < (cQ e k).length):(cj e k)[m]=iG (e.Store.ac7.length:Int) (cQ e k)[m]:=List.getElem_map (iG (e.Store.ac7.length:Int))
def UV(hm:m < (cj e k).length)(h:cc (cj e k)[m]=false):jf e k (m+1)=jf e k m++[(cj e k)[m]]:=by
 unfold jf;rw [cG hm,eY];simp [h]
def UW(hm:m < (cj e k).length)(h:cc (cj e k)[m]=true):jf e k (m+1)=jf e k m:=by
 unfold jf;rw [cG hm,eY];simp [h]
def UX(hm:m < (cj e k).length)(h:cc (cj e k)[m]=true):hP e k (m+1)=hP e k m++[hO (cj e k)[m]]:=by
 unfold hP;rw [cG hm,eY];simp [h]
def UY(hm:m < (cj e k).length)(h:cc (cj e k)[m]=false):hP e k (m+1)=hP e k m:=by
 unfold hP;rw [cG hm,eY];simp [h]
def Nr:(jf e k m).length≤m:=by
 have:=jO (fun a=>!cc a) ((cj e k).take m)
 rw [cu] at this
 unfold jf;omega
def Ns:(hP e k m).length≤m:=by
 have:=jO cc ((cj e k).take m)
 rw [cu] at this
 unfold hP;rw [aO];omega
def UZ{n:Int}{a:ac8}(h:(a.Age+1).tmod n=0):iG n a=⟨a.ac9,a.Time,a.adi,a.Age+1,0,a.Cap,a.Rows⟩:=by unfold iG;rw [if_pos h]
def Va{n:Int}{a:ac8}(h:¬(a.Age+1).tmod n=0):iG n a=⟨a.ac9,a.Time,a.adi,a.Age+1,a.Sent,a.Cap,a.Rows⟩:=by unfold iG;rw [if_neg h]
def Nt(l:List Int)(x:Int):(fl l x).length≤l.length:=jO _ _
def Vb{l:List Int}{x:Int}(hk:k < l.length)(h:¬l[k]=x):fl (l.take (k+1)) x=fl (l.take k) x++[l[k]]:=by
 unfold fl;rw [cG hk,eY];simp [h]
def Vc{l:List Int}{x:Int}(hk:k < l.length)(h:l[k]=x):fl (l.take (k+1)) x=fl (l.take k) x:=by
 unfold fl;rw [cG hk,eY];simp [h]
end
def Vd{l:List aM}{t:Int}{k:Nat}(hk:k < l.length)(h:eB l[k] t=true):bD (l.take (k+1)) t=bD (l.take k) t++[kL l[k]]:=by
 unfold bD;rw [cG hk,eY];simp [h]
def Ve{l:List aM}{t:Int}{k:Nat}(hk:k < l.length)(h:eB l[k] t=false):bD (l.take (k+1)) t=bD (l.take k) t:=by
 unfold bD;rw [cG hk,eY];simp [h]
def Vf(a b:List Row):eg (a++b)=eg a+eg b:=by unfold eg;simp;omega
def Vg{e:ar}(hok:aP e=true):∀v∈dk e,bf (kL v)=true:=by
 intro v hv
 have hf:=kN hok
 rw [←Np hf.2.2.2.1] at hv
 obtain ⟨j,hj,rfl⟩:=List.mem_iff_getElem.1 hv
 have:=Dj hf.1 hf.2.2.2.1 hj
 unfold en at this
 rw [aT] at this
 exact this.1
def Nu:∀l:List Row,(∀r∈l,bf r=true)→eg l=4 * l.length
 | [],_=>rfl
 | r::l,h=>by
  have ih:=Nu l fun x hx=>h x (List.mem_cons_of_mem _ hx)
  have hr:r.Values.length=3:=by
   have:=h r List.mem_cons_self
   simp [bf,aE] at this;omega
  have hw:gx r=3:=by simp only [gx,fy,aX];omega
  unfold eg at ih ⊢
  rw [List.length_cons,List.map_cons,List.sum_cons,hw];omega
def Nv{e:ar}(hok:aP e=true)(t:Int):∀r∈bD (dk e) t,bf r=true:=by
 intro r hr
 unfold bD at hr
 obtain ⟨v,hv,rfl⟩:=List.mem_map.1 hr
 exact Vg hok v (List.mem_filter.1 hv).1
def Ds{e:ar}(hok:aP e=true)(a:ac8)(j:Nat):eg (gN e a j)≤16∧(gN e a j).length≤4:=by
 have hl:(gN e a j).length≤4:=by
  have h1:=jO (eh a.ac9) ((bD (dk e) a.Time).take j)
  rw [cu] at h1
  have h2:=yI (dk e) a.Time
  have h3:=Dr hok
  unfold gN;omega
 have hw:=Nu (gN e a j) fun r hr=>Nv hok a.Time r (List.mem_of_mem_take (List.mem_filter.1 hr).1)
 omega
def Vh{e:ar}(hok:aP e=true)(a:ac8):dc (kO e a)≤dc a+16:=by
 have h1:=Ds hok a (bD (dk e) a.Time).length
 rw [Dq] at h1
 have h2:=Nt a.adi e.adc
 unfold kO dc
 simp only [fy,aX,Vf]
 omega
def Vi{e:ar}(hok:aP e=true)(k:Nat):((cQ e k).map dc).sum≤(e.ac8.map dc).sum+16 * e.ac8.length:=by
 unfold cQ
 generalize e.ac8=l
 induction l with
 | nil=>simp
 | cons a l ih=>
  simp only [List.map_cons,List.sum_cons,List.length_cons] at *
  have h1:dc (jD e ((parts e).take k) a)≤dc a+16:=by
   unfold jD
   split
   ·exact Vh hok a
   ·omega
  omega
def Vj(n:Int)(a:ac8):dc (iG n a)=dc a:=by unfold iG dc;simp only [aX]
def Vk(a:ac8):mF (hO a)≤dc a:=by unfold hO mF dc;simp only [aX];omega
def Nw:∀l:List ac8,((l.filter fun a=>!cc a).map dc).sum+(((l.filter cc).map hO).map mF).sum≤(l.map dc).sum
 | []=>by simp
 | a::l=>by
  have ih:=Nw l
  have hf:=Vk a
  simp only [List.filter_cons]
  cases h:cc a
  ·simp only [Bool.not_false,if_true,List.map_cons,List.sum_cons,if_neg (by simp:¬(false=true))];omega
  ·simp only [Bool.not_true,if_true,List.map_cons,List.sum_cons,if_neg (by simp:¬(false=true))];omega
def Dt:∀l:List ac8,(l.filter fun a=>!cc a).length+(l.filter cc).length=l.length
 | []=>rfl
 | a::l=>by
  have ih:=Dt l
  simp only [List.filter_cons]
  cases h:cc a<;>simp<;>omega
def Vl{e:ar}{k:Nat}(hk:k≤(parts e).length):sY (dV e k)=3 * k:=by
 have:=Dp hk
 simp only [sY,fy,aX]
 omega
def Nx{e:ar}(hok:aP e=true):bw (ke e)≤bw e+200:=by
 have hf:=kN hok
 have hp:=Dm (e:=e)
 have h1:=Vi hok (parts e).length
 have h2:((cj e (parts e).length).map dc).sum=((cQ e (parts e).length).map dc).sum:=by
  unfold cj
  rw [List.map_map]
  exact congrArg List.sum (List.map_congr_left fun a _=>Vj _ a)
 have h3:=Nw (cj e (parts e).length)
 have h4:=Dt (cj e (parts e).length)
 have h5:=yJ (e:=e) (k:=(parts e).length)
 have hr:jf e (parts e).length e.ac8.length=(cj e (parts e).length).filter fun a=>!cc a:=by
  unfold jf;rw [oo ab]
 have hd:hP e (parts e).length e.ac8.length=((cj e (parts e).length).filter cc).map hO:=by
  unfold hP;rw [oo ab]
 have hc:=Vl (e:=e) (Nat.le_refl _)
 have hl:kJ (kP e (parts e).length)≤kJ e.adl+25:=by
  unfold kP
  split
  ·omega
  ·unfold kJ
   rw [aZ,bL,List.sum_append]
   simp only [List.map_cons,List.map_nil,List.sum_cons,List.sum_nil,List.length_cons,List.length_nil,hc]
   omega
 unfold ke Dn bw
 dsimp only
 simp only [aX,jZ,mG,hr,hd,aZ,bL,List.sum_append,aO] at *
 omega
def Du(e:ar):bw (cF e)≤bw e:=by
 have:=Nh e.Store (fk e.ac8)
 unfold cF bw
 dsimp only
 omega
def Vm(e:ar):bw (bS e)≤bw e+200:=by
 unfold bS
 split
 ·rename_i h
  have h1:=Nx (yF h).1
  have h2:=Du (ke e)
  omega
 ·omega
def Ny{s:Store}{a:ac8}(h:gn s a=true):0≤a.Sent∧a.Sent≤1000∧0≤a.Age∧a.Age≤100000∧a.Rows.length≤1000∧aQ a.ac9=true:=by
 unfold gn at h
 simp only [aT,aE,decide_eq_true_eq,fZ] at h
 exact ⟨ab,ab,ab,ab,ab,h.2.1⟩
def Nz{e:ar}(h:aP e=true){k i:Nat}(hi:i < e.ac8.length)(h2:i < (cQ e k).length):0≤(cQ e k)[i].Age∧(cQ e k)[i].Age≤100000:=by
 have ha:=Ny ((kN h).2.2.2.2.2.2.2.2.2.1 _ (List.getElem_mem hi))
 rw [yH h2 hi]
 unfold jD
 split<;>exact ⟨ha.2.2.1,ha.2.2.2.1⟩
def Dv{e:ar}(h:aP e=true)(a:ac8):(iF e a).length≤4:=by
 have:=(Ds h a (bD (dk e) a.Time).length).2
 rwa [Dq] at this
def kf(z:ac8×(Nat→Value)):List PV:=[PV.nv (z.2 0) (PV.val (vI z.1.ac9.Id)),PV.nv (z.2 1) (PV.val (vI z.1.ac9.ade)),PV.nv (z.2 2) (PV.sl .v (z.1.ac9.ada.map bU)),PV.nv (z.2 3) (PV.sl .v (z.1.ac9.Out.map ax)),PV.nv (z.2 4) (PV.val (vI z.1.Time)),PV.nv (z.2 5) (PV.sl .v (z.1.adi.map ax)),PV.nv (z.2 6) (PV.val (vI z.1.Age)),PV.nv (z.2 7) (PV.val (vI z.1.Sent)),PV.nv (z.2 8) (PV.val (vI z.1.Cap)),PV.nv (z.2 9) (PV.sl .v (z.1.Rows.map (cg ak)))]
def Vn(z:Row×(Nat→Value)):List PV:=[PV.nv (z.2 0) (PV.val (vI z.1.Id)),PV.nv (z.2 1) (PV.sl .v (z.1.Values.map ax))]
def Dw{α:Type}{d:α}{p:α→Bool}{r:α→α→Bool}{l:List α}(h1:∀x∈l,p x=true)(h2:l.Pairwise (fun a b=>r a b=true)):eS d p r l=true:=by
 unfold eS lG
 rw [nk]
 intro i hi
 have hi:=List.mem_range.1 hi
 rw [iC hi,h1 _ (List.getElem_mem hi),Bool.true_and]
 cases i with
 | zero=>rfl
 | succ i=>
  rw [List.pairwise_iff_getElem] at h2
  rw [show i+1 - 1=i from rfl,iC (show i < l.length by omega),h2 i (i+1) ab hi ab]
  simp
end
section
def kQ(k:Nat):List Int:=(List.range k).map fun i:Nat=>(i:Int)
def Vo(k:Nat):kQ (k+1)=kQ k++[(k:Int)]:=by simp [kQ,List.range_succ]
def yK(k:Nat):(kQ k).length=k:=by simp [kQ]
def du(e:ar)(q:ac9)(l:Int):ac8:=⟨q,e.Store.Now,kQ e.Store.ac7.length,0,0,l,[]⟩
def hY(x:Int)(a:ac8):Bool:=decide (a.ac9.Id < x)
def eT(l:List ac8)(x:Int):Nat:=(l.filter (hY x)).length
def gO(e:ar)(q:ac9)(l:Int):List ac8:=e.ac8.filter (hY q.Id)++du e q l::e.ac8.drop (eT e.ac8 q.Id)
def iH(e:ar)(q:ac9)(l:Int):Bool:=((aP e&&aQ q)&&aE l 0 32)&&(decide (fL e.ac8 q.Id < 0)&&decide ((e.ac8.length:Int) < 8))
def fe(e:ar)(q:ac9)(l:Int):ar×Bool:=if iH e q l then (⟨e.Store,e.adc,e.Order,gO e q l,e.Done,e.adl,e.Steps⟩,true) else (e,false)
def tm{e:ar}{q:ac9}{l:Int}(h:iH e q l=false):fe e q l=(e,false):=if_neg eJ
def mT{e:ar}{q:ac9}{l:Int}(h:iH e q l=true):fe e q l=(⟨e.Store,e.adc,e.Order,gO e q l,e.Done,e.adl,e.Steps⟩,true):=if_pos h
def qL{e:ar}{q:ac9}{l:Int}(h:iH e q l=true):aP e=true∧aQ q=true∧(0≤l∧l≤32)∧fL e.ac8 q.Id < 0∧(e.ac8.length:Int) < 8:=by
 unfold iH at h
 simp only [aT,decide_eq_true_eq,aE] at h
 exact ⟨h.1.1.1,h.1.1.2,h.1.2,h.2.1,h.2.2⟩
def iI(x:Int)(zs:List (ac8×(Nat→Value))):List (ac8×(Nat→Value)):=zs.filter fun z=>hY x z.1
section
variable{zs:List (ac8×(Nat→Value))}{l:List ac8}{x:Int}{k:Nat}
def Vp(hk:k < zs.length)(h:hY x zs[k].1=true):iI x (zs.take (k+1))=iI x (zs.take k)++[zs[k]]:=by
 unfold iI;rw [cG hk,eY];simp [h]
def Vq(hk:k < zs.length)(h:hY x zs[k].1=false):iI x (zs.take (k+1))=iI x (zs.take k):=by
 unfold iI;rw [cG hk,eY];simp [h]
def Vr:(iI x (zs.take k)).length≤k:=by
 have:=jO (fun z:ac8×(Nat→Value)=>hY x z.1) (zs.take k)
 rw [cu] at this;unfold iI;omega
def NA(hz:zs.map Prod.fst=l):(iI x zs).map Prod.fst=l.filter (hY x):=by
 subst hz;unfold iI;rw [List.filter_map];rfl
def NB(hz:zs.map Prod.fst=l):(iI x zs).length=eT l x:=by
 unfold eT;rw [←NA hz,aO]
def tn{α:Type}(key:α→Int)(x:Int):∀{l:List α},l.Pairwise (fun a b=>key a < key b)→l.filter (fun a=>decide (key a < x))=l.take (l.filter fun a=>decide (key a < x)).length
 | [],_=>rfl
 | a::l,h=>by
  have ⟨h1,h2⟩:=List.pairwise_cons.1 h
  have ih:=tn key x h2
  rw [List.filter_cons]
  split
  ·rw [List.length_cons,List.take_succ_cons,←ih]
  ·rename_i hc
   have hc:¬key a < x:=by simpa using hc
   have:l.filter (fun a=>decide (key a < x))=[]:=by
    rw [List.filter_eq_nil_iff]
    intro b hb
    have:=h1 b hb
    simp;omega
   rw [this];rfl
def Vs{e:ar}(hok:aP e=true)(hz:zs.map Prod.fst=e.ac8):zs.Pairwise (fun a b=>a.1.ac9.Id < b.1.ac9.Id):=by
 have:=pj hok
 rw [←hz,List.pairwise_map] at this
 exact this
def NC{e:ar}(hok:aP e=true)(hz:zs.map Prod.fst=e.ac8):iI x zs=zs.take (eT e.ac8 x):=by
 have h:=tn (fun z:ac8×(Nat→Value)=>z.1.ac9.Id) x (Vs hok hz)
 have hl:=NB (x:=x) hz
 unfold iI hY at *
 rw [h,hl]
def Vt{e:ar}:eT e.ac8 x≤e.ac8.length:=jO _ _
def Vu{e:ar}(hok:aP e=true)(hk:k < e.ac8.length):e.ac8[k].ac9.Id < x↔k < eT e.ac8 x:=by
 have h:=tn (fun a:ac8=>a.ac9.Id) x (pj hok)
 have hc:eT e.ac8 x=(e.ac8.filter fun a=>decide (a.ac9.Id < x)).length:=rfl
 rw [←hc] at h
 constructor
 ·intro hx
  have hm:e.ac8[k]∈e.ac8.filter fun a=>decide (a.ac9.Id < x):=List.mem_filter.2 ⟨List.getElem_mem hk,ro⟩
  rw [h] at hm
  obtain ⟨j,hj,hje⟩:=List.mem_iff_getElem.1 hm
  rw [cu] at hj
  rw [List.getElem_take] at hje
  have:=yG hok (show j < e.ac8.length by omega) hk (by rw [hje])
  omega
 ·intro hx
  have hm:e.ac8[k]∈e.ac8.take (eT e.ac8 x):=by
   rw [GC];exact ⟨k,fR,by rw [List.getElem_take]⟩
  rw [←h] at hm
  have:=(List.mem_filter.1 hm).2
  simpa using this
def ND{e:ar}(h:fL e.ac8 x < 0)(hk:k < e.ac8.length):e.ac8[k].ac9.Id≠x:=by
 intro hx
 unfold fL at h
 rw [if_pos (qA hk (by unfold jd;simpa using hx))] at h
 omega
def Vv{zn:ac8×(Nat→Value)}{p:Nat}:((zs.take p++zn::zs.drop p)++[]).Perm ([zn]++zs):=by
 rw [dJ]
 refine List.perm_middle.trans ?_
 rw [fh];exact List.Perm.refl _
def Vw{e:ar}{q:ac9}{li:Int}{kn:Nat→Value}(hok:aP e=true)(hz:zs.map Prod.fst=e.ac8):(zs.take (eT e.ac8 q.Id)++(du e q li,kn)::zs.drop (eT e.ac8 q.Id)).map Prod.fst=gO e q li:=by
 unfold gO
 rw [←NC hok hz,bL,NA hz,List.map_cons,List.map_drop,hz]
end
def Vx{e:ar}{q:ac9}{l:Int}:dc (du e q l)=fI q+e.Store.ac7.length:=by
 unfold du dc
 simp only [fy,aX,yK,eg,List.map_nil,List.sum_nil,List.length_nil];omega
def Vy(e:ar)(q:ac9)(l:Int):bw (fe e q l).1≤bw e+fI q+10:=by
 unfold fe
 split
 ·rename_i h
  have hf:=qL h
  have hef:=kN hf.1
  obtain ⟨hs8,_,_,_,_,_⟩:=qH hef.1
  have hn:=Vx (e:=e) (q:=q) (l:=l)
  have hsum:∀(L:List ac8) (x:Int),(∀a∈L,True)→L.Pairwise (fun a b=>a.ac9.Id < b.ac9.Id)→(L.filter (hY x)++L.drop (eT L x))=L:=by
   intro L x _ hp
   have h:=tn (fun a:ac8=>a.ac9.Id) x hp
   have:L.filter (hY x)=L.take (eT L x):=h
   rw [this,fh]
  have hs:=hsum e.ac8 q.Id (fun _ _=>trivial) (pj hf.1)
  have h1:(gO e q l).length=e.ac8.length+1:=by
   conv=>rhs;rw [←hs]
   unfold gO;simp only [aZ,List.length_cons];omega
  have h2:((gO e q l).map dc).sum=(e.ac8.map dc).sum+dc (du e q l):=by
   conv=>rhs;rw [←hs]
   unfold gO;simp only [bL,List.map_cons,List.sum_append,List.sum_cons];omega
  unfold bw jZ
  dsimp only
  rw [h1,h2,hn];omega
 ·dsimp only;omega
end
def qM(e:ar)(i:Nat):ar:=⟨e.Store,e.adc,e.Order,fX e.ac8 i,e.Done,e.adl,e.Steps⟩
def kR(e:ar)(id:Int):Bool:=aP e&&decide (0≤fL e.ac8 id)
def ff(e:ar)(id:Int):ar×Bool:=if kR e id then (cF (qM e (fL e.ac8 id).toNat),true) else (e,false)
def Dx{e:ar}{id:Int}(h:kR e id=false):ff e id=(e,false):=if_neg eJ
def Vz{e:ar}{id:Int}(h:kR e id=true):ff e id=(cF (qM e (fL e.ac8 id).toNat),true):=if_pos h
def Dy{e:ar}{id:Int}{i:Nat}(h:kR e id=true)(hf:fL e.ac8 id=(i:Int)):ff e id=(cF (qM e i),true):=by rw [Vz h,hf];rfl
def NE{l:List ac8}{id:Int}(h:0≤fL l id):∃i:Nat,i < l.length∧fL l id=(i:Int):=by
 unfold fL at *
 split at h
 ·rename_i ha
  rw [if_pos ha]
  obtain ⟨a,ha1,ha2⟩:=List.any_eq_true.1 ha
  exact ⟨l.findIdx (jd id),List.findIdx_lt_length_of_exists ⟨a,ha1,ha2⟩,rfl⟩
 ·omega
def VA{α β:Type}{f:α→β}{zs:List α}{l:List β}{i:Nat}(hz:zs.map f=l):(fX zs i).map f=fX l i:=by
 subst hz;unfold fX;rw [bL,List.map_take,List.map_drop]
def NF{α:Type}{zs:List α}{i:Nat}(hi:i < zs.length):(fX zs i++[zs[i]]).Perm zs:=by
 unfold fX
 have:zs=zs.take i++(zs[i]::zs.drop (i+1)):=by rw [←List.drop_eq_getElem_cons hi,fh]
 conv=>rhs;rw [this]
 rw [aW]
 refine fT _ ?_
 exact List.perm_append_singleton _ _
def NG{e:ar}{i:Nat}(hi:i < e.ac8.length):bw (qM e i)≤bw e:=by
 have hs:((fX e.ac8 i).map dc).sum+dc e.ac8[i]=(e.ac8.map dc).sum:=by
  have:=((NF hi).map dc).sum_nat
  rw [bL,List.sum_append] at this
  simpa using this
 have hl:=HW hi
 unfold qM bw jZ
 dsimp only
 rw [hl];omega
def VB(e:ar)(id:Int):bw (ff e id).1≤bw e:=by
 cases h:kR e id with
 | false=>rw [Dx h];exact Nat.le_refl _
 | true=>
  have h2:=h
  unfold kR at h2
  simp only [aT,decide_eq_true_eq] at h2
  obtain ⟨i,hi,hf⟩:=NE h2.2
  rw [Dy h hf]
  have h3:=Du (qM e i)
  have h4:=NG hi
  dsimp only;omega
def jE(id:Int)(v:aM):Bool:=decide (v.Id=id)&&decide (v.adj = -1)
def hZ(id:Int)(l:List aM):Bool:=l.any (jE id)
def dv(s:Store)(i:Nat):List aM:=s.ac7.getD i []
def bX(s:Store)(id:Int):Int:=if s.ac7.any (hZ id) then ((s.ac7.findIdx (hZ id):Nat):Int) else -1
def lO(s:Store)(id:Int):Int:=if s.ac7.any (hZ id) then (((dv s (s.ac7.findIdx (hZ id))).findIdx (jE id):Nat):Int) else -1
def Dz{α:Type}{P:α→Bool}{l:List α}{k:Nat}(hk:k < l.length)(h:(l.take k).any P=false)(hy:P l[k]=true):l.findIdx P=k:=by
 rw [List.findIdx_eq hk]
 refine ⟨hy,fun j hj=>?_⟩
 rw [List.any_eq_false] at h
 have:=h l[j] GA
 simpa using this
def VC{s:Store}{id:Int}{i k:Nat}(hi:i < s.ac7.length)(h1:(s.ac7.take i).any (hZ id)=false)(hk:k < s.ac7[i].length)(h2:(s.ac7[i].take k).any (jE id)=false)(hy:jE id s.ac7[i][k]=true):bX s id=(i:Int)∧lO s id=(k:Int):=by
 have ha:hZ id s.ac7[i]=true:=qA hk hy
 have hany:s.ac7.any (hZ id)=true:=qA hi ha
 have e1:=Dz hi h1 ha
 have e2:=Dz hk h2 hy
 unfold bX lO dv
 rw [if_pos hany,if_pos hany,e1,List.getD_eq_getElem?_getD,List.getElem?_eq_getElem hi]
 exact ⟨rfl,by show ((s.ac7[i].findIdx (jE id):Nat):Int)=_;rw [e2]⟩
def VD{s:Store}{id:Int}(h:s.ac7.any (hZ id)=false):bX s id = -1∧lO s id = -1:=by
 unfold bX lO
 rw [if_neg eJ,if_neg eJ]
 exact ⟨rfl,rfl⟩
def mU{s:Store}{id:Int}(h:0≤bX s id):∃i k:Nat,∃hi:i < s.ac7.length,∃hk:k < s.ac7[i].length,bX s id=(i:Int)∧lO s id=(k:Int)∧jE id s.ac7[i][k]=true:=by
 unfold bX at h
 split at h
 ·rename_i ha
  obtain ⟨l,hl,hp⟩:=List.any_eq_true.1 ha
  have hi:s.ac7.findIdx (hZ id) < s.ac7.length:=List.findIdx_lt_length_of_exists ⟨l,hl,hp⟩
  have hpi:hZ id (s.ac7[s.ac7.findIdx (hZ id)])=true:=List.findIdx_getElem (w:=hi)
  obtain ⟨v,hv,hvp⟩:=List.any_eq_true.1 hpi
  have hk:s.ac7[s.ac7.findIdx (hZ id)].findIdx (jE id) < s.ac7[s.ac7.findIdx (hZ id)].length:=List.findIdx_lt_length_of_exists ⟨v,hv,hvp⟩
  refine ⟨_,_,hi,hk,?_,?_,List.findIdx_getElem (w:=hk)⟩
  ·unfold bX;rw [if_pos ha]
  ·unfold lO dv;rw [if_pos ha,List.getD_eq_getElem?_getD,List.getElem?_eq_getElem hi];rfl
 ·omega
def ia(l:List aM):Bool:=decide ((l.length:Int) < 4)
def jh(L:List (List aM)):Int:=if L.any ia then ((L.findIdx ia:Nat):Int) else -1
def VE{L:List (List aM)}{k:Nat}(hk:k < L.length)(h:(L.take k).any ia=false)(hy:ia L[k]=true):jh L=(k:Int):=by
 unfold jh;rw [if_pos (qA hk hy),Dz hk h hy]
def VF{L:List (List aM)}(h:L.any ia=false):jh L = -1:=if_neg eJ
def vq{L:List (List aM)}(h:0≤jh L):∃r:Nat,∃hr:r < L.length,jh L=(r:Int)∧L[r].length < 4:=by
 unfold jh at h
 split at h
 ·rename_i ha
  obtain ⟨l,hl,hp⟩:=List.any_eq_true.1 ha
  have hr:L.findIdx ia < L.length:=List.findIdx_lt_length_of_exists ⟨l,hl,hp⟩
  have hpi:ia L[L.findIdx ia]=true:=List.findIdx_getElem (w:=hr)
  refine ⟨_,hr,by unfold jh;rw [if_pos ha],?_⟩
  have:∀l:List aM,ia l=true→l.length < 4:=fun l hl=>by unfold ia at hl;simp only [decide_eq_true_eq] at hl;omega
  exact this _ hpi
 ·omega
def ib(n:Int)(v:aM):aM:=⟨v.Id,v.Values,v.ado,n⟩
def DA(s:Store)(i k:Int):aM:=(dv s i.toNat).getD k.toNat v0
def co(s:Store)(u:adb):List (List aM):=if 0≤bX s u.Row.Id then s.ac7.set (bX s u.Row.Id).toNat ((dv s (bX s u.Row.Id).toNat).set (lO s u.Row.Id).toNat (ib (s.Now+1) (DA s (bX s u.Row.Id) (lO s u.Row.Id)))) else s.ac7
def iJ(s:Store)(u:adb):List Int:=if 0≤bX s u.Row.Id then (DA s (bX s u.Row.Id) (lO s u.Row.Id)).Values else u.Row.Values
def ji(s:Store)(u:adb):List Int:=if u.Kind=3 then (iJ s u).set u.Field.toNat u.Value else iJ s u
def iK(s:Store)(u:adb):aM:=⟨u.Row.Id,ji s u,s.Now+1,-1⟩
def mV(L:List (List aM))(r:Nat)(v:aM):List (List aM):=L.set r (L.getD r []++[v])
def eD(s:Store)(u:adb):Bool:=((bV s&&ci u)&&decide (s.Now < 100000))&&(decide (0≤bX s u.Row.Id)==!decide (u.Kind=1)&&(decide (u.Kind=2)||decide (0≤jh s.ac7)))
def eE(s:Store)(u:adb):Store:=⟨if u.Kind=2 then co s u else mV (co s u) (jh s.ac7).toNat (iK s u),s.Now+1⟩
def dw(s:Store)(u:adb):Store×Bool:=if eD s u then (eE s u,true) else (s,false)
def qN{s:Store}{u:adb}(h:eD s u=false):dw s u=(s,false):=if_neg eJ
def qO{s:Store}{u:adb}(h:eD s u=true):dw s u=(eE s u,true):=if_pos h
def qP{s:Store}{u:adb}(h:eD s u=true)(hk:u.Kind=2):dw s u=(⟨co s u,s.Now+1⟩,true):=by rw [qO h];unfold eE;rw [if_pos hk]
def vr{s:Store}{u:adb}{r:Nat}(h:eD s u=true)(hk:¬u.Kind=2)(hr:jh s.ac7=(r:Int)):dw s u=(⟨mV (co s u) r (iK s u),s.Now+1⟩,true):=by
 rw [qO h];unfold eE;rw [if_neg hk,hr];rfl
def lP{s:Store}{u:adb}{i k:Nat}(hi:i < s.ac7.length)(hk:k < s.ac7[i].length)(h1:bX s u.Row.Id=(i:Int))(h2:lO s u.Row.Id=(k:Int)):co s u=s.ac7.set i (s.ac7[i].set k (ib (s.Now+1) s.ac7[i][k]))∧iJ s u=s.ac7[i][k].Values:=by
 have e1:dv s i=s.ac7[i]:=by unfold dv;simp [hi]
 unfold co iJ DA
 rw [h1,h2,if_pos ab,if_pos ab,Int.toNat_natCast,Int.toNat_natCast,e1]
 simp [hk]
def lQ{s:Store}{u:adb}(h:¬0≤bX s u.Row.Id):co s u=s.ac7∧iJ s u=u.Row.Values:=by
 unfold co iJ;rw [if_neg h,if_neg h];exact ⟨rfl,rfl⟩
def NH(s:Store)(u:adb):(co s u).map List.length=s.ac7.map List.length:=by
 by_cases h:0≤bX s u.Row.Id
 ·obtain ⟨i,k,hi,hk,h1,h2,_⟩:=mU h
  rw [(lP hi hk h1 h2).1]
  apply List.ext_getElem
  ·simp
  ·intro j hj1 hj2
   simp only [List.getElem_map,List.getElem_set]
   split
   ·rename_i hij;subst hij;simp
   ·rfl
 ·rw [(lQ h).1]
def nP(s:Store)(u:adb):(co s u).length=s.ac7.length:=by
 have:=congrArg List.length (NH s u)
 simpa using this
def DB(s:Store)(u:adb){k:Nat}(hk:k < (co s u).length)(hk2:k < s.ac7.length):(co s u)[k].length=s.ac7[k].length:=by
 have h:=NH s u
 have:=List.getElem_of_eq h (show k < ((co s u).map List.length).length by rw [aO];exact hk)
 simpa using this
def VG(n:Int)(v:aM):eP (ib n v)=eP v:=by unfold ib eP;simp only [aX]
def yL{α:Type}{f:α→Nat}:∀{l:List α} {i:Nat} {x:α} (hi:i < l.length),((l.set i x).map f).sum+f l[i]=(l.map f).sum+f x
 | y::l,0,x,_=>by simp;omega
 | y::l,i+1,x,h=>by
  have:=yL (f:=f) (l:=l) (i:=i) (x:=x) om
  simp only [List.set_cons_succ,List.map_cons,List.sum_cons,List.getElem_cons_succ]
  omega
def NI(s:Store)(u:adb):kb (co s u)=kb s.ac7:=by
 by_cases h:0≤bX s u.Row.Id
 ·obtain ⟨i,k,hi,hk,h1,h2,_⟩:=mU h
  rw [(lP hi hk h1 h2).1]
  have e1:=yL (f:=dS) (x:=s.ac7[i].set k (ib (s.Now+1) s.ac7[i][k])) hi
  have e2:=yL (f:=eP) (x:=ib (s.Now+1) s.ac7[i][k]) hk
  rw [VG] at e2
  have e3:dS (s.ac7[i].set k (ib (s.Now+1) s.ac7[i][k]))=dS s.ac7[i]:=by unfold dS;rw [List.length_set];omega
  unfold kb
  rw [List.length_set];omega
 ·rw [(lQ h).1]
def VH(s:Store)(u:adb):(ji s u).length≤eQ s+iB u:=by
 have h0:(ji s u).length=(iJ s u).length:=by unfold ji;split<;>simp
 rw [h0]
 by_cases h:0≤bX s u.Row.Id
 ·obtain ⟨i,k,hi,hk,h1,h2,_⟩:=mU h
  rw [(lP hi hk h1 h2).2]
  have w1:=gw (f:=dS) hi
  have w2:=gw (f:=eP) hk
  have w3:dS s.ac7[i]=s.ac7[i].length+(s.ac7[i].map eP).sum:=rfl
  have w4:eP s.ac7[i][k]=s.ac7[i][k].Values.length:=zW
  unfold eQ kb
  simp only [aX];omega
 ·rw [(lQ h).2]
  unfold iB gx
  simp only [fy,aX];omega
def NJ{s:Store}{u:adb}(hs:bV s=true)(h:0≤bX s u.Row.Id):(iJ s u).length=3:=by
 obtain ⟨i,k,hi,hk,h1,h2,_⟩:=mU h
 rw [(lP hi hk h1 h2).2]
 have hv:=Dj hs hi hk
 unfold en at hv
 rw [aT] at hv
 exact yt hv.1
def VI{u:adb}(h:ci u=true)(hk:u.Kind=3):0≤u.Field∧u.Field≤2:=by
 unfold ci at h
 rw [if_neg ab,if_neg ab,if_pos hk] at h
 simp only [aT,aE,decide_eq_true_eq] at h
 exact h.2.1
def to{s:Store}{u:adb}(h1:bV s=true)(h2:ci u=true)(h3:s.Now < 100000)(h4:0≤bX s u.Row.Id↔¬u.Kind=1)(h5:u.Kind=2∨0≤jh s.ac7):eD s u=true:=by
 unfold eD
 rw [h1,h2,decide_eq_true h3]
 have e1:(decide (0≤bX s u.Row.Id)==!decide (u.Kind=1))=true:=by
  by_cases a:0≤bX s u.Row.Id<;>by_cases b:u.Kind=1<;>simp_all
 have e2:(decide (u.Kind=2)||decide (0≤jh s.ac7))=true:=by
  rcases h5 with h|h<;>simp [h]
 rw [e1,e2];rfl
def pn{s:Store}{u:adb}(h:eD s u=true):bV s=true∧ci u=true∧s.Now < 100000∧(0≤bX s u.Row.Id↔¬u.Kind=1)∧(u.Kind=2∨0≤jh s.ac7):=by
 unfold eD at h
 simp only [aT,Bool.or_eq_true,decide_eq_true_eq] at h
 obtain ⟨⟨⟨h1,h2⟩,h3⟩,h4,h5⟩:=h
 refine ⟨h1,h2,h3,?_,h5⟩
 by_cases a:0≤bX s u.Row.Id<;>by_cases b:u.Kind=1<;>simp_all
def po{L:List (List aM)}{r:Nat}{v:aM}(hr:r < L.length):mV L r v=L.set r (L[r]++[v]):=by unfold mV;simp [hr]
def mW(n:Int):Nat:=(min (max n 0) 200).toNat
def NK(n:Int):mW n≤200:=by unfold mW;omega
def gP(e:ar):Nat→ar
 | 0=>e
 | k+1=>bS (gP e k)
def iL(e:ar)(n:Int):ar:=gP e (mW n)
def DC(e:ar):∀k:Nat,bw (gP e k)≤bw e+200 * k
 | 0=>by rw [gP];omega
 | k+1=>by
  have h1:=DC e k
  have h3:=Vm (gP e k)
  rw [gP];omega
def VJ(e:ar)(n:Int):bw (iL e n)≤bw e+40000:=by
 have h1:=DC e (mW n)
 have h2:=NK n
 unfold iL;omega
def VK{q:ac9}(h:aQ q=true):fI q≤6:=by
 unfold aQ kc at h
 simp only [aT,aE,decide_eq_true_eq] at h
 have h1:(q.ada.map yn).sum=0:=by
  have:∀l:List dt,(l.map yn).sum=0:=by
   intro l
   induction l with
   | nil=>rfl
   | cons c l ih=>rw [List.map_cons,List.sum_cons,ih];rfl
  exact this _
 unfold fI vb
 simp only [fy,aX,h1];omega
def VL{s:Store}{u:adb}(h:eD s u=true)(hk:¬u.Kind=2):(ji s u).length=3:=by
 obtain ⟨h1,h2,h3,h4,h5⟩:=pn h
 have h0:(ji s u).length=(iJ s u).length:=by unfold ji;split<;>simp
 rw [h0]
 by_cases a:0≤bX s u.Row.Id
 ·exact NJ h1 a
 ·rw [(lQ a).2]
  have hk1:u.Kind=1:=by
   by_cases b:u.Kind=1
   ·exact b
   ·exact absurd (h4.2 b) a
  unfold ci at h2
  rw [if_pos hk1] at h2
  simp only [aT] at h2
  exact yt h2.1
def NL(s:Store)(u:adb):eQ (dw s u).1≤eQ s+4:=by
 cases h:eD s u with
 | false=>rw [qN h];dsimp only;omega
 | true=>
  by_cases hk:u.Kind=2
  ·rw [qP h hk]
   have e1:=NI s u
   unfold eQ;dsimp only;rw [e1];simp only [aX];omega
  ·have h5:=(pn h).2.2.2.2.resolve_left hk
   obtain ⟨r,hr,hrm,_⟩:=vq h5
   rw [vr h hk hrm]
   have e1:=NI s u
   have e2:=VL h hk
   have hru:r < (co s u).length:=zQ
   have e3:=yL (f:=dS) (x:=(co s u)[r]++[iK s u]) hru
   have hw:eP (iK s u)=(ji s u).length:=by unfold iK eP;simp only [fy,aX];omega
   have e5:dS ((co s u)[r]++[iK s u])=dS (co s u)[r]+(1+eP (iK s u)):=by
    unfold dS;simp only [aZ,bL,List.sum_append,List.length_cons,List.length_nil,List.map_cons,List.map_nil,List.sum_cons,List.sum_nil];omega
   rw [po hru]
   unfold eQ
   dsimp only
   unfold kb at e1 ⊢
   rw [List.length_set]
   simp only [aX] at *;omega
def kg(e:ar)(s:Store):ar:=⟨s,e.adc,e.Order,e.ac8,e.Done,e.adl,e.Steps⟩
def dy(e:ar)(u:adb):ar×Bool:=if aP e&&(dw e.Store u).2 then (cF (kg e (dw e.Store u).1),true) else (e,false)
def yM{e:ar}{u:adb}(h:(aP e&&(dw e.Store u).2)=false):dy e u=(e,false):=if_neg eJ
def yN{e:ar}{u:adb}(h:(aP e&&(dw e.Store u).2)=true):dy e u=(cF (kg e (dw e.Store u).1),true):=if_pos h
def NM(e:ar)(u:adb):bw (kg e (dw e.Store u).1)≤bw e+4:=by
 have:=NL e.Store u
 unfold kg bw;dsimp only;omega
def VM(e:ar)(u:adb):bw (dy e u).1≤bw e+4:=by
 have h1:=NM e u
 have h2:=Du (kg e (dw e.Store u).1)
 unfold dy
 split<;>dsimp only<;>omega
def bC(e:ar)(x:bR):ar×Bool:=if aP e&&ca x then (if x.Kind=1 then fe e x.ac9 x.Limit else if x.Kind=2 then ff e x.Id else if x.Kind=3 then dy e x.adb else (iL e x.Steps,true)) else (e,false)
def DD{e:ar}{x:bR}(h:(aP e&&ca x)=false):bC e x=(e,false):=if_neg eJ
def yO{e:ar}{x:bR}(h:(aP e&&ca x)=true)(k:x.Kind=1):bC e x=fe e x.ac9 x.Limit:=by unfold bC;rw [if_pos h,if_pos k]
def DE{e:ar}{x:bR}(h:(aP e&&ca x)=true)(k:x.Kind=2):bC e x=ff e x.Id:=by unfold bC;rw [if_pos h,if_neg ab,if_pos k]
def DF{e:ar}{x:bR}(h:(aP e&&ca x)=true)(k:x.Kind=3):bC e x=dy e x.adb:=by unfold bC;rw [if_pos h,if_neg ab,if_neg ab,if_pos k]
def yP{e:ar}{x:bR}(h:(aP e&&ca x)=true)(k1:¬x.Kind=1)(k2:¬x.Kind=2)(k3:¬x.Kind=3):bC e x=(iL e x.Steps,true):=by unfold bC;rw [if_pos h,if_neg k1,if_neg k2,if_neg k3]
def VN(e:ar)(x:bR):bw (bC e x).1≤bw e+40000:=by
 cases h:aP e&&ca x with
 | false=>rw [DD h];dsimp only;omega
 | true=>
  by_cases k1:x.Kind=1
  ·rw [yO h k1]
   cases ha:iH e x.ac9 x.Limit with
   | false=>rw [tm ha];dsimp only;omega
   | true=>
    have h1:=Vy e x.ac9 x.Limit
    have h2:=VK (qL ha).2.1
    omega
  ·by_cases k2:x.Kind=2
   ·rw [DE h k2];have:=VB e x.Id;omega
   ·by_cases k3:x.Kind=3
    ·rw [DF h k3];have:=VM e x.adb;omega
    ·rw [yP h k1 k2 k3];have:=VJ e x.Steps;dsimp only;omega
def NN(s:ar×Int)(x:bR):ar×Int:=((bC s.1 x).1,if (bC s.1 x).2 then s.2+1 else s.2)
def gQ(e:ar)(l:List bR)(k:Nat):ar×Int:=(l.take k).foldl NN (e,0)
def DG{e:ar}{l:List bR}{k:Nat}(hk:k < l.length):gQ e l (k+1)=NN (gQ e l k) l[k]:=by
 unfold gQ;rw [cG hk,List.foldl_append];rfl
def NO{c:Nat}(hc:∀(e:ar) (x:bR),bw (bC e x).1≤bw e+c)(e:ar)(l:List bR):∀k:Nat,k≤l.length→bw (gQ e l k).1≤bw e+c * k
 | 0,_=>by rw [Nat.mul_zero];exact Nat.le_refl _
 | k+1,h=>by
  have h1:=NO hc e l k ab
  have h4:=hc (gQ e l k).1 (l[k]'(ab))
  have e1:(gQ e l (k+1)).1=(bC (gQ e l k).1 (l[k]'(ab))).1:=by rw [DG ab];rfl
  rw [e1,Nat.mul_succ];omega
def NP(e:ar)(l:List bR):∀k:Nat,k≤l.length→0≤(gQ e l k).2∧(gQ e l k).2≤k
 | 0,_=>⟨by show (0:Int)≤0;omega,by show (0:Int)≤_;omega⟩
 | k+1,h=>by
  obtain ⟨h2,h3⟩:=NP e l k ab
  have e2:(gQ e l (k+1)).2=if (bC (gQ e l k).1 (l[k]'(ab))).2 then (gQ e l k).2+1 else (gQ e l k).2:=by rw [DG ab];rfl
  rw [e2]
  constructor<;>split<;>omega
def VO(e:ar)(l:List bR)(k:Nat)(h:k≤l.length)(h6:k≤60):bw (gQ e l k).1≤bw e+2400000∧0≤(gQ e l k).2∧(gQ e l k).2≤k:=by
 have h1:=NO VN e l k h
 have h2:40000 * k≤40000 * 60:=Nat.mul_le_mul_left _ h6
 have h3:40000 * 60=2400000:=ae
 rw [h3] at h2
 exact ⟨Nat.le_trans h1 (Nat.add_le_add_left h2 _),NP e l k h⟩
def dN(r:Row):am:=if bf r then itoa r.Id++[58]++cJ r.Values else []
def mX{r:Row}(h:bf r=true):0≤r.Id∧r.Id≤999∧r.Values.length=3∧∀x∈r.Values,cq x:=by
 unfold bf at h
 simp only [aT,decide_eq_true_eq,aE] at h
 refine ⟨h.2.1.1,h.2.1.2,ab,fun x hx=>?_⟩
 have:=List.all_eq_true.1 h.1 x hx
 simp [ja,aE] at this
 unfold cq;omega
def DH(r:Row):(dN r).length≤100:=by
 unfold dN
 split
 ·rename_i h
  obtain ⟨h1,h2,h3,h4⟩:=mX h
  have h5:(itoa r.Id).length≤21:=dj cR
  have h6:=mO h4
  simp only [aZ,List.length_cons,List.length_nil]
  omega
 ·simp
def vt(ws:List am):am:=if ws=[] then [110,111,110,101] else ee ws [32]
def VP{ws:List am}(h:ws≠[]):vt ws=ee ws [32]:=if_neg h
def qQ(q:ac9)(r:Row):List Int:=if bf r&&aQ q then q.Out.map fun f=>r.Values.getD f.toNat 0 else []
def vu{q:ac9}(h:aQ q=true):q.Out.length≤3∧∀f∈q.Out,0≤f∧f≤2:=by
 unfold aQ kc at h
 simp only [aT] at h
 have h1:=h.2.2.1
 have h2:=h.2.2.2
 refine ⟨by simp [aE] at h2;omega,fun f hf=>?_⟩
 have:=List.all_eq_true.1 h1 f hf
 simpa [hI,aE] using this
def NQ(q:ac9)(r:Row):(qQ q r).length≤3∧∀x∈qQ q r,cq x:=by
 unfold qQ
 split
 ·rename_i h
  rw [aT] at h
  obtain ⟨h1,h2,h3,h4⟩:=mX h.1
  have h5:=vu h.2
  refine ⟨by rw [aO];exact h5.1,fun x hx=>?_⟩
  obtain ⟨f,hf,rfl⟩:=List.mem_map.1 hx
  have:=h5.2 f hf
  have hlt:f.toNat < r.Values.length:=ab
  rw [List.getD_eq_getElem?_getD,List.getElem?_eq_getElem hlt]
  exact h4 _ (List.getElem_mem hlt)
 ·exact ⟨aF,fun x hx=>nomatch hx⟩
def lR(q:ac9)(r:Row):am:=itoa r.Id++[58]++cJ (qQ q r)
def VQ{q:ac9}{r:Row}(h:bf r=true):(lR q r).length≤100:=by
 obtain ⟨h1,h2,h3,h4⟩:=mX h
 have h5:(itoa r.Id).length≤21:=dj cR
 have h6:=NQ q r
 have h7:=mO h6.2
 unfold lR
 simp only [aZ,List.length_cons,List.length_nil]
 omega
def eG(x:fJ):am:=if aQ x.ac9&&fZ x.Rows then vt (x.Rows.map (lR x.ac9)) else []
def NR{rows:List Row}(h:fZ rows=true){r:Row}(hr:r∈rows):bf r=true:=by
 unfold fZ at h
 rw [aT] at h
 exact List.all_eq_true.1 h.1 r hr
def NS{rows:List Row}(h:fZ rows=true):rows.length≤1000:=by
 unfold fZ at h
 rw [aT] at h
 have:=of_decide_eq_true h.2
 omega
def DI{q:ac9}{rows:List Row}(h:fZ rows=true)(k:Nat):(ee ((rows.take k).map (lR q)) [32]).length≤101000:=by
 have h1:=vn (m:=100) (sep:=[32]) (xs:=(rows.take k).map (lR q)) (by
  intro x hx
  obtain ⟨r,hr,rfl⟩:=List.mem_map.1 hx
  exact VQ (NR h (List.mem_of_mem_take hr)))
 have h2:=NS h
 rw [aO,cu] at h1
 simp only [List.length_cons,List.length_nil] at h1
 have:min k rows.length * (100+(0+1))≤1000 * 101:=Nat.mul_le_mul ab ab
 omega
end Go.Proofs.YtmekkgdboplbjaaGreatDoor
