/- Definitions and their laws. No condition. -/
import Derived.Test.YtmekkgdboplbjaaGreatDoorRE0
import Derived.Lib.Split
set_option linter.all false
namespace Go.Proofs.YtmekkgdboplbjaaGreatDoor
open Go Go.RowKit M
set_option maxRecDepth 10000
variable{e:av}{i j:Nat}{l:List Int}{k:Nat}{id:Int}{a:aC6}{n:Int}{x:fx}{s:Store}{α:Type}{q:aC7}{zn:aC6×(Nat→Value)}{p:Nat}{L:List (List bb)}{u:aC9}{r:Row}{ws:List an}{rows:List Row}{b:an}{c:UInt8}
section
def cD(e:av):List bb:=e.Store.aC5.getD e.aDa.toNat []
def eU(l:List bb)(t:Int):List Row:=(l.filter fun v=>gp v t).map fJ
def lb(e:av)(a:aC6):List Row:=(eU (cD e) a.Time).filter (ib a.aC7)
def kC(e:av)(a:aC6)(j:Nat):List Row:=((eU (cD e) a.Time).take j).filter (ib a.aC7)
def iW(l:List Int)(x:Int):List Int:=l.filter fun y=>!(y==x)
def oM(e:av)(a:aC6):aC6:=⟨a.aC7,a.Time,iW a.aDf e.aDa,a.Age,a.Sent+((lb e a).length:Int),a.Cap,a.Rows++lb e a⟩
def mN(e:av)(ids:List Int)(a:aC6):aC6:=if ce ids a.aC7.Id then oM e a else a
def cG(e:av)(k:Nat):List aC6:=e.aC6.map (mN e ((parts e).take k))
def KM(e:av)(id:Int):aC6:=e.aC6.getD (ez e.aC6 id).toNat jS
def Bo(e:av)(id:Int):Int:=(KM e id).aC7.aDb
def Bp(e:av)(id:Int):Int:=((lb e (KM e id)).length:Int)
def fA(e:av)(k:Nat):cw:=⟨e.aDa,((cD e).length:Int),(parts e).take k,((parts e).take k).map (Bo e),((parts e).take k).map (Bp e)⟩
def mO(n:Int)(a:aC6):aC6:=⟨a.aC7,a.Time,a.aDf,a.Age+1,if (a.Age+1).tmod n=0 then 0 else a.Sent,a.Cap,a.Rows⟩
def fK(a:aC6):Bool:=decide (a.aDf.length=0)
def wx(a:aC6):gZ:=⟨a.aC7,a.Time,a.Age,a.Rows⟩
def dD(e:av)(k:Nat):List aC6:=(cG e k).map (mO (e.Store.aC5.length:Int))
def mP(e:av)(k m:Nat):List aC6:=((dD e k).take m).filter fun a=>!fK a
def jB(e:av)(k m:Nat):List gZ:=(((dD e k).take m).filter fK).map wx
def jC(e:av)(k:Nat):List cw:=if (parts e).length=0 then e.aDi else e.aDi++[fA e k]
def TJ(e:av)(k m:Nat):av:=⟨e.Store,(e.aDa+1).tmod (e.Store.aC5.length:Int),e.Order,mP e k m,e.Done++jB e k m,jC e k,e.Steps+1⟩
def jj(e:av):av:=TJ e (parts e).length e.aC6.length
def le(e:av):Bool:=aU e&&(decide (e.Steps < 100000)&&(decide ((e.aDi.length:Int) < 1000)&&decide ((e.Done.length:Int)+(e.aC6.length:Int)≤1000)))
def dO(e:av):av:=if le e then eD (jj e) else e
def amS(h:le e=false):dO e=e:=if_neg fR
def amT(h:le e=true):dO e=eD (jj e):=if_pos h
def EX(h:le e=true):aU e=true∧e.Steps < 100000∧(e.aDi.length:Int) < 1000∧(e.Done.length:Int)+(e.aC6.length:Int)≤1000:=by
 unfold le at h
 simp only [aR,decide_eq_true_eq] at h
 exact ⟨h.1,h.2.1,h.2.2.1,h.2.2.2⟩
def uy(h:aU e=true):e.aC6.Pairwise (fun a b=>a.aC7.Id < b.aC7.Id):=by
 unfold aU at h
 simp only [aR] at h
 exact alL h.2.1
def EY(h:aU e=true)(hi:i < e.aC6.length)(hj:j < e.aC6.length)(he:e.aC6[i].aC7.Id=e.aC6[j].aC7.Id):i=j:=by
 have hp:=uy h
 rw [List.pairwise_iff_getElem] at hp
 rcases Nat.lt_trichotomy i j with h1|h1|h1
 ·have:=hp i j hi hj h1;omega
 ·exact h1
 ·have:=hp j i hj hi h1;omega
def TK(h:aU e=true):(parts e).Pairwise (· < ·):=by
 rw [uj h]
 unfold iF
 rw [List.pairwise_map]
 exact (uy h).filter _
def awP(hp:l.Pairwise (· < ·))(hk:k < l.length)(x:Int):ce (l.take (k+1)) x=(ce (l.take k) x||(l[k]==x)):=by
 unfold ce
 rw [cU hk,List.any_append];simp
def awQ(hp:l.Pairwise (· < ·))(hk:k < l.length):ce (l.take k) l[k]=false:=by
 unfold ce
 rw [List.any_eq_false]
 intro y hy
 obtain ⟨j,hj,rfl⟩:=List.mem_iff_getElem.1 hy
 rw [cj] at hj
 rw [List.pairwise_iff_getElem] at hp
 have:=hp j k ab hk ab
 simp
 omega
def TL(hok:aU e=true)(hk:k < (parts e).length):∃i,∃hi:i < e.aC6.length,ez e.aC6 (parts e)[k]=(i:Int)∧e.aC6[i].aC7.Id=(parts e)[k]∧jT e e.aC6[i]=true:=by
 have hm:∀x,x∈parts e→x∈iF e e.aC6:=fun x hx=>by rwa [uj hok] at hx
 have hm:=hm _ (List.getElem_mem hk)
 unfold iF at hm
 obtain ⟨a,ha,hid⟩:=List.mem_map.1 hm
 obtain ⟨ha,hp⟩:=List.mem_filter.1 ha
 obtain ⟨i,hi,rfl⟩:=List.mem_iff_getElem.1 ha
 refine ⟨i,hi,?_,hid,hp⟩
 refine SN hi ?_ (by unfold hE;rw [hid];simp)
 rw [List.any_eq_false]
 intro b hb
 obtain ⟨j,hj,rfl⟩:=List.mem_iff_getElem.1 hb
 rw [cj] at hj
 intro hc
 unfold hE at hc
 have hc:e.aC6[j].aC7.Id=(parts e)[k]:=by simpa using hc
 have:=EY hok (show j < e.aC6.length by omega) hi (hc.trans hid.symm)
 omega
section
variable{e:av}{k i j m:Nat}
def wy:(cG e k).length=e.aC6.length:=by unfold cG;rw [aX]
def KN(h:i < (cG e k).length)(hi:i < e.aC6.length):(cG e k)[i]=mN e ((parts e).take k) e.aC6[i]:=List.getElem_map (mN e ((parts e).take k))
def awR(hok:aU e=true)(hk:k < (parts e).length)(hi:i < e.aC6.length)(hid:e.aC6[i].aC7.Id=(parts e)[k])(h:i < (cG e k).length):(cG e k)[i]=e.aC6[i]:=by
 rw [KN h hi]
 unfold mN
 rw [hid,awQ (TK hok) hk,if_neg aP]
def awS(hok:aU e=true)(hk:k < (parts e).length)(hi:i < e.aC6.length)(hid:e.aC6[i].aC7.Id=(parts e)[k]):(cG e k).set i (oM e e.aC6[i])=cG e (k+1):=by
 refine List.ext_getElem (by rw [List.length_set,wy,wy]) fun j h1 h2=>?_
 have hj:j < e.aC6.length:=by rw [wy] at h2;exact h2
 rw [List.getElem_set,KN h2 hj]
 unfold mN
 rw [awP (TK hok) hk]
 split
 ·rename_i hij
  subst hij
  rw [hid];simp
 ·rename_i hij
  rw [KN _ hj]
  unfold mN
  have:((parts e)[k]==e.aC6[j].aC7.Id)=false:=by
   rw [beq_eq_false_iff_ne]
   intro hc
   exact hij (EY hok hi hj (hid.trans hc))
  rw [this,Bool.or_false]
def TM:cG e 0=e.aC6:=by
 unfold cG
 have:∀a:aC6,mN e ((parts e).take 0) a=a:=fun a=>by unfold mN ce;simp
 rw [List.map_congr_left (g:=_root_.id) (fun a _=>this a),List.map_id]
def TN(hi:i < e.aC6.length)(hf:ez e.aC6 id=(i:Int)):KM e id=e.aC6[i]:=by
 unfold KM;rw [hf];simp [hi]
def awT(hk:k < (parts e).length)(hi:i < e.aC6.length)(hf:ez e.aC6 (parts e)[k]=(i:Int)):fA e (k+1)=⟨e.aDa,((cD e).length:Int),(fA e k).Ids++[(parts e)[k]],(fA e k).aDc++[e.aC6[i].aC7.aDb],(fA e k).Rows++[((lb e e.aC6[i]).length:Int)]⟩:=by
 have ha:=TN hi hf
 unfold fA
 rw [cU hk]
 simp only [bo,List.map_cons,List.map_nil,Bo,Bp,ha]
def KO(hk:k≤(parts e).length):(fA e k).Ids.length=k∧(fA e k).aDc.length=k∧(fA e k).Rows.length=k:=by
 unfold fA
 simp only [aX,cj]
 omega
def amU(hj:j < (eU (cD e) a.Time).length)(h:ib a.aC7 (eU (cD e) a.Time)[j]=true):kC e a (j+1)=kC e a j++[(eU (cD e) a.Time)[j]]:=by
 unfold kC;rw [cU hj,gV];simp [h]
def amV(hj:j < (eU (cD e) a.Time).length)(h:ib a.aC7 (eU (cD e) a.Time)[j]=false):kC e a (j+1)=kC e a j:=by
 unfold kC;rw [cU hj,gV];simp [h]
def TO:kC e a (eU (cD e) a.Time).length=lb e a:=by unfold kC lb;rw [bG]
def EZ(l:List bb)(t:Int):(eU l t).length≤l.length:=by unfold eU;rw [aX];exact jr _ _
def TP(h:e.aDa.toNat < e.Store.aC5.length):e.Store.aC5[e.aDa.toNat]=cD e:=by unfold cD;simp [h]
def KP(hok:aU e=true):(cD e).length≤4:=by
 have hf:=gu hok
 rw [←TP hf.2.2.2.1]
 exact (iE hf.1).2.2.2.2.1 _ (List.getElem_mem _)
def TQ:(dD e k).length=e.aC6.length:=by unfold dD;rw [aX,wy]
def KQ(h:m < (dD e k).length)(h2:m < (cG e k).length):(dD e k)[m]=mO (e.Store.aC5.length:Int) (cG e k)[m]:=List.getElem_map (mO (e.Store.aC5.length:Int))
def awU(hm:m < (dD e k).length)(h:fK (dD e k)[m]=false):mP e k (m+1)=mP e k m++[(dD e k)[m]]:=by
 unfold mP;rw [cU hm,gV];simp [h]
def awV(hm:m < (dD e k).length)(h:fK (dD e k)[m]=true):mP e k (m+1)=mP e k m:=by
 unfold mP;rw [cU hm,gV];simp [h]
def awW(hm:m < (dD e k).length)(h:fK (dD e k)[m]=true):jB e k (m+1)=jB e k m++[wx (dD e k)[m]]:=by
 unfold jB;rw [cU hm,gV];simp [h]
def awX(hm:m < (dD e k).length)(h:fK (dD e k)[m]=false):jB e k (m+1)=jB e k m:=by
 unfold jB;rw [cU hm,gV];simp [h]
def KR:(mP e k m).length≤m:=by
 have:=jr (fun a=>!fK a) ((dD e k).take m)
 rw [cj] at this
 unfold mP;omega
def KS:(jB e k m).length≤m:=by
 have:=jr fK ((dD e k).take m)
 rw [cj] at this
 unfold jB;rw [aX];omega
def amW(h:(a.Age+1).tmod n=0):mO n a=⟨a.aC7,a.Time,a.aDf,a.Age+1,0,a.Cap,a.Rows⟩:=by unfold mO;rw [if_pos h]
def amX(h:¬(a.Age+1).tmod n=0):mO n a=⟨a.aC7,a.Time,a.aDf,a.Age+1,a.Sent,a.Cap,a.Rows⟩:=by unfold mO;rw [if_neg h]
def TR(l:List Int)(x:Int):(iW l x).length≤l.length:=jr _ _
def awY{x:Int}(hk:k < l.length)(h:¬l[k]=x):iW (l.take (k+1)) x=iW (l.take k) x++[l[k]]:=by
 unfold iW;rw [cU hk,gV];simp [h]
def awZ{x:Int}(hk:k < l.length)(h:l[k]=x):iW (l.take (k+1)) x=iW (l.take k) x:=by
 unfold iW;rw [cU hk,gV];simp [h]
end
def TS{l:List bb}{t:Int}(hk:k < l.length)(h:gp l[k] t=true):eU (l.take (k+1)) t=eU (l.take k) t++[fJ l[k]]:=by
 unfold eU;rw [cU hk,gV];simp [h]
def amY{l:List bb}{t:Int}(hk:k < l.length)(h:gp l[k] t=false):eU (l.take (k+1)) t=eU (l.take k) t:=by
 unfold eU;rw [cU hk,gV];simp [h]
def aw0(a b:List Row):iQ (a++b)=iQ a+iQ b:=by unfold iQ;simp;omega
def amZ(hok:aU e=true):∀v∈cD e,bA (fJ v)=true:=by
 intro v hv
 have hf:=gu hok
 rw [←TP hf.2.2.2.1] at hv
 obtain ⟨j,hj,rfl⟩:=List.mem_iff_getElem.1 hv
 have:=Bb hf.1 hf.2.2.2.1 hj
 unfold eK at this
 rw [aR] at this
 exact this.1
def am0:∀l:List Row,(∀r∈l,bA r=true)→iQ l=4 * l.length
 | [],_=>rfl
 | r::l,h=>by
  have ih:=am0 l fun x hx=>h x (List.mem_cons_of_mem _ hx)
  have hr:r.Values.length=3:=by
   have:=h r List.mem_cons_self
   simp [bA,aF] at this;omega
  have hw:kp r=3:=by simp only [kp,fU,bh];omega
  unfold iQ at ih ⊢
  rw [List.length_cons,List.map_cons,List.sum_cons,hw];omega
def am1(hok:aU e=true)(t:Int):∀r∈eU (cD e) t,bA r=true:=by
 intro r hr
 unfold eU at hr
 obtain ⟨v,hv,rfl⟩:=List.mem_map.1 hr
 exact amZ hok v (List.mem_filter.1 hv).1
def TT(hok:aU e=true)(a:aC6)(j:Nat):iQ (kC e a j)≤16∧(kC e a j).length≤4:=by
 have hl:(kC e a j).length≤4:=by
  have h1:=jr (ib a.aC7) ((eU (cD e) a.Time).take j)
  rw [cj] at h1
  have h2:=EZ (cD e) a.Time
  have h3:=KP hok
  unfold kC;omega
 have hw:=am0 (kC e a j) fun r hr=>am1 hok a.Time r (List.mem_of_mem_take (List.mem_filter.1 hr).1)
 omega
def aw1(hok:aU e=true)(a:aC6):dW (oM e a)≤dW a+16:=by
 have h1:=TT hok a (eU (cD e) a.Time).length
 rw [TO] at h1
 have h2:=TR a.aDf e.aDa
 unfold oM dW
 simp only [fU,bh,aw0]
 omega
def aw2(hok:aU e=true)(k:Nat):((cG e k).map dW).sum≤(e.aC6.map dW).sum+16 * e.aC6.length:=by
 unfold cG
 generalize e.aC6=l
 induction l with
 | nil=>simp
 | cons a l ih=>
  simp only [List.map_cons,List.sum_cons,List.length_cons] at *
  have h1:dW (mN e ((parts e).take k) a)≤dW a+16:=by
   unfold mN
   split
   ·exact aw1 hok a
   ·omega
  omega
def aw3(n:Int)(a:aC6):dW (mO n a)=dW a:=by unfold mO dW;simp only [bh]
def aw4(a:aC6):nw (wx a)≤dW a:=by unfold wx nw dW;simp only [bh];omega
def am2:∀l:List aC6,((l.filter fun a=>!fK a).map dW).sum+(((l.filter fK).map wx).map nw).sum≤(l.map dW).sum
 | []=>by simp
 | a::l=>by
  have ih:=am2 l
  have hf:=aw4 a
  simp only [List.filter_cons]
  cases h:fK a
  ·simp only [Bool.not_false,if_true,List.map_cons,List.sum_cons,if_neg (by simp:¬(false=true))];omega
  ·simp only [Bool.not_true,if_true,List.map_cons,List.sum_cons,if_neg (by simp:¬(false=true))];omega
def TU:∀l:List aC6,(l.filter fun a=>!fK a).length+(l.filter fK).length=l.length
 | []=>rfl
 | a::l=>by
  have ih:=TU l
  simp only [List.filter_cons]
  cases h:fK a<;>simp<;>omega
def aw5(hk:k≤(parts e).length):uc (fA e k)=3 * k:=by
 have:=KO hk
 simp only [uc,fU,bh]
 omega
def TV(hok:aU e=true):aZ (jj e)≤aZ e+200:=by
 have hf:=gu hok
 have hp:=ym (e:=e)
 have h1:=aw2 hok (parts e).length
 have h2:((dD e (parts e).length).map dW).sum=((cG e (parts e).length).map dW).sum:=by
  unfold dD
  rw [List.map_map]
  exact congrArg List.sum (List.map_congr_left fun a _=>aw3 _ a)
 have h3:=am2 (dD e (parts e).length)
 have h4:=TU (dD e (parts e).length)
 have h5:=TQ (e:=e) (k:=(parts e).length)
 have hr:mP e (parts e).length e.aC6.length=(dD e (parts e).length).filter fun a=>!fK a:=by
  unfold mP;rw [qX ab]
 have hd:jB e (parts e).length e.aC6.length=((dD e (parts e).length).filter fK).map wx:=by
  unfold jB;rw [qX ab]
 have hc:=aw5 (e:=e) (Nat.le_refl _)
 have hl:go (jC e (parts e).length)≤go e.aDi+25:=by
  unfold jC
  split
  ·omega
  ·unfold go
   rw [bV,bo,List.sum_append]
   simp only [List.map_cons,List.map_nil,List.sum_cons,List.sum_nil,List.length_cons,List.length_nil,hc]
   omega
 unfold jj TJ aZ
 dsimp only
 simp only [bh,fk,gN,hr,hd,bV,bo,List.sum_append,aX] at *
 omega
def TW(e:av):aZ (eD e)≤aZ e:=by
 have:=SY e.Store (iT e.aC6)
 unfold eD aZ
 dsimp only
 omega
def am3(e:av):aZ (dO e)≤aZ e+200:=by
 unfold dO
 split
 ·rename_i h
  have h1:=TV (EX h).1
  have h2:=TW (jj e)
  omega
 ·omega
def aw6(id:Int):ez (cG e k) id=ez e.aC6 id:=by
 have hq:∀a:aC6,hE id (mN e ((parts e).take k) a)=hE id a:=fun a=>by unfold mN;split<;>rfl
 unfold ez cG
 rw [List.any_map,List.findIdx_map]
 simp only [Function.comp_def,hq]
def KT(h:fV s a=true):0≤a.Sent∧a.Sent≤1000∧0≤a.Age∧a.Age≤100000∧a.Rows.length≤1000∧bp a.aC7=true:=by
 unfold fV at h
 simp only [aR,aF,decide_eq_true_eq,iD] at h
 exact ⟨ab,ab,ab,ab,ab,h.2.1⟩
def KU(h:aU e=true)(hi:i < e.aC6.length)(h2:i < (cG e k).length):0≤(cG e k)[i].Age∧(cG e k)[i].Age≤100000:=by
 have ha:=KT ((gu h).2.2.2.2.2.2.2.2.2.1 _ (List.getElem_mem hi))
 rw [KN h2 hi]
 unfold mN
 split<;>exact ⟨ha.2.2.1,ha.2.2.2.1⟩
def TX(h:aU e=true)(a:aC6):(lb e a).length≤4:=by
 have:=(TT h a (eU (cD e) a.Time).length).2
 rwa [TO] at this
def hI(z:aC6×(Nat→Value)):List PV:=[PV.nv (z.2 0) (PV.val (vI z.1.aC7.Id)),PV.nv (z.2 1) (PV.val (vI z.1.aC7.aDb)),PV.nv (z.2 2) (PV.sl .v (z.1.aC7.aC8.map bM)),PV.nv (z.2 3) (PV.sl .v (z.1.aC7.Out.map ar)),PV.nv (z.2 4) (PV.val (vI z.1.Time)),PV.nv (z.2 5) (PV.sl .v (z.1.aDf.map ar)),PV.nv (z.2 6) (PV.val (vI z.1.Age)),PV.nv (z.2 7) (PV.val (vI z.1.Sent)),PV.nv (z.2 8) (PV.val (vI z.1.Cap)),PV.nv (z.2 9) (PV.sl .v (z.1.Rows.map (ci ai)))]
def aw7(z:Row×(Nat→Value)):List PV:=[PV.nv (z.2 0) (PV.val (vI z.1.Id)),PV.nv (z.2 1) (PV.sl .v (z.1.Values.map ar))]
def KV{d:α}{p:α→Bool}{r:α→α→Bool}{l:List α}(h1:∀x∈l,p x=true)(h2:l.Pairwise (fun a b=>r a b=true)):eT d p r l=true:=by
 unfold eT mA
 rw [nb]
 intro i hi
 have hi:=List.mem_range.1 hi
 rw [fy hi,h1 _ (List.getElem_mem hi),Bool.true_and]
 cases i with
 | zero=>rfl
 | succ i=>
  rw [List.pairwise_iff_getElem] at h2
  rw [show i+1 - 1=i from rfl,fy (show i < l.length by omega),h2 i (i+1) ab hi ab]
  simp
def am4(hok:aU e=true):kt e.aC6 (parts e)=(e.aC6.filter (jT e)).map fun a=>a.aC7:=by
 rw [uj hok]
 unfold kt iF
 rw [List.map_map]
 refine List.map_congr_left fun a ha=>?_
 have ha:=(List.mem_filter.1 ha).1
 obtain ⟨i,hi,rfl⟩:=List.mem_iff_getElem.1 ha
 have hf:ez e.aC6 e.aC6[i].aC7.Id=(i:Int):=by
  refine SN hi ?_ (by unfold hE;simp)
  rw [List.any_eq_false]
  intro b hb
  obtain ⟨j,hj,rfl⟩:=List.mem_iff_getElem.1 hb
  rw [cj] at hj
  intro hc
  unfold hE at hc
  have hc:e.aC6[j].aC7.Id=e.aC6[i].aC7.Id:=by simpa using hc
  have:=EY hok (show j < e.aC6.length by omega) hi hc
  omega
 show (e.aC6.getD (ez e.aC6 e.aC6[i].aC7.Id).toNat jS).aC7=_
 rw [hf];simp [hi]
def aw8(hok:aU e=true):dZ (kt e.aC6 (parts e))=true:=by
 have hef:=gu hok
 rw [am4 hok]
 unfold dZ
 have hl:=jr (jT e) e.aC6
 rw [aR]
 refine ⟨KV (fun x hx=>?_) ?_,?_⟩
 ·obtain ⟨a,ha,rfl⟩:=List.mem_map.1 hx
  exact (KT (hef.2.2.2.2.2.2.2.2.2.1 _ (List.mem_filter.1 ha).1)).2.2.2.2.2
 ·rw [List.pairwise_map]
  refine ((uy hok).filter _).imp fun {a b} h=>?_
  unfold qu;simpa using h
 ·rw [aX,decide_eq_true_eq];omega
def aw9(hok:aU e=true)(hi:i < e.aC6.length)(h:jT e e.aC6[i]=true):e.aC6[i].aC7∈kt e.aC6 (parts e):=by
 rw [am4 hok]
 exact List.mem_map.2 ⟨_,List.mem_filter.2 ⟨List.getElem_mem hi,h⟩,rfl⟩
def mQ(e:av)(a:aC6)(j:Nat):List Row:=(eU ((cD e).take j) a.Time).filter (ib a.aC7)
def am5(hj:j < (cD e).length)(hv:gp (cD e)[j] a.Time=true)(hm:ib a.aC7 (fJ (cD e)[j])=true):mQ e a (j+1)=mQ e a j++[fJ (cD e)[j]]:=by
 unfold mQ;rw [TS hj hv,gV];simp [hm]
def KW(hj:j < (cD e).length)(h:gp (cD e)[j] a.Time=false∨ib a.aC7 (fJ (cD e)[j])=false):mQ e a (j+1)=mQ e a j:=by
 unfold mQ
 cases hv:gp (cD e)[j] a.Time with
 | false=>rw [amY hj hv]
 | true=>
  rw [hv] at h
  have hm:=h.resolve_left aP
  rw [TS hj hv,gV];simp [hm]
def axa:mQ e a (cD e).length=lb e a:=by unfold mQ lb;rw [bG]
def axb:(mQ e a j).length≤j:=by
 have h1:=jr (ib a.aC7) (eU ((cD e).take j) a.Time)
 have h2:=EZ ((cD e).take j) a.Time
 rw [cj] at h2
 unfold mQ;omega
def mR(e:av)(k:Nat):cw:=⟨e.aDa,((cD e).length:Int),parts e,((parts e).take k).map (Bo e),((parts e).take k).map (Bp e)⟩
def axc(hk:k < (parts e).length)(hi:i < e.aC6.length)(hf:ez e.aC6 (parts e)[k]=(i:Int)):mR e (k+1)=⟨e.aDa,((cD e).length:Int),parts e,(mR e k).aDc++[e.aC6[i].aC7.aDb],(mR e k).Rows++[((lb e e.aC6[i]).length:Int)]⟩:=by
 have ha:=TN hi hf
 unfold mR
 rw [cU hk]
 simp only [bo,List.map_cons,List.map_nil,Bo,Bp,ha]
def axd:mR e (parts e).length=fA e (parts e).length:=by unfold mR fA;rw [bG]
def axe(hk:k≤(parts e).length):(mR e k).aDc.length=k∧(mR e k).Rows.length=k:=by
 unfold mR
 simp only [aX,cj]
 omega
def axf(e:av)(k:Nat):av:=⟨e.Store,e.aDa,e.Order,cG e k,e.Done,e.aDi,e.Steps⟩
end
section
def qD(k:Nat):List Int:=(List.range k).map fun i:Nat=>(i:Int)
def axg(k:Nat):qD (k+1)=qD k++[(k:Int)]:=by simp [qD,List.range_succ]
def Fc(k:Nat):(qD k).length=k:=by simp [qD]
def eM(e:av)(q:aC7)(l:Int):aC6:=⟨q,e.Store.Now,qD e.Store.aC5.length,0,0,l,[]⟩
def lf(x:Int)(a:aC6):Bool:=decide (a.aC7.Id < x)
def eN(l:List aC6)(x:Int):Nat:=(l.filter (lf x)).length
def nN(e:av)(q:aC7)(l:Int):List aC6:=e.aC6.filter (lf q.Id)++eM e q l::e.aC6.drop (eN e.aC6 q.Id)
def nO(e:av)(q:aC7)(l:Int):Bool:=((aU e&&bp q)&&aF l 0 32)&&(decide (ez e.aC6 q.Id < 0)&&decide ((e.aC6.length:Int) < 8))
def hJ(e:av)(q:aC7)(l:Int):av×Bool:=if nO e q l then (⟨e.Store,e.aDa,e.Order,nN e q l,e.Done,e.aDi,e.Steps⟩,true) else (e,false)
def KX{l:Int}(h:nO e q l=false):hJ e q l=(e,false):=if_neg fR
def TY{l:Int}(h:nO e q l=true):hJ e q l=(⟨e.Store,e.aDa,e.Order,nN e q l,e.Done,e.aDi,e.Steps⟩,true):=if_pos h
def Bq{l:Int}(h:nO e q l=true):aU e=true∧bp q=true∧(0≤l∧l≤32)∧ez e.aC6 q.Id < 0∧(e.aC6.length:Int) < 8:=by
 unfold nO at h
 simp only [aR,decide_eq_true_eq,aF] at h
 exact ⟨h.1.1.1,h.1.1.2,h.1.2,h.2.1,h.2.2⟩
def lW(x:Int)(zs:List (aC6×(Nat→Value))):List (aC6×(Nat→Value)):=zs.filter fun z=>lf x z.1
section
variable{zs:List (aC6×(Nat→Value))}{l:List aC6}{x:Int}{k:Nat}
def axh(hk:k < zs.length)(h:lf x zs[k].1=true):lW x (zs.take (k+1))=lW x (zs.take k)++[zs[k]]:=by
 unfold lW;rw [cU hk,gV];simp [h]
def axi(hk:k < zs.length)(h:lf x zs[k].1=false):lW x (zs.take (k+1))=lW x (zs.take k):=by
 unfold lW;rw [cU hk,gV];simp [h]
def axj:(lW x (zs.take k)).length≤k:=by
 have:=jr (fun z:aC6×(Nat→Value)=>lf x z.1) (zs.take k)
 rw [cj] at this;unfold lW;omega
def am6(hz:zs.map Prod.fst=l):(lW x zs).map Prod.fst=l.filter (lf x):=by
 subst hz;unfold lW;rw [List.filter_map];rfl
def am7(hz:zs.map Prod.fst=l):(lW x zs).length=eN l x:=by
 unfold eN;rw [←am6 hz,aX]
def Br{α:Type}(key:α→Int)(x:Int):∀{l:List α},l.Pairwise (fun a b=>key a < key b)→l.filter (fun a=>decide (key a < x))=l.take (l.filter fun a=>decide (key a < x)).length
 | [],_=>rfl
 | a::l,h=>by
  have ⟨h1,h2⟩:=List.pairwise_cons.1 h
  have ih:=Br key x h2
  rw [List.filter_cons]
  split
  ·rw [List.length_cons,List.take_succ_cons,←ih]
  ·rename_i hc
   have hc:¬key a < x:=by simpa using hc
   have:l.filter (fun a=>decide (key a < x))=[]:=by
    rw [List.filter_eq_nil_iff]
    intro b hb
    have:=h1 b hb
    simp;omega
   rw [this];rfl
def axk(hok:aU e=true)(hz:zs.map Prod.fst=e.aC6):zs.Pairwise (fun a b=>a.1.aC7.Id < b.1.aC7.Id):=by
 have:=uy hok
 rw [←hz,List.pairwise_map] at this
 exact this
def am8(hok:aU e=true)(hz:zs.map Prod.fst=e.aC6):lW x zs=zs.take (eN e.aC6 x):=by
 have h:=Br (fun z:aC6×(Nat→Value)=>z.1.aC7.Id) x (axk hok hz)
 have hl:=am7 (x:=x) hz
 unfold lW lf at *
 rw [h,hl]
def am9:eN e.aC6 x≤e.aC6.length:=jr _ _
def ana(hok:aU e=true)(hk:k < e.aC6.length):e.aC6[k].aC7.Id < x↔k < eN e.aC6 x:=by
 have h:=Br (fun a:aC6=>a.aC7.Id) x (uy hok)
 have hc:eN e.aC6 x=(e.aC6.filter fun a=>decide (a.aC7.Id < x)).length:=rfl
 rw [←hc] at h
 constructor
 ·intro hx
  have hm:e.aC6[k]∈e.aC6.filter fun a=>decide (a.aC7.Id < x):=List.mem_filter.2 ⟨List.getElem_mem hk,yQ⟩
  rw [h] at hm
  obtain ⟨j,hj,hje⟩:=List.mem_iff_getElem.1 hm
  rw [cj] at hj
  rw [List.getElem_take] at hje
  have:=EY hok (show j < e.aC6.length by omega) hk (by rw [hje])
  omega
 ·intro hx
  have hm:e.aC6[k]∈e.aC6.take (eN e.aC6 x):=by
   rw [XL];exact ⟨k,dh,by rw [List.getElem_take]⟩
  rw [←h] at hm
  have:=(List.mem_filter.1 hm).2
  simpa using this
def anb(h:ez e.aC6 x < 0)(hk:k < e.aC6.length):e.aC6[k].aC7.Id≠x:=by
 intro hx
 unfold ez at h
 rw [if_pos (yd hk (by unfold hE;simpa using hx))] at h
 omega
def mS(zs:List (aC6×(Nat→Value)))(zn:aC6×(Nat→Value))(p k:Nat):List (aC6×(Nat→Value)):=if p < k then zs.take p++zn::(zs.take k).drop p else zs.take k
def axl(hk:k≤zs.length):(mS zs zn p k).length≤k+1:=by
 unfold mS;split<;>simp<;>omega
def axm(hk:k < zs.length)(h:k≠p):mS zs zn p (k+1)=mS zs zn p k++[zs[k]]:=by
 unfold mS
 by_cases hp:p < k
 ·rw [if_pos ab,if_pos hp,cU hk,List.drop_append_of_le_length dh]
  simp
 ·rw [if_neg ab,if_neg hp,cU hk]
def axn(hk:k < zs.length)(h:k=p):mS zs zn p (k+1)=mS zs zn p k++[zn]++[zs[k]]:=by
 subst h
 unfold mS
 rw [if_pos ab,if_neg ab,cU hk,List.drop_append_of_le_length dh]
 simp
def axo(h:p < zs.length):mS zs zn p zs.length=zs.take p++zn::zs.drop p:=by unfold mS;rw [if_pos h,bG]
def axp(h:p=zs.length):mS zs zn p zs.length++[zn]=zs.take p++zn::zs.drop p:=by subst h;unfold mS;rw [if_neg ab];simp
def axq:((zs.take p++zn::zs.drop p)++[]).Perm ([zn]++zs):=by
 rw [gj]
 refine List.perm_middle.trans ?_
 rw [hO];exact List.Perm.refl _
def axr{li:Int}{kn:Nat→Value}(hok:aU e=true)(hz:zs.map Prod.fst=e.aC6):(zs.take (eN e.aC6 q.Id)++(eM e q li,kn)::zs.drop (eN e.aC6 q.Id)).map Prod.fst=nN e q li:=by
 unfold nN
 rw [←am8 hok hz,bo,am6 hz,List.map_cons,List.map_drop,hz]
end
def axs{l:Int}:dW (eM e q l)=eS q+e.Store.aC5.length:=by
 unfold eM dW
 simp only [fU,bh,Fc,iQ,List.map_nil,List.sum_nil,List.length_nil];omega
def axt(e:av)(q:aC7)(l:Int):aZ (hJ e q l).1≤aZ e+eS q+10:=by
 unfold hJ
 split
 ·rename_i h
  have hf:=Bq h
  have hef:=gu hf.1
  obtain ⟨hs8,_,_,_,_,_⟩:=iE hef.1
  have hn:=axs (e:=e) (q:=q) (l:=l)
  have hsum:∀(L:List aC6) (x:Int),(∀a∈L,True)→L.Pairwise (fun a b=>a.aC7.Id < b.aC7.Id)→(L.filter (lf x)++L.drop (eN L x))=L:=by
   intro L x _ hp
   have h:=Br (fun a:aC6=>a.aC7.Id) x hp
   have:L.filter (lf x)=L.take (eN L x):=h
   rw [this,hO]
  have hs:=hsum e.aC6 q.Id (fun _ _=>trivial) (uy hf.1)
  have h1:(nN e q l).length=e.aC6.length+1:=by
   conv=>rhs;rw [←hs]
   unfold nN;simp only [bV,List.length_cons];omega
  have h2:((nN e q l).map dW).sum=(e.aC6.map dW).sum+dW (eM e q l):=by
   conv=>rhs;rw [←hs]
   unfold nN;simp only [bo,List.map_cons,List.sum_append,List.sum_cons];omega
  unfold aZ fk
  dsimp only
  rw [h1,h2,hn];omega
 ·dsimp only;omega
end
def wz(e:av)(i:Nat):av:=⟨e.Store,e.aDa,e.Order,gM e.aC6 i,e.Done,e.aDi,e.Steps⟩
def nP(e:av)(id:Int):Bool:=aU e&&decide (0≤ez e.aC6 id)
def dE(e:av)(id:Int):av×Bool:=if nP e id then (eD (wz e (ez e.aC6 id).toNat),true) else (e,false)
def KY(h:nP e id=false):dE e id=(e,false):=if_neg fR
def anc(h:nP e id=true):dE e id=(eD (wz e (ez e.aC6 id).toNat),true):=if_pos h
def TZ(h:nP e id=true)(hf:ez e.aC6 id=(i:Int)):dE e id=(eD (wz e i),true):=by rw [anc h,hf];rfl
def Ua{l:List aC6}(h:0≤ez l id):∃i:Nat,i < l.length∧ez l id=(i:Int):=by
 unfold ez at *
 split at h
 ·rename_i ha
  rw [if_pos ha]
  obtain ⟨a,ha1,ha2⟩:=List.any_eq_true.1 ha
  exact ⟨l.findIdx (hE id),List.findIdx_lt_length_of_exists ⟨a,ha1,ha2⟩,rfl⟩
 ·omega
def ane{β:Type}{f:α→β}{zs:List α}{l:List β}(hz:zs.map f=l):(gM zs i).map f=gM l i:=by
 subst hz;unfold gM;rw [bo,List.map_take,List.map_drop]
def Ub{zs:List α}(hi:i < zs.length):(gM zs i++[zs[i]]).Perm zs:=by
 unfold gM
 have:zs=zs.take i++(zs[i]::zs.drop (i+1)):=by rw [←List.drop_eq_getElem_cons hi,hO]
 conv=>rhs;rw [this]
 rw [bn]
 refine iK _ ?_
 exact List.perm_append_singleton _ _
def Uc(hi:i < e.aC6.length):aZ (wz e i)≤aZ e:=by
 have hs:((gM e.aC6 i).map dW).sum+dW e.aC6[i]=(e.aC6.map dW).sum:=by
  have:=((Ub hi).map dW).sum_nat
  rw [bo,List.sum_append] at this
  simpa using this
 have hl:=NR hi
 unfold wz aZ fk
 dsimp only
 rw [hl];omega
def axu(e:av)(id:Int):aZ (dE e id).1≤aZ e:=by
 cases h:nP e id with
 | false=>rw [KY h];exact Nat.le_refl _
 | true=>
  have h2:=h
  unfold nP at h2
  simp only [aR,decide_eq_true_eq] at h2
  obtain ⟨i,hi,hf⟩:=Ua h2.2
  rw [TZ h hf]
  have h3:=TW (wz e i)
  have h4:=Uc hi
  dsimp only;omega
def lg(id:Int)(v:bb):Bool:=decide (v.Id=id)&&decide (v.aDg = -1)
def jW(id:Int)(l:List bb):Bool:=l.any (lg id)
def wB(s:Store)(i:Nat):List bb:=s.aC5.getD i []
def cK(s:Store)(id:Int):Int:=if s.aC5.any (jW id) then ((s.aC5.findIdx (jW id):Nat):Int) else -1
def pC(s:Store)(id:Int):Int:=if s.aC5.any (jW id) then (((wB s (s.aC5.findIdx (jW id))).findIdx (lg id):Nat):Int) else -1
def Ud{P:α→Bool}{l:List α}(hk:k < l.length)(h:(l.take k).any P=false)(hy:P l[k]=true):l.findIdx P=k:=by
 rw [List.findIdx_eq hk]
 refine ⟨hy,fun j hj=>?_⟩
 rw [List.any_eq_false] at h
 have:=h l[j] XI
 simpa using this
def anf(hi:i < s.aC5.length)(h1:(s.aC5.take i).any (jW id)=false)(hk:k < s.aC5[i].length)(h2:(s.aC5[i].take k).any (lg id)=false)(hy:lg id s.aC5[i][k]=true):cK s id=(i:Int)∧pC s id=(k:Int):=by
 have ha:jW id s.aC5[i]=true:=yd hk hy
 have hany:s.aC5.any (jW id)=true:=yd hi ha
 have e1:=Ud hi h1 ha
 have e2:=Ud hk h2 hy
 unfold cK pC wB
 rw [if_pos hany,if_pos hany,e1,List.getD_eq_getElem?_getD,List.getElem?_eq_getElem hi]
 exact ⟨rfl,by show ((s.aC5[i].findIdx (lg id):Nat):Int)=_;rw [e2]⟩
def ang(h:s.aC5.any (jW id)=false):cK s id = -1∧pC s id = -1:=by
 unfold cK pC
 rw [if_neg fR,if_neg fR]
 exact ⟨rfl,rfl⟩
def uz(h:0≤cK s id):∃i k:Nat,∃hi:i < s.aC5.length,∃hk:k < s.aC5[i].length,cK s id=(i:Int)∧pC s id=(k:Int)∧lg id s.aC5[i][k]=true:=by
 unfold cK at h
 split at h
 ·rename_i ha
  obtain ⟨l,hl,hp⟩:=List.any_eq_true.1 ha
  have hi:s.aC5.findIdx (jW id) < s.aC5.length:=List.findIdx_lt_length_of_exists ⟨l,hl,hp⟩
  have hpi:jW id (s.aC5[s.aC5.findIdx (jW id)])=true:=List.findIdx_getElem (w:=hi)
  obtain ⟨v,hv,hvp⟩:=List.any_eq_true.1 hpi
  have hk:s.aC5[s.aC5.findIdx (jW id)].findIdx (lg id) < s.aC5[s.aC5.findIdx (jW id)].length:=List.findIdx_lt_length_of_exists ⟨v,hv,hvp⟩
  refine ⟨_,_,hi,hk,?_,?_,List.findIdx_getElem (w:=hk)⟩
  ·unfold cK;rw [if_pos ha]
  ·unfold pC wB;rw [if_pos ha,List.getD_eq_getElem?_getD,List.getElem?_eq_getElem hi];rfl
 ·omega
def jD(l:List bb):Bool:=decide ((l.length:Int) < 4)
def jX(L:List (List bb)):Int:=if L.any jD then ((L.findIdx jD:Nat):Int) else -1
def anh(hk:k < L.length)(h:(L.take k).any jD=false)(hy:jD L[k]=true):jX L=(k:Int):=by
 unfold jX;rw [if_pos (yd hk hy),Ud hk h hy]
def ani(h:L.any jD=false):jX L = -1:=if_neg fR
def Ue(h:0≤jX L):∃r:Nat,∃hr:r < L.length,jX L=(r:Int)∧L[r].length < 4:=by
 unfold jX at h
 split at h
 ·rename_i ha
  obtain ⟨l,hl,hp⟩:=List.any_eq_true.1 ha
  have hr:L.findIdx jD < L.length:=List.findIdx_lt_length_of_exists ⟨l,hl,hp⟩
  have hpi:jD L[L.findIdx jD]=true:=List.findIdx_getElem (w:=hr)
  refine ⟨_,hr,by unfold jX;rw [if_pos ha],?_⟩
  have:∀l:List bb,jD l=true→l.length < 4:=fun l hl=>by unfold jD at hl;simp only [decide_eq_true_eq] at hl;omega
  exact this _ hpi
 ·omega
def mT(n:Int)(v:bb):bb:=⟨v.Id,v.Values,v.aDk,n⟩
def Uf(s:Store)(i k:Int):bb:=(wB s i.toNat).getD k.toNat v0
def dP(s:Store)(u:aC9):List (List bb):=if 0≤cK s u.Row.Id then s.aC5.set (cK s u.Row.Id).toNat ((wB s (cK s u.Row.Id).toNat).set (pC s u.Row.Id).toNat (mT (s.Now+1) (Uf s (cK s u.Row.Id) (pC s u.Row.Id)))) else s.aC5
def gH(s:Store)(u:aC9):List Int:=if 0≤cK s u.Row.Id then (Uf s (cK s u.Row.Id) (pC s u.Row.Id)).Values else u.Row.Values
def jY(s:Store)(u:aC9):List Int:=if u.Kind=3 then (gH s u).set u.Field.toNat u.Value else gH s u
def mU(s:Store)(u:aC9):bb:=⟨u.Row.Id,jY s u,s.Now+1,-1⟩
def Bs(L:List (List bb))(r:Nat)(v:bb):List (List bb):=L.set r (L.getD r []++[v])
def kD(s:Store)(u:aC9):Bool:=((cy s&&ee u)&&decide (s.Now < 100000))&&(decide (0≤cK s u.Row.Id)==!decide (u.Kind=1)&&(decide (u.Kind=2)||decide (0≤jX s.aC5)))
def Fe(s:Store)(u:aC9):Store:=⟨if u.Kind=2 then dP s u else Bs (dP s u) (jX s.aC5).toNat (mU s u),s.Now+1⟩
def eV(s:Store)(u:aC9):Store×Bool:=if kD s u then (Fe s u,true) else (s,false)
def Ff(h:kD s u=false):eV s u=(s,false):=if_neg fR
def Ug(h:kD s u=true):eV s u=(Fe s u,true):=if_pos h
def yw(h:kD s u=true)(hk:u.Kind=2):eV s u=(⟨dP s u,s.Now+1⟩,true):=by rw [Ug h];unfold Fe;rw [if_pos hk]
def Bu{r:Nat}(h:kD s u=true)(hk:¬u.Kind=2)(hr:jX s.aC5=(r:Int)):eV s u=(⟨Bs (dP s u) r (mU s u),s.Now+1⟩,true):=by
 rw [Ug h];unfold Fe;rw [if_neg hk,hr];rfl
def qE(hi:i < s.aC5.length)(hk:k < s.aC5[i].length)(h1:cK s u.Row.Id=(i:Int))(h2:pC s u.Row.Id=(k:Int)):dP s u=s.aC5.set i (s.aC5[i].set k (mT (s.Now+1) s.aC5[i][k]))∧gH s u=s.aC5[i][k].Values:=by
 have e1:wB s i=s.aC5[i]:=by unfold wB;simp [hi]
 unfold dP gH Uf
 rw [h1,h2,if_pos ab,if_pos ab,Int.toNat_natCast,Int.toNat_natCast,e1]
 simp [hk]
def uA(h:¬0≤cK s u.Row.Id):dP s u=s.aC5∧gH s u=u.Row.Values:=by
 unfold dP gH;rw [if_neg h,if_neg h];exact ⟨rfl,rfl⟩
def anj(s:Store)(u:aC9):(dP s u).map List.length=s.aC5.map List.length:=by
 by_cases h:0≤cK s u.Row.Id
 ·obtain ⟨i,k,hi,hk,h1,h2,_⟩:=uz h
  rw [(qE hi hk h1 h2).1]
  apply List.ext_getElem
  ·simp
  ·intro j hj1 hj2
   simp only [List.getElem_map,List.getElem_set]
   split
   ·rename_i hij;subst hij;simp
   ·rfl
 ·rw [(uA h).1]
def Bv(s:Store)(u:aC9):(dP s u).length=s.aC5.length:=by
 have:=congrArg List.length (anj s u)
 simpa using this
def KZ(s:Store)(u:aC9)(hk:k < (dP s u).length)(hk2:k < s.aC5.length):(dP s u)[k].length=s.aC5[k].length:=by
 have h:=anj s u
 have:=List.getElem_of_eq h (show k < ((dP s u).map List.length).length by rw [aX];exact hk)
 simpa using this
def axv(n:Int)(v:bb):df (mT n v)=df v:=by unfold mT df;simp only [bh]
def La{α:Type}{f:α→Nat}:∀{l:List α} {i:Nat} {x:α} (hi:i < l.length),((l.set i x).map f).sum+f l[i]=(l.map f).sum+f x
 | y::l,0,x,_=>by simp;omega
 | y::l,i+1,x,h=>by
  have:=La (f:=f) (l:=l) (i:=i) (x:=x) oY
  simp only [List.set_cons_succ,List.map_cons,List.sum_cons,List.getElem_cons_succ]
  omega
def ank(s:Store)(u:aC9):iR (dP s u)=iR s.aC5:=by
 by_cases h:0≤cK s u.Row.Id
 ·obtain ⟨i,k,hi,hk,h1,h2,_⟩:=uz h
  rw [(qE hi hk h1 h2).1]
  have e1:=La (f:=cX) (x:=s.aC5[i].set k (mT (s.Now+1) s.aC5[i][k])) hi
  have e2:=La (f:=df) (x:=mT (s.Now+1) s.aC5[i][k]) hk
  rw [axv] at e2
  have e3:cX (s.aC5[i].set k (mT (s.Now+1) s.aC5[i][k]))=cX s.aC5[i]:=by unfold cX;rw [List.length_set];omega
  unfold iR
  rw [List.length_set];omega
 ·rw [(uA h).1]
def anl(s:Store)(u:aC9):(jY s u).length≤da s+jR u:=by
 have h0:(jY s u).length=(gH s u).length:=by unfold jY;split<;>simp
 rw [h0]
 by_cases h:0≤cK s u.Row.Id
 ·obtain ⟨i,k,hi,hk,h1,h2,_⟩:=uz h
  rw [(qE hi hk h1 h2).2]
  have w1:=dK (f:=cX) hi
  have w2:=dK (f:=df) hk
  have w3:cX s.aC5[i]=s.aC5[i].length+(s.aC5[i].map df).sum:=rfl
  have w4:df s.aC5[i][k]=s.aC5[i][k].Values.length:=yT
  unfold da iR
  simp only [bh];omega
 ·rw [(uA h).2]
  unfold jR kp
  simp only [fU,bh];omega
def Lb(hs:cy s=true)(h:0≤cK s u.Row.Id):(gH s u).length=3:=by
 obtain ⟨i,k,hi,hk,h1,h2,_⟩:=uz h
 rw [(qE hi hk h1 h2).2]
 have hv:=Bb hs hi hk
 unfold eK at hv
 rw [aR] at hv
 exact yf hv.1
def Uh(h:ee u=true)(hk:u.Kind=3):0≤u.Field∧u.Field≤2:=by
 unfold ee at h
 rw [if_neg ab,if_neg ab,if_pos hk] at h
 simp only [aR,aF,decide_eq_true_eq] at h
 exact h.2.1
def Lc(h1:cy s=true)(h2:ee u=true)(h3:s.Now < 100000)(h4:0≤cK s u.Row.Id↔¬u.Kind=1)(h5:u.Kind=2∨0≤jX s.aC5):kD s u=true:=by
 unfold kD
 rw [h1,h2,decide_eq_true h3]
 have e1:(decide (0≤cK s u.Row.Id)==!decide (u.Kind=1))=true:=by
  by_cases a:0≤cK s u.Row.Id<;>by_cases b:u.Kind=1<;>simp_all
 have e2:(decide (u.Kind=2)||decide (0≤jX s.aC5))=true:=by
  rcases h5 with h|h<;>simp [h]
 rw [e1,e2];rfl
def yx(h:kD s u=true):cy s=true∧ee u=true∧s.Now < 100000∧(0≤cK s u.Row.Id↔¬u.Kind=1)∧(u.Kind=2∨0≤jX s.aC5):=by
 unfold kD at h
 simp only [aR,Bool.or_eq_true,decide_eq_true_eq] at h
 obtain ⟨⟨⟨h1,h2⟩,h3⟩,h4,h5⟩:=h
 refine ⟨h1,h2,h3,?_,h5⟩
 by_cases a:0≤cK s u.Row.Id<;>by_cases b:u.Kind=1<;>simp_all
def yy{r:Nat}{v:bb}(hr:r < L.length):Bs L r v=L.set r (L[r]++[v]):=by unfold Bs;simp [hr]
def qF(n:Int):Nat:=(min (max n 0) 200).toNat
def Ui(n:Int):qF n≤200:=by unfold qF;omega
def lh(e:av):Nat→av
 | 0=>e
 | k+1=>dO (lh e k)
def jl(e:av)(n:Int):av:=lh e (qF n)
def Ld(e:av):∀k:Nat,aZ (lh e k)≤aZ e+200 * k
 | 0=>by rw [lh];omega
 | k+1=>by
  have h1:=Ld e k
  have h3:=am3 (lh e k)
  rw [lh];omega
def axw(e:av)(n:Int):aZ (jl e n)≤aZ e+40000:=by
 have h1:=Ld e (qF n)
 have h2:=Ui n
 unfold jl;omega
def axx(h:bp q=true):eS q≤6:=by
 unfold bp oE at h
 simp only [aR,aF,decide_eq_true_eq] at h
 have h1:(q.aC8.map Et).sum=0:=by
  have:∀l:List fw,(l.map Et).sum=0:=by
   intro l
   induction l with
   | nil=>rfl
   | cons c l ih=>rw [List.map_cons,List.sum_cons,ih];rfl
  exact this _
 unfold eS ye
 simp only [fU,bh,h1];omega
def axy(h:kD s u=true)(hk:¬u.Kind=2):(jY s u).length=3:=by
 obtain ⟨h1,h2,h3,h4,h5⟩:=yx h
 have h0:(jY s u).length=(gH s u).length:=by unfold jY;split<;>simp
 rw [h0]
 by_cases a:0≤cK s u.Row.Id
 ·exact Lb h1 a
 ·rw [(uA a).2]
  have hk1:u.Kind=1:=by
   by_cases b:u.Kind=1
   ·exact b
   ·exact absurd (h4.2 b) a
  unfold ee at h2
  rw [if_pos hk1] at h2
  simp only [aR] at h2
  exact yf h2.1
def Uj(s:Store)(u:aC9):da (eV s u).1≤da s+4:=by
 cases h:kD s u with
 | false=>rw [Ff h];dsimp only;omega
 | true=>
  by_cases hk:u.Kind=2
  ·rw [yw h hk]
   have e1:=ank s u
   unfold da;dsimp only;rw [e1];simp only [bh];omega
  ·have h5:=(yx h).2.2.2.2.resolve_left hk
   obtain ⟨r,hr,hrm,_⟩:=Ue h5
   rw [Bu h hk hrm]
   have e1:=ank s u
   have e2:=axy h hk
   have hru:r < (dP s u).length:=by rw [Bv];exact hr
   have e3:=La (f:=cX) (x:=(dP s u)[r]++[mU s u]) hru
   have hw:df (mU s u)=(jY s u).length:=by unfold mU df;simp only [fU,bh];omega
   have e5:cX ((dP s u)[r]++[mU s u])=cX (dP s u)[r]+(1+df (mU s u)):=by
    unfold cX;simp only [bV,bo,List.sum_append,List.length_cons,List.length_nil,List.map_cons,List.map_nil,List.sum_cons,List.sum_nil];omega
   rw [yy hru]
   unfold da
   dsimp only
   unfold iR at e1 ⊢
   rw [List.length_set]
   simp only [bh] at *;omega
def wC(e:av)(s:Store):av:=⟨s,e.aDa,e.Order,e.aC6,e.Done,e.aDi,e.Steps⟩
def dG(e:av)(u:aC9):av×Bool:=if aU e&&(eV e.Store u).2 then (eD (wC e (eV e.Store u).1),true) else (e,false)
def Uk(h:(aU e&&(eV e.Store u).2)=false):dG e u=(e,false):=if_neg fR
def Ul(h:(aU e&&(eV e.Store u).2)=true):dG e u=(eD (wC e (eV e.Store u).1),true):=if_pos h
def Um(e:av)(u:aC9):aZ (wC e (eV e.Store u).1)≤aZ e+4:=by
 have:=Uj e.Store u
 unfold wC aZ;dsimp only;omega
def axz(e:av)(u:aC9):aZ (dG e u).1≤aZ e+4:=by
 have h1:=Um e u
 have h2:=TW (wC e (eV e.Store u).1)
 unfold dG
 split<;>dsimp only<;>omega
def dv(e:av)(x:fx):av×Bool:=if aU e&&ew x then (if x.Kind=1 then hJ e x.aC7 x.Limit else if x.Kind=2 then dE e x.Id else if x.Kind=3 then dG e x.aC9 else (jl e x.Steps,true)) else (e,false)
def Un(h:(aU e&&ew x)=false):dv e x=(e,false):=if_neg fR
def Uo(h:(aU e&&ew x)=true)(k:x.Kind=1):dv e x=hJ e x.aC7 x.Limit:=by unfold dv;rw [if_pos h,if_pos k]
def Up(h:(aU e&&ew x)=true)(k:x.Kind=2):dv e x=dE e x.Id:=by unfold dv;rw [if_pos h,if_neg ab,if_pos k]
def Uq(h:(aU e&&ew x)=true)(k:x.Kind=3):dv e x=dG e x.aC9:=by unfold dv;rw [if_pos h,if_neg ab,if_neg ab,if_pos k]
def Ur(h:(aU e&&ew x)=true)(k1:¬x.Kind=1)(k2:¬x.Kind=2)(k3:¬x.Kind=3):dv e x=(jl e x.Steps,true):=by unfold dv;rw [if_pos h,if_neg k1,if_neg k2,if_neg k3]
def axA(e:av)(x:fx):aZ (dv e x).1≤aZ e+40000:=by
 cases h:aU e&&ew x with
 | false=>rw [Un h];dsimp only;omega
 | true=>
  by_cases k1:x.Kind=1
  ·rw [Uo h k1]
   cases ha:nO e x.aC7 x.Limit with
   | false=>rw [KX ha];dsimp only;omega
   | true=>
    have h1:=axt e x.aC7 x.Limit
    have h2:=axx (Bq ha).2.1
    omega
  ·by_cases k2:x.Kind=2
   ·rw [Up h k2];have:=axu e x.Id;omega
   ·by_cases k3:x.Kind=3
    ·rw [Uq h k3];have:=axz e x.aC9;omega
    ·rw [Ur h k1 k2 k3];have:=axw e x.Steps;dsimp only;omega
def gv(r:Row):an:=if bA r then itoa r.Id++[58]++fc r.Values else []
def qG(h:bA r=true):0≤r.Id∧r.Id≤999∧r.Values.length=3∧∀x∈r.Values,dN x:=by
 unfold bA at h
 simp only [aR,decide_eq_true_eq,aF] at h
 refine ⟨h.2.1.1,h.2.1.2,ab,fun x hx=>?_⟩
 have:=List.all_eq_true.1 h.1 x hx
 simp [nz,aF] at this
 unfold dN;omega
def wD(r:Row):(gv r).length≤100:=by
 unfold gv
 split
 ·rename_i h
  obtain ⟨h1,h2,h3,h4⟩:=qG h
  have h5:(itoa r.Id).length≤21:=bv br
  have h6:=px h4
  simp only [bV,List.length_cons,List.length_nil]
  omega
 ·simp
def axB(n:Int):itoa n≠[]:=by
 have hd:∀u,Lib.decDigits u≠[]:=fun u e=>by
  have:=Lib.nDigits_pos u
  rw [←Lib.decDigits_length,e] at this
  simp at this
 by_cases h:n < 0
 ·rw [wm h];simp
 ·rw [rZ h];exact hd _
def yz(ws:List an):an:=if ws=[] then [110,111,110,101] else cI ws [32]
def anm(h:ws≠[]):yz ws=cI ws [32]:=if_neg h
def ann{sep:an}(h:ws≠[])(hw:∀x∈ws,x≠[]):cI ws sep≠[]:=by
 cases ws with
 | nil=>exact absurd rfl h
 | cons x r=>
  unfold cI
  rw [Lib.join_cons]
  intro e
  exact hw x aP (List.append_eq_nil_iff.1 e).1
def ano(hw:∀x∈ws,x≠[]):(if cI ws [32]=[] then [110,111,110,101] else cI ws [32])=yz ws:=by
 by_cases h:ws=[]
 ·subst h;rfl
 ·rw [if_neg (ann h hw),anm h]
def anp{β:Type}{l:List α}{f:α→β}(h:k < l.length)(hk:¬k=0):(l.take k).map f≠[]:=by
 intro e
 have:=congrArg List.length e
 rw [aX,cj] at this
 simp at this
 rcases this with e|e
 ·exact hk e
 ·rw [e] at h;simp at h
def sr(q:aC7)(r:Row):List Int:=if bA r&&bp q then q.Out.map fun f=>r.Values.getD f.toNat 0 else []
def Fg(h:bp q=true):q.Out.length≤3∧∀f∈q.Out,0≤f∧f≤2:=by
 unfold bp oE at h
 simp only [aR] at h
 have h1:=h.2.2.1
 have h2:=h.2.2.2
 refine ⟨by simp [aF] at h2;omega,fun f hf=>?_⟩
 have:=List.all_eq_true.1 h1 f hf
 simpa [lL,aF] using this
def axC(h:(k=q.Out.length∧(bA r&&bp q)=true)∨(k=0∧(q.Out.length=0∨(bA r&&bp q)=false))):((q.Out.take k).map fun f=>r.Values.getD f.toNat 0)=sr q r:=by
 unfold sr
 rcases h with ⟨rfl,h⟩|⟨rfl,h⟩
 ·rw [if_pos h,bG]
 ·split
  ·rename_i h2
   rcases h with h|h
   ·rw [iJ h];rfl
   ·rw [h] at h2;cases h2
  ·rfl
def Us(q:aC7)(r:Row):(sr q r).length≤3∧∀x∈sr q r,dN x:=by
 unfold sr
 split
 ·rename_i h
  rw [aR] at h
  obtain ⟨h1,h2,h3,h4⟩:=qG h.1
  have h5:=Fg h.2
  refine ⟨by rw [aX];exact h5.1,fun x hx=>?_⟩
  obtain ⟨f,hf,rfl⟩:=List.mem_map.1 hx
  have:=h5.2 f hf
  have hlt:f.toNat < r.Values.length:=ab
  rw [List.getD_eq_getElem?_getD,List.getElem?_eq_getElem hlt]
  exact h4 _ (List.getElem_mem hlt)
 ·exact ⟨aP,fun x hx=>nomatch hx⟩
def mV(q:aC7)(r:Row):an:=itoa r.Id++[58]++fc (sr q r)
def axD(q:aC7)(r:Row):mV q r≠[]:=by
 unfold mV
 intro e
 exact axB r.Id (List.append_eq_nil_iff.1 (List.append_eq_nil_iff.1 e).1).1
def axE(h:bA r=true):(mV q r).length≤100:=by
 obtain ⟨h1,h2,h3,h4⟩:=qG h
 have h5:(itoa r.Id).length≤21:=bv br
 have h6:=Us q r
 have h7:=px h6.2
 unfold mV
 simp only [bV,List.length_cons,List.length_nil]
 omega
def qH(x:gZ):an:=if bp x.aC7&&iD x.Rows then yz (x.Rows.map (mV x.aC7)) else []
def Ut(h:iD rows=true)(hr:r∈rows):bA r=true:=by
 unfold iD at h
 rw [aR] at h
 exact List.all_eq_true.1 h.1 r hr
def Uu(h:iD rows=true):rows.length≤1000:=by
 unfold iD at h
 rw [aR] at h
 have:=of_decide_eq_true h.2
 omega
def Le(h:iD rows=true)(k:Nat):(cI ((rows.take k).map (mV q)) [32]).length≤101000:=by
 have h1:=wn (m:=100) (sep:=[32]) (xs:=(rows.take k).map (mV q)) (by
  intro x hx
  obtain ⟨r,hr,rfl⟩:=List.mem_map.1 hx
  exact axE (Ut h (List.mem_of_mem_take hr)))
 have h2:=Uu h
 rw [aX,cj] at h1
 simp only [List.length_cons,List.length_nil] at h1
 have:min k rows.length * (100+(0+1))≤1000 * 101:=Nat.mul_le_mul ab ab
 omega
def lX(c:fw):List an:=[[102]++itoa c.Field,itoa c.Low++[46,46]++itoa c.High]
def jm(q:aC7)(k:Nat):List an:=[[113]++itoa q.Id,[116]++itoa q.aDb]++(q.aC8.take k).flatMap lX
def anq(h:k < q.aC8.length):jm q (k+1)=jm q k++lX q.aC8[k]:=by
 unfold jm;rw [arG h,bn]
def anr:jm q k≠[]:=by simp [jm]
def eW(q:aC7):an:=if bp q then cI (jm q q.aC8.length++[[111,117,116],fc q.Out]) [32] else []
def yA(h:bp q=true):0≤q.Id∧q.Id≤23∧0≤q.aDb∧q.aDb≤3∧q.aC8.length≤3∧q.Out.length≤3∧(∀x∈q.Out,dN x)∧∀k,(hk:k < q.aC8.length)→0≤q.aC8[k].Field∧q.aC8[k].Field≤2∧0≤q.aC8[k].Low∧q.aC8[k].Low≤99∧0≤q.aC8[k].High∧q.aC8[k].High≤99:=by
 have ho:=Fg h
 have h':=h
 unfold bp oD at h'
 simp only [aR,aF,decide_eq_true_eq] at h'
 refine ⟨ab,ab,ab,ab,ab,ho.1,fun x hx=>by have:=ho.2 x hx;unfold dN;omega,fun k hk=>?_⟩
 have:=List.all_eq_true.1 h'.2.1 k (List.mem_range.2 hk)
 rw [aR,fy hk] at this
 have:=this.1
 simp [oC,aF] at this
 omega
def Fh(k:Nat):(jm q k).length=2+2 * (q.aC8.take k).length:=by
 unfold jm
 rw [bV]
 have:∀l:List fw,(l.flatMap lX).length=2 * l.length:=by
  intro l
  induction l with
  | nil=>rfl
  | cons c l ih=>rw [List.flatMap_cons,bV,ih];simp [lX];omega
 rw [this];rfl
def axF(h:bp q=true)(k:Nat):∀x∈jm q k,x.length≤66:=by
 obtain ⟨a1,a2,a3,a4,a5,a6,a7,a8⟩:=yA h
 have h1:(itoa q.Id).length≤21:=bv br
 have h2:(itoa q.aDb).length≤21:=bv br
 intro x hx
 unfold jm at hx
 rcases List.mem_append.1 hx with hx|hx
 ·simp only [jq,List.not_mem_nil,or_false] at hx
  rcases hx with rfl|rfl<;>simp only [bV,List.length_cons,List.length_nil]<;>omega
 ·obtain ⟨c,hc,hx⟩:=List.mem_flatMap.1 hx
  obtain ⟨j,hj,rfl⟩:=List.mem_iff_getElem.1 (List.mem_of_mem_take hc)
  have h3:=a8 j hj
  have h4:(itoa q.aC8[j].Field).length≤21:=bv br
  have h5:(itoa q.aC8[j].Low).length≤21:=bv br
  have h6:(itoa q.aC8[j].High).length≤21:=bv br
  simp only [lX,jq,List.not_mem_nil,or_false] at hx
  rcases hx with rfl|rfl<;>simp only [bV,List.length_cons,List.length_nil]<;>omega
def Fj(h:bp q=true)(k:Nat):(cI (jm q k) [32]).length≤600:=by
 have h1:=wn (m:=66) (sep:=[32]) (axF h k)
 have h2:=(yA h).2.2.2.2.1
 have h3:=Fh (q:=q) k
 rw [cj] at h3
 rw [h3] at h1
 simp only [List.length_cons,List.length_nil] at h1
 have:(2+2 * min k q.aC8.length) * (66+(0+1))≤8 * 67:=Nat.mul_le_mul ab ab
 omega
def Uv(k:Nat):cI (jm q k++[[111,117,116],fc q.Out]) [32]=cI (jm q k) [32]++[32,111,117,116,32]++fc q.Out:=by
 rw [SH anr];simp [bn]
def Lf(q:aC7):(eW q).length≤800:=by
 unfold eW
 split
 ·rename_i h
  have h1:=Fj h q.aC8.length
  obtain ⟨a1,a2,a3,a4,a5,a6,a7,a8⟩:=yA h
  have h2:=px a7
  rw [Uv]
  simp only [bV,List.length_cons,List.length_nil]
  omega
 ·simp
def gw(u:aC9):an:=
 if ee u then
  if u.Kind=1 then [105,110,115,101,114,116,32]++gv u.Row
  else if u.Kind=2 then [100,101,108,101,116,101,32]++itoa u.Row.Id
  else [115,101,116,32]++itoa u.Row.Id++[32,102]++itoa u.Field++[32]++itoa u.Value
 else []
def Uw(h:ee u=true):0≤u.Row.Id∧u.Row.Id≤999∧0≤u.Field∧u.Field≤99∧0≤u.Value∧u.Value≤99:=by
 unfold ee at h
 split at h
 ·simp [bA,aF] at h;omega
 ·split at h
  ·simp [qo,aF] at h;omega
  ·split at h
   ·simp [qo,aF] at h;omega
   ·cases h
def ans(u:aC9):(gw u).length≤200:=by
 unfold gw
 split
 ·rename_i h
  have h1:=Uw h
  have h2:=wD u.Row
  have h3:(itoa u.Row.Id).length≤21:=bv br
  have h4:(itoa u.Field).length≤21:=bv br
  have h5:(itoa u.Value).length≤21:=bv br
  split
  ·simp only [bV,List.length_cons,List.length_nil];omega
  ·split<;>simp only [bV,List.length_cons,List.length_nil]<;>omega
 ·simp
def gQ(x:fx):an:=
 if ew x then
  if x.Kind=1 then [97,100,109,105,116,32]++itoa x.Limit++[32]++eW x.aC7
  else if x.Kind=2 then [99,97,110,99,101,108,32]++itoa x.Id
  else if x.Kind=3 then gw x.aC9
  else [115,116,101,112,32]++itoa x.Steps
 else []
def ant(h:ew x=true):0≤x.Limit∧x.Limit≤32∧0≤x.Id∧x.Id≤23∧0≤x.Steps∧x.Steps≤100:=by
 unfold ew at h
 split at h
 ·simp [aF] at h;omega
 ·split at h
  ·simp [aF] at h;omega
  ·split at h
   ·simp [aF] at h;omega
   ·split at h
    ·simp [aF] at h;omega
    ·cases h
section
/- ---- one value by its text ---- -/
noncomputable def nQ(P:α→Bool)(f:α→an)(s:an):Option α:=@dite _ (∃x,P x=true∧f x=s) (Classical.propDecidable _) (fun h=>some h.choose) (fun _=>none)
section
variable{α:Type}{P:α→Bool}{f:α→an}{g:an→α}{s:an}{x:α}
def anu(h:nQ P f s=some x):P x=true∧f x=s:=by
 unfold nQ at h
 split at h
 ·rename_i h1;injection h with h;subst h;exact h1.choose_spec
 ·cases h
def Fk(hg:∀x,P x=true→g (f x)=x)(h:P x=true):nQ P f (f x)=some x:=by
 have h1:∃y,P y=true∧f y=f x:=⟨x,h,rfl⟩
 unfold nQ
 rw [dif_pos h1]
 have h2:=h1.choose_spec
 have h3:=hg _ h2.1
 rw [h2.2,hg _ h] at h3
 rw [←h3]
def uB(hg:∀x,P x=true→g (f x)=x)(h1:P (g s)=true)(h2:f (g s)=s):nQ P f s=some (g s):=by
 have:=Fk (x:=g s) hg h1
 rwa [h2] at this
def yB(h:∀x,P x=true→f x≠s):nQ P f s=none:=by
 unfold nQ
 rw [dif_neg]
 rintro ⟨x,h1,h2⟩
 exact h x h1 h2
def oN(hg:∀x,P x=true→g (f x)=x)(h:¬(P (g s)=true∧f (g s)=s)):nQ P f s=none:=by
 apply yB
 rintro x h1 rfl
 rw [hg x h1] at h
 exact h ⟨h1,rfl⟩
def Ux{ok:an→Bool}(hk:∀x,P x=true→ok (f x)=true)(h:ok s=false):nQ P f s=none:=by
 apply yB
 rintro x h1 rfl
 rw [hk x h1] at h
 cases h
end
/- ---- numbers ---- -/
def oO(b:UInt8):Bool:=decide (48≤b.toNat)&&decide (b.toNat≤57)
def yC(l:an):Nat:=l.foldl (fun a b=>a * 10+(b.toNat - 48)) 0
def anv(l:an)(b:UInt8):yC (l++[b])=yC l * 10+(b.toNat - 48):=by unfold yC;rw [List.foldl_append];rfl
def Lg{d:Nat}(h:d < 10):(UInt8.ofNat (48+d)).toNat=48+d:=by
 rw [UInt8.toNat_ofNat'];omega
def Bw(u:Nat):∀b∈Lib.decDigits u,oO b=true:=by
 induction u using Nat.strongRecOn with
 | ind u ih=>
  intro b hb
  by_cases h:u < 10
  ·rw [wl h] at hb
   rw [List.mem_singleton] at hb;subst hb
   unfold oO;rw [Lg h,aR,decide_eq_true_iff,decide_eq_true_iff];omega
  ·rw [EG ab] at hb
   rcases List.mem_append.1 hb with hb|hb
   ·exact ih _ ab b hb
   ·rw [List.mem_singleton] at hb;subst hb
    unfold oO;rw [Lg (Nat.mod_lt _ ab),aR,decide_eq_true_iff,decide_eq_true_iff];omega
def Uy(u:Nat):yC (Lib.decDigits u)=u:=by
 induction u using Nat.strongRecOn with
 | ind u ih=>
  by_cases h:u < 10
  ·rw [wl h]
   show 0 * 10+((UInt8.ofNat (48+u)).toNat - 48)=u
   rw [Lg h];omega
  ·rw [EG ab,anv,ih _ ab,Lg (Nat.mod_lt _ ab)]
   omega
def Uz(u:Nat):Lib.decDigits u≠[]:=by
 by_cases h:u < 10
 ·rw [wl h];simp
 ·rw [EG ab];simp
def UA:∀(k u:Nat),u < 10 ^ (k+1)→(Lib.decDigits u).length≤k+1
 | 0,u,h=>by rw [wl oY];simp
 | k+1,u,h=>by
  by_cases h1:u < 10
  ·rw [wl h1];simp
  ·rw [EG ab,bV]
   have:=UA k (u / 10) (by rw [Nat.pow_succ] at h;omega)
   simp;omega
def Fm(b:UInt8):Bool:=oO b||b==45
def axG(n:Int):∀b∈itoa n,Fm b=true:=by
 intro b hb
 by_cases h:n < 0
 ·rw [wm h] at hb
  rcases List.mem_cons.1 hb with rfl|hb
  ·rfl
  ·simp [Fm,Bw _ b hb]
 ·rw [rZ h] at hb
  simp [Fm,Bw _ b hb]
def axH(n:Int):itoa n≠[]:=by
 by_cases h:n < 0
 ·rw [wm h];simp
 ·rw [rZ h];exact Uz _
def axI(h : -999999999≤n∧n≤999999999):(itoa n).length≤10:=by
 have h1:=UA 8 n.natAbs ab
 by_cases h:n < 0
 ·rw [wm h];simp;omega
 ·rw [rZ h];omega
def anw(u:Nat):∃b r,Lib.decDigits u=b::r∧oO b=true:=by
 have h1:=Uz u
 have h2:=Bw u
 cases h:Lib.decDigits u with
 | nil=>exact absurd h h1
 | cons b r=>exact ⟨b,r,rfl,h2 b fR⟩
def Fo{b:UInt8}:oO b=true↔48≤b.toNat∧b.toNat≤57:=by simp [oO]
def anx:∀(l:an) (acc:Nat),(∀b∈l,oO b=true)→l.foldl (fun a b=>a * 10+(b.toNat - 48)) acc < 1844674407370955162→Lib.parseUint10 acc l = .ok (l.foldl (fun a b=>a * 10+(b.toNat - 48)) acc)
 | [],acc,_,_=>rfl
 | c::r,acc,hd,hv=>by
  have h1:=Fo.1 (hd c aP)
  have hmono:∀(l:an) (a:Nat),a≤l.foldl (fun a b=>a * 10+(b.toNat - 48)) a:=by
   intro l
   induction l with
   | nil=>intro a;exact Nat.le_refl _
   | cons x l ih=>intro a;exact Nat.le_trans (show a≤a * 10+(x.toNat - 48) by omega) (ih _)
  have h2:=hmono r (acc * 10+(c.toNat - 48))
  rw [List.foldl_cons] at hv ⊢
  unfold Lib.parseUint10
  rw [if_pos h1,if_neg ab,if_neg ab]
  exact anx r _ (fun b hb=>hd b wS) hv
def anz(h : -999999999≤n∧n≤999999999):Lib.atoiAll (itoa n) = .ok n:=by
 have hv:=Uy n.natAbs
 have hp:Lib.parseMag (Lib.decDigits n.natAbs) = .ok n.natAbs:=by
  unfold Lib.parseMag
  rw [if_neg (Uz _)]
  have:=anx (Lib.decDigits n.natAbs) 0 (Bw _) (by show yC _ < _;rw [hv];omega)
  rw [this]
  show Lib.NumEnd.ok (yC _)=_
  rw [hv]
 by_cases h0:n < 0
 ·rw [wm h0]
  simp only [Lib.atoiAll]
  rw [if_pos (Or.inr ak),hp]
  dsimp only
  rw [if_neg (by intro e;exact e.1 ak),if_neg ab,if_pos ak]
  congr 1;omega
 ·rw [rZ h0]
  obtain ⟨b,r,e,hb⟩:=anw n.natAbs
  have hb:=Fo.1 hb
  rw [e] at hp ⊢
  simp only [Lib.atoiAll]
  rw [if_neg ab,hp]
  dsimp only
  rw [if_neg ab,if_neg ab,if_neg ab]
  congr 1;omega
def hM(n:Int):Bool:=decide (-999999999≤n)&&decide (n≤999999999)
def uC:hM n=true ↔ -999999999≤n∧n≤999999999:=by simp [hM]
noncomputable def ii(s:an):Option Int:=nQ hM itoa s
def Lh(s:an):Int:=match Lib.atoiAll s with | .ok v=>v|_=>0
def anA(n:Int)(h:hM n=true):Lh (itoa n)=n:=by unfold Lh;rw [anz (uC.1 h)]
def Li(h:hM n=true):ii (itoa n)=some n:=Fk anA h
def anB{s:an}(h:ii s=some n):hM n=true∧itoa n=s:=anu h
def axJ{s:an}(h:∀v,Lib.atoiAll s ≠ .ok v):ii s=none:=by
 apply yB
 rintro n hn rfl
 exact h n (anz (uC.1 hn))
def axK{s:an}{v:Int}(h:Lib.atoiAll s = .ok v)(h2:¬(hM v=true∧itoa v=s)):ii s=none:=by
 refine oN anA ?_
 rw [show Lh s=v by unfold Lh;rw [h]];exact h2
def axL{s:an}{v:Int}(h1:hM v=true)(h2:itoa v=s):ii s=some v:=by rw [←h2];exact Li h1
/- the reference's reading -/
def fW(l:an):Nat×Nat:=l.foldl (fun a b=>if oO b then (a.1 * 10+(b.toNat - 48),a.2+1) else a) (0,0)
def UB(l:an)(b:UInt8):fW (l++[b])=if oO b then ((fW l).1 * 10+(b.toNat - 48),(fW l).2+1) else fW l:=by unfold fW;rw [List.foldl_append];rfl
def anC(l:an):(fW l).2≤l.length∧(fW l).1 < 10 ^ (fW l).2:=by
 induction l using Bf with
 | h0=>exact ⟨Nat.le_refl _,ak⟩
 | h1 l b ih=>
  rw [UB]
  split
  ·rename_i h
   have:=Fo.1 h
   refine ⟨iZ,?_⟩
   show _ < 10 ^ ((fW l).2+1)
   rw [Nat.pow_succ];omega
  ·exact ⟨iZ,ih.2⟩
def anD{l:an}(h:∀b∈l,oO b=true):fW l=(yC l,l.length):=by
 induction l using Bf with
 | h0=>rfl
 | h1 l b ih=>
  rw [UB,if_pos (h b aP),ih (fun x hx=>h x gU),anv]
  simp
def axM(l:an):fW (45::l)=fW l:=rfl
def pD(s:an):Int:=if s.head?=some 45 then -((fW (s.take 11)).1:Int) else ((fW (s.take 11)).1:Int)
def sw(s:an):Bool:=decide (9 < (fW (s.take 11)).2)||(decide (10 < s.length)||!(itoa (pD s)==s))
def anE(n:Int)(h:hM n=true):pD (itoa n)=n∧sw (itoa n)=false:=by
 have hl:=axI (uC.1 h)
 have ht:(itoa n).take 11=itoa n:=qX ab
 have hk:=UA 8 n.natAbs (by have:=uC.1 h;omega)
 have hs:fW (itoa n)=(n.natAbs,(Lib.decDigits n.natAbs).length):=by
  by_cases h0:n < 0
  ·rw [wm h0,axM,anD (Bw _),Uy]
  ·rw [rZ h0,anD (Bw _),Uy]
 have h1:pD (itoa n)=n:=by
  unfold pD
  rw [ht,hs]
  by_cases h0:n < 0
  ·rw [if_pos (by rw [wm h0];rfl)];simp;omega
  ·rw [if_neg]
   ·simp;omega
   ·rw [rZ h0]
    obtain ⟨b,r,e,hb⟩:=anw n.natAbs
    rw [e]
    intro e
    simp at e
    rw [e] at hb
    exact absurd hb ak
 refine ⟨h1,?_⟩
 unfold sw
 rw [h1,ht,hs]
 simp
 omega
def axN{s:an}(h:sw s=true):ii s=none:=Ux (ok:=fun s=>!sw s) (fun n hn=>by rw [(anE n hn).2];rfl) (by rw [h];rfl)
def axO{s:an}(h:sw s=false):ii s=some (pD s):=by
 have h1:=h
 unfold sw at h1
 simp at h1
 have h2:=anC (s.take 11)
 have h3:10 ^ (fW (s.take 11)).2≤10 ^ 9:=Nat.pow_le_pow_right ak ab
 refine uB (g:=pD) (fun n hn=>(anE n hn).1) (uC.2 ?_) h1.2.2
 unfold pD
 split<;>omega
noncomputable def cQ(s:an):Bool:=(ii s).isSome
noncomputable def bJ(s:an):Int:=(ii s).getD 0
noncomputable def bT(s:an):Int:=(ii s).getD (-100000)
def Fq(h:hM n=true):cQ (itoa n)=true:=by unfold cQ;rw [Li h];rfl
def qI(h:hM n=true):bJ (itoa n)=n:=by unfold bJ;rw [Li h];rfl
def qJ(h:hM n=true):bT (itoa n)=n:=by unfold bT;rw [Li h];rfl
def axP(s:an):-999999999≤bJ s∧bJ s≤999999999:=by
 unfold bJ
 cases h:ii s with
 | none=>simp
 | some n=>exact uC.1 (anB h).1
def UC(s:an):-999999999≤bT s∧bT s≤999999999:=by
 unfold bT
 cases h:ii s with
 | none=>simp
 | some n=>exact uC.1 (anB h).1
/- ---- parts of a text ---- -/
def aq(c:UInt8):an→List an
 | []=>[[]]
 | b::r=>if b=c then []::aq c r else (b::(aq c r).headD [])::(aq c r).tail
def wE(c:UInt8)(s:an):aq c s≠[]:=by
 cases s with
 | nil=>simp [aq]
 | cons b r=>unfold aq;split<;>simp
def qK{a:an}(h:c∉a):aq c a=[a]:=by
 induction a with
 | nil=>rfl
 | cons b r ih=>
  unfold aq
  rw [if_neg (by rintro rfl;simp at h),ih (fun hx=>h gU)]
  rfl
def UD(c:UInt8)(a b:an):aq c (a++c::b)=aq c a++aq c b:=by
 induction a with
 | nil=>simp [aq]
 | cons x r ih=>
  rw [List.cons_append]
  rw [aq,aq.eq_2 c x r]
  split
  ·rw [ih];rfl
  ·have h1:=wE c r
   rw [ih]
   cases hh:aq c r with
   | nil=>exact absurd hh h1
   | cons y ys=>rfl
def anF(c b:UInt8)(s:an):aq c (s++[b])=if b=c then aq c s++[[]] else (aq c s).dropLast++[(aq c s).getLastD []++[b]]:=by
 split
 ·rename_i h;subst h
  have:=UD b s []
  simpa [aq] using this
 ·rename_i h
  induction s with
  | nil=>simp [aq,h]
  | cons x r ih=>
   have h1:=wE c r
   rw [List.cons_append]
   unfold aq
   rw [ih]
   cases hh:aq c r with
   | nil=>exact absurd hh h1
   | cons y ys=>
    split
    ·cases ys<;>simp
    ·cases ys with
     | nil=>simp
     | cons z zs=>simp
def qL{a:an}(h:c∉a):aq c (a++c::b)=a::aq c b:=by rw [UD,qK h];rfl
def anG(h0:ws≠[])(h:∀w∈ws,c∉w):aq c (cI ws [c])=ws:=by
 induction ws using Bf with
 | h0=>exact absurd rfl h0
 | h1 ws y ih=>
  rw [pv]
  split
  ·rename_i e;subst e;simp [qK (h y aP)]
  ·rename_i e
   rw [bn,List.singleton_append,UD,ih e (fun w hw=>h w (by simp [hw])),qK (h y aP)]
/- the library's splitting is this one -/
def anH(c:UInt8)(s:an):(aq c s).length=s.count c+1:=by
 induction s with
 | nil=>rfl
 | cons b r ih=>
  unfold aq
  split
  ·rename_i h;subst h;simp [ih]
  ·rename_i h
   have h1:=wE c r
   rw [List.count_cons_of_ne (fun e=>h e)]
   cases hh:aq c r with
   | nil=>exact absurd hh h1
   | cons y ys=>rw [hh] at ih;simpa using ih
def anI{a:an}(h:c∉a):Lib.index (a++c::b) [c]=a.length:=by
 induction a with
 | nil=>unfold Lib.index;simp
 | cons x r ih=>
  rw [List.cons_append]
  unfold Lib.index
  rw [if_neg,ih (fun hx=>h gU)]
  ·rw [if_neg]
   ·simp
   ·intro e;have:=beq_iff_eq.1 e;omega
  ·simp;rintro rfl;simp at h
def axQ{s:an}(h:c∈s):∃a b,s=a++c::b∧c∉a:=by
 induction s with
 | nil=>simp at h
 | cons x r ih=>
  by_cases e:x=c
  ·subst e;exact ⟨[],r,rfl,aP⟩
  ·obtain ⟨a,b,e1,e2⟩:=ih (by rcases List.mem_cons.1 h with h|h;exact absurd h.symm e;exact h)
   exact ⟨x::a,b,by rw [e1];rfl,by rintro hx;rcases List.mem_cons.1 hx with hx|hx;exact e hx.symm;exact e2 hx⟩
def anJ(c:UInt8):∀(k:Nat) (s:an),s.count c=k→Lib.splitK [c] 0 k s=aq c s
 | 0,s,h=>by rw [qK (fun hx=>by have:=List.count_pos_iff.2 hx;omega)];rfl
 | k+1,s,h=>by
  have hm:c∈s:=List.count_pos_iff.1 ab
  obtain ⟨a,b,rfl,ha⟩:=axQ hm
  rw [qL ha]
  unfold Lib.splitK
  rw [anI ha,if_neg (by intro e;have:=beq_iff_eq.1 e;omega)]
  have hc:b.count c=k:=by
   rw [List.count_append,List.count_cons_self,List.count_eq_zero_of_not_mem ha] at h;omega
  have:=anJ c k b hc
  simp [this]
end
/- ---- parts of printed texts ---- -/
def jZ(h:Fm c=false):c∉itoa n:=by
 intro hc
 rw [axG n c hc] at h
 cases h
def UE(h:Fm c=false)(h2:c≠44):c∉fc l:=by
 unfold fc
 have:∀ws:List an,(∀w∈ws,c∉w)→c∉cI ws [44]:=by
  intro ws
  induction ws using Bf with
  | h0=>intro _;simp [EH]
  | h1 ws y ih=>
   intro hw
   rw [pv]
   split
   ·exact hw y aP
   ·simp only [ff,List.mem_singleton,not_or]
    exact ⟨⟨ih (fun w hx=>hw w gU),h2⟩,hw y aP⟩
 refine this _ fun w hw=>?_
 obtain ⟨x,_,rfl⟩:=List.mem_map.1 hw
 exact jZ h
def UF(h:l≠[]):aq 44 (fc l)=l.map itoa:=by
 unfold fc
 refine anG oY fun w hw=>?_
 obtain ⟨x,_,rfl⟩:=List.mem_map.1 hw
 exact jZ ak
noncomputable def qM(s:an):Bool:=(aq 44 s).all cQ
noncomputable def uD(s:an):List Int:=if qM s then (aq 44 s).map bJ else []
noncomputable def Bx(s:an):List Int:=(aq 44 s).map bT
def UG(h:l≠[])(h2:∀x∈l,hM x=true):qM (fc l)=true:=by
 unfold qM
 rw [UF h,nb]
 intro w hw
 obtain ⟨x,hx,rfl⟩:=List.mem_map.1 hw
 exact Fq (h2 x hx)
def axR(h2:∀x∈l,hM x=true):(l.map itoa).map bJ=l:=by
 rw [List.map_map]
 conv=>rhs;rw [←List.map_id l]
 exact List.map_congr_left fun x hx=>qI (h2 x hx)
def axS(h2:∀x∈l,hM x=true):(l.map itoa).map bT=l:=by
 rw [List.map_map]
 conv=>rhs;rw [←List.map_id l]
 exact List.map_congr_left fun x hx=>qJ (h2 x hx)
def anK(h:l≠[])(h2:∀x∈l,hM x=true):uD (fc l)=l:=by
 unfold uD
 rw [if_pos (UG h h2),UF h,axR h2]
def anL(h:l≠[])(h2:∀x∈l,hM x=true):Bx (fc l)=l:=by
 unfold Bx
 rw [UF h,axS h2]
def fB(s p:an):an:=(Lib.cut s p).1
def iv(s p:an):an:=(Lib.cut s p).2.1
def By{a:an}(h:c∉a):fB (a++c::b) [c]=a∧iv (a++c::b) [c]=b:=by
 unfold fB iv Lib.cut
 rw [anI h,if_pos ab]
 simp
def axT{a:an}(h:c∉a):Lib.index (a++c::c::b) [c,c]=a.length:=by
 induction a with
 | nil=>unfold Lib.index;simp
 | cons x r ih=>
  rw [List.cons_append]
  unfold Lib.index
  rw [if_neg,ih (fun hx=>h gU)]
  ·rw [if_neg]
   ·simp
   ·intro e;have:=beq_iff_eq.1 e;omega
  ·simp;rintro rfl;simp at h
def axU{a:an}(h:c∉a):fB (a++c::c::b) [c,c]=a∧iv (a++c::c::b) [c,c]=b:=by
 unfold fB iv Lib.cut
 rw [axT h,if_pos ab]
 simp
def lj(a : -999999999≤n)(b:n≤999999999):hM n=true:=uC.2 ⟨a,b⟩
/- ---- rows ---- -/
def anM(h:bA r=true):(0≤r.Id∧r.Id≤999)∧r.Values≠[]∧r.Values.length=3∧∀x∈r.Values,hM x=true:=by
 obtain ⟨a,b,c,d⟩:=qG h
 refine ⟨⟨a,b⟩,by rintro e;rw [e] at c;simp at c,c,fun x hx=>?_⟩
 unfold bA at h
 simp only [aR] at h
 have:=List.all_eq_true.1 h.1 x hx
 simp [nz,aF] at this
 exact lj ab ab
noncomputable def oP(s:an):Row:=⟨bJ (fB s [58]),uD (iv s [58])⟩
noncomputable def Lj(s:an):Bool:=cQ (fB s [58])&&qM (iv s [58])
noncomputable def lY(s:an):Row:=⟨bT ((aq 58 s).getD 0 []),if (aq 58 s).length=2 then Bx ((aq 58 s).getD 1 []) else []⟩
noncomputable def iX(s:an):Option Row:=nQ bA gv s
def UH(h:bA r=true):gv r=itoa r.Id++58::fc r.Values:=by unfold gv;rw [if_pos h];simp
def axV(h:gv r≠[]):bA r=true:=by
 cases e:bA r with
 | true=>rfl
 | false=>exact absurd (by unfold gv;rw [if_neg yR]) h
def axW(h:bA r=true):gv r≠[]:=by rw [UH h];simp
def Lk(r:Row)(h:bA r=true):oP (gv r)=r∧Lj (gv r)=true:=by
 obtain ⟨⟨a,b⟩,c,d,e⟩:=anM h
 have hc:=By (c:=58) (a:=itoa r.Id) (b:=fc r.Values) (jZ ak)
 have hn:=lj (n:=r.Id) ab ab
 unfold oP Lj
 rw [UH h,hc.1,hc.2,qI hn,anK c e,Fq hn,UG c e]
 exact ⟨rfl,rfl⟩
def UI(r:Row)(h:bA r=true):lY (gv r)=r:=by
 obtain ⟨⟨a,b⟩,c,d,e⟩:=anM h
 have hs:aq 58 (gv r)=[itoa r.Id,fc r.Values]:=by
  rw [UH h,qL (jZ ak),qK (UE ak ak)]
 unfold lY
 rw [hs]
 show (⟨bT (itoa r.Id),Bx (fc r.Values)⟩:Row)=r
 rw [qJ (lj ab ab),anL c e]
def pE:Row:=⟨0,[]⟩
def axX{s:an}(h:Lj s=false∨bA (oP s)=false∨gv (oP s)≠s):iX s=none:=by
 rcases h with h|h|h
 ·exact Ux (fun r hr=>(Lk r hr).2) h
 ·exact oN (g:=oP) (fun r hr=>(Lk r hr).1) fR
 ·exact oN (g:=oP) (fun r hr=>(Lk r hr).1) (fun e=>h e.2)
def axY{s:an}(h1:bA (oP s)=true)(h2:gv (oP s)=s):iX s=some (oP s):=uB (g:=oP) (fun r hr=>(Lk r hr).1) h1 h2
def anN{s:an}(h:s=[]∨gv (lY s)≠s):iX s=none:=by
 rcases h with h|h
 ·exact yB fun r hr e=>axW hr (e.trans h)
 ·exact oN (g:=lY) UI (fun e=>h e.2)
def anO{s:an}(h1:s≠[])(h2:gv (lY s)=s):iX s=some (lY s):=uB (g:=lY) UI (axV Mq) h2
/- ---- a number behind a letter ---- -/
def Fr(s p:an):Bool:=p.isPrefixOf s
def qN(s p:an):an:=if p.isPrefixOf s then s.drop p.length else s
noncomputable def sx(c:UInt8)(w:an):Int:=bJ (qN w [c])
noncomputable def sy(c:UInt8)(w:an):Bool:=Fr w [c]&&cQ (qN w [c])
noncomputable def kb(c:UInt8)(w:an):Int:=if w.length < 2∨w.head?≠some c then -100000 else bT (w.drop 1)
def Ll(h:hM n=true):sx c (c::itoa n)=n∧sy c (c::itoa n)=true∧kb c (c::itoa n)=n:=by
 have h1:=axH n
 have h2:(itoa n).length≠0:=Gl
 refine ⟨?_,?_,?_⟩
 ·unfold sx qN;rw [if_pos aP];exact qI h
 ·unfold sy Fr qN;rw [if_pos aP];simp [Fq h]
 ·unfold kb;rw [if_neg iZ];exact qJ h
/- ---- updates ---- -/
def de:aC9:=⟨0,pE,0,0⟩
noncomputable def nR(s:an):aC9:=
 if (aq 32 s).getD 0 []=([105,110,115,101,114,116]:an)∧(aq 32 s).length=2 then ⟨1,(iX ((aq 32 s).getD 1 [])).getD pE,0,0⟩
 else if (aq 32 s).getD 0 []=([100,101,108,101,116,101]:an)∧(aq 32 s).length=2 then ⟨2,⟨bJ ((aq 32 s).getD 1 []),[]⟩,0,0⟩
 else if (aq 32 s).getD 0 []=([115,101,116]:an)∧(aq 32 s).length=4 then ⟨3,⟨bJ ((aq 32 s).getD 1 []),[]⟩,sx 102 ((aq 32 s).getD 2 []),bJ ((aq 32 s).getD 3 [])⟩
 else de
noncomputable def iI(s:an):aC9:=
 if (aq 32 s).length=2∧(aq 32 s).getD 0 []=([105,110,115,101,114,116]:an) then ⟨1,(iX ((aq 32 s).getD 1 [])).getD pE,0,0⟩
 else if (aq 32 s).length=2 then ⟨2,⟨bT ((aq 32 s).getD 1 []),[]⟩,0,0⟩
 else if (aq 32 s).length=4 then ⟨3,⟨bT ((aq 32 s).getD 1 []),[]⟩,kb 102 ((aq 32 s).getD 2 []),bT ((aq 32 s).getD 3 [])⟩
 else de
noncomputable def fX(s:an):Option aC9:=nQ ee gw s
def axZ:(32:UInt8)∉gv r:=by
 unfold gv
 split
 ·simp only [ff,not_or]
  exact ⟨⟨jZ ak,ak⟩,UE ak ak⟩
 ·simp
def Lm(h:ee u=true) :
  (∃r,bA r=true∧u=⟨1,r,0,0⟩∧gw u=([105,110,115,101,114,116]:an)++32::gv r) ∨
  (∃n:Int,0≤n∧n≤999∧u=⟨2,⟨n,[]⟩,0,0⟩∧gw u=([100,101,108,101,116,101]:an)++32::itoa n) ∨
  (∃n f v:Int,(0≤n∧n≤999)∧(0≤f∧f≤2)∧(0≤v∧v≤99)∧u=⟨3,⟨n,[]⟩,f,v⟩∧gw u=([115,101,116]:an)++32::(itoa n++32::(102::itoa f++32::itoa v))):=by
 have h':=h
 obtain ⟨k,⟨i,vs⟩,f,v⟩:=u
 unfold ee at h
 dsimp only at h
 split at h
 ·rename_i hk
  subst hk
  simp only [aR,decide_eq_true_eq] at h
  obtain ⟨h1,rfl,rfl⟩:=h
  refine Or.inl ⟨⟨i,vs⟩,h1,rfl,?_⟩
  unfold gw
  rw [if_pos h',if_pos rfl]
  rfl
 ·split at h
  ·rename_i hk
   subst hk
   simp [qo,aF] at h
   obtain ⟨⟨⟨h1,h2⟩,rfl⟩,rfl,rfl⟩:=h
   refine Or.inr (Or.inl ⟨i,h1,h2,rfl,?_⟩)
   unfold gw
   rw [if_pos h',if_neg aP,if_pos rfl]
   rfl
  ·split at h
   ·rename_i hk
    subst hk
    simp [qo,aF] at h
    obtain ⟨⟨⟨h1,h2⟩,rfl⟩,⟨h3,h4⟩,h5,h6⟩:=h
    refine Or.inr (Or.inr ⟨i,f,v,⟨h1,h2⟩,⟨h3,h4⟩,⟨h5,h6⟩,rfl,?_⟩)
    unfold gw
    rw [if_pos h',if_neg aP,if_neg aP]
    simp [bn]
   ·cases h
def ax0(h:bA r=true):iX (gv r)=some r:=Fk (g:=lY) UI h
def Bz(u:aC9)(h:ee u=true):nR (gw u)=u∧iI (gw u)=u:=by
 rcases Lm h with ⟨r,h1,rfl,e⟩|⟨n,h1,h2,rfl,e⟩|⟨n,f,v,⟨h1,h2⟩,⟨h3,h4⟩,⟨h5,h6⟩,rfl,e⟩
 ·have hs:aq 32 (([105,110,115,101,114,116]:an)++32::gv r)=[([105,110,115,101,114,116]:an),gv r]:=by rw [qL ak,qK axZ]
  unfold nR iI
  rw [e,hs]
  have:=ax0 h1
  simp [this]
 ·have hs:aq 32 (([100,101,108,101,116,101]:an)++32::itoa n)=[([100,101,108,101,116,101]:an),itoa n]:=by rw [qL ak,qK (jZ ak)]
  have hn:=lj (n:=n) ab ab
  unfold nR iI
  rw [e,hs]
  simp [qI hn,qJ hn]
 ·have hs:aq 32 (([115,101,116]:an)++32::(itoa n++32::(102::itoa f++32::itoa v)))=[([115,101,116]:an),itoa n,102::itoa f,itoa v]:=by
   rw [qL ak,qL (jZ ak),qL,qK (jZ ak)]
   intro hx
   rcases List.mem_cons.1 hx with hx|hx
   ·exact absurd hx ak
   ·exact jZ ak hx
  have hn:=lj (n:=n) ab ab
  have hf:=Ll (c:=102) (lj (n:=f) ab ab)
  have hv:=lj (n:=v) ab ab
  unfold nR iI
  rw [e,hs]
  simp [qI hn,qJ hn,qI hv,qJ hv,hf]
def anP(h:ee u=true):gw u≠[]:=by
 rcases Lm h with ⟨r,h1,rfl,e⟩|⟨n,h1,h2,rfl,e⟩|⟨n,f,v,⟨h1,h2⟩,⟨h3,h4⟩,⟨h5,h6⟩,rfl,e⟩<;>rw [e]<;>simp
def ax1(h:gw u≠[]):ee u=true:=by
 cases e:ee u with
 | true=>rfl
 | false=>exact absurd (by unfold gw;rw [if_neg yR]) h
def ax2(h:ee u=true):fX (gw u)=some u:=Fk (g:=nR) (fun u hu=>(Bz u hu).1) h
def ax3{s:an}(h:ee (nR s)=false∨gw (nR s)≠s):fX s=none:=by
 rcases h with h|h
 ·exact oN (g:=nR) (fun u hu=>(Bz u hu).1) fR
 ·exact oN (g:=nR) (fun u hu=>(Bz u hu).1) (fun e=>h e.2)
def ax4{s:an}(h1:ee (nR s)=true)(h2:gw (nR s)=s):fX s=some (nR s):=uB (g:=nR) (fun u hu=>(Bz u hu).1) h1 h2
def anQ{s:an}(h:s=[]∨gw (iI s)≠s):fX s=none:=by
 rcases h with h|h
 ·exact yB fun r hr e=>anP hr (e.trans h)
 ·exact oN (g:=iI) (fun u hu=>(Bz u hu).2) (fun e=>h e.2)
def anR{s:an}(h1:s≠[])(h2:gw (iI s)=s):fX s=some (iI s):=uB (g:=iI) (fun u hu=>(Bz u hu).2) (ax1 Mq) h2
end Go.Proofs.YtmekkgdboplbjaaGreatDoor
