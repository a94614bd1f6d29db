/- Definitions and their laws. No condition. -/
import Derived.Test.YtmekkgdboplbjaaGreatDoorEE0
set_option linter.all false
namespace Go.Proofs.YtmekkgdboplbjaaGreatDoor
open Go Go.RowKit M
set_option maxRecDepth 10000
section
def cu(e:aC):List be:=e.Store.ax2.getD e.ax7.toNat []
def eY(l:List be)(t:Int):List Row:=(l.filter fun v=>gk v t).map jL
def kY(e:aC)(a:ax3):List Row:=(eY (cu e) a.Time).filter (ik a.ax4)
def kx(e:aC)(a:ax3)(j:Nat):List Row:=((eY (cu e) a.Time).take j).filter (ik a.ax4)
def nY(l:List Int)(x:Int):List Int:=l.filter fun y=>!(y==x)
def nZ(e:aC)(a:ax3):ax3:=⟨a.ax4,a.Time,nY a.ayc e.ax7,a.Age,a.Sent+((kY e a).length:Int),a.Cap,a.Rows++kY e a⟩
def mr(e:aC)(ids:List Int)(a:ax3):ax3:=if cv ids a.ax4.Id then nZ e a else a
def cw(e:aC)(k:Nat):List ax3:=e.ax3.map (mr e ((parts e).take k))
def JH(e:aC)(id:Int):ax3:=e.ax3.getD (eD e.ax3 id).toNat jN
def AC(e:aC)(id:Int):Int:=(JH e id).ax4.ax8
def AD(e:aC)(id:Int):Int:=((kY e (JH e id)).length:Int)
def fu(e:aC)(k:Nat):hI:=⟨e.ax7,((cu e).length:Int),(parts e).take k,((parts e).take k).map (AC e),((parts e).take k).map (AD e)⟩
def mu(n:Int)(a:ax3):ax3:=⟨a.ax4,a.Time,a.ayc,a.Age+1,if (a.Age+1).tmod n=0 then 0 else a.Sent,a.Cap,a.Rows⟩
def fD(a:ax3):Bool:=decide (a.ayc.length=0)
def vw(a:ax3):jI:=⟨a.ax4,a.Time,a.Age,a.Rows⟩
def dr(e:aC)(k:Nat):List ax3:=(cw e k).map (mu (e.Store.ax2.length:Int))
def mw(e:aC)(k m:Nat):List ax3:=((dr e k).take m).filter fun a=>!fD a
def jy(e:aC)(k m:Nat):List jI:=(((dr e k).take m).filter fD).map vw
def jz(e:aC)(k:Nat):List hI:=if (parts e).length=0 then e.ayf else e.ayf++[fu e k]
def Sd(e:aC)(k m:Nat):aC:=⟨e.Store,(e.ax7+1).tmod (e.Store.ax2.length:Int),e.Order,mw e k m,e.Done++jy e k m,jz e k,e.Steps+1⟩
def jf(e:aC):aC:=Sd e (parts e).length e.ax3.length
def jT(e:aC):Bool:=bn e&&(decide (e.Steps < 100000)&&(decide ((e.ayf.length:Int) < 1000)&&decide ((e.Done.length:Int)+(e.ax3.length:Int)≤1000)))
def dL(e:aC):aC:=if jT e then dZ (jf e) else e
def ajD{e:aC}(h:jT e=false):dL e=e:=if_neg iF
def Se{e:aC}(h:jT e=true):dL e=dZ (jf e):=if_pos h
def DX{e:aC}(h:jT e=true):bn e=true∧e.Steps < 100000∧(e.ayf.length:Int) < 1000∧(e.Done.length:Int)+(e.ax3.length:Int)≤1000:=by
 unfold jT at h
 simp only [aX,decide_eq_true_eq] at h
 exact ⟨h.1,h.2.1,h.2.2.1,h.2.2.2⟩
def tW{e:aC}(h:bn e=true):e.ax3.Pairwise (fun a b=>a.ax4.Id < b.ax4.Id):=by
 unfold bn at h
 simp only [aX] at h
 exact aii h.2.1
def DY{e:aC}(h:bn e=true){i j:Nat}(hi:i < e.ax3.length)(hj:j < e.ax3.length)(he:e.ax3[i].ax4.Id=e.ax3[j].ax4.Id):i=j:=by
 have hp:=tW h
 rw [List.pairwise_iff_getElem] at hp
 rcases Nat.lt_trichotomy i j with h1|h1|h1
 ·have:=hp i j hi hj h1;omega
 ·exact h1
 ·have:=hp j i hj hi h1;omega
def Sf{e:aC}(h:bn e=true):(parts e).Pairwise (· < ·):=by
 rw [vl h]
 unfold je
 rw [List.pairwise_map]
 exact (tW h).filter _
def asy{l:List Int}(hp:l.Pairwise (· < ·)){k:Nat}(hk:k < l.length)(x:Int):cv (l.take (k+1)) x=(cv (l.take k) x||(l[k]==x)):=by
 unfold cv
 rw [cU hk,List.any_append];simp
def asz{l:List Int}(hp:l.Pairwise (· < ·)){k:Nat}(hk:k < l.length):cv (l.take k) l[k]=false:=by
 unfold cv
 rw [List.any_eq_false]
 intro y hy
 obtain ⟨j,hj,rfl⟩:=List.mem_iff_getElem.1 hy
 rw [cI] at hj
 rw [List.pairwise_iff_getElem] at hp
 have:=hp j k ab hk ab
 simp
 omega
def Sg{e:aC}{k:Nat}(hok:bn e=true)(hk:k < (parts e).length):∃i,∃hi:i < e.ax3.length,eD e.ax3 (parts e)[k]=(i:Int)∧e.ax3[i].ax4.Id=(parts e)[k]∧kV e e.ax3[i]=true:=by
 have hm:∀x,x∈parts e→x∈je e e.ax3:=fun x hx=>by rwa [vl hok] at hx
 have hm:=hm _ (List.getElem_mem hk)
 unfold je at hm
 obtain ⟨a,ha,hid⟩:=List.mem_map.1 hm
 obtain ⟨ha,hp⟩:=List.mem_filter.1 ha
 obtain ⟨i,hi,rfl⟩:=List.mem_iff_getElem.1 ha
 refine ⟨i,hi,?_,hid,hp⟩
 refine Rq hi ?_ (by unfold gR;rw [hid];simp)
 rw [List.any_eq_false]
 intro b hb
 obtain ⟨j,hj,rfl⟩:=List.mem_iff_getElem.1 hb
 rw [cI] at hj
 intro hc
 unfold gR at hc
 have hc:e.ax3[j].ax4.Id=(parts e)[k]:=by simpa using hc
 have:=DY hok (show j < e.ax3.length by omega) hi (hc.trans hid.symm)
 omega
section
variable{e:aC}{k i j m:Nat}
def vz:(cw e k).length=e.ax3.length:=by unfold cw;rw [bf]
def JI(h:i < (cw e k).length)(hi:i < e.ax3.length):(cw e k)[i]=mr e ((parts e).take k) e.ax3[i]:=List.getElem_map (mr e ((parts e).take k))
def asA(hok:bn e=true)(hk:k < (parts e).length)(hi:i < e.ax3.length)(hid:e.ax3[i].ax4.Id=(parts e)[k])(h:i < (cw e k).length):(cw e k)[i]=e.ax3[i]:=by
 rw [JI h hi]
 unfold mr
 rw [hid,asz (Sf hok) hk,if_neg aM]
def asB(hok:bn e=true)(hk:k < (parts e).length)(hi:i < e.ax3.length)(hid:e.ax3[i].ax4.Id=(parts e)[k]):(cw e k).set i (nZ e e.ax3[i])=cw e (k+1):=by
 refine List.ext_getElem (by rw [List.length_set,vz,vz]) fun j h1 h2=>?_
 have hj:j < e.ax3.length:=by rw [vz] at h2;exact h2
 rw [List.getElem_set,JI h2 hj]
 unfold mr
 rw [asy (Sf hok) hk]
 split
 ·rename_i hij
  subst hij
  rw [hid];simp
 ·rename_i hij
  rw [JI _ hj]
  unfold mr
  have:((parts e)[k]==e.ax3[j].ax4.Id)=false:=by
   rw [beq_eq_false_iff_ne]
   intro hc
   exact hij (DY hok hi hj (hid.trans hc))
  rw [this,Bool.or_false]
def Sh:cw e 0=e.ax3:=by
 unfold cw
 have:∀a:ax3,mr e ((parts e).take 0) a=a:=fun a=>by unfold mr cv;simp
 rw [List.map_congr_left (g:=id) (fun a _=>this a),List.map_id]
def Si{id:Int}(hi:i < e.ax3.length)(hf:eD e.ax3 id=(i:Int)):JH e id=e.ax3[i]:=by
 unfold JH;rw [hf];simp [hi]
def asC(hk:k < (parts e).length)(hi:i < e.ax3.length)(hf:eD e.ax3 (parts e)[k]=(i:Int)):fu e (k+1)=⟨e.ax7,((cu e).length:Int),(fu e k).Ids++[(parts e)[k]],(fu e k).ax9++[e.ax3[i].ax4.ax8],(fu e k).Rows++[((kY e e.ax3[i]).length:Int)]⟩:=by
 have ha:=Si hi hf
 unfold fu
 rw [cU hk]
 simp only [bK,List.map_cons,List.map_nil,AC,AD,ha]
def JJ(hk:k≤(parts e).length):(fu e k).Ids.length=k∧(fu e k).ax9.length=k∧(fu e k).Rows.length=k:=by
 unfold fu
 simp only [bf,cI]
 omega
def ajE{a:ax3}(hj:j < (eY (cu e) a.Time).length)(h:ik a.ax4 (eY (cu e) a.Time)[j]=true):kx e a (j+1)=kx e a j++[(eY (cu e) a.Time)[j]]:=by
 unfold kx;rw [cU hj,gW];simp [h]
def ajF{a:ax3}(hj:j < (eY (cu e) a.Time).length)(h:ik a.ax4 (eY (cu e) a.Time)[j]=false):kx e a (j+1)=kx e a j:=by
 unfold kx;rw [cU hj,gW];simp [h]
def Sj{a:ax3}:kx e a (eY (cu e) a.Time).length=kY e a:=by unfold kx kY;rw [cJ]
def DZ(l:List be)(t:Int):(eY l t).length≤l.length:=by unfold eY;rw [bf];exact kE _ _
def Sk(h:e.ax7.toNat < e.Store.ax2.length):e.Store.ax2[e.ax7.toNat]=cu e:=by unfold cu;simp [h]
def JK(hok:bn e=true):(cu e).length≤4:=by
 have hf:=jv hok
 rw [←Sk hf.2.2.2.1]
 exact (pX hf.1).2.2.2.2.1 _ (List.getElem_mem _)
def Sl:(dr e k).length=e.ax3.length:=by unfold dr;rw [bf,vz]
def JL(h:m < (dr e k).length)(h2:m < (cw e k).length):(dr e k)[m]=mu (e.Store.ax2.length:Int) (cw e k)[m]:=List.getElem_map (mu (e.Store.ax2.length:Int))
def asD(hm:m < (dr e k).length)(h:fD (dr e k)[m]=false):mw e k (m+1)=mw e k m++[(dr e k)[m]]:=by
 unfold mw;rw [cU hm,gW];simp [h]
def asE(hm:m < (dr e k).length)(h:fD (dr e k)[m]=true):mw e k (m+1)=mw e k m:=by
 unfold mw;rw [cU hm,gW];simp [h]
def asF(hm:m < (dr e k).length)(h:fD (dr e k)[m]=true):jy e k (m+1)=jy e k m++[vw (dr e k)[m]]:=by
 unfold jy;rw [cU hm,gW];simp [h]
def asG(hm:m < (dr e k).length)(h:fD (dr e k)[m]=false):jy e k (m+1)=jy e k m:=by
 unfold jy;rw [cU hm,gW];simp [h]
def JM:(mw e k m).length≤m:=by
 have:=kE (fun a=>!fD a) ((dr e k).take m)
 rw [cI] at this
 unfold mw;omega
def JN:(jy e k m).length≤m:=by
 have:=kE fD ((dr e k).take m)
 rw [cI] at this
 unfold jy;rw [bf];omega
def ajG{n:Int}{a:ax3}(h:(a.Age+1).tmod n=0):mu n a=⟨a.ax4,a.Time,a.ayc,a.Age+1,0,a.Cap,a.Rows⟩:=by unfold mu;rw [if_pos h]
def ajH{n:Int}{a:ax3}(h:¬(a.Age+1).tmod n=0):mu n a=⟨a.ax4,a.Time,a.ayc,a.Age+1,a.Sent,a.Cap,a.Rows⟩:=by unfold mu;rw [if_neg h]
def Sm(l:List Int)(x:Int):(nY l x).length≤l.length:=kE _ _
def asH{l:List Int}{x:Int}(hk:k < l.length)(h:¬l[k]=x):nY (l.take (k+1)) x=nY (l.take k) x++[l[k]]:=by
 unfold nY;rw [cU hk,gW];simp [h]
def asI{l:List Int}{x:Int}(hk:k < l.length)(h:l[k]=x):nY (l.take (k+1)) x=nY (l.take k) x:=by
 unfold nY;rw [cU hk,gW];simp [h]
end
def Sn{l:List be}{t:Int}{k:Nat}(hk:k < l.length)(h:gk l[k] t=true):eY (l.take (k+1)) t=eY (l.take k) t++[jL l[k]]:=by
 unfold eY;rw [cU hk,gW];simp [h]
def ajI{l:List be}{t:Int}{k:Nat}(hk:k < l.length)(h:gk l[k] t=false):eY (l.take (k+1)) t=eY (l.take k) t:=by
 unfold eY;rw [cU hk,gW];simp [h]
def asJ(a b:List Row):iN (a++b)=iN a+iN b:=by unfold iN;simp;omega
def ajJ{e:aC}(hok:bn e=true):∀v∈cu e,bM (jL v)=true:=by
 intro v hv
 have hf:=jv hok
 rw [←Sk hf.2.2.2.1] at hv
 obtain ⟨j,hj,rfl⟩:=List.mem_iff_getElem.1 hv
 have:=Rm hf.1 hf.2.2.2.1 hj
 unfold eW at this
 rw [aX] at this
 exact this.1
def ajK:∀l:List Row,(∀r∈l,bM r=true)→iN l=4 * l.length
 | [],_=>rfl
 | r::l,h=>by
  have ih:=ajK l fun x hx=>h x (List.mem_cons_of_mem _ hx)
  have hr:r.Values.length=3:=by
   have:=h r List.mem_cons_self
   simp [bM,aK] at this;omega
  have hw:jr r=3:=by simp only [jr,gj,bo];omega
  unfold iN at ih ⊢
  rw [List.length_cons,List.map_cons,List.sum_cons,hw];omega
def ajL{e:aC}(hok:bn e=true)(t:Int):∀r∈eY (cu e) t,bM r=true:=by
 intro r hr
 unfold eY at hr
 obtain ⟨v,hv,rfl⟩:=List.mem_map.1 hr
 exact ajJ hok v (List.mem_filter.1 hv).1
def So{e:aC}(hok:bn e=true)(a:ax3)(j:Nat):iN (kx e a j)≤16∧(kx e a j).length≤4:=by
 have hl:(kx e a j).length≤4:=by
  have h1:=kE (ik a.ax4) ((eY (cu e) a.Time).take j)
  rw [cI] at h1
  have h2:=DZ (cu e) a.Time
  have h3:=JK hok
  unfold kx;omega
 have hw:=ajK (kx e a j) fun r hr=>ajL hok a.Time r (List.mem_of_mem_take (List.mem_filter.1 hr).1)
 omega
def asK{e:aC}(hok:bn e=true)(a:ax3):eC (nZ e a)≤eC a+16:=by
 have h1:=So hok a (eY (cu e) a.Time).length
 rw [Sj] at h1
 have h2:=Sm a.ayc e.ax7
 unfold nZ eC
 simp only [gj,bo,asJ]
 omega
def asL{e:aC}(hok:bn e=true)(k:Nat):((cw e k).map eC).sum≤(e.ax3.map eC).sum+16 * e.ax3.length:=by
 unfold cw
 generalize e.ax3=l
 induction l with
 | nil=>simp
 | cons a l ih=>
  simp only [List.map_cons,List.sum_cons,List.length_cons] at *
  have h1:eC (mr e ((parts e).take k) a)≤eC a+16:=by
   unfold mr
   split
   ·exact asK hok a
   ·omega
  omega
def asM(n:Int)(a:ax3):eC (mu n a)=eC a:=by unfold mu eC;simp only [bo]
def asN(a:ax3):oO (vw a)≤eC a:=by unfold vw oO eC;simp only [bo];omega
def ajM:∀l:List ax3,((l.filter fun a=>!fD a).map eC).sum+(((l.filter fD).map vw).map oO).sum≤(l.map eC).sum
 | []=>by simp
 | a::l=>by
  have ih:=ajM l
  have hf:=asN a
  simp only [List.filter_cons]
  cases h:fD a
  ·simp only [Bool.not_false,if_true,List.map_cons,List.sum_cons,if_neg (by simp:¬(false=true))];omega
  ·simp only [Bool.not_true,if_true,List.map_cons,List.sum_cons,if_neg (by simp:¬(false=true))];omega
def Sp:∀l:List ax3,(l.filter fun a=>!fD a).length+(l.filter fD).length=l.length
 | []=>rfl
 | a::l=>by
  have ih:=Sp l
  simp only [List.filter_cons]
  cases h:fD a<;>simp<;>omega
def asO{e:aC}{k:Nat}(hk:k≤(parts e).length):tw (fu e k)=3 * k:=by
 have:=JJ hk
 simp only [tw,gj,bo]
 omega
def Sq{e:aC}(hok:bn e=true):bA (jf e)≤bA e+200:=by
 have hf:=jv hok
 have hp:=DJ (e:=e)
 have h1:=asL hok (parts e).length
 have h2:((dr e (parts e).length).map eC).sum=((cw e (parts e).length).map eC).sum:=by
  unfold dr
  rw [List.map_map]
  exact congrArg List.sum (List.map_congr_left fun a _=>asM _ a)
 have h3:=ajM (dr e (parts e).length)
 have h4:=Sp (dr e (parts e).length)
 have h5:=Sl (e:=e) (k:=(parts e).length)
 have hr:mw e (parts e).length e.ax3.length=(dr e (parts e).length).filter fun a=>!fD a:=by
  unfold mw;rw [qG ab]
 have hd:jy e (parts e).length e.ax3.length=((dr e (parts e).length).filter fD).map vw:=by
  unfold jy;rw [qG ab]
 have hc:=asO (e:=e) (Nat.le_refl _)
 have hl:jt (jz e (parts e).length)≤jt e.ayf+25:=by
  unfold jz
  split
  ·omega
  ·unfold jt
   rw [bJ,bK,List.sum_append]
   simp only [List.map_cons,List.map_nil,List.sum_cons,List.sum_nil,List.length_cons,List.length_nil,hc]
   omega
 unfold jf Sd bA
 dsimp only
 simp only [bo,iO,kk,hr,hd,bJ,bK,List.sum_append,bf] at *
 omega
def Sr(e:aC):bA (dZ e)≤bA e:=by
 have:=Rr e.Store (iS e.ax3)
 unfold dZ bA
 dsimp only
 omega
def ajN(e:aC):bA (dL e)≤bA e+200:=by
 unfold dL
 split
 ·rename_i h
  have h1:=Sq (DX h).1
  have h2:=Sr (jf e)
  omega
 ·omega
def asP{e:aC}{k:Nat}(id:Int):eD (cw e k) id=eD e.ax3 id:=by
 have hq:∀a:ax3,gR id (mr e ((parts e).take k) a)=gR id a:=fun a=>by unfold mr;split<;>rfl
 unfold eD cw
 rw [List.any_map,List.findIdx_map]
 simp only [Function.comp_def,hq]
def JO{s:Store}{a:ax3}(h:gz s a=true):0≤a.Sent∧a.Sent≤1000∧0≤a.Age∧a.Age≤100000∧a.Rows.length≤1000∧bN a.ax4=true:=by
 unfold gz at h
 simp only [aX,aK,decide_eq_true_eq,pQ] at h
 exact ⟨ab,ab,ab,ab,ab,h.2.1⟩
def JP{e:aC}(h:bn e=true){k i:Nat}(hi:i < e.ax3.length)(h2:i < (cw e k).length):0≤(cw e k)[i].Age∧(cw e k)[i].Age≤100000:=by
 have ha:=JO ((jv h).2.2.2.2.2.2.2.2.2.1 _ (List.getElem_mem hi))
 rw [JI h2 hi]
 unfold mr
 split<;>exact ⟨ha.2.2.1,ha.2.2.2.1⟩
def JQ{e:aC}(h:bn e=true)(a:ax3):(kY e a).length≤4:=by
 have:=(So h a (eY (cu e) a.Time).length).2
 rwa [Sj] at this
def gS(z:ax3×(Nat→Value)):List PV:=[PV.nv (z.2 0) (PV.val (vI z.1.ax4.Id)),PV.nv (z.2 1) (PV.val (vI z.1.ax4.ax8)),PV.nv (z.2 2) (PV.sl .v (z.1.ax4.ax5.map bF)),PV.nv (z.2 3) (PV.sl .v (z.1.ax4.Out.map ar)),PV.nv (z.2 4) (PV.val (vI z.1.Time)),PV.nv (z.2 5) (PV.sl .v (z.1.ayc.map ar)),PV.nv (z.2 6) (PV.val (vI z.1.Age)),PV.nv (z.2 7) (PV.val (vI z.1.Sent)),PV.nv (z.2 8) (PV.val (vI z.1.Cap)),PV.nv (z.2 9) (PV.sl .v (z.1.Rows.map (cD ai)))]
def asQ(z:Row×(Nat→Value)):List PV:=[PV.nv (z.2 0) (PV.val (vI z.1.Id)),PV.nv (z.2 1) (PV.sl .v (z.1.Values.map ar))]
def Ea{α:Type}{d:α}{p:α→Bool}{r:α→α→Bool}{l:List α}(h1:∀x∈l,p x=true)(h2:l.Pairwise (fun a b=>r a b=true)):fh d p r l=true:=by
 unfold fh mT
 rw [lQ]
 intro i hi
 have hi:=List.mem_range.1 hi
 rw [fP hi,h1 _ (List.getElem_mem hi),Bool.true_and]
 cases i with
 | zero=>rfl
 | succ i=>
  rw [List.pairwise_iff_getElem] at h2
  rw [show i+1 - 1=i from rfl,fP (show i < l.length by omega),h2 i (i+1) ab hi ab]
  simp
def ajO{e:aC}(hok:bn e=true):tN e.ax3 (parts e)=(e.ax3.filter (kV e)).map fun a=>a.ax4:=by
 rw [vl hok]
 unfold tN je
 rw [List.map_map]
 refine List.map_congr_left fun a ha=>?_
 have ha:=(List.mem_filter.1 ha).1
 obtain ⟨i,hi,rfl⟩:=List.mem_iff_getElem.1 ha
 have hf:eD e.ax3 e.ax3[i].ax4.Id=(i:Int):=by
  refine Rq hi ?_ (by unfold gR;simp)
  rw [List.any_eq_false]
  intro b hb
  obtain ⟨j,hj,rfl⟩:=List.mem_iff_getElem.1 hb
  rw [cI] at hj
  intro hc
  unfold gR at hc
  have hc:e.ax3[j].ax4.Id=e.ax3[i].ax4.Id:=by simpa using hc
  have:=DY hok (show j < e.ax3.length by omega) hi hc
  omega
 show (e.ax3.getD (eD e.ax3 e.ax3[i].ax4.Id).toNat jN).ax4=_
 rw [hf];simp [hi]
def asR{e:aC}(hok:bn e=true):eQ (tN e.ax3 (parts e))=true:=by
 have hef:=jv hok
 rw [ajO hok]
 unfold eQ
 have hl:=kE (kV e) e.ax3
 rw [aX]
 refine ⟨Ea (fun x hx=>?_) ?_,?_⟩
 ·obtain ⟨a,ha,rfl⟩:=List.mem_map.1 hx
  exact (JO (hef.2.2.2.2.2.2.2.2.2.1 _ (List.mem_filter.1 ha).1)).2.2.2.2.2
 ·rw [List.pairwise_map]
  refine ((tW hok).filter _).imp fun {a b} h=>?_
  unfold xC;simpa using h
 ·rw [bf,decide_eq_true_eq];omega
def asS{e:aC}(hok:bn e=true){i:Nat}(hi:i < e.ax3.length)(h:kV e e.ax3[i]=true):e.ax3[i].ax4∈tN e.ax3 (parts e):=by
 rw [ajO hok]
 exact List.mem_map.2 ⟨_,List.mem_filter.2 ⟨List.getElem_mem hi,h⟩,rfl⟩
def mx(e:aC)(a:ax3)(j:Nat):List Row:=(eY ((cu e).take j) a.Time).filter (ik a.ax4)
def ajP{e:aC}{a:ax3}{j:Nat}(hj:j < (cu e).length)(hv:gk (cu e)[j] a.Time=true)(hm:ik a.ax4 (jL (cu e)[j])=true):mx e a (j+1)=mx e a j++[jL (cu e)[j]]:=by
 unfold mx;rw [Sn hj hv,gW];simp [hm]
def JR{e:aC}{a:ax3}{j:Nat}(hj:j < (cu e).length)(h:gk (cu e)[j] a.Time=false∨ik a.ax4 (jL (cu e)[j])=false):mx e a (j+1)=mx e a j:=by
 unfold mx
 cases hv:gk (cu e)[j] a.Time with
 | false=>rw [ajI hj hv]
 | true=>
  rw [hv] at h
  have hm:=h.resolve_left aM
  rw [Sn hj hv,gW];simp [hm]
def asT{e:aC}{a:ax3}:mx e a (cu e).length=kY e a:=by unfold mx kY;rw [cJ]
def asU{e:aC}{a:ax3}{j:Nat}:(mx e a j).length≤j:=by
 have h1:=kE (ik a.ax4) (eY ((cu e).take j) a.Time)
 have h2:=DZ ((cu e).take j) a.Time
 rw [cI] at h2
 unfold mx;omega
def my(e:aC)(k:Nat):hI:=⟨e.ax7,((cu e).length:Int),parts e,((parts e).take k).map (AC e),((parts e).take k).map (AD e)⟩
def asV{e:aC}{i k:Nat}(hk:k < (parts e).length)(hi:i < e.ax3.length)(hf:eD e.ax3 (parts e)[k]=(i:Int)):my e (k+1)=⟨e.ax7,((cu e).length:Int),parts e,(my e k).ax9++[e.ax3[i].ax4.ax8],(my e k).Rows++[((kY e e.ax3[i]).length:Int)]⟩:=by
 have ha:=Si hi hf
 unfold my
 rw [cU hk]
 simp only [bK,List.map_cons,List.map_nil,AC,AD,ha]
def asW{e:aC}:my e (parts e).length=fu e (parts e).length:=by unfold my fu;rw [cJ]
def asX{e:aC}{k:Nat}(hk:k≤(parts e).length):(my e k).ax9.length=k∧(my e k).Rows.length=k:=by
 unfold my
 simp only [bf,cI]
 omega
def asY(e:aC)(k:Nat):aC:=⟨e.Store,e.ax7,e.Order,cw e k,e.Done,e.ayf,e.Steps⟩
end
structure asZ(s:Store):Prop where
 l1:1≤s.ax2.length
 l8:s.ax2.length≤8
 n0:0≤s.Now
 n1:s.Now≤100000
 sm:∀g∈s.ax2,g.length≤4
 vs:∀v∈bu s,eW s.Now v=true
 ap:(bu s).Pairwise fun a b=>gy a b=true
def Ss(a b:be):gy a b=gy b a:=by
 unfold gy
 rw [show (a.Id==b.Id)=(b.Id==a.Id) from by rw [Bool.eq_iff_iff];simp only [beq_iff_eq];exact eq_comm]
 rw [Bool.or_comm (_&&_) (_&&_)]
def AE{α:Type}{l:List α}{d:α}{i:Nat}(h:i < l.length):l.getD i d=l[i]:=by
 rw [List.getD_eq_getElem?_getD,List.getElem?_eq_getElem h];rfl
def oW{s:Store}:cN s=true↔asZ s:=by
 constructor
 ·intro h
  obtain ⟨h1,h2,h3,h4,h5,h6⟩:=pX h
  refine ⟨h2,h1,h3,h4,h5,fun v hv=>?_,?_⟩
  ·obtain ⟨i,hi,rfl⟩:=List.mem_iff_getElem.1 hv
   have:=h6 i hi
   rwa [AE hi] at this
  ·rw [List.pairwise_iff_getElem]
   intro i j hi hj hij
   unfold cN oR at h
   rw [aX] at h
   have hg:=List.all_eq_true.1 h.2 j (List.mem_range.2 hj)
   unfold oQ iq at hg
   rw [aX] at hg
   have:=List.all_eq_true.1 hg.2 i (List.mem_range.2 hij)
   rw [AE hi,AE hj] at this
   rw [Ss];exact this
 ·intro h
  unfold cN ru
  have e1:s.ax2.all mW=true:=List.all_eq_true.2 fun g hg=>by have:=h.sm g hg;unfold mW;rw [decide_eq_true_eq];omega
  have e2:oR s.Now (bu s) (bu s).length=true:=by
   unfold oR
   refine List.all_eq_true.2 fun i hi=>?_
   have hi:=List.mem_range.1 hi
   unfold oQ iq
   rw [AE hi,aX]
   refine ⟨h.vs _ (List.getElem_mem hi),List.all_eq_true.2 fun m hm=>?_⟩
   have hm:=List.mem_range.1 hm
   have:=List.pairwise_iff_getElem.1 h.ap m i ab hi hm
   rw [AE ab,Ss];exact this
  have l1:=h.l1;have l8:=h.l8;have n0:=h.n0;have n1:=h.n1
  rw [e1,e2]
  simp only [aK,aX,decide_eq_true_eq,and_true]
  omega
def as0(s:Store)(keep:List Int)(h:cN s=true):bu (hO s keep)=(bu s).filter fun v=>jw v keep:=by
 rw [Jo h]
 unfold bu
 dsimp only
 generalize s.ax2=l
 induction l with
 | nil=>rfl
 | cons x l ih=>rw [List.map_cons,List.flatten_cons,List.flatten_cons,gW,ih];rfl
def as1{s:Store}(keep:List Int)(h:cN s=true):cN (hO s keep)=true:=by
 have k:=oW.1 h
 have e:=as0 s keep h
 rw [oW]
 have hr:=Jo (keep:=keep) h
 refine ⟨?_,?_,?_,?_,?_,?_,?_⟩
 ·rw [hr];show 1≤(s.ax2.map _).length;rw [bf];exact k.l1
 ·rw [hr];show (s.ax2.map _).length≤8;rw [bf];exact k.l8
 ·rw [hr];exact k.n0
 ·rw [hr];exact k.n1
 ·rw [hr]
  intro g hg
  obtain ⟨x,hx,rfl⟩:=List.mem_map.1 hg
  exact Nat.le_trans (kE _ _) (k.sm x hx)
 ·rw [e,show (hO s keep).Now=s.Now by rw [hr]]
  intro v hv
  exact k.vs v (List.mem_filter.1 hv).1
 ·rw [e];exact k.ap.filter _
def as2{s:Store}(keep:List Int):(hO s keep).ax2.length=s.ax2.length∧(hO s keep).Now=s.Now:=by
 unfold hO
 split
 ·exact ⟨bf _,rfl⟩
 ·exact ⟨rfl,rfl⟩
def Su{n:Int}{v:be}(h:eW n v=true):eW (n+1) v=true:=by
 unfold eW at *
 simp only [aX,Bool.or_eq_true,aK,decide_eq_true_eq] at *
 exact ⟨h.1,ab,ab⟩
def Sv{α:Type}{l:List α}{i:Nat}{x:α}(h:i < l.length):l.set i x=l.take i++x::l.drop (i+1):=by
 rw [List.set_eq_take_append_cons_drop,if_pos h]
def as3{s:Store}{i k:Nat}(hi:i < s.ax2.length)(hk:k < s.ax2[i].length):bu s=((s.ax2.take i).flatten++s.ax2[i].take k)++s.ax2[i][k]::(s.ax2[i].drop (k+1)++(s.ax2.drop (i+1)).flatten):=by
 have e1:=Jj hi
 have e2:s.ax2[i]=s.ax2[i].take k++s.ax2[i][k]::s.ax2[i].drop (k+1):=Uy
 rw [e1]
 unfold ek
 conv=>lhs;rw [e2]
 simp only [bB,List.cons_append]
def as4{s:Store}{i k:Nat}{v:be}{n:Int}(hi:i < s.ax2.length)(hk:k < s.ax2[i].length):bu ⟨s.ax2.set i (s.ax2[i].set k v),n⟩=((s.ax2.take i).flatten++s.ax2[i].take k)++v::(s.ax2[i].drop (k+1)++(s.ax2.drop (i+1)).flatten):=by
 unfold bu
 dsimp only
 rw [Sv hi,List.flatten_append,List.flatten_cons,Sv hk]
 simp only [bB,List.cons_append]
def as5{L:List (List be)}{r:Nat}{v:be}{n:Int}(hr:r < L.length):(bu ⟨Av L r v,n⟩).Perm (v::bu ⟨L,n⟩):=by
 unfold bu
 dsimp only
 rw [xM hr,Sv hr,List.flatten_append,List.flatten_cons]
 have e:L.flatten=(L.take r).flatten++(L[r]++(L.drop (r+1)).flatten):=by
  rw [←List.flatten_cons,←List.flatten_append,←List.drop_eq_getElem_cons hr,ic]
 rw [e]
 have:(L.take r).flatten++(L[r]++[v]++(L.drop (r+1)).flatten)=((L.take r).flatten++L[r])++v::(L.drop (r+1)).flatten:=by simp only [bB,List.cons_append,List.nil_append]
 rw [this]
 refine List.perm_middle.trans ?_
 rw [bB]
def ajQ{id:Int}{v:be}:kX id v=true↔v.Id=id∧v.ayd = -1:=by unfold kX;simp
def as6{s:Store}{id:Int}(h:¬0≤cF s id):∀v∈bu s,v.Id=id→v.ayd ≠ -1:=by
 intro v hv hid hd
 have hall:s.ax2.any (jO id)=true:=by
  unfold bu at hv
  obtain ⟨g,hg,hv⟩:=List.mem_flatten.1 hv
  exact List.any_eq_true.2 ⟨g,hg,List.any_eq_true.2 ⟨v,hv,ajQ.2 ⟨hid,hd⟩⟩⟩
 unfold cF at h
 rw [if_pos hall] at h
 omega
def Sw{a b:be}(h:gy a b=true)(hid:a.Id=b.Id):(a.ayd ≠ -1∧a.ayd≤b.ayh)∨(b.ayd ≠ -1∧b.ayd≤a.ayh):=by
 unfold gy at h
 simp only [hid,beq_self_eq_true,Bool.not_true,Bool.false_or,Bool.or_eq_true,aX,Bool.not_eq_true',beq_eq_false_iff_ne,decide_eq_true_eq] at h
 exact h
def Sx{a b:be}(h:a.Id=b.Id→(a.ayd ≠ -1∧a.ayd≤b.ayh)∨(b.ayd ≠ -1∧b.ayd≤a.ayh)):gy a b=true:=by
 unfold gy
 by_cases hid:a.Id=b.Id
 ·have:=h hid
  simp only [hid,beq_self_eq_true,Bool.not_true,Bool.false_or,Bool.or_eq_true,aX,Bool.not_eq_true',beq_eq_false_iff_ne,decide_eq_true_eq]
  exact this
 ·rw [show (a.Id==b.Id)=false by rw [beq_eq_false_iff_ne];exact hid];rfl
def JS{n:Int}{v:be}(h:eW n v=true):bM ⟨v.Id,v.Values⟩=true∧0≤v.ayh∧v.ayh≤n∧(v.ayd = -1∨(v.ayh+1≤v.ayd∧v.ayd≤n)):=by
 unfold eW at h
 simp only [aX,Bool.or_eq_true,aK,decide_eq_true_eq] at h
 exact ⟨h.1,h.2.1.1,h.2.1.2,h.2.2⟩
def Sy{n:Int}{v:be}(h:bM ⟨v.Id,v.Values⟩=true)(h1:0≤v.ayh∧v.ayh≤n)(h2:v.ayd = -1∨(v.ayh+1≤v.ayd∧v.ayd≤n)):eW n v=true:=by
 unfold eW
 simp only [aX,Bool.or_eq_true,aK,decide_eq_true_eq]
 exact ⟨h,h1,h2⟩
def Sz:∀{a b:be},gy a b=true→gy b a=true:=fun {a b} h=>by rw [Ss];exact h
structure as7(s:Store)(u:ax6):Prop where
 vs:∀v∈bu ⟨dG s u,s.Now+1⟩,eW (s.Now+1) v=true
 ap:(bu ⟨dG s u,s.Now+1⟩).Pairwise fun a b=>gy a b=true
 no:∀v∈bu ⟨dG s u,s.Now+1⟩,v.Id=u.Row.Id→v.ayd ≠ -1
def as8{s:Store}{u:ax6}(h:cN s=true):as7 s u:=by
 have k:=oW.1 h
 by_cases hf:0≤cF s u.Row.Id
 ·obtain ⟨i,j,hi,hj,h1,h2,ha⟩:=tR hf
  obtain ⟨hid,hdd⟩:=ajQ.1 ha
  have e1:=as3 hi hj
  have e2:=as4 (v:=ml (s.Now+1) s.ax2[i][j]) (n:=s.Now+1) hi hj
  have kv:=k.vs;have ka:=k.ap
  rw [e1] at kv ka
  rw [List.pairwise_append,List.pairwise_cons] at ka
  obtain ⟨ka1,⟨ka2,ka3⟩,ka4⟩:=ka
  have hv0:=JS (kv s.ax2[i][j] aM)
  have mem:∀v∈((s.ax2.take i).flatten++s.ax2[i].take j)++ml (s.Now+1) s.ax2[i][j]::(s.ax2[i].drop (j+1)++(s.ax2.drop (i+1)).flatten),v=ml (s.Now+1) s.ax2[i][j]∨v∈((s.ax2.take i).flatten++s.ax2[i].take j)∨v∈(s.ax2[i].drop (j+1)++(s.ax2.drop (i+1)).flatten):=by
   intro v hv
   rcases List.mem_append.1 hv with hv|hv
   ·exact .inr (.inl hv)
   ·rcases List.mem_cons.1 hv with hv|hv
    ·exact .inl hv
    ·exact .inr (.inr hv)
  have hk:∀w:be,gy s.ax2[i][j] w=true→gy (ml (s.Now+1) s.ax2[i][j]) w=true:=by
   intro w hw
   refine Sx fun he=>?_
   have:=Sw hw he
   rcases this with ⟨h3,_⟩|⟨h3,h4⟩
   ·exact absurd hdd h3
   ·exact .inr ⟨h3,h4⟩
  refine ⟨?_,?_,?_⟩
  ·rw [(qa hi hj h1 h2).1,e2]
   intro v hv
   rcases mem v hv with rfl|hv|hv
   ·exact Sy hv0.1 ⟨hv0.2.1,by show s.ax2[i][j].ayh≤s.Now+1;omega⟩ (.inr ⟨by show s.ax2[i][j].ayh+1≤s.Now+1;omega,Int.le_refl _⟩)
   ·exact Su (kv v (List.mem_append.2 (.inl hv)))
   ·exact Su (kv v (List.mem_append.2 (.inr (List.mem_cons_of_mem _ hv))))
  ·rw [(qa hi hj h1 h2).1,e2,List.pairwise_append,List.pairwise_cons]
   refine ⟨ka1,⟨fun w hw=>hk w (ka2 w hw),ka3⟩,fun a ha b hb=>?_⟩
   rcases List.mem_cons.1 hb with rfl|hb
   ·exact Sz (hk a (Sz (ka4 a ha _ List.mem_cons_self)))
   ·exact ka4 a ha b (List.mem_cons_of_mem _ hb)
  ·rw [(qa hi hj h1 h2).1,e2]
   intro v hv hvid
   rcases mem v hv with rfl|hv|hv
   ·show s.Now+1 ≠ -1
    have:=k.n0;omega
   ·have:=Sw (ka4 v hv _ List.mem_cons_self) (by rw [hvid,hid])
    rcases this with ⟨h3,_⟩|⟨h3,_⟩
    ·exact h3
    ·exact absurd hdd h3
   ·have:=Sw (ka2 v hv) (by rw [hvid,hid])
    rcases this with ⟨h3,_⟩|⟨h3,_⟩
    ·exact absurd hdd h3
    ·exact h3
 ·have e:=(tS hf).1
  have e3:bu ⟨dG s u,s.Now+1⟩=bu s:=by unfold bu;dsimp only;rw [e]
  have hn:=as6 hf
  refine ⟨?_,?_,?_⟩
  ·rw [e3];intro v hv;exact Su (k.vs v hv)
  ·rw [e3];exact k.ap
  ·rw [e3];exact hn
def as9{u:ax6}(h:dK u=true)(hk:u.Kind=3):0≤u.Field∧u.Field≤2∧0≤u.Value∧u.Value≤99∧0≤u.Row.Id∧u.Row.Id≤999:=by
 unfold dK at h
 rw [if_neg ab,if_neg ab,if_pos hk] at h
 simp only [pS,aX,aK,decide_eq_true_eq] at h
 omega
def ata{u:ax6}(h:dK u=true)(hk:u.Kind=1):bM u.Row=true:=by
 unfold dK at h
 rw [if_pos hk] at h
 simp only [aX] at h
 exact h.1
def atb{u:ax6}(h:dK u=true):u.Kind=1∨u.Kind=2∨u.Kind=3:=by
 unfold dK at h
 by_cases h1:u.Kind=1
 ·exact .inl h1
 ·by_cases h2:u.Kind=2
  ·exact .inr (.inl h2)
  ·by_cases h3:u.Kind=3
   ·exact .inr (.inr h3)
   ·rw [if_neg h1,if_neg h2,if_neg h3] at h;cases h
def JT{r:Row}:bM r=true↔(0≤r.Id∧r.Id≤999)∧r.Values.length=3∧∀x∈r.Values,0≤x∧x≤99:=by
 unfold bM me
 simp only [aX,aK,decide_eq_true_eq,lQ]
 constructor
 ·rintro ⟨h1,h2,h3⟩;exact ⟨h2,ab,h1⟩
 ·rintro ⟨h1,h2,h3⟩;exact ⟨h3,h1,ab⟩
def atc{s:Store}{u:ax6}(h:kt s u=true)(hk:¬u.Kind=2):bM ⟨u.Row.Id,jQ s u⟩=true:=by
 obtain ⟨h1,h2,h3,h4,h5⟩:=xL h
 have k:=oW.1 h1
 rcases atb h2 with k1|k2|k3
 ·have hr:=ata h2 k1
  have hf:¬0≤cF s u.Row.Id:=fun hc=>(h4.1 hc) k1
  unfold jQ
  rw [if_neg ab,(tS hf).2]
  exact hr
 ·exact absurd k2 hk
 ·have hu:=as9 h2 k3
  have hf:0≤cF s u.Row.Id:=h4.2 ab
  obtain ⟨i,j,hi,hj,e1,e2,ha⟩:=tR hf
  have hv:=(JS (Rm h1 hi hj)).1
  rw [JT] at hv
  unfold jQ
  rw [if_pos k3,(qa hi hj e1 e2).2,JT]
  refine ⟨⟨hu.2.2.2.2.1,hu.2.2.2.2.2⟩,by rw [List.length_set];exact hv.2.1,fun x hx=>?_⟩
  rcases List.mem_or_eq_of_mem_set hx with hx|rfl
  ·exact hv.2.2 x hx
  ·exact ⟨hu.2.2.1,hu.2.2.2.1⟩
def ajR(s:Store)(u:ax6)(h:cN s=true):cN (eI s u).1=true:=by
 cases ha:kt s u with
 | false=>rw [DL ha];exact h
 | true=>
  obtain ⟨h1,h2,h3,h4,h5⟩:=xL ha
  have k:=oW.1 h
  have hu:=as8 (u:=u) h
  have hlen:=Ax s u
  have hsm:∀g∈dG s u,g.length≤4:=by
   intro g hg
   obtain ⟨i,hi,rfl⟩:=List.mem_iff_getElem.1 hg
   have hi2:i < s.ax2.length:=ab
   rw [Jr s u hi hi2];exact k.sm _ (List.getElem_mem hi2)
  by_cases hk:u.Kind=2
  ·rw [xK ha hk,oW]
   exact ⟨by dsimp only;rw [hlen];exact k.l1,by dsimp only;rw [hlen];exact k.l8,by dsimp only;have:=k.n0;omega,ot,hsm,hu.vs,hu.ap⟩
  ·obtain ⟨r,hr,hrm,hr4⟩:=Rt (h5.resolve_left hk)
   have hru:r < (dG s u).length:=ab
   rw [Aw ha hk hrm,oW]
   have hp:=as5 (v:=mm s u) (n:=s.Now+1) hru
   have hnv:eW (s.Now+1) (mm s u)=true:=Sy (atc ha hk) ⟨by show 0≤s.Now+1;have:=k.n0;omega,Int.le_refl _⟩ (.inl rfl)
   refine ⟨?_,?_,by dsimp only;have:=k.n0;omega,ot,?_,?_,?_⟩
   ·dsimp only;rw [xM hru,List.length_set,hlen];exact k.l1
   ·dsimp only;rw [xM hru,List.length_set,hlen];exact k.l8
   ·dsimp only
    rw [xM hru]
    intro g hg
    rcases List.mem_or_eq_of_mem_set hg with hg|rfl
    ·exact hsm g hg
    ·have h6:=Jr s u hru hr
     rw [bJ,h6];simp;omega
   ·intro v hv
    rcases List.mem_cons.1 (hp.mem_iff.1 hv) with rfl|hv
    ·exact hnv
    ·exact hu.vs v hv
   ·rw [hp.pairwise_iff (fun h=>Sz h),List.pairwise_cons]
    refine ⟨fun w hw=>Sx fun he=>?_,hu.ap⟩
    have h6:=hu.no w hw he.symm
    have h7:=JS (hu.vs w hw)
    rcases h7.2.2.2 with h8|h8
    ·exact absurd h8 h6
    ·exact .inr ⟨h6,h8.2⟩
section
attribute [local irreducible] aw hJ
def ajS{w:Int}{c:aG}(hw:0 < w):∀{k:Nat},∀x∈(kR w c k).1,0≤x∧x < w
 | 0,x,h=>nomatch h
 | k+1,x,h=>by
  rw [kR] at h
  rcases List.mem_append.1 h with h|h
  ·exact ajS hw x h
  ·simp at h;subst h
   exact ⟨dW _ _,dY _ hw⟩
def atd(c:aG):0 < (bL c [3,6,100]).1∧(bL c [3,6,100]).1≤100:=by
 have h:=Rh c (l:=[3,6,100]) aj
 simp at h;omega
def ate{c:aG}{id:Int}(h:0≤id∧id≤999):bM (iQ c id).1=true:=by
 have hw:=atd c
 unfold bM iQ
 simp only [aX,lQ,decide_eq_true_eq]
 refine ⟨fun x hx=>?_,IZ.2 h,by rw [DE];rfl⟩
 have:=ajS hw.1 x hx
 exact IZ.2 ab
end
def vC:Row:=⟨0,[]⟩
def vD(a b:Row):Bool:=decide (a.Id < b.Id)
def jU(l:List Row):Bool:=fh vC bM vD l&&decide ((l.length:Int)≤32)
def AF(r:Row):be:=⟨r.Id,r.Values,0,-1⟩
def rN(rows:List Row)(n i k:Nat):List be:=(List.range k).map fun j=>AF (rows.getD (i+j * n) vC)
def rO(len n i:Nat):Nat:=(len - i+(n - 1)) / n
def rP(rows:List Row)(n i:Nat):List be:=rN rows n i (rO rows.length n i)
def oX(rows:List Row)(n k:Nat):List (List be):=(List.range k).map (rP rows n)
def qi(rows:List Row)(n:Int):Bool:=(jU rows&&aK n 1 8)&&decide ((rows.length:Int)≤n * 4)
def xW(rows:List Row)(n:Int):Store×Bool:=if qi rows n then (⟨oX rows n.toNat n.toNat,0⟩,true) else (⟨[],0⟩,false)
def ajT{rows:List Row}{n:Int}(h:qi rows n=false):xW rows n=(⟨[],0⟩,false):=if_neg iF
def SA{rows:List Row}{n:Int}(h:qi rows n=true):xW rows n=(⟨oX rows n.toNat n.toNat,0⟩,true):=if_pos h
def SB{rows:List Row}{n:Int}(h:qi rows n=true):jU rows=true∧(1≤n∧n≤8)∧(rows.length:Int)≤n * 4:=by
 unfold qi at h
 simp only [aX,aK,decide_eq_true_eq] at h
 exact ⟨h.1.1,h.1.2,h.2⟩
def Eb{len n i k:Nat}(hn:0 < n)(h:i≤len):i+k * n < len↔k < rO len n i:=by
 unfold rO
 rw [Nat.lt_iff_add_one_le (m:=k),Nat.le_div_iff_mul_le hn,Nat.add_mul,Nat.one_mul]
 omega
def SC{len n i:Nat}(hn:0 < n)(h:len≤i):rO len n i=0:=by
 unfold rO
 exact Nat.div_eq_of_lt ab
def atf{rows:List Row}{n i k:Nat}:rN rows n i (k+1)=rN rows n i k++[AF (rows.getD (i+k * n) vC)]:=by
 unfold rN;rw [List.range_succ,bK];rfl
def SD{rows:List Row}{n i k:Nat}:(rN rows n i k).length=k:=by unfold rN;rw [bf,List.length_range]
def atg{rows:List Row}{n k:Nat}:oX rows n (k+1)=oX rows n k++[rP rows n k]:=by
 unfold oX;rw [List.range_succ,bK];rfl
def SE{rows:List Row}{n k:Nat}:(oX rows n k).length=k:=by unfold oX;rw [bf,List.length_range]
def ath{l:List Row}(h:jU l=true):l.length≤32:=by
 unfold jU at h
 rw [aX,decide_eq_true_eq] at h
 omega
def ajU{l:List Row}(h:jU l=true){k:Nat}(hk:k < l.length):bM l[k]=true:=by
 unfold jU at h
 rw [aX] at h
 exact Dx h.1 hk
def ajV{l:List Row}(h:jU l=true):∀(i j:Nat) (hj:j < l.length) (hij:i < j),l[i].Id < l[j].Id:=by
 have h:=h
 unfold jU at h
 rw [aX] at h
 have step:∀i (hi:i+1 < l.length),l[i].Id < l[i+1].Id:=by
  intro i hi
  have:=List.all_eq_true.1 h.1 (i+1) (List.mem_range.2 hi)
  rw [mf,show i+1 - 1=i from rfl,fP hi,fP (show i < l.length by omega)] at this
  rcases this.2 with h0|h0
  ·omega
  ·unfold vD at h0;simpa using h0
 intro i j hj hij
 induction j with
 | zero=>omega
 | succ j ih=>
  by_cases he:i=j
  ·subst he;exact step i hj
  ·have h1:=ih ab ab
   have h2:=step j hj
   omega
def ajW{rows:List Row}{n i:Nat}(hn:0 < n)(hl:rows.length≤n * 4):(rP rows n i).length≤4:=by
 unfold rP
 rw [SD]
 unfold rO
 refine Nat.le_of_lt_succ ?_
 rw [Nat.div_lt_iff_lt_mul hn]
 have:(4+1) * n=n * 4+n:=by rw [Nat.add_mul,Nat.mul_comm];omega
 show _ < (4+1) * n
 rw [this];omega
def SF{rows:List Row}{n i:Nat}(hn:0 < n){v:be}(hv:v∈rP rows n i):∃j,∃h:i+j * n < rows.length,v=AF rows[i+j * n]:=by
 by_cases hi:i≤rows.length
 ·unfold rP rN at hv
  obtain ⟨j,hj,rfl⟩:=List.mem_map.1 hv
  have hj:=(Eb hn hi).2 (List.mem_range.1 hj)
  exact ⟨j,hj,by rw [fP hj]⟩
 ·unfold rP at hv
  rw [SC hn ab] at hv
  simp [rN] at hv
def ati{rows:List Row}{n:Int}(h:qi rows n=true):cN (xW rows n).1=true:=by
 obtain ⟨h1,h2,h3⟩:=SB h
 rw [SA h,oW]
 have hn:0 < n.toNat:=ab
 have mem:∀v∈bu ⟨oX rows n.toNat n.toNat,0⟩,∃i,∃hi:i < rows.length,v=AF rows[i]:=by
  intro v hv
  unfold bu oX at hv
  obtain ⟨g,hg,hv⟩:=List.mem_flatten.1 hv
  obtain ⟨i,_,rfl⟩:=List.mem_map.1 hg
  obtain ⟨j,hj,rfl⟩:=SF hn hv
  exact ⟨_,hj,rfl⟩
 have apart:∀i j (hi:i < rows.length) (hj:j < rows.length),i≠j→gy (AF rows[i]) (AF rows[j])=true:=by
  intro i j hi hj hij
  refine Sx fun he=>?_
  exfalso
  have he:rows[i].Id=rows[j].Id:=he
  rcases Nat.lt_or_gt_of_ne hij with k|k
  ·have:=ajV h1 i j hj k;omega
  ·have:=ajV h1 j i hi k;omega
 refine ⟨by dsimp only;rw [SE];omega,by dsimp only;rw [SE];omega,Int.le_refl 0,Lt,fun g hg=>?_,fun v hv=>?_,?_⟩
 ·unfold oX at hg
  obtain ⟨i,_,rfl⟩:=List.mem_map.1 hg
  exact ajW hn ab
 ·obtain ⟨i,hi,rfl⟩:=mem v hv
  exact Sy (ajU h1 hi) ⟨Int.le_refl 0,Int.le_refl 0⟩ (.inl rfl)
 ·unfold bu oX
  rw [List.pairwise_flatten,List.pairwise_map]
  constructor
  ·intro g hg
   obtain ⟨i,hi,rfl⟩:=List.mem_map.1 hg
   have hi:=List.mem_range.1 hi
   unfold rP rN
   by_cases hil:i≤rows.length
   ·rw [List.pairwise_map]
    refine List.Pairwise.imp_of_mem ?_ List.pairwise_lt_range
    intro a b ha hb hab
    have ha:=(Eb hn hil).2 (List.mem_range.1 ha)
    have hb:=(Eb hn hil).2 (List.mem_range.1 hb)
    rw [fP ha,fP hb]
    refine apart _ _ ha hb ?_
    have:=Nat.mul_lt_mul_of_pos_right hab hn
    omega
   ·rw [SC hn ab];simp
  ·refine List.Pairwise.imp_of_mem ?_ List.pairwise_lt_range
   intro a b ha hb hab v hv w hw
   have ha:=List.mem_range.1 ha
   have hb:=List.mem_range.1 hb
   obtain ⟨j,hj,rfl⟩:=SF hn hv
   obtain ⟨k,hk,rfl⟩:=SF hn hw
   refine apart _ _ hj hk ?_
   intro he
   have:=congrArg (· % n.toNat) he
   simp only [Nat.add_mul_mod_self_right] at this
   rw [Nat.mod_eq_of_lt ha,Nat.mod_eq_of_lt hb] at this
   omega
def rQ(c:aG)(s:Store):Int×aG:=
 if (bu s).length=0 then ((aw c 12).1,(aw c 12).2)
 else if (aw (aw c 12).2 4).1=0 then ((aw c 12).1,(aw (aw c 12).2 4).2)
 else (((bu s).getD (aw (aw (aw c 12).2 4).2 (bu s).length).1.toNat v0).Id,(aw (aw (aw c 12).2 4).2 (bu s).length).2)
def dy(c:aG)(s:Store):Int×aG:=aw (rQ c s).2 3
def fE(c:aG)(s:Store):ax6×aG:=
 if (dy c s).1=0 then (⟨1,(iQ (aw (dy c s).2 20).2 (aw (dy c s).2 20).1).1,0,0⟩,(iQ (aw (dy c s).2 20).2 (aw (dy c s).2 20).1).2)
 else if (dy c s).1=1 then (⟨2,⟨(rQ c s).1,[]⟩,0,0⟩,(dy c s).2)
 else (⟨3,⟨(rQ c s).1,[]⟩,(aw (dy c s).2 3).1,(aw (aw (dy c s).2 3).2 6).1⟩,(aw (aw (dy c s).2 3).2 6).2)
def atj{c:aG}{s:Store}(h:(bu s).length=0):rQ c s=((aw c 12).1,(aw c 12).2):=if_pos h
def atk{c:aG}{s:Store}(h:¬(bu s).length=0)(h2:(aw (aw c 12).2 4).1=0):rQ c s=((aw c 12).1,(aw (aw c 12).2 4).2):=by unfold rQ;rw [if_neg h,if_pos h2]
def atl{c:aG}{s:Store}(h:¬(bu s).length=0)(h2:¬(aw (aw c 12).2 4).1=0):rQ c s=(((bu s).getD (aw (aw (aw c 12).2 4).2 (bu s).length).1.toNat v0).Id,(aw (aw (aw c 12).2 4).2 (bu s).length).2):=by unfold rQ;rw [if_neg h,if_neg h2]
def ajX{c:aG}{s:Store}(h:(dy c s).1=0):fE c s=(⟨1,(iQ (aw (dy c s).2 20).2 (aw (dy c s).2 20).1).1,0,0⟩,(iQ (aw (dy c s).2 20).2 (aw (dy c s).2 20).1).2):=if_pos h
def ajY{c:aG}{s:Store}(h:¬(dy c s).1=0)(h2:(dy c s).1=1):fE c s=(⟨2,⟨(rQ c s).1,[]⟩,0,0⟩,(dy c s).2):=by unfold fE;rw [if_neg h,if_pos h2]
def ajZ{c:aG}{s:Store}(h:¬(dy c s).1=0)(h2:¬(dy c s).1=1):fE c s=(⟨3,⟨(rQ c s).1,[]⟩,(aw (dy c s).2 3).1,(aw (aw (dy c s).2 3).2 6).1⟩,(aw (aw (dy c s).2 3).2 6).2):=by unfold fE;rw [if_neg h,if_neg h2]
def SG(c:aG)(s:Store):mR (fE c s).1≤3:=by
 unfold fE
 split
 ·have:=ahA (aw (dy c s).2 20).2 (aw (dy c s).2 20).1
  unfold mR;dsimp only;simp only [bo];omega
 ·split<;>(unfold mR jr;simp only [gj,bo];decide)
structure xX where
 s:Store
 c:aG
def atm(x:xX):xX:=⟨(eI x.s (fE x.c x.s).1).1,(fE x.c x.s).2⟩
def qj(x:xX):Nat→xX
 | 0=>x
 | k+1=>atm (qj x k)
def oY(c:aG):List Row×aG:=pW c 7
def qk(c:aG):xX:=⟨(xW (oY c).1 (2+(aw (oY c).2 3).1)).1,(aw (aw (oY c).2 3).2 6).2⟩
def tX(c:aG):Int:=(aw (aw (oY c).2 3).2 6).1
def bD(c:aG):xX:=qj (qk c) (tX c).toNat
def aj0{c:aG}{id:Int}(h:0≤id∧id≤2):∀{k:Nat},k≤300→(∀r∈(dw id c k).l,bM r=true∧r.Id < (dw id c k).id)∧(dw id c k).l.Pairwise fun a b=>a.Id < b.Id
 | 0,_=>⟨fun r hr=>by simp [dw] at hr,List.Pairwise.nil⟩
 | k+1,hk=>by
  obtain ⟨h1,h2⟩:=aj0 (c:=c) h (k:=k) ab
  have hid:=ahB (c:=c) (k:=k) h
  have hb:=dW (iQ (dw id c k).c (dw id c k).id).2 3
  have hr:=ate (c:=(dw id c k).c) (id:=(dw id c k).id) ⟨hid.1,ab⟩
  have hri:(iQ (dw id c k).c (dw id c k).id).1.Id=(dw id c k).id:=rfl
  rw [dw]
  dsimp only
  refine ⟨fun r hr2=>?_,?_⟩
  ·rcases List.mem_append.1 hr2 with hr2|hr2
   ·have:=h1 r hr2;exact ⟨this.1,ab⟩
   ·rw [List.mem_singleton.1 hr2];exact ⟨hr,ab⟩
  ·rw [List.pairwise_append]
   refine ⟨h2,aM,fun a ha b hb2=>?_⟩
   rw [List.mem_singleton.1 hb2,hri]
   exact (h1 a ha).2
def atn{l:List Row}(h1:∀r∈l,bM r=true)(h2:l.Pairwise fun a b=>a.Id < b.Id)(h3:l.length≤32):jU l=true:=by
 unfold jU
 rw [Ea h1 (h2.imp fun {a b} k=>by unfold vD;simpa using k),Bool.true_and,decide_eq_true_eq]
 omega
def ato(c:aG){most:Int}(h:0≤most∧most≤32):jU (pW c most).1=true∧((pW c most).1.length:Int)≤most:=by
 have a1:=dW c 3
 have a2:=dY c (n:=3) aj
 have b1:=dW (aw c 3).2 (most+1)
 have b2:=dY (aw c 3).2 (n:=most+1) ab
 have k:=aj0 (c:=(aw (aw c 3).2 (most+1)).2) (id:=(aw c 3).1) ⟨a1,ab⟩ (k:=(aw (aw c 3).2 (most+1)).1.toNat) ab
 have hl:=Ri (id:=(aw c 3).1) (c:=(aw (aw c 3).2 (most+1)).2) (k:=(aw (aw c 3).2 (most+1)).1.toNat)
 unfold pW Je
 dsimp only
 exact ⟨atn (fun r hr=>(k.1 r hr).1) k.2 ab,ab⟩
def atp(c:aG):qi (oY c).1 (2+(aw (oY c).2 3).1)=true:=by
 have h:=ato c (most:=7) aj
 have b1:=dW (oY c).2 3
 have b2:=dY (oY c).2 (n:=3) aj
 have hl:((oY c).1.length:Int)≤7:=h.2
 have ha:jU (oY c).1=true:=h.1
 unfold qi
 rw [ha]
 simp only [aK,Bool.true_and,aX,decide_eq_true_eq]
 omega
def aj1(c:aG):cN (qk c).s=true:=ati (atp c)
def SH{x:xX}(h:cN x.s=true):∀k,cN (qj x k).s=true
 | 0=>h
 | k+1=>ajR _ _ (SH h k)
def AG(c:aG):cN (bD c).s=true:=SH (aj1 c) _
def vE{s:Store}(h:cN s=true):cg s≤200:=by
 have k:=oW.1 h
 have hv:∀g∈s.ax2,dv g≤16:=by
  intro g hg
  have h4:=k.sm g hg
  have:∀l:List be,(∀v∈l,dV v=3)→(l.map dV).sum=3 * l.length:=by
   intro l
   induction l with
   | nil=>intro _;rfl
   | cons v l ih=>
    intro hl
    rw [List.map_cons,List.sum_cons,hl v List.mem_cons_self,ih fun w hw=>hl w (List.mem_cons_of_mem _ hw),List.length_cons];omega
  have h3:=this g fun v hv=>by
   have:=(JT.1 (JS (k.vs v (List.mem_flatten.2 ⟨g,hg,hv⟩))).1).2.1
   have this:v.Values.length=3:=this
   unfold dV;simp only [gj,bo];omega
  unfold dv;omega
 have hs:(s.ax2.map dv).sum≤16 * s.ax2.length:=by
  generalize s.ax2=L at hv
  induction L with
  | nil=>simp
  | cons g L ih=>
   have h1:=hv g List.mem_cons_self
   have h2:=ih fun x hx=>hv x (List.mem_cons_of_mem _ hx)
   rw [List.map_cons,List.sum_cons,List.length_cons];omega
 have l8:=k.l8
 unfold cg iy
 simp only [bo];omega
def rR(n:Int):Nat:=(min (max n 0) 200).toNat
def aj2(n:Int):rR n≤200:=by unfold rR;omega
def mz(e:aC):Nat→aC
 | 0=>e
 | k+1=>dL (mz e k)
def oa(e:aC)(n:Int):aC:=mz e (rR n)
def SI(e:aC):∀k:Nat,bA (mz e k)≤bA e+200 * k
 | 0=>by rw [mz];omega
 | k+1=>by
  have h1:=SI e k
  have h3:=ajN (mz e k)
  rw [mz];omega
def atq(e:aC)(n:Int):bA (oa e n)≤bA e+40000:=by
 have h1:=SI e (rR n)
 have h2:=aj2 n
 unfold oa;omega
section
def ql(k:Nat):List Int:=(List.range k).map fun i:Nat=>(i:Int)
def atr(k:Nat):ql (k+1)=ql k++[(k:Int)]:=by simp [ql,List.range_succ]
def JU(k:Nat):(ql k).length=k:=by simp [ql]
def eJ(e:aC)(q:ax4)(l:Int):ax3:=⟨q,e.Store.Now,ql e.Store.ax2.length,0,0,l,[]⟩
def kZ(x:Int)(a:ax3):Bool:=decide (a.ax4.Id < x)
def eK(l:List ax3)(x:Int):Nat:=(l.filter (kZ x)).length
def nh(e:aC)(q:ax4)(l:Int):List ax3:=e.ax3.filter (kZ q.Id)++eJ e q l::e.ax3.drop (eK e.ax3 q.Id)
def ni(e:aC)(q:ax4)(l:Int):Bool:=((bn e&&bN q)&&aK l 0 32)&&(decide (eD e.ax3 q.Id < 0)&&decide ((e.ax3.length:Int) < 8))
def gH(e:aC)(q:ax4)(l:Int):aC×Bool:=if ni e q l then (⟨e.Store,e.ax7,e.Order,nh e q l,e.Done,e.ayf,e.Steps⟩,true) else (e,false)
def JV{e:aC}{q:ax4}{l:Int}(h:ni e q l=false):gH e q l=(e,false):=if_neg iF
def SJ{e:aC}{q:ax4}{l:Int}(h:ni e q l=true):gH e q l=(⟨e.Store,e.ax7,e.Order,nh e q l,e.Done,e.ayf,e.Steps⟩,true):=if_pos h
def AH{e:aC}{q:ax4}{l:Int}(h:ni e q l=true):bn e=true∧bN q=true∧(0≤l∧l≤32)∧eD e.ax3 q.Id < 0∧(e.ax3.length:Int) < 8:=by
 unfold ni at h
 simp only [aX,decide_eq_true_eq,aK] at h
 exact ⟨h.1.1.1,h.1.1.2,h.1.2,h.2.1,h.2.2⟩
def lK(x:Int)(zs:List (ax3×(Nat→Value))):List (ax3×(Nat→Value)):=zs.filter fun z=>kZ x z.1
section
variable{zs:List (ax3×(Nat→Value))}{l:List ax3}{x:Int}{k:Nat}
def ats(hk:k < zs.length)(h:kZ x zs[k].1=true):lK x (zs.take (k+1))=lK x (zs.take k)++[zs[k]]:=by
 unfold lK;rw [cU hk,gW];simp [h]
def att(hk:k < zs.length)(h:kZ x zs[k].1=false):lK x (zs.take (k+1))=lK x (zs.take k):=by
 unfold lK;rw [cU hk,gW];simp [h]
def atu:(lK x (zs.take k)).length≤k:=by
 have:=kE (fun z:ax3×(Nat→Value)=>kZ x z.1) (zs.take k)
 rw [cI] at this;unfold lK;omega
def aj3(hz:zs.map Prod.fst=l):(lK x zs).map Prod.fst=l.filter (kZ x):=by
 subst hz;unfold lK;rw [List.filter_map];rfl
def aj4(hz:zs.map Prod.fst=l):(lK x zs).length=eK l x:=by
 unfold eK;rw [←aj3 hz,bf]
def AJ{α:Type}(key:α→Int)(x:Int):∀{l:List α},l.Pairwise (fun a b=>key a < key b)→l.filter (fun a=>decide (key a < x))=l.take (l.filter fun a=>decide (key a < x)).length
 | [],_=>rfl
 | a::l,h=>by
  have ⟨h1,h2⟩:=List.pairwise_cons.1 h
  have ih:=AJ key x h2
  rw [List.filter_cons]
  split
  ·rw [List.length_cons,List.take_succ_cons,←ih]
  ·rename_i hc
   have hc:¬key a < x:=by simpa using hc
   have:l.filter (fun a=>decide (key a < x))=[]:=by
    rw [List.filter_eq_nil_iff]
    intro b hb
    have:=h1 b hb
    simp;omega
   rw [this];rfl
def atv{e:aC}(hok:bn e=true)(hz:zs.map Prod.fst=e.ax3):zs.Pairwise (fun a b=>a.1.ax4.Id < b.1.ax4.Id):=by
 have:=tW hok
 rw [←hz,List.pairwise_map] at this
 exact this
def aj5{e:aC}(hok:bn e=true)(hz:zs.map Prod.fst=e.ax3):lK x zs=zs.take (eK e.ax3 x):=by
 have h:=AJ (fun z:ax3×(Nat→Value)=>z.1.ax4.Id) x (atv hok hz)
 have hl:=aj4 (x:=x) hz
 unfold lK kZ at *
 rw [h,hl]
def aj6{e:aC}:eK e.ax3 x≤e.ax3.length:=kE _ _
def aj7{e:aC}(hok:bn e=true)(hk:k < e.ax3.length):e.ax3[k].ax4.Id < x↔k < eK e.ax3 x:=by
 have h:=AJ (fun a:ax3=>a.ax4.Id) x (tW hok)
 have hc:eK e.ax3 x=(e.ax3.filter fun a=>decide (a.ax4.Id < x)).length:=rfl
 rw [←hc] at h
 constructor
 ·intro hx
  have hm:e.ax3[k]∈e.ax3.filter fun a=>decide (a.ax4.Id < x):=List.mem_filter.2 ⟨List.getElem_mem hk,Be⟩
  rw [h] at hm
  obtain ⟨j,hj,hje⟩:=List.mem_iff_getElem.1 hm
  rw [cI] at hj
  rw [List.getElem_take] at hje
  have:=DY hok (show j < e.ax3.length by omega) hk (by rw [hje])
  omega
 ·intro hx
  have hm:e.ax3[k]∈e.ax3.take (eK e.ax3 x):=by
   rw [VT];exact ⟨k,fb,by rw [List.getElem_take]⟩
  rw [←h] at hm
  have:=(List.mem_filter.1 hm).2
  simpa using this
def aj8{e:aC}(h:eD e.ax3 x < 0)(hk:k < e.ax3.length):e.ax3[k].ax4.Id≠x:=by
 intro hx
 unfold eD at h
 rw [if_pos (xw hk (by unfold gR;simpa using hx))] at h
 omega
def mA(zs:List (ax3×(Nat→Value)))(zn:ax3×(Nat→Value))(p k:Nat):List (ax3×(Nat→Value)):=if p < k then zs.take p++zn::(zs.take k).drop p else zs.take k
def atw{zn:ax3×(Nat→Value)}{p:Nat}(hk:k≤zs.length):(mA zs zn p k).length≤k+1:=by
 unfold mA;split<;>simp<;>omega
def atx{zn:ax3×(Nat→Value)}{p:Nat}(hk:k < zs.length)(h:k≠p):mA zs zn p (k+1)=mA zs zn p k++[zs[k]]:=by
 unfold mA
 by_cases hp:p < k
 ·rw [if_pos ab,if_pos hp,cU hk,List.drop_append_of_le_length fb]
  simp
 ·rw [if_neg ab,if_neg hp,cU hk]
def aty{zn:ax3×(Nat→Value)}{p:Nat}(hk:k < zs.length)(h:k=p):mA zs zn p (k+1)=mA zs zn p k++[zn]++[zs[k]]:=by
 subst h
 unfold mA
 rw [if_pos ab,if_neg ab,cU hk,List.drop_append_of_le_length fb]
 simp
def atz{zn:ax3×(Nat→Value)}{p:Nat}(h:p < zs.length):mA zs zn p zs.length=zs.take p++zn::zs.drop p:=by unfold mA;rw [if_pos h,cJ]
def atA{zn:ax3×(Nat→Value)}{p:Nat}(h:p=zs.length):mA zs zn p zs.length++[zn]=zs.take p++zn::zs.drop p:=by subst h;unfold mA;rw [if_neg ab];simp
def atB{zn:ax3×(Nat→Value)}{p:Nat}:((zs.take p++zn::zs.drop p)++[]).Perm ([zn]++zs):=by
 rw [fV]
 refine List.perm_middle.trans ?_
 rw [ic];exact List.Perm.refl _
def atC{e:aC}{q:ax4}{li:Int}{kn:Nat→Value}(hok:bn e=true)(hz:zs.map Prod.fst=e.ax3):(zs.take (eK e.ax3 q.Id)++(eJ e q li,kn)::zs.drop (eK e.ax3 q.Id)).map Prod.fst=nh e q li:=by
 unfold nh
 rw [←aj5 hok hz,bK,aj3 hz,List.map_cons,List.map_drop,hz]
end
def atD{e:aC}{q:ax4}{l:Int}:eC (eJ e q l)=fM q+e.Store.ax2.length:=by
 unfold eJ eC
 simp only [gj,bo,JU,iN,List.map_nil,List.sum_nil,List.length_nil];omega
def aj9(e:aC)(q:ax4)(l:Int):bA (gH e q l).1≤bA e+fM q+10:=by
 unfold gH
 split
 ·rename_i h
  have hf:=AH h
  have hef:=jv hf.1
  obtain ⟨hs8,_,_,_,_,_⟩:=pX hef.1
  have hn:=atD (e:=e) (q:=q) (l:=l)
  have hsum:∀(L:List ax3) (x:Int),(∀a∈L,True)→L.Pairwise (fun a b=>a.ax4.Id < b.ax4.Id)→(L.filter (kZ x)++L.drop (eK L x))=L:=by
   intro L x _ hp
   have h:=AJ (fun a:ax3=>a.ax4.Id) x hp
   have:L.filter (kZ x)=L.take (eK L x):=h
   rw [this,ic]
  have hs:=hsum e.ax3 q.Id (fun _ _=>trivial) (tW hf.1)
  have h1:(nh e q l).length=e.ax3.length+1:=by
   conv=>rhs;rw [←hs]
   unfold nh;simp only [bJ,List.length_cons];omega
  have h2:((nh e q l).map eC).sum=(e.ax3.map eC).sum+eC (eJ e q l):=by
   conv=>rhs;rw [←hs]
   unfold nh;simp only [bK,List.map_cons,List.sum_append,List.sum_cons];omega
  unfold bA iO
  dsimp only
  rw [h1,h2,hn];omega
 ·dsimp only;omega
end
def vF(e:aC)(i:Nat):aC:=⟨e.Store,e.ax7,e.Order,gw e.ax3 i,e.Done,e.ayf,e.Steps⟩
def nj(e:aC)(id:Int):Bool:=bn e&&decide (0≤eD e.ax3 id)
def dk(e:aC)(id:Int):aC×Bool:=if nj e id then (dZ (vF e (eD e.ax3 id).toNat),true) else (e,false)
def JW{e:aC}{id:Int}(h:nj e id=false):dk e id=(e,false):=if_neg iF
def aka{e:aC}{id:Int}(h:nj e id=true):dk e id=(dZ (vF e (eD e.ax3 id).toNat),true):=if_pos h
def SK{e:aC}{id:Int}{i:Nat}(h:nj e id=true)(hf:eD e.ax3 id=(i:Int)):dk e id=(dZ (vF e i),true):=by rw [aka h,hf];rfl
def SL{l:List ax3}{id:Int}(h:0≤eD l id):∃i:Nat,i < l.length∧eD l id=(i:Int):=by
 unfold eD at *
 split at h
 ·rename_i ha
  rw [if_pos ha]
  obtain ⟨a,ha1,ha2⟩:=List.any_eq_true.1 ha
  exact ⟨l.findIdx (gR id),List.findIdx_lt_length_of_exists ⟨a,ha1,ha2⟩,rfl⟩
 ·omega
def akb{α β:Type}{f:α→β}{zs:List α}{l:List β}{i:Nat}(hz:zs.map f=l):(gw zs i).map f=gw l i:=by
 subst hz;unfold gw;rw [bK,List.map_take,List.map_drop]
def SM{α:Type}{zs:List α}{i:Nat}(hi:i < zs.length):(gw zs i++[zs[i]]).Perm zs:=by
 unfold gw
 have:zs=zs.take i++(zs[i]::zs.drop (i+1)):=by rw [←List.drop_eq_getElem_cons hi,ic]
 conv=>rhs;rw [this]
 rw [bB]
 refine iH _ ?_
 exact List.perm_append_singleton _ _
def SN{e:aC}{i:Nat}(hi:i < e.ax3.length):bA (vF e i)≤bA e:=by
 have hs:((gw e.ax3 i).map eC).sum+eC e.ax3[i]=(e.ax3.map eC).sum:=by
  have:=((SM hi).map eC).sum_nat
  rw [bK,List.sum_append] at this
  simpa using this
 have hl:=Mz hi
 unfold vF bA iO
 dsimp only
 rw [hl];omega
def akc(e:aC)(id:Int):bA (dk e id).1≤bA e:=by
 cases h:nj e id with
 | false=>rw [JW h];exact Nat.le_refl _
 | true=>
  have h2:=h
  unfold nj at h2
  simp only [aX,decide_eq_true_eq] at h2
  obtain ⟨i,hi,hf⟩:=SL h2.2
  rw [SK h hf]
  have h3:=Sr (vF e i)
  have h4:=SN hi
  dsimp only;omega
def atE{q:ax4}(h:bN q=true):fM q≤6:=by
 unfold bN nP at h
 simp only [aX,aK,decide_eq_true_eq] at h
 have h1:(q.ax5.map Dr).sum=0:=by
  have:∀l:List fC,(l.map Dr).sum=0:=by
   intro l
   induction l with
   | nil=>rfl
   | cons c l ih=>rw [List.map_cons,List.sum_cons,ih];rfl
  exact this _
 unfold fM Ah
 simp only [gj,bo,h1];omega
def atF{s:Store}{u:ax6}(h:kt s u=true)(hk:¬u.Kind=2):(jQ s u).length=3:=by
 obtain ⟨h1,h2,h3,h4,h5⟩:=xL h
 have h0:(jQ s u).length=(gA s u).length:=by unfold jQ;split<;>simp
 rw [h0]
 by_cases a:0≤cF s u.Row.Id
 ·exact Jt h1 a
 ·rw [(tS a).2]
  have hk1:u.Kind=1:=by
   by_cases b:u.Kind=1
   ·exact b
   ·exact absurd (h4.2 b) a
  unfold dK at h2
  rw [if_pos hk1] at h2
  simp only [aX] at h2
  exact Ai h2.1
def SO(s:Store)(u:ax6):cg (eI s u).1≤cg s+4:=by
 cases h:kt s u with
 | false=>rw [DL h];dsimp only;omega
 | true=>
  by_cases hk:u.Kind=2
  ·rw [xK h hk]
   have e1:=aig s u
   unfold cg;dsimp only;rw [e1];simp only [bo];omega
  ·have h5:=(xL h).2.2.2.2.resolve_left hk
   obtain ⟨r,hr,hrm,_⟩:=Rt h5
   rw [Aw h hk hrm]
   have e1:=aig s u
   have e2:=atF h hk
   have hru:r < (dG s u).length:=by rw [Ax];exact hr
   have e3:=Js (f:=dv) (x:=(dG s u)[r]++[mm s u]) hru
   have hw:dV (mm s u)=(jQ s u).length:=by unfold mm dV;simp only [gj,bo];omega
   have e5:dv ((dG s u)[r]++[mm s u])=dv (dG s u)[r]+(1+dV (mm s u)):=by
    unfold dv;simp only [bJ,bK,List.sum_append,List.length_cons,List.length_nil,List.map_cons,List.map_nil,List.sum_cons,List.sum_nil];omega
   rw [xM hru]
   unfold cg
   dsimp only
   unfold iy at e1 ⊢
   rw [List.length_set]
   simp only [bo] at *;omega
def vG(e:aC)(s:Store):aC:=⟨s,e.ax7,e.Order,e.ax3,e.Done,e.ayf,e.Steps⟩
def dl(e:aC)(u:ax6):aC×Bool:=if bn e&&(eI e.Store u).2 then (dZ (vG e (eI e.Store u).1),true) else (e,false)
def SP{e:aC}{u:ax6}(h:(bn e&&(eI e.Store u).2)=false):dl e u=(e,false):=if_neg iF
def SQ{e:aC}{u:ax6}(h:(bn e&&(eI e.Store u).2)=true):dl e u=(dZ (vG e (eI e.Store u).1),true):=if_pos h
def SR(e:aC)(u:ax6):bA (vG e (eI e.Store u).1)≤bA e+4:=by
 have:=SO e.Store u
 unfold vG bA;dsimp only;omega
def akd(e:aC)(u:ax6):bA (dl e u).1≤bA e+4:=by
 have h1:=SR e u
 have h2:=Sr (vG e (eI e.Store u).1)
 unfold dl
 split<;>dsimp only<;>omega
def gU(e:aC)(x:cZ):aC×Bool:=if bn e&&dE x then (if x.Kind=1 then gH e x.ax4 x.Limit else if x.Kind=2 then dk e x.Id else if x.Kind=3 then dl e x.ax6 else (oa e x.Steps,true)) else (e,false)
def SS{e:aC}{x:cZ}(h:(bn e&&dE x)=false):gU e x=(e,false):=if_neg iF
def SU{e:aC}{x:cZ}(h:(bn e&&dE x)=true)(k:x.Kind=1):gU e x=gH e x.ax4 x.Limit:=by unfold gU;rw [if_pos h,if_pos k]
def SV{e:aC}{x:cZ}(h:(bn e&&dE x)=true)(k:x.Kind=2):gU e x=dk e x.Id:=by unfold gU;rw [if_pos h,if_neg ab,if_pos k]
def SX{e:aC}{x:cZ}(h:(bn e&&dE x)=true)(k:x.Kind=3):gU e x=dl e x.ax6:=by unfold gU;rw [if_pos h,if_neg ab,if_neg ab,if_pos k]
def SY{e:aC}{x:cZ}(h:(bn e&&dE x)=true)(k1:¬x.Kind=1)(k2:¬x.Kind=2)(k3:¬x.Kind=3):gU e x=(oa e x.Steps,true):=by unfold gU;rw [if_pos h,if_neg k1,if_neg k2,if_neg k3]
def atG(e:aC)(x:cZ):bA (gU e x).1≤bA e+40000:=by
 cases h:bn e&&dE x with
 | false=>rw [SS h];dsimp only;omega
 | true=>
  by_cases k1:x.Kind=1
  ·rw [SU h k1]
   cases ha:ni e x.ax4 x.Limit with
   | false=>rw [JV ha];dsimp only;omega
   | true=>
    have h1:=aj9 e x.ax4 x.Limit
    have h2:=atE (AH ha).2.1
    omega
  ·by_cases k2:x.Kind=2
   ·rw [SV h k2];have:=akc e x.Id;omega
   ·by_cases k3:x.Kind=3
    ·rw [SX h k3];have:=akd e x.ax6;omega
    ·rw [SY h k1 k2 k3];have:=atq e x.Steps;dsimp only;omega
def JX(s:aC×Int)(x:cZ):aC×Int:=((gU s.1 x).1,if (gU s.1 x).2 then s.2+1 else s.2)
def dM(e:aC)(l:List cZ)(k:Nat):aC×Int:=(l.take k).foldl JX (e,0)
def nk(e:aC)(l:List cZ):aC×Int:=dM e l (min l.length 60)
def AK{e:aC}{l:List cZ}{k:Nat}(hk:k < l.length):dM e l (k+1)=JX (dM e l k) l[k]:=by
 unfold dM;rw [cU hk,List.foldl_append];rfl
def ake{c:Nat}(hc:∀(e:aC) (x:cZ),bA (gU e x).1≤bA e+c)(e:aC)(l:List cZ):∀k:Nat,k≤l.length→bA (dM e l k).1≤bA e+c * k
 | 0,_=>by rw [Nat.mul_zero];exact Nat.le_refl _
 | k+1,h=>by
  have h1:=ake hc e l k ab
  have h4:=hc (dM e l k).1 (l[k]'(ab))
  have e1:(dM e l (k+1)).1=(gU (dM e l k).1 (l[k]'(ab))).1:=by rw [AK ab];rfl
  rw [e1,Nat.mul_succ];omega
def akf(e:aC)(l:List cZ):∀k:Nat,k≤l.length→0≤(dM e l k).2∧(dM e l k).2≤k
 | 0,_=>⟨by show (0:Int)≤0;omega,by show (0:Int)≤_;omega⟩
 | k+1,h=>by
  obtain ⟨h2,h3⟩:=akf e l k ab
  have e2:(dM e l (k+1)).2=if (gU (dM e l k).1 (l[k]'(ab))).2 then (dM e l k).2+1 else (dM e l k).2:=by rw [AK ab];rfl
  rw [e2]
  constructor<;>split<;>omega
def SZ(e:aC)(l:List cZ)(k:Nat)(h:k≤l.length)(h6:k≤60):bA (dM e l k).1≤bA e+2400000∧0≤(dM e l k).2∧(dM e l k).2≤k:=by
 have h1:=ake atG e l k h
 have h2:40000 * k≤40000 * 60:=Nat.mul_le_mul_left _ h6
 have h3:40000 * 60=2400000:=aj
 rw [h3] at h2
 exact ⟨Nat.le_trans h1 (Nat.add_le_add_left h2 _),akf e l k h⟩
structure atH(e:aC):Prop where
 so:cN e.Store=true
 c0:0≤e.ax7
 c1:e.ax7 < e.Store.ax2.length
 od:iR e.Order=true
 s0:0≤e.Steps
 s1:e.Steps≤100000
 a8:e.ax3.length≤8
 d1:e.Done.length≤1000
 l1:e.ayf.length≤1000
 aa:∀a∈e.ax3,gz e.Store a=true
 pw:e.ax3.Pairwise fun a b=>a.ax4.Id < b.ax4.Id
 fs:∀f∈e.Done,kU e.Store.Now f=true
 cs:∀c∈e.ayf,gQ c=true
def mB{e:aC}:bn e=true↔atH e:=by
 constructor
 ·intro h
  obtain ⟨h1,h2,h3,h4,h5,h6,h7,h8,h9,h10,h11,h12⟩:=jv h
  exact ⟨h1,h3,ab,h2,h8,h9,h5,h6,h7,h10,tW h,h11,h12⟩
 ·intro h
  have c0:=h.c0;have c1:=h.c1;have s0:=h.s0;have s1:=h.s1;have a8:=h.a8;have d1:=h.d1;have l1:=h.l1
  refine ahY ?_ (Ea h.aa (h.pw.imp fun {a b} k=>by unfold nV;simpa using k)) (List.all_eq_true.2 h.fs) (List.all_eq_true.2 h.cs)
  unfold lB
  rw [h.so,h.od]
  simp only [aK,Bool.true_and,aX,decide_eq_true_eq]
  omega
structure atJ(n:Nat)(now:Int)(a:ax3):Prop where
 t0:0 < a.ayc.length
 tp:a.ayc.Pairwise fun x y=>x < y
 tr:∀x∈a.ayc,0≤x∧x < n
 q:bN a.ax4=true
 tm0:0≤a.Time
 tm1:a.Time≤now
 ag0:0≤a.Age
 ag1:a.Age≤100000
 sn0:0≤a.Sent
 sn1:a.Sent≤1000
 cp0:0≤a.Cap
 cp1:a.Cap≤32
 rk:∀r∈a.Rows,bM r=true
 rl:a.Rows.length≤1000
def atK{l:List Int}{n:Int}(h:fh 0 (mY n) mZ l=true):l.Pairwise fun x y=>x < y:=by
 rw [List.pairwise_iff_getElem]
 have step:∀i (hi:i+1 < l.length),l[i] < l[i+1]:=by
  intro i hi
  have:=List.all_eq_true.1 h (i+1) (List.mem_range.2 hi)
  rw [mf,show i+1 - 1=i from rfl,fP hi,fP (show i < l.length by omega)] at this
  rcases this.2 with h0|h0
  ·omega
  ·unfold mZ at h0;simpa using h0
 intro i j hi hj hij
 induction j with
 | zero=>omega
 | succ j ih=>
  by_cases he:i=j
  ·subst he;exact step i hj
  ·have h1:=ih ab ab
   have h2:=step j hj
   omega
def oZ{s:Store}{a:ax3}:gz s a=true↔atJ s.ax2.length s.Now a:=by
 constructor
 ·intro h
  unfold gz na pQ at h
  simp only [aX,aK,decide_eq_true_eq] at h
  obtain ⟨⟨h1,h2⟩,h3,h4,h5,h6,h7,h8,h9⟩:=h
  refine ⟨h2,atK h1,fun x hx=>?_,h3,h4.1,h4.2,h5.1,h5.2,h6.1,h6.2,h7.1,h7.2,List.all_eq_true.1 h8,ab⟩
  obtain ⟨k,hk,rfl⟩:=List.mem_iff_getElem.1 hx
  have:=Dx h1 hk
  unfold mY aK at this
  simp only [aX,decide_eq_true_eq] at this
  omega
 ·intro h
  have t0:=h.t0;have tm0:=h.tm0;have tm1:=h.tm1;have ag0:=h.ag0;have ag1:=h.ag1;have sn0:=h.sn0;have sn1:=h.sn1;have cp0:=h.cp0;have cp1:=h.cp1;have rl:=h.rl
  unfold gz na pQ
  have e1:fh 0 (mY s.ax2.length) mZ a.ayc=true:=Ea (fun x hx=>by have:=h.tr x hx;unfold mY aK;simp only [aX,decide_eq_true_eq];omega) (h.tp.imp fun {a b} k=>by unfold mZ;simpa using k)
  rw [e1,h.q,List.all_eq_true.2 h.rk]
  simp only [aK,Bool.true_and,aX,decide_eq_true_eq]
  omega
def Ta{now:Int}{f:jI}:kU now f=true↔bN f.ax4=true∧(0≤f.Time∧f.Time≤now)∧(0≤f.Steps∧f.Steps≤100000)∧(∀r∈f.Rows,bM r=true)∧f.Rows.length≤1000:=by
 unfold kU pQ
 simp only [aX,aK,decide_eq_true_eq,lQ]
 constructor
 ·rintro ⟨h1,h2,h3,h4,h5⟩;exact ⟨h1,h2,h3,h4,ab⟩
 ·rintro ⟨h1,h2,h3,h4,h5⟩;exact ⟨h1,h2,h3,h4,ab⟩
def akg{q:ax4}(h:bN q=true):(0≤q.Id∧q.Id≤23)∧0≤q.ax8∧q.ax8≤3:=by
 unfold bN at h
 simp only [aX,aK,decide_eq_true_eq] at h
 omega
def atL{e:aC}(h:bn e=true){a b:ax3}(ha:a∈e.ax3)(hb:b∈e.ax3)(hid:a.ax4.Id=b.ax4.Id):a=b:=by
 obtain ⟨i,hi,rfl⟩:=List.mem_iff_getElem.1 ha
 obtain ⟨j,hj,rfl⟩:=List.mem_iff_getElem.1 hb
 have:=DY h hi hj hid
 subst this;rfl
def atM{l:List Int}{x:Int}:cv l x=true↔x∈l:=by unfold cv;simp
def atN{e:aC}(h:bn e=true){a:ax3}(ha:a∈e.ax3):cv (parts e) a.ax4.Id=kV e a:=by
 rw [Bool.eq_iff_iff,atM,vl h]
 unfold je
 rw [Fy]
 constructor
 ·rintro ⟨b,hb,hid⟩
  obtain ⟨hb,hp⟩:=List.mem_filter.1 hb
  rw [←atL h hb ha hid];exact hp
 ·intro hp;exact ⟨a,List.mem_filter.2 ⟨ha,hp⟩,rfl⟩
def hY(e:aC)(a:ax3):ax3:=mu (e.Store.ax2.length:Int) (if kV e a then nZ e a else a)
def atO{e:aC}(h:bn e=true):(jf e).ax3=(e.ax3.map (hY e)).filter (fun a=>!fD a)∧(jf e).Done=e.Done++((e.ax3.map (hY e)).filter fD).map vw:=by
 have hl:=Sl (e:=e) (k:=(parts e).length)
 have ht:(dr e (parts e).length).take e.ax3.length=dr e (parts e).length:=qG ab
 have hs:dr e (parts e).length=e.ax3.map (hY e):=by
  unfold dr cw
  rw [List.map_map,cJ]
  refine List.map_congr_left fun a ha=>?_
  show mu _ (mr e (parts e) a)=hY e a
  unfold mr hY
  rw [atN h ha]
 unfold jf Sd mw jy
 dsimp only
 rw [ht,hs]
 exact ⟨rfl,rfl⟩
def atP{e:aC}(h:bn e=true)(a:ax3):∀r∈kY e a,bM r=true:=by
 intro r hr
 unfold kY at hr
 exact ajL h a.Time r (List.mem_filter.1 hr).1
def Ec{e:aC}{a:ax3}:(hY e a).ax4=a.ax4∧(hY e a).Time=a.Time∧(hY e a).Cap=a.Cap∧(hY e a).Age=a.Age+1:=by
 unfold hY mu nZ
 split<;>exact ⟨rfl,rfl,rfl,rfl⟩
def atQ{e:aC}{a:ax3}:(hY e a).Rows=if kV e a then a.Rows++kY e a else a.Rows:=by
 unfold hY mu nZ
 split<;>rfl
def atR{e:aC}{a:ax3}:(hY e a).ayc=if kV e a then nY a.ayc e.ax7 else a.ayc:=by
 unfold hY mu nZ
 split<;>rfl
def atS{e:aC}{a:ax3}:(hY e a).Sent=if (a.Age+1).tmod (e.Store.ax2.length:Int)=0 then 0 else if kV e a then a.Sent+((kY e a).length:Int) else a.Sent:=by
 unfold hY mu nZ
 split<;>rfl
structure qm(N:Nat)(e:aC):Prop where
 ok:bn e=true
 ld:e.ayf.length≤N
 dn:e.Done.length+e.ax3.length≤N
 ag:∀a∈e.ax3,a.Age≤N∧a.Sent≤4 * N∧a.Rows.length≤4 * N
structure hZ(N:Nat)(e:aC):Prop where
 ok:bn e=true
 st:e.Steps≤N
 ld:e.ayf.length≤N
 dn:e.Done.length+e.ax3.length≤N
 ag:∀a∈e.ax3,a.Age≤N∧a.Sent≤4 * N∧a.Rows.length≤4 * N
def hZ.w{N:Nat}{e:aC}(h:hZ N e):qm N e:=⟨h.ok,h.ld,h.dn,h.ag⟩
def hZ.le{N M:Nat}{e:aC}(h:hZ N e)(hM:N≤M):hZ M e:=
 ⟨h.ok,by have:=h.st;omega,by have:=h.ld;omega,by have:=h.dn;omega,fun a ha=>by have:=h.ag a ha;omega⟩
def qm.le{N M:Nat}{e:aC}(h:qm N e)(hM:N≤M):qm M e:=
 ⟨h.ok,by have:=h.ld;omega,by have:=h.dn;omega,fun a ha=>by have:=h.ag a ha;omega⟩
def atT{N:Nat}{e:aC}(h:hZ N e)(hN:N≤900):jT e=true:=by
 have h1:=h.st;have h2:=h.ld;have h3:=h.dn
 unfold jT
 rw [h.ok]
 simp only [Bool.true_and,aX,decide_eq_true_eq]
 omega
def atU{e:aC}(h:bn e=true)(hp:0 < (parts e).length):gQ (fu e (parts e).length)=true:=by
 have hk:=mB.1 h
 have hl:=JJ (e:=e) (Nat.le_refl (parts e).length)
 have hpl:=DJ (e:=e)
 have ha8:=hk.a8
 have hs8:=(oW.1 hk.so).l8
 have hc0:=hk.c0;have hc1:=hk.c1
 have hs4:=JK h
 have hset:eV (parts e)=true:=by
  have:fh 0 (fun x=>aK x 0 23) (fun a b=>decide (a < b)) (parts e)=true:=Ea (fun x hx=>by
   rw [vl h] at hx
   obtain ⟨a,ha,rfl⟩:=List.mem_map.1 hx
   have:=akg (oZ.1 (hk.aa a (List.mem_filter.1 ha).1)).q
   unfold aK;simp only [aX,decide_eq_true_eq];omega) ((Sf h).imp fun {a b} k=>by simpa using k)
  exact this
 unfold gQ oS
 have e1:(fu e (parts e).length).Ids=parts e:=by unfold fu;rw [cJ]
 have e2:(fu e (parts e).length).Segment=e.ax7:=rfl
 have e3:(fu e (parts e).length).Base=((cu e).length:Int):=rfl
 have e4:tL (fu e (parts e).length) (fu e (parts e).length).Ids.length=true:=by
  unfold tL
  refine List.all_eq_true.2 fun k hk2=>?_
  have hk2:=List.mem_range.1 hk2
  rw [e1] at hk2
  unfold tK
  rw [e3]
  have t1:(fu e (parts e).length).ax9.getD k 0=AC e (parts e)[k]:=by
   unfold fu;dsimp only;rw [cJ,List.getD_eq_getElem?_getD,List.getElem?_map,List.getElem?_eq_getElem hk2];rfl
  have t2:(fu e (parts e).length).Rows.getD k 0=AD e (parts e)[k]:=by
   unfold fu;dsimp only;rw [cJ,List.getD_eq_getElem?_getD,List.getElem?_map,List.getElem?_eq_getElem hk2];rfl
  obtain ⟨i,hi,hf,hid,hpp⟩:=Sg h hk2
  have ha:=Si hi hf
  rw [t1,t2]
  unfold AC AD
  rw [ha]
  have h5:=akg (oZ.1 (hk.aa _ (List.getElem_mem hi))).q
  have h6:(kY e e.ax3[i]).length≤(cu e).length:=Nat.le_trans (kE _ _) (DZ _ _)
  simp only [aK,aX,decide_eq_true_eq]
  omega
 rw [e4,e1,e2,e3,hset]
 simp only [aK,Bool.true_and,Bool.and_true,aX,decide_eq_true_eq]
 exact ⟨⟨⟨ab,ab⟩,ab,ab⟩,⟨ab,ab⟩,ab,ab⟩
def akh{e:aC}(h:bn e=true):bn (dZ e)=true:=by
 have hk:=mB.1 h
 have hr:=as2 (s:=e.Store) (iS e.ax3)
 rw [mB]
 unfold dZ
 refine ⟨as1 _ hk.so,hk.c0,?_,hk.od,hk.s0,hk.s1,hk.a8,hk.d1,hk.l1,fun a ha=>?_,hk.pw,fun f hf=>?_,hk.cs⟩
 ·dsimp only;rw [hr.1];exact hk.c1
 ·dsimp only;rw [oZ,hr.1,hr.2,←oZ];exact hk.aa a ha
 ·dsimp only;rw [hr.2];exact hk.fs f hf
def qm.reclaim{N:Nat}{e:aC}(h:qm N e):qm N (dZ e):=⟨akh h.ok,h.ld,h.dn,h.ag⟩
def hZ.reclaim{N:Nat}{e:aC}(h:hZ N e):hZ N (dZ e):=⟨akh h.ok,h.st,h.ld,h.dn,h.ag⟩
def atV{c n:Int}(h0:0≤c)(h1:c < n):(c+1).tmod n=if c+1=n then 0 else c+1:=by
 rw [Int.tmod_eq_emod_of_nonneg ab]
 split
 ·rename_i h;rw [h,Int.emod_self]
 ·exact Int.emod_eq_of_lt ab ab
def atW{N:Nat}{e:aC}(h:qm N e)(hN:N≤249):qm (N+1) (dL e):=by
 cases hso:jT e with
 | false=>rw [ajD hso];exact h.le ab
 | true=>
 obtain ⟨_,hst,_,_⟩:=DX hso
 rw [Se hso]
 refine qm.reclaim ?_
 have hk:=mB.1 h.ok
 obtain ⟨ea,ed⟩:=atO h.ok
 have hb:=h.ag
 have hld:=h.ld;have hdn:=h.dn
 have c0:=hk.c0;have c1:=hk.c1
 have hcur:=atV c0 c1
 have el:(jf e).ayf=jz e (parts e).length:=rfl
 have hll:(jf e).ayf.length≤e.ayf.length+1:=by
  rw [el];unfold jz;split
  ·omega
  ·rw [bJ];simp
 have hrows:∀a∈e.ax3,(hY e a).Rows.length≤4 * (N+1)∧∀r∈(hY e a).Rows,bM r=true:=by
  intro a ha
  have h1:=hb a ha
  have h2:=JQ h.ok a
  have h3:=oZ.1 (hk.aa a ha)
  rw [atQ]
  split
  ·rw [bJ]
   refine ⟨ab,fun r hr=>?_⟩
   rcases List.mem_append.1 hr with hr|hr
   ·exact h3.rk r hr
   ·exact atP h.ok a r hr
  ·exact ⟨ab,h3.rk⟩
 have hsent:∀a∈e.ax3,0≤(hY e a).Sent∧(hY e a).Sent≤4 * ((N:Int)+1):=by
  intro a ha
  have h1:=hb a ha
  have h2:=JQ h.ok a
  have h3:=oZ.1 (hk.aa a ha)
  have h4:=h3.sn0
  rw [atS]
  split
  ·omega
  ·split<;>omega
 have hsplit:((e.ax3.map (hY e)).filter fun a=>!fD a).length+((e.ax3.map (hY e)).filter fD).length=e.ax3.length:=by
  have:=Sp (e.ax3.map (hY e));rw [bf] at this;exact this
 have mem:∀b,b∈(jf e).ax3→∃a∈e.ax3,b=hY e a∧fD b=false:=by
  intro b hb2
  rw [ea] at hb2
  obtain ⟨hb2,he⟩:=List.mem_filter.1 hb2
  obtain ⟨a,ha,rfl⟩:=List.mem_map.1 hb2
  exact ⟨a,ha,rfl,by simpa using he⟩
 refine ⟨?_,ab,?_,?_⟩
 ·rw [mB]
  refine ⟨hk.so,?_,?_,hk.od,by show 0≤e.Steps+1;have:=hk.s0;omega,by show e.Steps+1≤100000;omega,?_,?_,ab,?_,?_,?_,?_⟩
  ·show 0≤(e.ax7+1).tmod _;rw [hcur];split<;>omega
  ·show (e.ax7+1).tmod (e.Store.ax2.length:Int) < (e.Store.ax2.length:Int);rw [hcur];split<;>omega
  ·rw [ea];have:=hk.a8;omega
  ·rw [ed,bJ,bf];omega
  ·intro b hb2
   obtain ⟨a,ha,rfl,he⟩:=mem b hb2
   have h3:=oZ.1 (hk.aa a ha)
   have hq:=Ec (e:=e) (a:=a)
   have h5:=hrows a ha;have h6:=hsent a ha;have h7:=hb a ha
   rw [oZ]
   have ht:(hY e a).ayc.Sublist a.ayc:=by
    rw [atR];split
    ·exact List.filter_sublist
    ·exact List.Sublist.refl _
   refine ⟨?_,h3.tp.sublist ht,fun x hx=>h3.tr x (ht.subset hx),by rw [hq.1];exact h3.q,by rw [hq.2.1];exact h3.tm0,by rw [hq.2.1];exact h3.tm1,by rw [hq.2.2.2];have:=h3.ag0;omega,by rw [hq.2.2.2];omega,h6.1,ab,by rw [hq.2.2.1];exact h3.cp0,by rw [hq.2.2.1];exact h3.cp1,h5.2,ab⟩
   unfold fD at he
   simp only [decide_eq_false_iff_not] at he
   omega
  ·rw [ea]
   refine List.Pairwise.filter _ ?_
   rw [List.pairwise_map]
   refine hk.pw.imp fun {a b} k=>?_
   rw [Ec.1,Ec.1];exact k
  ·rw [ed]
   intro f hf
   rcases List.mem_append.1 hf with hf|hf
   ·exact hk.fs f hf
   ·obtain ⟨b,hb2,rfl⟩:=List.mem_map.1 hf
    obtain ⟨hb2,_⟩:=List.mem_filter.1 hb2
    obtain ⟨a,ha,rfl⟩:=List.mem_map.1 hb2
    have h3:=oZ.1 (hk.aa a ha)
    have hq:=Ec (e:=e) (a:=a)
    have h5:=hrows a ha;have h7:=hb a ha
    rw [Ta]
    unfold vw
    dsimp only
    rw [hq.1,hq.2.1,hq.2.2.2]
    have:=h3.ag0
    exact ⟨h3.q,⟨h3.tm0,h3.tm1⟩,⟨ab,ab⟩,h5.2,ab⟩
  ·rw [el]
   intro c hc
   unfold jz at hc
   split at hc
   ·exact hk.cs c hc
   ·rcases List.mem_append.1 hc with hc|hc
    ·exact hk.cs c hc
    ·rw [List.mem_singleton.1 hc]
     exact atU h.ok ab
 ·rw [ea,ed,bJ,bf];omega
 ·intro b hb2
  obtain ⟨a,ha,rfl,he⟩:=mem b hb2
  have hq:=Ec (e:=e) (a:=a)
  have h5:=hrows a ha;have h6:=hsent a ha;have h7:=hb a ha
  rw [hq.2.2.2]
  omega
def atX{N:Nat}{e:aC}(h:hZ N e)(hN:N≤249):hZ (N+1) (dL e):=by
 have k:=atW h.w hN
 have hst:=h.st
 exact ⟨k.ok,by rw [Se (atT h ab)];show e.Steps+1≤_;omega,k.ld,k.dn,k.ag⟩
def atY{N:Nat}{e:aC}(h:hZ N e)(id:Int):hZ N (dk e id).1:=by
 cases hc:nj e id with
 | false=>rw [JW hc];exact h
 | true=>
  rw [aka hc]
  refine hZ.reclaim ?_
  have hk:=mB.1 h.ok
  have hs:(gw e.ax3 (eD e.ax3 id).toNat).Sublist e.ax3:=by
   unfold gw
   conv=>rhs;rw [←ic (eD e.ax3 id).toNat e.ax3]
   exact List.Sublist.append (List.Sublist.refl _) (by rw [List.drop_add_one_eq_tail_drop];exact List.tail_sublist _)
  have hl:=hs.length_le
  have hdn:=h.dn;have a8:=hk.a8
  refine ⟨?_,h.st,h.ld,by show e.Done.length+(gw e.ax3 _).length≤N;omega,fun a ha=>h.ag a (hs.subset ha)⟩
  rw [mB]
  exact ⟨hk.so,hk.c0,hk.c1,hk.od,hk.s0,hk.s1,by show (gw e.ax3 _).length≤8;omega,hk.d1,hk.l1,fun a ha=>hk.aa a (hs.subset ha),hk.pw.sublist hs,hk.fs,hk.cs⟩
def atZ{N:Nat}{e:aC}(h:hZ N e)(u:ax6):hZ N (dl e u).1:=by
 cases hu:bn e&&(eI e.Store u).2 with
 | false=>rw [SP hu];exact h
 | true=>
  rw [SQ hu]
  refine hZ.reclaim ?_
  have hk:=mB.1 h.ok
  have hs:=ajR e.Store u hk.so
  have hlen:(eI e.Store u).1.ax2.length=e.Store.ax2.length∧e.Store.Now≤(eI e.Store u).1.Now:=by
   cases ha:kt e.Store u with
   | false=>rw [DL ha];exact ⟨rfl,Int.le_refl _⟩
   | true=>
    by_cases hk2:u.Kind=2
    ·rw [xK ha hk2];exact ⟨Ax _ _,ot⟩
    ·rw [Rv ha];unfold DK;rw [if_neg hk2];unfold Av;dsimp only;rw [List.length_set,Ax];exact ⟨rfl,ab⟩
  refine ⟨?_,h.st,h.ld,h.dn,h.ag⟩
  rw [mB]
  unfold vG
  refine ⟨hs,hk.c0,by dsimp only;rw [hlen.1];exact hk.c1,hk.od,hk.s0,hk.s1,hk.a8,hk.d1,hk.l1,fun a ha=>?_,hk.pw,fun f hf=>?_,hk.cs⟩
  ·have h3:=oZ.1 (hk.aa a ha)
   dsimp only
   rw [oZ,hlen.1]
   exact { h3 with tm1:=by have:=h3.tm1;omega }
  ·have:=Ta.1 (hk.fs f hf)
   dsimp only
   rw [Ta]
   exact ⟨this.1,⟨this.2.1.1,ab⟩,this.2.2⟩
def at0{n:Nat}:∀x∈ql n,0≤x∧x < n:=by
 intro x hx
 unfold ql at hx
 obtain ⟨i,hi,rfl⟩:=List.mem_map.1 hx
 have:=List.mem_range.1 hi
 omega
def at1{e:aC}{q:ax4}{l:Int}(h:bn e=true)(hq:bN q=true)(hl:0≤l∧l≤32):gz e.Store (eJ e q l)=true:=by
 have hk:=mB.1 h
 have hs:=oW.1 hk.so
 have l1:=hs.l1
 rw [oZ]
 unfold eJ
 refine ⟨by rw [JU];omega,?_,at0,hq,hs.n0,Int.le_refl _,Int.le_refl 0,Lt,Int.le_refl 0,by show (0:Int)≤1000;decide,hl.1,hl.2,aM,aM⟩
 unfold ql
 rw [List.pairwise_map]
 refine (List.pairwise_lt_range).imp fun {a b} k=>by omega
def at2{e:aC}{q:ax4}{l:Int}(h:bn e=true):(nh e q l).Perm (eJ e q l::e.ax3):=by
 have hc:=AJ (fun a:ax3=>a.ax4.Id) q.Id (tW h)
 have e1:e.ax3.filter (kZ q.Id)=e.ax3.take (eK e.ax3 q.Id):=hc
 unfold nh
 rw [e1]
 refine List.perm_middle.trans ?_
 rw [ic]
def at3{e:aC}{q:ax4}{l:Int}(h:bn e=true)(hf:eD e.ax3 q.Id < 0):(nh e q l).Pairwise fun a b=>a.ax4.Id < b.ax4.Id:=by
 have hp:=tW h
 have hc:=AJ (fun a:ax3=>a.ax4.Id) q.Id hp
 have e1:e.ax3.filter (kZ q.Id)=e.ax3.take (eK e.ax3 q.Id):=hc
 have hcut:=fun (k:Nat) (hk:k < e.ax3.length)=>aj7 (x:=q.Id) h hk
 have hge:∀b∈e.ax3.drop (eK e.ax3 q.Id),q.Id < b.ax4.Id:=by
  intro b hb
  obtain ⟨j,hj,rfl⟩:=List.mem_iff_getElem.1 hb
  rw [lj] at hj
  rw [List.getElem_drop]
  have h1:=hcut (eK e.ax3 q.Id+j) ab
  have h2:=aj8 hf (show eK e.ax3 q.Id+j < e.ax3.length by omega)
  omega
 have hlt:∀b∈e.ax3.take (eK e.ax3 q.Id),b.ax4.Id < q.Id:=by
  intro b hb
  rw [←e1] at hb
  have:=(List.mem_filter.1 hb).2
  unfold kZ at this;simpa using this
 unfold nh
 rw [e1,List.pairwise_append,List.pairwise_cons]
 refine ⟨hp.sublist (List.take_sublist _ _),⟨fun b hb=>hge b hb,hp.sublist (List.drop_sublist _ _)⟩,fun a ha b hb=>?_⟩
 have h1:=hlt a ha
 rcases List.mem_cons.1 hb with rfl|hb
 ·exact h1
 ·have:=hge b hb;omega
def at4{N:Nat}{e:aC}(h:hZ N e)(hN:N≤900)(q:ax4)(l:Int):hZ (N+1) (gH e q l).1:=by
 cases ha:ni e q l with
 | false=>rw [JV ha];exact h.le ab
 | true=>
  rw [SJ ha]
  obtain ⟨h1,h2,h3,h4,h5⟩:=AH ha
  have hk:=mB.1 h1
  have hp:=at2 (q:=q) (l:=l) h1
  have hl:=hp.length_eq
  rw [List.length_cons] at hl
  have hdn:=h.dn;have hst:=h.st;have hld:=h.ld
  have mem:∀a∈nh e q l,a=eJ e q l∨a∈e.ax3:=fun a ha=>List.mem_cons.1 (hp.mem_iff.1 ha)
  refine ⟨?_,ot,ot,ot,fun a ha=>?_⟩
  ·rw [mB]
   refine ⟨hk.so,hk.c0,hk.c1,hk.od,hk.s0,hk.s1,ot,hk.d1,hk.l1,fun a ha=>?_,by exact at3 (e:=e) h1 h4,hk.fs,hk.cs⟩
   rcases mem a ha with rfl|ha
   ·exact at1 (e:=e) h1 h2 h3
   ·exact hk.aa a ha
  ·rcases mem a ha with rfl|ha
   ·unfold eJ;dsimp only;simp;omega
   ·have:=h.ag a ha;omega
def at5{s:Store}(h:cN s=true):hZ 0 ⟨s,0,[0,1,2],[],[],[],0⟩:=by
 have k:=oW.1 h
 have l1:=k.l1
 refine ⟨?_,aM,aM,aM,aM⟩
 rw [mB]
 exact ⟨h,Int.le_refl 0,ot,by show iR [0,1,2]=true;decide,Int.le_refl 0,Lt,aM,aM,aM,aM,aM,aM,aM⟩
def rT:ax6:=⟨0,⟨0,[]⟩,0,0⟩
def rU:ax4:=⟨0,0,[],[]⟩
def dc(c:aG):Int×aG:=aw c 6
def JY(c:aG):ax4×aG:=mj (aw (dc c).2 6).2 (aw (dc c).2 6).1
def JZ(c:aG):Int×aG:=bL (JY c).2 [0,0,1,2]
def bQ(c:aG)(s:Store):cZ×aG:=
 if (dc c).1=0∨(dc c).1=1 then (⟨1,(JY c).1,(JZ c).1,0,rT,0⟩,(JZ c).2)
 else if (dc c).1=2 then (⟨2,rU,0,(aw (dc c).2 6).1,rT,0⟩,(aw (dc c).2 6).2)
 else if (dc c).1=3 then (⟨4,rU,0,0,rT,1+(aw (dc c).2 3).1⟩,(aw (dc c).2 3).2)
 else (⟨3,rU,0,0,(fE (dc c).2 s).1,0⟩,(fE (dc c).2 s).2)
def aki{c:aG}{s:Store}(h:(dc c).1=0∨(dc c).1=1):bQ c s=(⟨1,(JY c).1,(JZ c).1,0,rT,0⟩,(JZ c).2):=if_pos h
def akj{c:aG}{s:Store}(h:¬((dc c).1=0∨(dc c).1=1))(h2:(dc c).1=2):bQ c s=(⟨2,rU,0,(aw (dc c).2 6).1,rT,0⟩,(aw (dc c).2 6).2):=by unfold bQ;rw [if_neg h,if_pos h2]
def akk{c:aG}{s:Store}(h:¬((dc c).1=0∨(dc c).1=1))(h2:¬(dc c).1=2)(h3:(dc c).1=3):bQ c s=(⟨4,rU,0,0,rT,1+(aw (dc c).2 3).1⟩,(aw (dc c).2 3).2):=by unfold bQ;rw [if_neg h,if_neg h2,if_pos h3]
def akl{c:aG}{s:Store}(h:¬((dc c).1=0∨(dc c).1=1))(h2:¬(dc c).1=2)(h3:¬(dc c).1=3):bQ c s=(⟨3,rU,0,0,(fE (dc c).2 s).1,0⟩,(fE (dc c).2 s).2):=by unfold bQ;rw [if_neg h,if_neg h2,if_neg h3]
def Tb(c:aG)(s:Store):ki (bQ c s).1≤10:=by
 unfold bQ
 have hq:fM rU=0:=rfl
 have hu:mR rT=0:=rfl
 split
 ·have:=Jh (aw (dc c).2 6).2 (aw (dc c).2 6).1
  have e:fM (JY c).1≤6:=this
  unfold ki;simp only [bo];omega
 ·split
  ·unfold ki;simp only [bo];omega
  ·split
   ·unfold ki;simp only [bo];omega
   ·have:=SG (dc c).2 s
    unfold ki;simp only [bo];omega
inductive AL(s:Store):cZ→Prop
 | adm (q:ax4) (l:Int) (h1:bN q=true) (h2:0≤q.Id∧q.Id≤5) (h3:0≤l∧l≤2):AL s ⟨1,q,l,0,rT,0⟩
 | can (i:Int) (h:0≤i∧i≤5):AL s ⟨2,rU,0,i,rT,0⟩
 | stp (n:Int) (h:1≤n∧n≤3):AL s ⟨4,rU,0,0,rT,n⟩
 | upd (u:ax6):AL s ⟨3,rU,0,0,u,0⟩
def AL.steps{s:Store}{x:cZ}(h:AL s x):0≤x.Steps∧x.Steps≤3:=by cases h<;>dsimp only<;>omega
structure Ka where
 l:List cZ
 c:aG
def Tc(s:Store)(x:Ka):Ka:=⟨x.l++[(bQ x.c s).1],(bQ x.c s).2⟩
def rV(s:Store)(c:aG):Nat→Ka
 | 0=>⟨[],c⟩
 | k+1=>Tc s (rV s c k)
def vH(c:aG)(most:Int):Nat:=(aw c most).1.toNat
def xY(c:aG)(s:Store)(most:Int):Ka:=rV s (aw c most).2 (vH c most)
def Td{s:Store}{c:aG}:∀k,(rV s c k).l.length=k
 | 0=>rfl
 | k+1=>by show ((rV s c k).l++[_]).length=_;rw [bJ,Td k];rfl
def rW(s:Store):aC:=⟨s,0,[0,1,2],[],[],[],0⟩
end Go.Proofs.YtmekkgdboplbjaaGreatDoor
