/- Definitions and their laws. No condition. -/
import Derived.Test.YtmekkgdboplbjaaGreatDoorRY0
import Derived.Lib.AtoiAllCases
set_option linter.all false
namespace Go.Proofs.YtmekkgdboplbjaaGreatDoor
open Go Go.RowKit M
set_option maxRecDepth 10000
variable{w:an}{k:Nat}{a:aC6}{q:aC7}{c:UInt8}{l:List cw}{s:an}{u:aC9}{x:fx}{α:Type}{now:Int}{v:bb}{i:Nat}{e:av}{n id:Int}{rows:List Row}
/- ---- queries ---- -/
def eh:aC7:=⟨0,0,[],[]⟩
noncomputable def Ln(ws:List an)(j:Nat):fw:=⟨sx 102 (ws.getD (2+2 * j) []),bJ (fB (ws.getD (3+2 * j) []) [46,46]),bJ (iv (ws.getD (3+2 * j) []) [46,46])⟩
noncomputable def yD(ws:List an)(j:Nat):Bool:=sy 102 (ws.getD (2+2 * j) [])&&(cQ (fB (ws.getD (3+2 * j) []) [46,46])&&cQ (iv (ws.getD (3+2 * j) []) [46,46]))
noncomputable def wF(ws:List an)(k:Nat):List fw:=(List.range k).map (Ln ws)
noncomputable def mW(ws:List an):aC7:=⟨sx 113 (ws.getD 0 []),sx 116 (ws.getD 1 []),wF ws ((ws.length - 4) / 2),uD (ws.getD (ws.length - 1) [])⟩
noncomputable def Lo(ws:List an):Bool:=sy 113 (ws.getD 0 [])&&(sy 116 (ws.getD 1 [])&&qM (ws.getD (ws.length - 1) []))
noncomputable def wG(ws:List an)(k:Nat):Bool:=Lo ws&&(List.range k).all (yD ws)
noncomputable def BA(ws:List an):Bool:=decide (4≤ws.length∧ws.length%2=0∧ws.length≤10)&&wG ws ((ws.length - 4) / 2)
def ayB(ws:List an)(k:Nat):wF ws (k+1)=wF ws k++[Ln ws k]:=by unfold wF;rw [List.range_succ,bo];rfl
def ayC(ws:List an)(k:Nat):wG ws (k+1)=(wG ws k&&yD ws k):=by unfold wG;rw [List.range_succ,List.all_append];simp [Bool.and_assoc]
def anX(ws:List an)(k:Nat):(wF ws k).length=k:=by unfold wF;simp
def nS(w:an)(i:Nat):Bool:=(w.drop i).take 2==[46,46]
def Ft(w:an):Option Nat:=(List.range (w.length - 1)).find? (nS w)
noncomputable def uE(w:an):Int×Int:=match Ft w with|some i=>(bT (w.take i),bT (w.drop (i+2)))|none=>(-100000,-100000)
noncomputable def Lp(ws:List an)(j:Nat):fw:=⟨kb 102 (ws.getD (2+2 * j) []),(uE (ws.getD (3+2 * j) [])).1,(uE (ws.getD (3+2 * j) [])).2⟩
noncomputable def uF(ws:List an)(k:Nat):List fw:=(List.range k).map (Lp ws)
noncomputable def sz(ws:List an):aC7:=⟨kb 113 (ws.getD 0 []),kb 116 (ws.getD 1 []),uF ws ((ws.length - 4) / 2),Bx (ws.getD (ws.length - 1) [])⟩
def ayD(ws:List an)(k:Nat):uF ws (k+1)=uF ws k++[Lp ws k]:=by unfold uF;rw [List.range_succ,bo];rfl
def ayE(ws:List an)(k:Nat):(uF ws k).length=k:=by unfold uF;simp
def anY(h0:k+1 < w.length)(h1:∀j,j < k→nS w j=false)(h2:nS w k=true):uE w=(bT (w.take k),bT (w.drop (k+2))):=by
 have:Ft w=some k:=by
  unfold Ft
  rw [List.find?_range_eq_some]
  exact ⟨h2,List.mem_range.2 ab,fun j hj=>by rw [h1 j hj];rfl⟩
 unfold uE
 rw [this]
def ayF(h1:∀j,j+1 < w.length→nS w j=false):uE w=(-100000,-100000):=by
 have:Ft w=none:=by
  unfold Ft
  rw [List.find?_eq_none]
  intro j hj
  rw [h1 j (by have:=List.mem_range.1 hj;omega)];simp
 unfold uE
 rw [this]
def ayG{a b:an}(ha:(46:UInt8)∉a):uE (a++46::46::b)=(bT a,bT b):=by
 have:=anY (w:=a++46::46::b) (k:=a.length) aP (fun j hj=>?_) (by unfold nS;simp)
 ·rw [this,List.take_append_of_le_length (Nat.le_refl _),bG,show a++46::46::b=(a++[46,46])++b by simp,List.drop_append_of_le_length aP,List.drop_eq_nil_of_le aP];rfl
 ·unfold nS
  rw [Bool.eq_false_iff]
  intro e
  have e:=beq_iff_eq.1 e
  rw [List.drop_append_of_le_length ab,List.drop_eq_getElem_cons hj,List.cons_append,List.take_succ_cons] at e
  injection e with e1 e2
  exact ha (e1▸List.getElem_mem hj)
def anZ(h:bp q=true):hM q.Id=true∧hM q.aDb=true∧q.Out≠[]∧(∀x∈q.Out,hM x=true)∧q.aC8.length≤3∧∀k,(hk:k < q.aC8.length)→hM q.aC8[k].Field=true∧hM q.aC8[k].Low=true∧hM q.aC8[k].High=true:=by
 obtain ⟨a1,a2,a3,a4,a5,a6,a7,a8⟩:=yA h
 have ho:=Fg h
 have ho1:1≤q.Out.length:=by
  have h':=h
  unfold bp oE at h'
  simp only [aR,aF,decide_eq_true_eq] at h'
  omega
 refine ⟨lj ab ab,lj ab ab,by rintro e;rw [e] at ho1;simp at ho1,fun x hx=>?_,a5,fun k hk=>?_⟩
 ·have:=ho.2 x hx
  exact lj ab ab
 ·have:=a8 k hk
  exact ⟨lj ab ab,lj ab ab,lj ab ab⟩
def ll(q:aC7):List an:=jm q q.aC8.length++[[111,117,116],fc q.Out]
def ayH{c:fw}:∀w∈lX c,(32:UInt8)∉w:=by
 intro w hw
 unfold lX at hw
 rcases List.mem_cons.1 hw with rfl|hw
 ·simp only [ff,not_or];exact ⟨ak,jZ ak⟩
 ·rw [List.mem_singleton] at hw;subst hw
  simp only [ff,not_or];exact ⟨⟨jZ ak,ak⟩,jZ ak⟩
def ayI(q:aC7):∀w∈ll q,(32:UInt8)∉w:=by
 intro w hw
 unfold ll jm at hw
 rcases List.mem_append.1 hw with hw|hw
 ·rcases List.mem_append.1 hw with hw|hw
  ·rcases List.mem_cons.1 hw with rfl|hw
   ·simp only [ff,not_or];exact ⟨ak,jZ ak⟩
   ·rw [List.mem_singleton] at hw;subst hw
    simp only [ff,not_or];exact ⟨ak,jZ ak⟩
  ·obtain ⟨c,_,hc⟩:=List.mem_flatMap.1 hw
   exact ayH w hc
 ·rcases List.mem_cons.1 hw with rfl|hw
  ·decide
  ·rw [List.mem_singleton] at hw;subst hw
   exact UE ak ak
def an0(h:bp q=true):aq 32 (eW q)=ll q:=by
 unfold eW
 rw [if_pos h]
 exact anG aP (ayI q)
def an1(q:aC7):(ll q).length=4+2 * q.aC8.length:=by
 unfold ll
 rw [bV,Fh]
 simp;omega
def an2:∀(l:List fw) (k:Nat) (hk:k < l.length),(l.flatMap lX).getD (2 * k) []=[102]++itoa l[k].Field∧(l.flatMap lX).getD (2 * k+1) []=itoa l[k].Low++[46,46]++itoa l[k].High
 | c::r,0,_=>by simp [lX]
 | c::r,k+1,hk=>by
  have:=an2 r k (by simpa using hk)
  simpa [lX,Nat.mul_succ] using this
def ayJ(l:List fw):(l.flatMap lX).length=2 * l.length:=by
 induction l with
 | nil=>rfl
 | cons c r ih=>rw [List.flatMap_cons,bV,ih];simp [lX];omega
def an3:(ll q).getD 0 []=113::itoa q.Id∧(ll q).getD 1 []=116::itoa q.aDb∧(ll q).getD (3+2 * q.aC8.length) []=fc q.Out∧∀k,(hk:k < q.aC8.length)→(ll q).getD (2+2 * k) []=102::itoa q.aC8[k].Field∧(ll q).getD (3+2 * k) []=itoa q.aC8[k].Low++46::46::itoa q.aC8[k].High:=by
 have hl:=ayJ q.aC8
 have e:ll q=(113::itoa q.Id)::(116::itoa q.aDb)::(q.aC8.flatMap lX++[[111,117,116],fc q.Out]):=by
  unfold ll jm
  rw [bG]
  simp
 rw [e]
 refine ⟨rfl,rfl,?_,fun k hk=>?_⟩
 ·rw [show 3+2 * q.aC8.length=(q.aC8.flatMap lX).length+1+1+1 by omega,List.getD_cons_succ,List.getD_cons_succ]
  simp [List.getD_eq_getElem?_getD,List.getElem?_append_right]
 ·have:=an2 q.aC8 k hk
  rw [show 2+2 * k=2 * k+1+1 by omega,show 3+2 * k=2 * k+1+1+1 by omega,List.getD_cons_succ,List.getD_cons_succ,List.getD_cons_succ,List.getD_cons_succ]
  have gl:∀(xs ys:List an) (i:Nat),i < xs.length→(xs++ys).getD i []=xs.getD i []:=fun xs ys i hi=>by rw [List.getD_eq_getElem?_getD,List.getElem?_append_left hi,←List.getD_eq_getElem?_getD]
  rw [gl _ _ _ ab,gl _ _ _ ab]
  rw [this.1,this.2]
  simp
def UM(h:bp q=true)(hk:k < q.aC8.length):Ln (ll q) k=q.aC8[k]∧yD (ll q) k=true∧Lp (ll q) k=q.aC8[k]:=by
 obtain ⟨a1,a2,a3,a4,a5,a6⟩:=anZ h
 obtain ⟨b1,b2,b3,b4⟩:=an3 (q:=q)
 obtain ⟨c1,c2⟩:=b4 k hk
 obtain ⟨d1,d2,d3⟩:=a6 k hk
 have hc:=axU (c:=46) (a:=itoa q.aC8[k].Low) (b:=itoa q.aC8[k].High) (jZ ak)
 have hr:=ayG (a:=itoa q.aC8[k].Low) (b:=itoa q.aC8[k].High) (jZ ak)
 obtain ⟨e1,e2,e3⟩:=Ll (c:=102) d1
 unfold Ln yD Lp
 rw [c1,c2,hc.1,hc.2,hr,e1,e2,e3,qI d2,qI d3,Fq d2,Fq d3]
 dsimp only
 rw [qJ d2,qJ d3]
 exact ⟨rfl,rfl,rfl⟩
def an4{l:List fw}{f:Nat→fw}(h:∀k,(hk:k < l.length)→f k=l[k]):(List.range l.length).map f=l:=by
 apply List.ext_getElem
 ·simp
 ·intro i h1 h2
  simp [h i h2]
def UN(q:aC7)(h:bp q=true):mW (aq 32 (eW q))=q∧BA (aq 32 (eW q))=true∧sz (aq 32 (eW q))=q:=by
 obtain ⟨a1,a2,a3,a4,a5,a6⟩:=anZ h
 obtain ⟨b1,b2,b3,b4⟩:=an3 (q:=q)
 have hl:=an1 q
 have hk:((ll q).length - 4) / 2=q.aC8.length:=ab
 have h1:(ll q).length - 1=3+2 * q.aC8.length:=ab
 obtain ⟨d1,d2,d3⟩:=Ll (c:=113) a1
 obtain ⟨e1,e2,e3⟩:=Ll (c:=116) a2
 rw [an0 h]
 refine ⟨?_,?_,?_⟩
 ·unfold mW wF
  rw [hk,h1,b1,b2,b3,d1,e1,anK a3 a4,an4 fun k hk=>(UM h hk).1]
 ·unfold BA wG Lo
  rw [hk,h1,b1,b2,b3,d2,e2,UG a3 a4,hl]
  simp only [aR,decide_eq_true_eq,nb,List.mem_range]
  refine ⟨ab,aP,fun k hk=>(UM h hk).2.1⟩
 ·unfold sz uF
  rw [hk,h1,b1,b2,b3,d3,e3,anL a3 a4,an4 fun k hk=>(UM h hk).2.2]
noncomputable def fY(s:an):Option aC7:=nQ bp eW s
def ayK(h:eW q≠[]):bp q=true:=by
 cases e:bp q with
 | true=>rfl
 | false=>exact absurd (by unfold eW;rw [if_neg yR]) h
def Lq(q:aC7)(h:bp q=true):(fun s=>mW (aq 32 s)) (eW q)=q:=(UN q h).1
def an5(q:aC7)(h:bp q=true):(fun s=>sz (aq 32 s)) (eW q)=q:=(UN q h).2.2
def an6(h:bp q=true):fY (eW q)=some q:=Fk (g:=fun s=>mW (aq 32 s)) Lq h
def an7(h:BA (aq 32 s)=false∨bp (mW (aq 32 s))=false∨eW (mW (aq 32 s))≠s):fY s=none:=by
 rcases h with h|h|h
 ·exact Ux (ok:=fun s=>BA (aq 32 s)) (fun q hq=>(UN q hq).2.1) h
 ·exact oN (g:=fun s=>mW (aq 32 s)) Lq fR
 ·exact oN (g:=fun s=>mW (aq 32 s)) Lq (fun e=>h e.2)
def ayL(h1:bp (mW (aq 32 s))=true)(h2:eW (mW (aq 32 s))=s):fY s=some (mW (aq 32 s)):=uB (g:=fun s=>mW (aq 32 s)) Lq h1 h2
def ayM(h:(aq 32 s).length < 4):fY s=none:=by
 refine yB fun q hq e=>?_
 have h1:=an0 hq
 rw [e] at h1
 have h2:=an1 q
 rw [←h1] at h2
 omega
def ayN(h:eW (sz (aq 32 s))≠s):fY s=none:=oN (g:=fun s=>sz (aq 32 s)) an5 (fun e=>h e.2)
def ayO(h0:4≤(aq 32 s).length)(h2:eW (sz (aq 32 s))=s):fY s=some (sz (aq 32 s)):=
 uB (g:=fun s=>sz (aq 32 s)) an5 (ayK (by rw [h2];rintro rfl;simp [aq] at h0)) h2
/- ---- events ---- -/
def cH:fx:=⟨0,eh,0,0,de,0⟩
noncomputable def eX(s:an):fx:=
 if fB s [32]=([97,100,109,105,116]:an) then ⟨1,(fY (iv (iv s [32]) [32])).getD eh,bJ (fB (iv s [32]) [32]),0,de,0⟩
 else if fB s [32]=([99,97,110,99,101,108]:an) then ⟨2,eh,0,bJ (iv s [32]),de,0⟩
 else if fB s [32]=([115,116,101,112]:an) then ⟨4,eh,0,0,de,bJ (iv s [32])⟩
 else ⟨3,eh,0,0,(fX s).getD de,0⟩
noncomputable def fL(s:an):fx:=
 if 2 < (aq 32 s).length∧(aq 32 s).getD 0 []=([97,100,109,105,116]:an) then ⟨1,(fY (s.drop (((aq 32 s).getD 0 []).length+((aq 32 s).getD 1 []).length+2))).getD eh,bT ((aq 32 s).getD 1 []),0,de,0⟩
 else if (aq 32 s).length=2∧(aq 32 s).getD 0 []=([99,97,110,99,101,108]:an) then ⟨2,eh,0,bT ((aq 32 s).getD 1 []),de,0⟩
 else if (aq 32 s).length=2∧(aq 32 s).getD 0 []=([115,116,101,112]:an) then ⟨4,eh,0,0,de,bT ((aq 32 s).getD 1 [])⟩
 else ⟨3,eh,0,0,(fX s).getD de,0⟩
noncomputable def bE(s:an):Option fx:=nQ ew gQ s
def UO:oF q=true↔q=eh:=by rw [←Ey,oA];exact Iff.rfl
def Lr:oG u=true↔u=de:=by rw [←Ez,oA];exact Iff.rfl
def UP(h:ew x=true) :
  (∃(q:aC7) (n:Int),bp q=true∧0≤n∧n≤32∧x=⟨1,q,n,0,de,0⟩∧gQ x=([97,100,109,105,116]:an)++32::(itoa n++32::eW q)) ∨
  (∃n:Int,0≤n∧n≤23∧x=⟨2,eh,0,n,de,0⟩∧gQ x=([99,97,110,99,101,108]:an)++32::itoa n) ∨
  (∃u:aC9,ee u=true∧x=⟨3,eh,0,0,u,0⟩∧gQ x=gw u) ∨
  (∃n:Int,1≤n∧n≤100∧x=⟨4,eh,0,0,de,n⟩∧gQ x=([115,116,101,112]:an)++32::itoa n):=by
 have h':=h
 obtain ⟨k,q,l,i,u,n⟩:=x
 unfold ew at h
 dsimp only at h
 split at h
 ·rename_i hk
  subst hk
  simp only [aR,decide_eq_true_eq,aF,Lr] at h
  obtain ⟨h1,⟨h2,h3⟩,rfl,rfl,rfl⟩:=h
  refine Or.inl ⟨q,l,h1,h2,h3,rfl,?_⟩
  unfold gQ
  rw [if_pos h',if_pos rfl]
  simp
 ·split at h
  ·rename_i hk
   subst hk
   simp only [aR,decide_eq_true_eq,aF,Lr,UO] at h
   obtain ⟨rfl,rfl,⟨h2,h3⟩,rfl,rfl⟩:=h
   refine Or.inr (Or.inl ⟨i,h2,h3,rfl,?_⟩)
   unfold gQ
   rw [if_pos h',if_neg aP,if_pos rfl]
   simp
  ·split at h
   ·rename_i hk
    subst hk
    simp only [aR,decide_eq_true_eq,aF,Lr,UO] at h
    obtain ⟨rfl,rfl,rfl,h1,rfl⟩:=h
    refine Or.inr (Or.inr (Or.inl ⟨u,h1,rfl,?_⟩))
    unfold gQ
    rw [if_pos h',if_neg aP,if_neg aP,if_pos rfl]
   ·split at h
    ·rename_i hk
     subst hk
     simp only [aR,decide_eq_true_eq,aF,Lr,UO] at h
     obtain ⟨rfl,rfl,rfl,rfl,h2,h3⟩:=h
     refine Or.inr (Or.inr (Or.inr ⟨n,h2,h3,rfl,?_⟩))
     unfold gQ
     rw [if_pos h',if_neg aP,if_neg aP,if_neg aP]
     simp
    ·cases h
def ayP(h:ee u=true):∃a b,gw u=a++32::b∧(32:UInt8)∉a∧a≠([97,100,109,105,116]:an)∧a≠([99,97,110,99,101,108]:an)∧a≠([115,116,101,112]:an):=by
 rcases Lm h with ⟨r,h1,rfl,e⟩|⟨n,h1,h2,rfl,e⟩|⟨n,f,v,⟨h1,h2⟩,⟨h3,h4⟩,⟨h5,h6⟩,rfl,e⟩<;>exact ⟨_,_,e,ak,ak,ak,ak⟩
def Fu(x:fx)(h:ew x=true):eX (gQ x)=x∧fL (gQ x)=x:=by
 rcases UP h with ⟨q,n,h1,h2,h3,rfl,e⟩|⟨n,h2,h3,rfl,e⟩|⟨u,h1,rfl,e⟩|⟨n,h2,h3,rfl,e⟩
 ·have hn:=lj (n:=n) ab ab
  have hc:=By (c:=32) (a:=([97,100,109,105,116]:an)) (b:=itoa n++32::eW q) ak
  have hc2:=By (c:=32) (a:=itoa n) (b:=eW q) (jZ ak)
  have hs:aq 32 (([97,100,109,105,116]:an)++32::(itoa n++32::eW q))=([97,100,109,105,116]:an)::itoa n::aq 32 (eW q):=by rw [qL ak,qL (jZ ak)]
  have hd:(([97,100,109,105,116]:an)++32::(itoa n++32::eW q)).drop (([97,100,109,105,116]:an).length+(itoa n).length+2)=eW q:=by
   rw [show ([97,100,109,105,116]:an)++32::(itoa n++32::eW q)=(([97,100,109,105,116]:an)++32::itoa n++[32])++eW q by simp]
   rw [List.drop_append_of_le_length iZ,List.drop_eq_nil_of_le iZ];rfl
  have hne:=wE 32 (eW q)
  have hl:(aq 32 (eW q)).length≠0:=by simpa using hne
  rw [e]
  constructor
  ·unfold eX
   rw [hc.1,hc.2,hc2.1,hc2.2,if_pos rfl,an6 h1,qI hn];rfl
  ·unfold fL
   rw [hs,if_pos ⟨iZ,rfl⟩]
   show (⟨1,(fY (List.drop (([97,100,109,105,116]:an).length+(itoa n).length+2) _)).getD eh,bT (itoa n),0,de,0⟩:fx)=_
   rw [hd,an6 h1,qJ hn];rfl
 ·have hn:=lj (n:=n) ab ab
  have hc:=By (c:=32) (a:=([99,97,110,99,101,108]:an)) (b:=itoa n) ak
  have hs:aq 32 (([99,97,110,99,101,108]:an)++32::itoa n)=[([99,97,110,99,101,108]:an),itoa n]:=Xk
  rw [e]
  unfold eX fL
  rw [hc.1,hc.2,hs,qI hn]
  simp [qJ hn]
 ·obtain ⟨a,b,e1,e2,e3,e4,e5⟩:=ayP h1
  have hu:=ax2 h1
  rw [e]
  rw [e1] at hu ⊢
  have hc:=By (c:=32) (a:=a) (b:=b) e2
  have hs:(aq 32 (a++32::b)).getD 0 []=a:=by rw [qL e2];rfl
  unfold eX fL
  rw [hc.1,hs,hu]
  simp [e3,e4,e5]
 ·have hn:=lj (n:=n) ab ab
  have hc:=By (c:=32) (a:=([115,116,101,112]:an)) (b:=itoa n) ak
  have hs:aq 32 (([115,116,101,112]:an)++32::itoa n)=[([115,116,101,112]:an),itoa n]:=Xk
  rw [e]
  unfold eX fL
  rw [hc.1,hc.2,hs,qI hn]
  simp [qJ hn]
def ayQ(h:ew x=true):gQ x≠[]:=by
 rcases UP h with ⟨q,n,h1,h2,h3,rfl,e⟩|⟨n,h2,h3,rfl,e⟩|⟨u,h1,rfl,e⟩|⟨n,h2,h3,rfl,e⟩<;>rw [e]
 ·simp
 ·simp
 ·exact anP h1
 ·simp
def ayR(h:gQ x≠[]):ew x=true:=by
 cases e:ew x with
 | true=>rfl
 | false=>exact absurd (by unfold gQ;rw [if_neg yR]) h
def ayS(h:bE s=some x):ew x=true∧gQ x=s:=anu h
def an8(h:ew (eX s)=false∨gQ (eX s)≠s):bE s=none:=by
 rcases h with h|h
 ·exact oN (g:=eX) (fun u hu=>(Fu u hu).1) fR
 ·exact oN (g:=eX) (fun u hu=>(Fu u hu).1) (fun e=>h e.2)
def an9(h1:ew (eX s)=true)(h2:gQ (eX s)=s):bE s=some (eX s):=uB (g:=eX) (fun u hu=>(Fu u hu).1) h1 h2
def UQ(h:s=[]∨gQ (fL s)≠s):bE s=none:=by
 rcases h with h|h
 ·exact yB fun r hr e=>ayQ hr (e.trans h)
 ·exact oN (g:=fL) (fun u hu=>(Fu u hu).2) (fun e=>h e.2)
def UR(h1:s≠[])(h2:gQ (fL s)=s):bE s=some (fL s):=uB (g:=fL) (fun u hu=>(Fu u hu).2) (ayR Mq) h2
section
def u8(b:Int):UInt8:=UInt8.ofNat b.toNat
def US{x:UInt8}{b:Int}(h0:0≤b)(h1:b≤255):(((x.toNat:Nat):Int)=b)↔x=u8 b:=by
 have hx:=x.toNat_lt
 constructor
 ·rintro rfl;unfold u8;rw [Int.toNat_natCast,UInt8.ofNat_toNat]
 ·rintro rfl;unfold u8;rw [UInt8.toNat_ofNat'];omega
def aoa(s:an):dN (kk s):=by
 unfold kk
 rcases h:Lib.atoiAll s with v|_|_
 ·exact Lib.atoiAll_bounds h
 ·exact (show dN 0 from ⟨ak,ak⟩)
 ·exact Lib.atoiSat_bounds s
def ayT(h:pZ s=true):Lib.atoiAll s = .ok (kk s):=by
 unfold pZ at h
 unfold kk
 rcases e:Lib.atoiAll s with v|_|_
 ·rfl
 ·rw [e] at h;cases h
 ·rw [e] at h;cases h
def ayU(h:pZ s=false∨itoa (kk s)≠s∨kk s < -999999999∨999999999 < kk s):ii s=none:=by
 cases e:pZ s with
 | false=>
  refine axJ fun v hv=>?_
  unfold pZ at e
  rw [hv] at e
  cases e
 | true=>
  refine axK (ayT e) fun hc=>?_
  have:=uC.1 hc.1
  rw [e] at h
  rcases h with h|h|h|h
  ·cases h
  ·exact h hc.2
  ·omega
  ·omega
def ayV(h2:itoa (kk s)=s)(h3 : -999999999≤kk s)(h4:kk s≤999999999):ii s=some (kk s):=axL (lj h3 h4) h2
section
variable{s:an}{n:Int}
def ayW(h:ii s=none):bJ s=0:=by unfold bJ;rw [h];rfl
def ayX(h:ii s=some n):bJ s=n:=by unfold bJ;rw [h];rfl
def ayY(h:cQ s=false):bT s = -100000:=by
 unfold cQ at h;unfold bT
 cases e:ii s with
 | none=>rfl
 | some n=>rw [e] at h;cases h
def ayZ(h:cQ s=true):bT s=bJ s:=by
 unfold cQ at h;unfold bT bJ
 cases e:ii s with
 | none=>rw [e] at h;cases h
 | some n=>rfl
def ay0(h:ii s=none):cQ s=false:=by unfold cQ;rw [h];rfl
def ay1(h:ii s=some n):cQ s=true:=by unfold cQ;rw [h];rfl
end
/- the reference's loop over digits -/
def aob(h:k < s.length):fW (s.take (k+1))=if oO s[k] then ((fW (s.take k)).1 * 10+(s[k].toNat - 48),(fW (s.take k)).2+1) else fW (s.take k):=by
 rw [cU h,UB]
def Ls(s:an)(k:Nat)(h:k≤11):(fW (s.take k)).1 < 100000000000∧(fW (s.take k)).2≤11:=by
 have h1:=anC (s.take k)
 have h2:(s.take k).length≤k:=dh
 have h3:10 ^ (fW (s.take k)).2≤10 ^ 11:=Nat.pow_le_pow_right ak ab
 omega
def aoc(h:k=s.length∨k=11)(hk:k≤11):s.take k=s.take 11:=by
 rcases h with h|h
 ·rw [qX ab,qX ab]
 ·rw [h]
def aod(h:s.head?=some 45):pD s = -((fW (s.take 11)).1:Int):=if_pos h
def Lt(h:¬s.head?=some 45):pD s=((fW (s.take 11)).1:Int):=if_neg h
def Fv(h:0 < s.length):s.head?=some c↔s[0].toNat=c.toNat:=by
 cases s with
 | nil=>simp at h
 | cons b r=>simp [UInt8.toNat_inj]
def UT(h:¬0 < s.length):¬s.head?=some c:=by
 cases s with
 | nil=>simp
 | cons b r=>simp at h
def ay2(h:9 < (fW (s.take 11)).2∨10 < s.length∨itoa (pD s)≠s):sw s=true:=by
 unfold sw
 rcases h with h|h|h
 ·simp [h]
 ·simp [h]
 ·rw [show (itoa (pD s)==s)=false by simpa using h];simp
def ay3(h1:(fW (s.take 11)).2≤9)(h2:s.length≤10)(h3:itoa (pD s)=s):sw s=false:=by
 unfold sw
 rw [h3]
 simp;omega
/- splitting, byte by byte -/
def UU(l:List α)(x d:α):(l++[x]).getLastD d=x:=aP
def UV(c:UInt8)(s:an):aq c s=(aq c s).dropLast++[(aq c s).getLastD []]:=by
 have h:=wE c s
 have key:∀l:List an,l≠[]→l=l.dropLast++[l.getLastD []]:=by
  intro l
  induction l using Bf with
  | h0=>intro h;exact absurd rfl h
  | h1 l a _=>intro _;rw [List.dropLast_concat,UU]
 exact key _ h
def ay4(h:k < s.length)(hc:s[k]=c):(aq c (s.take (k+1))).dropLast=(aq c (s.take k)).dropLast++[(aq c (s.take k)).getLastD []]∧(aq c (s.take (k+1))).getLastD []=[]:=by
 rw [cU h,anF,if_pos hc,UU,List.dropLast_concat]
 exact ⟨UV c _,rfl⟩
def ay5(h:k < s.length)(hc:¬s[k]=c):(aq c (s.take (k+1))).dropLast=(aq c (s.take k)).dropLast∧(aq c (s.take (k+1))).getLastD []=(aq c (s.take k)).getLastD []++[s[k]]:=by
 rw [cU h,anF,if_neg hc,UU,List.dropLast_concat]
 exact ⟨rfl,rfl⟩
def nU(c:UInt8)(s:an):(aq c s).length≤s.length+1∧1≤(aq c s).length:=by
 rw [anH]
 have:=List.count_le_length (a:=c) (l:=s)
 omega
def qO(h:w∈aq c s):w.length≤s.length:=by
 induction s generalizing w with
 | nil=>simp [aq] at h;subst h;simp
 | cons b r ih=>
  unfold aq at h
  split at h
  ·rcases List.mem_cons.1 h with rfl|h
   ·simp
   ·have:=ih h;simp;omega
  ·rcases List.mem_cons.1 h with rfl|h
   ·have h1:=wE c r
    cases hh:aq c r with
    | nil=>exact absurd hh h1
    | cons y ys=>
     have:=ih (w:=y) (by rw [hh];simp)
     simp;omega
   ·have:=ih (List.mem_of_mem_tail h);simp;omega
def ay6(s:an):((aq c s).getLastD []).length≤s.length:=by
 have h:=wE c s
 have e:=UV c s
 refine qO (c:=c) (s:=s) ?_
 rw [e];simp
def ay7(c:UInt8)(s:an):Lib.splitK [c] 0 (Lib.count s [c]) s=aq c s:=by rw [Lib.count_one];exact anJ c _ s rfl
def Lu(h:k < (aq c s).length):(aq c s).getD k []=(aq c s)[k]:=by rw [List.getD_eq_getElem?_getD,List.getElem?_eq_getElem h];rfl
/- numbers between commas -/
def ay8(hk:k < (aq 44 s).length)(h:cQ (aq 44 s)[k]=false):qM s=false:=po hk h
def ay9(h:qM s=false):uD s=[]:=if_neg fR
def aza(h:qM s=true):uD s=(aq 44 s).map bJ:=if_pos h
def Fw(s p:an):(fB s p).length≤s.length:=by
 unfold fB Lib.cut
 split
 ·simp [cj];omega
 ·exact Nat.le_refl _
def Fy(s p:an):(iv s p).length≤s.length:=by
 unfold iv Lib.cut
 split
 ·simp
 ·simp
def azb(s p:an):(qN s p).length≤s.length:=by
 unfold qN
 split
 ·simp
 ·exact Nat.le_refl _
def azc(h:0 < s.length):s.head?=some c↔s[0]=c:=by
 cases s with
 | nil=>simp at h
 | cons b r=>simp
def azd(h:s.length < 2∨s.head?≠some c):kb c s = -100000:=if_pos h
def aze(h1:¬s.length < 2)(h2:s.head?=some c):kb c s=bT (s.drop 1):=if_neg (by rintro (h|h);exact h1 h;exact h h2)
def azf(h:∀j,j < k→nS s j=false)(h2:nS s k=false):∀j,j < k+1→nS s j=false:=fun j hj=>by
 by_cases e:j=k
 ·rw [e];exact h2
 ·exact h j ab
def ij(c:UInt8)(s:an)(j:Nat):((aq c s).getD j []).length≤s.length:=by
 by_cases h:j < (aq c s).length
 ·rw [Lu h];exact qO (List.getElem_mem h)
 ·rw [List.getD_eq_getElem?_getD,List.getElem?_eq_none ab];simp
def yE{ws:List an}(h:k < ws.length):ws.getD k []=ws[k]:=by rw [List.getD_eq_getElem?_getD,List.getElem?_eq_getElem h];rfl
def azg(c:UInt8)(s:an):((aq c s).map fun w=>w.length+1).sum=s.length+1:=by
 induction s with
 | nil=>rfl
 | cons b r ih=>
  unfold aq
  split
  ·simp [ih];omega
  ·have h1:=wE c r
   cases hh:aq c r with
   | nil=>exact absurd hh h1
   | cons y ys=>rw [hh] at ih;simp at ih ⊢;omega
def azh(h:2 < (aq c s).length):((aq c s).getD 0 []).length+((aq c s).getD 1 []).length+2≤s.length:=by
 have h1:=azg c s
 rcases hw:aq c s with _|⟨a,_|⟨b,_|⟨d,r⟩⟩⟩<;>rw [hw] at h h1
 ·simp at h
 ·simp at h
 ·simp at h
 ·simp at h1 ⊢;omega
def azi(n:Nat):((n:Int)).tmod 2=((n%2:Nat):Int):=by rw [Int.tmod_eq_emod_of_nonneg ab];omega
/- the updates' readings, case by case -/
noncomputable def jn(ws:List an):aC9:=
 if ws.getD 0 []=([105,110,115,101,114,116]:an)∧ws.length=2 then ⟨1,(iX (ws.getD 1 [])).getD pE,0,0⟩
 else if ws.getD 0 []=([100,101,108,101,116,101]:an)∧ws.length=2 then ⟨2,⟨bJ (ws.getD 1 []),[]⟩,0,0⟩
 else if ws.getD 0 []=([115,101,116]:an)∧ws.length=4 then ⟨3,⟨bJ (ws.getD 1 []),[]⟩,sx 102 (ws.getD 2 []),bJ (ws.getD 3 [])⟩
 else de
def aoe(s:an):nR s=jn (aq 32 s):=rfl
section
variable{ws:List an}{s:an}
def azj(h:ws.getD 0 []=([105,110,115,101,114,116]:an)∧ws.length=2):jn ws=⟨1,(iX (ws.getD 1 [])).getD pE,0,0⟩:=if_pos h
def azk(h0:¬(ws.getD 0 []=([105,110,115,101,114,116]:an)∧ws.length=2))(h:ws.getD 0 []=([100,101,108,101,116,101]:an)∧ws.length=2):jn ws=⟨2,⟨bJ (ws.getD 1 []),[]⟩,0,0⟩:=by unfold jn;rw [if_neg h0,if_pos h]
def azl(h0:¬(ws.getD 0 []=([105,110,115,101,114,116]:an)∧ws.length=2))(h1:¬(ws.getD 0 []=([100,101,108,101,116,101]:an)∧ws.length=2))(h:ws.getD 0 []=([115,101,116]:an)∧ws.length=4):jn ws=⟨3,⟨bJ (ws.getD 1 []),[]⟩,sx 102 (ws.getD 2 []),bJ (ws.getD 3 [])⟩:=by unfold jn;rw [if_neg h0,if_neg h1,if_pos h]
def azm(h0:¬(ws.getD 0 []=([105,110,115,101,114,116]:an)∧ws.length=2))(h1:¬(ws.getD 0 []=([100,101,108,101,116,101]:an)∧ws.length=2))(h2:¬(ws.getD 0 []=([115,101,116]:an)∧ws.length=4)):jn ws=de:=by unfold jn;rw [if_neg h0,if_neg h1,if_neg h2]
def azn(h:(aq 32 s).length=2∧(aq 32 s).getD 0 []=([105,110,115,101,114,116]:an)):iI s=⟨1,(iX ((aq 32 s).getD 1 [])).getD pE,0,0⟩:=if_pos h
def aof(h0:¬((aq 32 s).length=2∧(aq 32 s).getD 0 []=([105,110,115,101,114,116]:an)))(h:(aq 32 s).length=2):iI s=⟨2,⟨bT ((aq 32 s).getD 1 []),[]⟩,0,0⟩:=by unfold iI;rw [if_neg h0,if_pos h]
def aog(h0:¬((aq 32 s).length=2∧(aq 32 s).getD 0 []=([105,110,115,101,114,116]:an)))(h1:¬(aq 32 s).length=2)(h:(aq 32 s).length=4):iI s=⟨3,⟨bT ((aq 32 s).getD 1 []),[]⟩,kb 102 ((aq 32 s).getD 2 []),bT ((aq 32 s).getD 3 [])⟩:=by unfold iI;rw [if_neg h0,if_neg h1,if_pos h]
def aoh(h0:¬((aq 32 s).length=2∧(aq 32 s).getD 0 []=([105,110,115,101,114,116]:an)))(h1:¬(aq 32 s).length=2)(h2:¬(aq 32 s).length=4):iI s=de:=by unfold iI;rw [if_neg h0,if_neg h1,if_neg h2]
def azo(h:fB s [32]=([97,100,109,105,116]:an)):eX s=⟨1,(fY (iv (iv s [32]) [32])).getD eh,bJ (fB (iv s [32]) [32]),0,de,0⟩:=if_pos h
def azp(h0:¬fB s [32]=([97,100,109,105,116]:an))(h:fB s [32]=([99,97,110,99,101,108]:an)):eX s=⟨2,eh,0,bJ (iv s [32]),de,0⟩:=by unfold eX;rw [if_neg h0,if_pos h]
def azq(h0:¬fB s [32]=([97,100,109,105,116]:an))(h1:¬fB s [32]=([99,97,110,99,101,108]:an))(h:fB s [32]=([115,116,101,112]:an)):eX s=⟨4,eh,0,0,de,bJ (iv s [32])⟩:=by unfold eX;rw [if_neg h0,if_neg h1,if_pos h]
def azr(h0:¬fB s [32]=([97,100,109,105,116]:an))(h1:¬fB s [32]=([99,97,110,99,101,108]:an))(h2:¬fB s [32]=([115,116,101,112]:an)):eX s=⟨3,eh,0,0,(fX s).getD de,0⟩:=by unfold eX;rw [if_neg h0,if_neg h1,if_neg h2]
def azs(h:2 < (aq 32 s).length∧(aq 32 s).getD 0 []=([97,100,109,105,116]:an)):fL s=⟨1,(fY (s.drop (((aq 32 s).getD 0 []).length+((aq 32 s).getD 1 []).length+2))).getD eh,bT ((aq 32 s).getD 1 []),0,de,0⟩:=if_pos h
def aoi(h0:¬(2 < (aq 32 s).length∧(aq 32 s).getD 0 []=([97,100,109,105,116]:an)))(h:(aq 32 s).length=2∧(aq 32 s).getD 0 []=([99,97,110,99,101,108]:an)):fL s=⟨2,eh,0,bT ((aq 32 s).getD 1 []),de,0⟩:=by unfold fL;rw [if_neg h0,if_pos h]
def UW(h0:¬(2 < (aq 32 s).length∧(aq 32 s).getD 0 []=([97,100,109,105,116]:an)))(h1:¬((aq 32 s).length=2∧(aq 32 s).getD 0 []=([99,97,110,99,101,108]:an)))(h:(aq 32 s).length=2∧(aq 32 s).getD 0 []=([115,116,101,112]:an)):fL s=⟨4,eh,0,0,de,bT ((aq 32 s).getD 1 [])⟩:=by unfold fL;rw [if_neg h0,if_neg h1,if_pos h]
def Lv(h0:¬(2 < (aq 32 s).length∧(aq 32 s).getD 0 []=([97,100,109,105,116]:an)))(h1:¬((aq 32 s).length=2∧(aq 32 s).getD 0 []=([99,97,110,99,101,108]:an)))(h2:¬((aq 32 s).length=2∧(aq 32 s).getD 0 []=([115,116,101,112]:an))):fL s=⟨3,eh,0,0,(fX s).getD de,0⟩:=by unfold fL;rw [if_neg h0,if_neg h1,if_neg h2]
end
def azt(x:List fw):ye x=x.length:=by
 have h:∀l:List fw,(l.map Et).sum=0:=by
  intro l
  induction l with
  | nil=>rfl
  | cons a l ih=>rw [List.map_cons,List.sum_cons,ih];rfl
 simp [ye,h]
def Lx(s:an):AT ((bE s).getD cH)≤20:=by
 cases h:bE s with
 | none=>decide
 | some x=>
  have h0_:=(ayS h).1
  show AT x≤20
  rcases UP h0_ with ⟨q,n,h1,h2,h3,rfl,e⟩|⟨n,h2,h3,rfl,e⟩|⟨u,h1,rfl,e⟩|⟨n,h2,h3,rfl,e⟩
  ·have h4:=yA h1
   show bh 1+eS q+bh n+bh 0+jR de+bh 0≤20
   have h5:jR de=0:=ak
   rw [h5]
   simp only [eS,azt,fU,bh];omega
  ·have h5:jR de=0:=by decide
   have h6:eS eh=0:=ak
   show bh 2+eS eh+bh 0+bh n+jR de+bh 0≤20
   rw [h5,h6];simp [bh]
  ·have h6:eS eh=0:=by decide
   show bh 3+eS eh+bh 0+bh 0+jR u+bh 0≤20
   rw [h6]
   rcases Lm h1 with ⟨r,hr1,rfl,e⟩|⟨n,h1,h2,rfl,e⟩|⟨n,f,v,⟨h1,h2⟩,⟨h3,h4⟩,⟨h5,h6⟩,rfl,e⟩
   ·have:=qG hr1
    simp only [jR,kp,fU,bh];omega
   ·simp only [jR,kp,fU,bh];simp
   ·simp only [jR,kp,fU,bh];simp
  ·have h5:jR de=0:=by decide
   have h6:eS eh=0:=ak
   show bh 4+eS eh+bh 0+bh 0+jR de+bh n≤20
   rw [h5,h6];simp [bh]
end
def mX(v:bb):an:=gv (fJ v)++[64]++itoa v.aDk++(if v.aDg = -1 then [] else [45]++itoa v.aDg)
def azu(v:bb):mX v≠[]:=by
 unfold mX
 intro e
 have:=congrArg List.length e
 simp at this
def UX(h:eK now v=true)(hn:now≤100000):0≤v.aDk∧v.aDk≤100000 ∧ -1≤v.aDg∧v.aDg≤100000:=by
 simp [eK,aF] at h;omega
def azv(h:eK now v=true)(hn:now≤100000):(mX v).length≤200:=by
 have h1:=UX h hn
 have h2:=wD (fJ v)
 have h3:(itoa v.aDk).length≤21:=bv br
 have h4:(itoa v.aDg).length≤21:=bv br
 unfold mX
 split<;>simp only [bV,List.length_cons,List.length_nil]<;>omega
def qP(s:Store)(i:Int):an:=if cy s&&aF i 0 (s.aC5.length - 1) then yz ((s.aC5.getD i.toNat []).map mX) else []
def Ly{s:Store}(h:cy s=true)(hi:i < s.aC5.length)(k:Nat):(cI ((s.aC5[i].take k).map mX) [32]).length≤1000:=by
 obtain ⟨a1,a2,a3,a4,a5,a6⟩:=iE h
 have h1:=wn (m:=200) (sep:=[32]) (xs:=(s.aC5[i].take k).map mX) (by
  intro x hx
  obtain ⟨v,hv,rfl⟩:=List.mem_map.1 hx
  obtain ⟨j,hj,rfl⟩:=List.mem_iff_getElem.1 (List.mem_of_mem_take hv)
  exact azv (Bb h hi hj) a4)
 have h2:=a5 _ (List.getElem_mem hi)
 rw [aX,cj] at h1
 simp only [List.length_cons,List.length_nil] at h1
 have:min k s.aC5[i].length * (200+(0+1))≤4 * 201:=Nat.mul_le_mul ab ab
 omega
def oQ(l:List cw)(k:Nat):List an:=[[116,111,116,97,108],itoa (ui l)]++(List.range k).flatMap fun i:Nat=>[[116]++itoa (i:Int),itoa (qx l (i:Int))]
def UY:oQ l (k+1)=oQ l k++[[116]++itoa (k:Int),itoa (qx l (k:Int))]:=by
 simp [oQ,List.range_succ,List.flatMap_append]
def azw:oQ l k≠[]:=by simp [oQ]
def Lz:(oQ l k).length=2+2 * k:=by
 induction k with
 | zero=>rfl
 | succ k ih=>rw [UY,bV,ih];simp;omega
def yF(l:List cw):an:=cI (oQ l 4) [32]
def azx(hl:l.length≤1048576)(hk:k≤4):∀x∈oQ l k,x.length≤22:=by
 have h1:=EI l
 have h3:(itoa (ui l)).length≤21:=bv br
 intro x hx
 unfold oQ at hx
 rcases List.mem_append.1 hx with hx|hx
 ·simp at hx
  rcases hx with rfl|rfl
  ·decide
  ·omega
 ·obtain ⟨i,hi,hx⟩:=List.mem_flatMap.1 hx
  have hi:=List.mem_range.1 hi
  have h2:=EJ l (i:Int)
  have h4:(itoa (i:Int)).length≤21:=bv br
  have h5:(itoa (qx l (i:Int))).length≤21:=bv br
  simp at hx
  rcases hx with rfl|rfl
  ·simp;omega
  ·omega
def UZ(hl:l.length≤1048576)(hk:k≤4):(cI (oQ l k) [32]).length≤400:=by
 have h:=wn (m:=22) (sep:=[32]) (azx hl hk)
 rw [Lz] at h
 simp only [List.length_cons,List.length_nil] at h
 have:(2+2 * k) * (22+(0+1))≤10 * 23:=Nat.mul_le_mul ab ab
 omega
noncomputable def fM(e:av)(o:List Int):av×Bool:=if aU e&&cb o then ({ e with Order:=o },true) else (e,false)
def Va{o:List Int}(h:(aU e&&cb o)=true):fM e o=({ e with Order:=o },true):=if_pos h
def aoj{o:List Int}(h:(aU e&&cb o)=false):fM e o=(e,false):=if_neg fR
noncomputable def fC(e:av):av:=(fM e (oK e)).1
def aok(e:av)(o:List Int):aZ (fM e o).1≤aZ e+o.length:=by
 unfold fM
 split
 ·simp only [aZ,fU,bh];omega
 ·dsimp only;omega
def azy(e:av):aZ (fC e)≤aZ e+3:=by
 have h1:=aok e (oK e)
 have h2:=SU e
 unfold fC
 omega
structure azz(s:Store):Prop where
 l1:1≤s.aC5.length
 l8:s.aC5.length≤8
 n0:0≤s.Now
 n1:s.Now≤100000
 sm:∀g∈s.aC5,g.length≤4
 vs:∀v∈bQ s,eK s.Now v=true
 ap:(bQ s).Pairwise fun a b=>gE a b=true
def Vb(a b:bb):gE a b=gE b a:=by
 unfold gE
 rw [show (a.Id==b.Id)=(b.Id==a.Id) from by rw [Bool.eq_iff_iff];simp only [beq_iff_eq];exact eq_comm]
 rw [Bool.or_comm (_&&_) (_&&_)]
def FC{l:List α}{d:α}(h:i < l.length):l.getD i d=l[i]:=by
 rw [List.getD_eq_getElem?_getD,List.getElem?_eq_getElem h];rfl
def nV{s:Store}:cy s=true↔azz s:=by
 constructor
 ·intro h
  obtain ⟨h1,h2,h3,h4,h5,h6⟩:=iE h
  refine ⟨h2,h1,h3,h4,h5,fun v hv=>?_,?_⟩
  ·obtain ⟨i,hi,rfl⟩:=List.mem_iff_getElem.1 hv
   have:=h6 i hi
   rwa [FC hi] at this
  ·rw [List.pairwise_iff_getElem]
   intro i j hi hj hij
   unfold cy pt at h
   rw [aR] at h
   have hg:=List.all_eq_true.1 h.2 j (List.mem_range.2 hj)
   unfold pq ix at hg
   rw [aR] at hg
   have:=List.all_eq_true.1 hg.2 i (List.mem_range.2 hij)
   rw [FC hi,FC hj] at this
   rw [Vb];exact this
 ·intro h
  unfold cy rW
  have e1:s.aC5.all nC=true:=List.all_eq_true.2 fun g hg=>by have:=h.sm g hg;unfold nC;rw [decide_eq_true_eq];omega
  have e2:pt s.Now (bQ s) (bQ s).length=true:=by
   unfold pt
   refine List.all_eq_true.2 fun i hi=>?_
   have hi:=List.mem_range.1 hi
   unfold pq ix
   rw [FC hi,aR]
   refine ⟨h.vs _ (List.getElem_mem hi),List.all_eq_true.2 fun m hm=>?_⟩
   have hm:=List.mem_range.1 hm
   have:=List.pairwise_iff_getElem.1 h.ap m i ab hi hm
   rw [FC ab,Vb];exact this
  have l1:=h.l1;have l8:=h.l8;have n0:=h.n0;have n1:=h.n1
  rw [e1,e2]
  simp only [aF,aR,decide_eq_true_eq,and_true]
  omega
def azA(s:Store)(keep:List Int)(h:cy s=true):bQ (ig s keep)=(bQ s).filter fun v=>jz v keep:=by
 rw [Kz h]
 unfold bQ
 dsimp only
 generalize s.aC5=l
 induction l with
 | nil=>rfl
 | cons x l ih=>rw [List.map_cons,List.flatten_cons,List.flatten_cons,gV,ih];rfl
def azB{s:Store}(keep:List Int)(h:cy s=true):cy (ig s keep)=true:=by
 have k:=nV.1 h
 have e:=azA s keep h
 rw [nV]
 have hr:=Kz (keep:=keep) h
 refine ⟨?_,?_,?_,?_,?_,?_,?_⟩
 ·rw [hr];show 1≤(s.aC5.map _).length;rw [aX];exact k.l1
 ·rw [hr];show (s.aC5.map _).length≤8;rw [aX];exact k.l8
 ·rw [hr];exact k.n0
 ·rw [hr];exact k.n1
 ·rw [hr]
  intro g hg
  obtain ⟨x,hx,rfl⟩:=List.mem_map.1 hg
  exact Nat.le_trans (jr _ _) (k.sm x hx)
 ·rw [e,show (ig s keep).Now=s.Now by rw [hr]]
  intro v hv
  exact k.vs v (List.mem_filter.1 hv).1
 ·rw [e];exact k.ap.filter _
def azC{s:Store}(keep:List Int):(ig s keep).aC5.length=s.aC5.length∧(ig s keep).Now=s.Now:=by
 unfold ig
 split
 ·exact ⟨aX _,rfl⟩
 ·exact ⟨rfl,rfl⟩
def Vc(h:eK n v=true):eK (n+1) v=true:=by
 unfold eK at *
 simp only [aR,Bool.or_eq_true,aF,decide_eq_true_eq] at *
 exact ⟨h.1,ab,ab⟩
def Vd{l:List α}{x:α}(h:i < l.length):l.set i x=l.take i++x::l.drop (i+1):=by
 rw [List.set_eq_take_append_cons_drop,if_pos h]
def azD{s:Store}(hi:i < s.aC5.length)(hk:k < s.aC5[i].length):bQ s=((s.aC5.take i).flatten++s.aC5[i].take k)++s.aC5[i][k]::(s.aC5[i].drop (k+1)++(s.aC5.drop (i+1)).flatten):=by
 have e1:=Ko hi
 have e2:s.aC5[i]=s.aC5[i].take k++s.aC5[i][k]::s.aC5[i].drop (k+1):=Wj
 rw [e1]
 unfold eC
 conv=>lhs;rw [e2]
 simp only [bn,List.cons_append]
def azE{s:Store}(hi:i < s.aC5.length)(hk:k < s.aC5[i].length):bQ ⟨s.aC5.set i (s.aC5[i].set k v),n⟩=((s.aC5.take i).flatten++s.aC5[i].take k)++v::(s.aC5[i].drop (k+1)++(s.aC5.drop (i+1)).flatten):=by
 unfold bQ
 dsimp only
 rw [Vd hi,List.flatten_append,List.flatten_cons,Vd hk]
 simp only [bn,List.cons_append]
def azF{L:List (List bb)}{r:Nat}(hr:r < L.length):(bQ ⟨Bs L r v,n⟩).Perm (v::bQ ⟨L,n⟩):=by
 unfold bQ
 dsimp only
 rw [yy hr,Vd hr,List.flatten_append,List.flatten_cons]
 have e:L.flatten=(L.take r).flatten++(L[r]++(L.drop (r+1)).flatten):=by
  rw [←List.flatten_cons,←List.flatten_append,←List.drop_eq_getElem_cons hr,hO]
 rw [e]
 have:(L.take r).flatten++(L[r]++[v]++(L.drop (r+1)).flatten)=((L.take r).flatten++L[r])++v::(L.drop (r+1)).flatten:=by simp only [bn,List.cons_append,List.nil_append]
 rw [this]
 refine List.perm_middle.trans ?_
 rw [bn]
def aol:lg id v=true↔v.Id=id∧v.aDg = -1:=by unfold lg;simp
def azG{s:Store}(h:¬0≤cK s id):∀v∈bQ s,v.Id=id→v.aDg ≠ -1:=by
 intro v hv hid hd
 have hall:s.aC5.any (jW id)=true:=by
  unfold bQ at hv
  obtain ⟨g,hg,hv⟩:=List.mem_flatten.1 hv
  exact List.any_eq_true.2 ⟨g,hg,List.any_eq_true.2 ⟨v,hv,aol.2 ⟨hid,hd⟩⟩⟩
 unfold cK at h
 rw [if_pos hall] at h
 omega
def Ve{a b:bb}(h:gE a b=true)(hid:a.Id=b.Id):(a.aDg ≠ -1∧a.aDg≤b.aDk)∨(b.aDg ≠ -1∧b.aDg≤a.aDk):=by
 unfold gE at h
 simp only [hid,beq_self_eq_true,Bool.not_true,Bool.false_or,Bool.or_eq_true,aR,Bool.not_eq_true',beq_eq_false_iff_ne,decide_eq_true_eq] at h
 exact h
def Vf{a b:bb}(h:a.Id=b.Id→(a.aDg ≠ -1∧a.aDg≤b.aDk)∨(b.aDg ≠ -1∧b.aDg≤a.aDk)):gE a b=true:=by
 unfold gE
 by_cases hid:a.Id=b.Id
 ·have:=h hid
  simp only [hid,beq_self_eq_true,Bool.not_true,Bool.false_or,Bool.or_eq_true,aR,Bool.not_eq_true',beq_eq_false_iff_ne,decide_eq_true_eq]
  exact this
 ·rw [show (a.Id==b.Id)=false by rw [beq_eq_false_iff_ne];exact hid];rfl
def LA(h:eK n v=true):bA ⟨v.Id,v.Values⟩=true∧0≤v.aDk∧v.aDk≤n∧(v.aDg = -1∨(v.aDk+1≤v.aDg∧v.aDg≤n)):=by
 unfold eK at h
 simp only [aR,Bool.or_eq_true,aF,decide_eq_true_eq] at h
 exact ⟨h.1,h.2.1.1,h.2.1.2,h.2.2⟩
def Vg(h:bA ⟨v.Id,v.Values⟩=true)(h1:0≤v.aDk∧v.aDk≤n)(h2:v.aDg = -1∨(v.aDk+1≤v.aDg∧v.aDg≤n)):eK n v=true:=by
 unfold eK
 simp only [aR,Bool.or_eq_true,aF,decide_eq_true_eq]
 exact ⟨h,h1,h2⟩
def Vh:∀{a b:bb},gE a b=true→gE b a=true:=fun {a b} h=>by rw [Vb];exact h
structure azH(s:Store)(u:aC9):Prop where
 vs:∀v∈bQ ⟨dP s u,s.Now+1⟩,eK (s.Now+1) v=true
 ap:(bQ ⟨dP s u,s.Now+1⟩).Pairwise fun a b=>gE a b=true
 no:∀v∈bQ ⟨dP s u,s.Now+1⟩,v.Id=u.Row.Id→v.aDg ≠ -1
def azI{s:Store}(h:cy s=true):azH s u:=by
 have k:=nV.1 h
 by_cases hf:0≤cK s u.Row.Id
 ·obtain ⟨i,j,hi,hj,h1,h2,ha⟩:=uz hf
  obtain ⟨hid,hdd⟩:=aol.1 ha
  have e1:=azD hi hj
  have e2:=azE (v:=mT (s.Now+1) s.aC5[i][j]) (n:=s.Now+1) hi hj
  have kv:=k.vs;have ka:=k.ap
  rw [e1] at kv ka
  rw [List.pairwise_append,List.pairwise_cons] at ka
  obtain ⟨ka1,⟨ka2,ka3⟩,ka4⟩:=ka
  have hv0:=LA (kv s.aC5[i][j] aP)
  have mem:∀v∈((s.aC5.take i).flatten++s.aC5[i].take j)++mT (s.Now+1) s.aC5[i][j]::(s.aC5[i].drop (j+1)++(s.aC5.drop (i+1)).flatten),v=mT (s.Now+1) s.aC5[i][j]∨v∈((s.aC5.take i).flatten++s.aC5[i].take j)∨v∈(s.aC5[i].drop (j+1)++(s.aC5.drop (i+1)).flatten):=by
   intro v hv
   rcases List.mem_append.1 hv with hv|hv
   ·exact .inr (.inl hv)
   ·rcases List.mem_cons.1 hv with hv|hv
    ·exact .inl hv
    ·exact .inr (.inr hv)
  have hk:∀w:bb,gE s.aC5[i][j] w=true→gE (mT (s.Now+1) s.aC5[i][j]) w=true:=by
   intro w hw
   refine Vf fun he=>?_
   have:=Ve hw he
   rcases this with ⟨h3,_⟩|⟨h3,h4⟩
   ·exact absurd hdd h3
   ·exact .inr ⟨h3,h4⟩
  refine ⟨?_,?_,?_⟩
  ·rw [(qE hi hj h1 h2).1,e2]
   intro v hv
   rcases mem v hv with rfl|hv|hv
   ·exact Vg hv0.1 ⟨hv0.2.1,by show s.aC5[i][j].aDk≤s.Now+1;omega⟩ (.inr ⟨by show s.aC5[i][j].aDk+1≤s.Now+1;omega,Int.le_refl _⟩)
   ·exact Vc (kv v (List.mem_append.2 (.inl hv)))
   ·exact Vc (kv v (List.mem_append.2 (.inr (List.mem_cons_of_mem _ hv))))
  ·rw [(qE hi hj h1 h2).1,e2,List.pairwise_append,List.pairwise_cons]
   refine ⟨ka1,⟨fun w hw=>hk w (ka2 w hw),ka3⟩,fun a ha b hb=>?_⟩
   rcases List.mem_cons.1 hb with rfl|hb
   ·exact Vh (hk a (Vh (ka4 a ha _ List.mem_cons_self)))
   ·exact ka4 a ha b (List.mem_cons_of_mem _ hb)
  ·rw [(qE hi hj h1 h2).1,e2]
   intro v hv hvid
   rcases mem v hv with rfl|hv|hv
   ·show s.Now+1 ≠ -1
    have:=k.n0;omega
   ·have:=Ve (ka4 v hv _ List.mem_cons_self) (by rw [hvid,hid])
    rcases this with ⟨h3,_⟩|⟨h3,_⟩
    ·exact h3
    ·exact absurd hdd h3
   ·have:=Ve (ka2 v hv) (by rw [hvid,hid])
    rcases this with ⟨h3,_⟩|⟨h3,_⟩
    ·exact absurd hdd h3
    ·exact h3
 ·have e:=(uA hf).1
  have e3:bQ ⟨dP s u,s.Now+1⟩=bQ s:=by unfold bQ;dsimp only;rw [e]
  have hn:=azG hf
  refine ⟨?_,?_,?_⟩
  ·rw [e3];intro v hv;exact Vc (k.vs v hv)
  ·rw [e3];exact k.ap
  ·rw [e3];exact hn
def azJ(h:ee u=true)(hk:u.Kind=3):0≤u.Field∧u.Field≤2∧0≤u.Value∧u.Value≤99∧0≤u.Row.Id∧u.Row.Id≤999:=by
 unfold ee at h
 rw [if_neg ab,if_neg ab,if_pos hk] at h
 simp only [qo,aR,aF,decide_eq_true_eq] at h
 omega
def azK(h:ee u=true)(hk:u.Kind=1):bA u.Row=true:=by
 unfold ee at h
 rw [if_pos hk] at h
 simp only [aR] at h
 exact h.1
def azL(h:ee u=true):u.Kind=1∨u.Kind=2∨u.Kind=3:=by
 unfold ee at h
 by_cases h1:u.Kind=1
 ·exact .inl h1
 ·by_cases h2:u.Kind=2
  ·exact .inr (.inl h2)
  ·by_cases h3:u.Kind=3
   ·exact .inr (.inr h3)
   ·rw [if_neg h1,if_neg h2,if_neg h3] at h;cases h
def LB{r:Row}:bA r=true↔(0≤r.Id∧r.Id≤999)∧r.Values.length=3∧∀x∈r.Values,0≤x∧x≤99:=by
 unfold bA nz
 simp only [aR,aF,decide_eq_true_eq,nb]
 constructor
 ·rintro ⟨h1,h2,h3⟩;exact ⟨h2,ab,h1⟩
 ·rintro ⟨h1,h2,h3⟩;exact ⟨h3,h1,ab⟩
def azM{s:Store}(h:kD s u=true)(hk:¬u.Kind=2):bA ⟨u.Row.Id,jY s u⟩=true:=by
 obtain ⟨h1,h2,h3,h4,h5⟩:=yx h
 have k:=nV.1 h1
 rcases azL h2 with k1|k2|k3
 ·have hr:=azK h2 k1
  have hf:¬0≤cK s u.Row.Id:=fun hc=>(h4.1 hc) k1
  unfold jY
  rw [if_neg ab,(uA hf).2]
  exact hr
 ·exact absurd k2 hk
 ·have hu:=azJ h2 k3
  have hf:0≤cK s u.Row.Id:=h4.2 ab
  obtain ⟨i,j,hi,hj,e1,e2,ha⟩:=uz hf
  have hv:=(LA (Bb h1 hi hj)).1
  rw [LB] at hv
  unfold jY
  rw [if_pos k3,(qE hi hj e1 e2).2,LB]
  refine ⟨⟨hu.2.2.2.2.1,hu.2.2.2.2.2⟩,by rw [List.length_set];exact hv.2.1,fun x hx=>?_⟩
  rcases List.mem_or_eq_of_mem_set hx with hx|rfl
  ·exact hv.2.2 x hx
  ·exact ⟨hu.2.2.1,hu.2.2.2.1⟩
def azN(s:Store)(u:aC9)(h:cy s=true):cy (eV s u).1=true:=by
 cases ha:kD s u with
 | false=>rw [Ff ha];exact h
 | true=>
  obtain ⟨h1,h2,h3,h4,h5⟩:=yx ha
  have k:=nV.1 h
  have hu:=azI (u:=u) h
  have hlen:=Bv s u
  have hsm:∀g∈dP s u,g.length≤4:=by
   intro g hg
   obtain ⟨i,hi,rfl⟩:=List.mem_iff_getElem.1 hg
   have hi2:i < s.aC5.length:=ab
   rw [KZ s u hi hi2];exact k.sm _ (List.getElem_mem hi2)
  by_cases hk:u.Kind=2
  ·rw [yw ha hk,nV]
   exact ⟨by dsimp only;rw [hlen];exact k.l1,by dsimp only;rw [hlen];exact k.l8,by dsimp only;have:=k.n0;omega,uO,hsm,hu.vs,hu.ap⟩
  ·obtain ⟨r,hr,hrm,hr4⟩:=Ue (h5.resolve_left hk)
   have hru:r < (dP s u).length:=ab
   rw [Bu ha hk hrm,nV]
   have hp:=azF (v:=mU s u) (n:=s.Now+1) hru
   have hnv:eK (s.Now+1) (mU s u)=true:=Vg (azM ha hk) ⟨by show 0≤s.Now+1;have:=k.n0;omega,Int.le_refl _⟩ (.inl rfl)
   refine ⟨?_,?_,by dsimp only;have:=k.n0;omega,uO,?_,?_,?_⟩
   ·dsimp only;rw [yy hru,List.length_set,hlen];exact k.l1
   ·dsimp only;rw [yy hru,List.length_set,hlen];exact k.l8
   ·dsimp only
    rw [yy hru]
    intro g hg
    rcases List.mem_or_eq_of_mem_set hg with hg|rfl
    ·exact hsm g hg
    ·have h6:=KZ s u hru hr
     rw [bV,h6];simp;omega
   ·intro v hv
    rcases List.mem_cons.1 (hp.mem_iff.1 hv) with rfl|hv
    ·exact hnv
    ·exact hu.vs v hv
   ·rw [hp.pairwise_iff (fun h=>Vh h),List.pairwise_cons]
    refine ⟨fun w hw=>Vf fun he=>?_,hu.ap⟩
    have h6:=hu.no w hw he.symm
    have h7:=LA (hu.vs w hw)
    rcases h7.2.2.2 with h8|h8
    ·exact absurd h8 h6
    ·exact .inr ⟨h6,h8.2⟩
section
structure kc where
 b:List Int
 i:Nat
 h:Int
 hb:b.length≤9223372036854775807
def LC(h:Int):Int:=Zo (aqF h 6364136223846793005) 1442695040888963407
def aom(h:Int):Int:=Zp (aqG (h.fdiv (2 ^ 33)) (h.fdiv (2 ^ 45))) 255
def BB(c:kc):Int×kc:=if c.i < c.b.length then (Zp (Zo (aom (LC c.h)) (IntKind.i64.wrap (c.b.getD c.i 0))) 255,⟨c.b,c.i+1,LC c.h,c.hb⟩) else (aom (LC c.h),⟨c.b,c.i,LC c.h,c.hb⟩)
def lZ(c:kc)(n:Int):Int×kc:=if n≤0 then (0,c) else ((BB c).1.tmod n,(BB c).2)
def azO(c:kc)(l:List Int):Int×kc:=(l.getD (lZ c l.length).1.toNat 0,(lZ c l.length).2)
structure aCU where
 id:Int
 l:List Row
 c:kc
section
variable{c:kc}{n w id:Int}{k:Nat}{l:List Int}
end
end
structure aCV where
 l:List fw
 c:kc
@[reducible] def aCW (w:Int) (c:kc):kc:=(lZ c 2).2
@[reducible] def azP (w:Int) (c:kc):Int:=(lZ (lZ c 2).2 w).1
@[reducible] def aCX (w:Int) (c:kc):Int:=min 99 (azP w c+(lZ (lZ (lZ c 2).2 w).2 w).1)
@[reducible] def aCY (w:Int) (c:kc):kc:=(lZ (lZ (lZ c 2).2 w).2 w).2
@[reducible] def aCZ (c:kc):Int×kc:=azO (lZ c 4).2 [3,6,100]
section
attribute [local irreducible] lZ BB
end
def wH:Row:=⟨0,[]⟩
def yG(a b:Row):Bool:=decide (a.Id < b.Id)
def ma(l:List Row):Bool:=eT wH bA yG l&&decide ((l.length:Int)≤32)
def BC(r:Row):bb:=⟨r.Id,r.Values,0,-1⟩
def qQ(rows:List Row)(n i k:Nat):List bb:=(List.range k).map fun j=>BC (rows.getD (i+j * n) wH)
def qR(len n i:Nat):Nat:=(len - i+(n - 1)) / n
def pF(rows:List Row)(n i:Nat):List bb:=qQ rows n i (qR rows.length n i)
def nW(rows:List Row)(n k:Nat):List (List bb):=(List.range k).map (pF rows n)
def nX(rows:List Row)(n:Int):Bool:=(ma rows&&aF n 1 8)&&decide ((rows.length:Int)≤n * 4)
def ik(rows:List Row)(n:Int):Store×Bool:=if nX rows n then (⟨nW rows n.toNat n.toNat,0⟩,true) else (⟨[],0⟩,false)
def Vi(h:nX rows n=false):ik rows n=(⟨[],0⟩,false):=if_neg fR
def FD(h:nX rows n=true):ik rows n=(⟨nW rows n.toNat n.toNat,0⟩,true):=if_pos h
def LD(h:nX rows n=true):ma rows=true∧(1≤n∧n≤8)∧(rows.length:Int)≤n * 4:=by
 unfold nX at h
 simp only [aR,aF,decide_eq_true_eq] at h
 exact ⟨h.1.1,h.1.2,h.2⟩
def FE{len n:Nat}(hn:0 < n)(h:i≤len):i+k * n < len↔k < qR len n i:=by
 unfold qR
 rw [Nat.lt_iff_add_one_le (m:=k),Nat.le_div_iff_mul_le hn,Nat.add_mul,Nat.one_mul]
 omega
def Vj{len n:Nat}(hn:0 < n)(h:len≤i):qR len n i=0:=by
 unfold qR
 exact Nat.div_eq_of_lt ab
def azQ{n:Nat}:qQ rows n i (k+1)=qQ rows n i k++[BC (rows.getD (i+k * n) wH)]:=by
 unfold qQ;rw [List.range_succ,bo];rfl
def Vk{n:Nat}:(qQ rows n i k).length=k:=by unfold qQ;rw [aX,List.length_range]
def azR{n:Nat}:nW rows n (k+1)=nW rows n k++[pF rows n k]:=by
 unfold nW;rw [List.range_succ,bo];rfl
def Vl{n:Nat}:(nW rows n k).length=k:=by unfold nW;rw [aX,List.length_range]
def azS{l:List Row}(h:ma l=true):l.length≤32:=by
 unfold ma at h
 rw [aR,decide_eq_true_eq] at h
 omega
def aon{l:List Row}(h:ma l=true)(hk:k < l.length):bA l[k]=true:=by
 unfold ma at h
 rw [aR] at h
 exact Ex h.1 hk
def aoo{l:List Row}(h:ma l=true):∀(i j:Nat) (hj:j < l.length) (hij:i < j),l[i].Id < l[j].Id:=by
 have h:=h
 unfold ma at h
 rw [aR] at h
 have step:∀i (hi:i+1 < l.length),l[i].Id < l[i+1].Id:=by
  intro i hi
  have:=List.all_eq_true.1 h.1 (i+1) (List.mem_range.2 hi)
  rw [lK,show i+1 - 1=i from rfl,fy hi,fy (show i < l.length by omega)] at this
  rcases this.2 with h0|h0
  ·omega
  ·unfold yG at h0;simpa using h0
 intro i j hj hij
 induction j with
 | zero=>omega
 | succ j ih=>
  by_cases he:i=j
  ·subst he;exact step i hj
  ·have h1:=ih ab ab
   have h2:=step j hj
   omega
def aop{n:Nat}(hn:0 < n)(hl:rows.length≤n * 4):(pF rows n i).length≤4:=by
 unfold pF
 rw [Vk]
 unfold qR
 refine Nat.le_of_lt_succ ?_
 rw [Nat.div_lt_iff_lt_mul hn]
 have:(4+1) * n=n * 4+n:=by rw [Nat.add_mul,Nat.mul_comm];omega
 show _ < (4+1) * n
 rw [this];omega
def Vm{n:Nat}(hn:0 < n)(hv:v∈pF rows n i):∃j,∃h:i+j * n < rows.length,v=BC rows[i+j * n]:=by
 by_cases hi:i≤rows.length
 ·unfold pF qQ at hv
  obtain ⟨j,hj,rfl⟩:=List.mem_map.1 hv
  have hj:=(FE hn hi).2 (List.mem_range.1 hj)
  exact ⟨j,hj,by rw [fy hj]⟩
 ·unfold pF at hv
  rw [Vj hn ab] at hv
  simp [qQ] at hv
def azT(h:nX rows n=true):cy (ik rows n).1=true:=by
 obtain ⟨h1,h2,h3⟩:=LD h
 rw [FD h,nV]
 have hn:0 < n.toNat:=ab
 have mem:∀v∈bQ ⟨nW rows n.toNat n.toNat,0⟩,∃i,∃hi:i < rows.length,v=BC rows[i]:=by
  intro v hv
  unfold bQ nW at hv
  obtain ⟨g,hg,hv⟩:=List.mem_flatten.1 hv
  obtain ⟨i,_,rfl⟩:=List.mem_map.1 hg
  obtain ⟨j,hj,rfl⟩:=Vm hn hv
  exact ⟨_,hj,rfl⟩
 have apart:∀i j (hi:i < rows.length) (hj:j < rows.length),i≠j→gE (BC rows[i]) (BC rows[j])=true:=by
  intro i j hi hj hij
  refine Vf fun he=>?_
  exfalso
  have he:rows[i].Id=rows[j].Id:=he
  rcases Nat.lt_or_gt_of_ne hij with k|k
  ·have:=aoo h1 i j hj k;omega
  ·have:=aoo h1 j i hi k;omega
 refine ⟨by dsimp only;rw [Vl];omega,by dsimp only;rw [Vl];omega,Int.le_refl 0,ME,fun g hg=>?_,fun v hv=>?_,?_⟩
 ·unfold nW at hg
  obtain ⟨i,_,rfl⟩:=List.mem_map.1 hg
  exact aop hn ab
 ·obtain ⟨i,hi,rfl⟩:=mem v hv
  exact Vg (aon h1 hi) ⟨Int.le_refl 0,Int.le_refl 0⟩ (.inl rfl)
 ·unfold bQ nW
  rw [List.pairwise_flatten,List.pairwise_map]
  constructor
  ·intro g hg
   obtain ⟨i,hi,rfl⟩:=List.mem_map.1 hg
   have hi:=List.mem_range.1 hi
   unfold pF qQ
   by_cases hil:i≤rows.length
   ·rw [List.pairwise_map]
    refine List.Pairwise.imp_of_mem ?_ List.pairwise_lt_range
    intro a b ha hb hab
    have ha:=(FE hn hil).2 (List.mem_range.1 ha)
    have hb:=(FE hn hil).2 (List.mem_range.1 hb)
    rw [fy ha,fy hb]
    refine apart _ _ ha hb ?_
    have:=Nat.mul_lt_mul_of_pos_right hab hn
    omega
   ·rw [Vj hn ab];simp
  ·refine List.Pairwise.imp_of_mem ?_ List.pairwise_lt_range
   intro a b ha hb hab v hv w hw
   have ha:=List.mem_range.1 ha
   have hb:=List.mem_range.1 hb
   obtain ⟨j,hj,rfl⟩:=Vm hn hv
   obtain ⟨k,hk,rfl⟩:=Vm hn hw
   refine apart _ _ hj hk ?_
   intro he
   have:=congrArg (· % n.toNat) he
   simp only [Nat.add_mul_mod_self_right] at this
   rw [Nat.mod_eq_of_lt ha,Nat.mod_eq_of_lt hb] at this
   omega
structure aC0 where
 s:Store
 c:kc
def Vn{s:Store}(h:cy s=true):da s≤200:=by
 have k:=nV.1 h
 have hv:∀g∈s.aC5,cX g≤16:=by
  intro g hg
  have h4:=k.sm g hg
  have:∀l:List bb,(∀v∈l,df v=3)→(l.map df).sum=3 * l.length:=by
   intro l
   induction l with
   | nil=>intro _;rfl
   | cons v l ih=>
    intro hl
    rw [List.map_cons,List.sum_cons,hl v List.mem_cons_self,ih fun w hw=>hl w (List.mem_cons_of_mem _ hw),List.length_cons];omega
  have h3:=this g fun v hv=>by
   have:=(LB.1 (LA (k.vs v (List.mem_flatten.2 ⟨g,hg,hv⟩))).1).2.1
   have this:v.Values.length=3:=this
   unfold df;simp only [fU,bh];omega
  unfold cX;omega
 have hs:(s.aC5.map cX).sum≤16 * s.aC5.length:=by
  generalize s.aC5=L at hv
  induction L with
  | nil=>simp
  | cons g L ih=>
   have h1:=hv g List.mem_cons_self
   have h2:=ih fun x hx=>hv x (List.mem_cons_of_mem _ hx)
   rw [List.map_cons,List.sum_cons,List.length_cons];omega
 have l8:=k.l8
 unfold da iR
 simp only [bh];omega
structure azU(e:av):Prop where
 so:cy e.Store=true
 c0:0≤e.aDa
 c1:e.aDa < e.Store.aC5.length
 od:cb e.Order=true
 s0:0≤e.Steps
 s1:e.Steps≤100000
 a8:e.aC6.length≤8
 d1:e.Done.length≤1000
 l1:e.aDi.length≤1000
 aa:∀a∈e.aC6,fV e.Store a=true
 pw:e.aC6.Pairwise fun a b=>a.aC7.Id < b.aC7.Id
 fs:∀f∈e.Done,kX e.Store.Now f=true
 cs:∀c∈e.aDi,du c=true
def fO:aU e=true↔azU e:=by
 constructor
 ·intro h
  obtain ⟨h1,h2,h3,h4,h5,h6,h7,h8,h9,h10,h11,h12⟩:=gu h
  exact ⟨h1,h3,ab,h2,h8,h9,h5,h6,h7,h10,uy h,h11,h12⟩
 ·intro h
  have c0:=h.c0;have c1:=h.c1;have s0:=h.s0;have s1:=h.s1;have a8:=h.a8;have d1:=h.d1;have l1:=h.l1
  refine als ?_ (KV h.aa (h.pw.imp fun {a b} k=>by unfold oJ;simpa using k)) (List.all_eq_true.2 h.fs) (List.all_eq_true.2 h.cs)
  unfold lO
  rw [h.so,h.od]
  simp only [aF,Bool.true_and,aR,decide_eq_true_eq]
  omega
structure azV(n:Nat)(now:Int)(a:aC6):Prop where
 t0:0 < a.aDf.length
 tp:a.aDf.Pairwise fun x y=>x < y
 tr:∀x∈a.aDf,0≤x∧x < n
 q:bp a.aC7=true
 tm0:0≤a.Time
 tm1:a.Time≤now
 ag0:0≤a.Age
 ag1:a.Age≤100000
 sn0:0≤a.Sent
 sn1:a.Sent≤1000
 cp0:0≤a.Cap
 cp1:a.Cap≤32
 rk:∀r∈a.Rows,bA r=true
 rl:a.Rows.length≤1000
def azW{l:List Int}(h:eT 0 (nE n) nF l=true):l.Pairwise fun x y=>x < y:=by
 rw [List.pairwise_iff_getElem]
 have step:∀i (hi:i+1 < l.length),l[i] < l[i+1]:=by
  intro i hi
  have:=List.all_eq_true.1 h (i+1) (List.mem_range.2 hi)
  rw [lK,show i+1 - 1=i from rfl,fy hi,fy (show i < l.length by omega)] at this
  rcases this.2 with h0|h0
  ·omega
  ·unfold nF at h0;simpa using h0
 intro i j hi hj hij
 induction j with
 | zero=>omega
 | succ j ih=>
  by_cases he:i=j
  ·subst he;exact step i hj
  ·have h1:=ih ab ab
   have h2:=step j hj
   omega
def pG{s:Store}:fV s a=true↔azV s.aC5.length s.Now a:=by
 constructor
 ·intro h
  unfold fV nG iD at h
  simp only [aR,aF,decide_eq_true_eq] at h
  obtain ⟨⟨h1,h2⟩,h3,h4,h5,h6,h7,h8,h9⟩:=h
  refine ⟨h2,azW h1,fun x hx=>?_,h3,h4.1,h4.2,h5.1,h5.2,h6.1,h6.2,h7.1,h7.2,List.all_eq_true.1 h8,ab⟩
  obtain ⟨k,hk,rfl⟩:=List.mem_iff_getElem.1 hx
  have:=Ex h1 hk
  unfold nE aF at this
  simp only [aR,decide_eq_true_eq] at this
  omega
 ·intro h
  have t0:=h.t0;have tm0:=h.tm0;have tm1:=h.tm1;have ag0:=h.ag0;have ag1:=h.ag1;have sn0:=h.sn0;have sn1:=h.sn1;have cp0:=h.cp0;have cp1:=h.cp1;have rl:=h.rl
  unfold fV nG iD
  have e1:eT 0 (nE s.aC5.length) nF a.aDf=true:=KV (fun x hx=>by have:=h.tr x hx;unfold nE aF;simp only [aR,decide_eq_true_eq];omega) (h.tp.imp fun {a b} k=>by unfold nF;simpa using k)
  rw [e1,h.q,List.all_eq_true.2 h.rk]
  simp only [aF,Bool.true_and,aR,decide_eq_true_eq]
  omega
def Vo{f:gZ}:kX now f=true↔bp f.aC7=true∧(0≤f.Time∧f.Time≤now)∧(0≤f.Steps∧f.Steps≤100000)∧(∀r∈f.Rows,bA r=true)∧f.Rows.length≤1000:=by
 unfold kX iD
 simp only [aR,aF,decide_eq_true_eq,nb]
 constructor
 ·rintro ⟨h1,h2,h3,h4,h5⟩;exact ⟨h1,h2,h3,h4,ab⟩
 ·rintro ⟨h1,h2,h3,h4,h5⟩;exact ⟨h1,h2,h3,h4,ab⟩
def aoq(h:bp q=true):(0≤q.Id∧q.Id≤23)∧0≤q.aDb∧q.aDb≤3:=by
 unfold bp at h
 simp only [aR,aF,decide_eq_true_eq] at h
 omega
def azX(h:aU e=true){b:aC6}(ha:a∈e.aC6)(hb:b∈e.aC6)(hid:a.aC7.Id=b.aC7.Id):a=b:=by
 obtain ⟨i,hi,rfl⟩:=List.mem_iff_getElem.1 ha
 obtain ⟨j,hj,rfl⟩:=List.mem_iff_getElem.1 hb
 have:=EY h hi hj hid
 subst this;rfl
def Vp{l:List Int}{x:Int}:ce l x=true↔x∈l:=by unfold ce;simp
def azY(h:aU e=true)(ha:a∈e.aC6):ce (parts e) a.aC7.Id=jT e a:=by
 rw [Bool.eq_iff_iff,Vp,uj h]
 unfold iF
 rw [GH]
 constructor
 ·rintro ⟨b,hb,hid⟩
  obtain ⟨hb,hp⟩:=List.mem_filter.1 hb
  rw [←azX h hb ha hid];exact hp
 ·intro hp;exact ⟨a,List.mem_filter.2 ⟨ha,hp⟩,rfl⟩
def gR(e:av)(a:aC6):aC6:=mO (e.Store.aC5.length:Int) (if jT e a then oM e a else a)
def azZ(h:aU e=true):(jj e).aC6=(e.aC6.map (gR e)).filter (fun a=>!fK a)∧(jj e).Done=e.Done++((e.aC6.map (gR e)).filter fK).map wx:=by
 have hl:=TQ (e:=e) (k:=(parts e).length)
 have ht:(dD e (parts e).length).take e.aC6.length=dD e (parts e).length:=qX ab
 have hs:dD e (parts e).length=e.aC6.map (gR e):=by
  unfold dD cG
  rw [List.map_map,bG]
  refine List.map_congr_left fun a ha=>?_
  show mO _ (mN e (parts e) a)=gR e a
  unfold mN gR
  rw [azY h ha]
 unfold jj TJ mP jB
 dsimp only
 rw [ht,hs]
 exact ⟨rfl,rfl⟩
def az0(h:aU e=true)(a:aC6):∀r∈lb e a,bA r=true:=by
 intro r hr
 unfold lb at hr
 exact am1 h a.Time r (List.mem_filter.1 hr).1
def FF:(gR e a).aC7=a.aC7∧(gR e a).Time=a.Time∧(gR e a).Cap=a.Cap∧(gR e a).Age=a.Age+1:=by
 unfold gR mO oM
 split<;>exact ⟨rfl,rfl,rfl,rfl⟩
def aor:(gR e a).Rows=if jT e a then a.Rows++lb e a else a.Rows:=by
 unfold gR mO oM
 split<;>rfl
def aos:(gR e a).aDf=if jT e a then iW a.aDf e.aDa else a.aDf:=by
 unfold gR mO oM
 split<;>rfl
def az1:(gR e a).Sent=if (a.Age+1).tmod (e.Store.aC5.length:Int)=0 then 0 else if jT e a then a.Sent+((lb e a).length:Int) else a.Sent:=by
 unfold gR mO oM
 split<;>rfl
structure aC1(N:Nat)(e:av):Prop where
 ok:aU e=true
 ld:e.aDi.length≤N
 dn:e.Done.length+e.aC6.length≤N
 ag:∀a∈e.aC6,a.Age≤N∧a.Sent≤4 * N∧a.Rows.length≤4 * N
structure az2(N:Nat)(e:av):Prop where
 ok:aU e=true
 st:e.Steps≤N
 ld:e.aDi.length≤N
 dn:e.Done.length+e.aC6.length≤N
 ag:∀a∈e.aC6,a.Age≤N∧a.Sent≤4 * N∧a.Rows.length≤4 * N
def az3(h:aU e=true)(hp:0 < (parts e).length):du (fA e (parts e).length)=true:=by
 have hk:=fO.1 h
 have hl:=KO (e:=e) (Nat.le_refl (parts e).length)
 have hpl:=ym (e:=e)
 have ha8:=hk.a8
 have hs8:=(nV.1 hk.so).l8
 have hc0:=hk.c0;have hc1:=hk.c1
 have hs4:=KP h
 have hset:fa (parts e)=true:=by
  have:eT 0 (fun x=>aF x 0 23) (fun a b=>decide (a < b)) (parts e)=true:=KV (fun x hx=>by
   rw [uj h] at hx
   obtain ⟨a,ha,rfl⟩:=List.mem_map.1 hx
   have:=aoq (pG.1 (hk.aa a (List.mem_filter.1 ha).1)).q
   unfold aF;simp only [aR,decide_eq_true_eq];omega) ((TK h).imp fun {a b} k=>by simpa using k)
  exact this
 unfold du oI
 have e1:(fA e (parts e).length).Ids=parts e:=by unfold fA;rw [bG]
 have e2:(fA e (parts e).length).Segment=e.aDa:=rfl
 have e3:(fA e (parts e).length).Base=((cD e).length:Int):=rfl
 have e4:uh (fA e (parts e).length) (fA e (parts e).length).Ids.length=true:=by
  unfold uh
  refine List.all_eq_true.2 fun k hk2=>?_
  have hk2:=List.mem_range.1 hk2
  rw [e1] at hk2
  unfold sa
  rw [e3]
  have t1:(fA e (parts e).length).aDc.getD k 0=Bo e (parts e)[k]:=by
   unfold fA;dsimp only;rw [bG,List.getD_eq_getElem?_getD,List.getElem?_map,List.getElem?_eq_getElem hk2];rfl
  have t2:(fA e (parts e).length).Rows.getD k 0=Bp e (parts e)[k]:=by
   unfold fA;dsimp only;rw [bG,List.getD_eq_getElem?_getD,List.getElem?_map,List.getElem?_eq_getElem hk2];rfl
  obtain ⟨i,hi,hf,hid,hpp⟩:=TL h hk2
  have ha:=TN hi hf
  rw [t1,t2]
  unfold Bo Bp
  rw [ha]
  have h5:=aoq (pG.1 (hk.aa _ (List.getElem_mem hi))).q
  have h6:(lb e e.aC6[i]).length≤(cD e).length:=Nat.le_trans (jr _ _) (EZ _ _)
  simp only [aF,aR,decide_eq_true_eq]
  omega
 rw [e4,e1,e2,e3,hset]
 simp only [aF,Bool.true_and,Bool.and_true,aR,decide_eq_true_eq]
 exact ⟨⟨⟨ab,ab⟩,ab,ab⟩,⟨ab,ab⟩,ab,ab⟩
def az4(h:aU e=true):aU (eD e)=true:=by
 have hk:=fO.1 h
 have hr:=azC (s:=e.Store) (iT e.aC6)
 rw [fO]
 unfold eD
 refine ⟨azB _ hk.so,hk.c0,?_,hk.od,hk.s0,hk.s1,hk.a8,hk.d1,hk.l1,fun a ha=>?_,hk.pw,fun f hf=>?_,hk.cs⟩
 ·dsimp only;rw [hr.1];exact hk.c1
 ·dsimp only;rw [pG,hr.1,hr.2,←pG];exact hk.aa a ha
 ·dsimp only;rw [hr.2];exact hk.fs f hf
def az5{c:Int}(h0:0≤c)(h1:c < n):(c+1).tmod n=if c+1=n then 0 else c+1:=by
 rw [Int.tmod_eq_emod_of_nonneg ab]
 split
 ·rename_i h;rw [h,Int.emod_self]
 ·exact Int.emod_eq_of_lt ab ab
def az6{n:Nat}:∀x∈qD n,0≤x∧x < n:=by
 intro x hx
 unfold qD at hx
 obtain ⟨i,hi,rfl⟩:=List.mem_map.1 hx
 have:=List.mem_range.1 hi
 omega
def az7{l:Int}(h:aU e=true)(hq:bp q=true)(hl:0≤l∧l≤32):fV e.Store (eM e q l)=true:=by
 have hk:=fO.1 h
 have hs:=nV.1 hk.so
 have l1:=hs.l1
 rw [pG]
 unfold eM
 refine ⟨by rw [Fc];omega,?_,az6,hq,hs.n0,Int.le_refl _,Int.le_refl 0,ME,Int.le_refl 0,by show (0:Int)≤1000;decide,hl.1,hl.2,aP,aP⟩
 unfold qD
 rw [List.pairwise_map]
 refine (List.pairwise_lt_range).imp fun {a b} k=>by omega
def az8{l:Int}(h:aU e=true):(nN e q l).Perm (eM e q l::e.aC6):=by
 have hc:=Br (fun a:aC6=>a.aC7.Id) q.Id (uy h)
 have e1:e.aC6.filter (lf q.Id)=e.aC6.take (eN e.aC6 q.Id):=hc
 unfold nN
 rw [e1]
 refine List.perm_middle.trans ?_
 rw [hO]
def az9{l:Int}(h:aU e=true)(hf:ez e.aC6 q.Id < 0):(nN e q l).Pairwise fun a b=>a.aC7.Id < b.aC7.Id:=by
 have hp:=uy h
 have hc:=Br (fun a:aC6=>a.aC7.Id) q.Id hp
 have e1:e.aC6.filter (lf q.Id)=e.aC6.take (eN e.aC6 q.Id):=hc
 have hcut:=fun (k:Nat) (hk:k < e.aC6.length)=>ana (x:=q.Id) h hk
 have hge:∀b∈e.aC6.drop (eN e.aC6 q.Id),q.Id < b.aC7.Id:=by
  intro b hb
  obtain ⟨j,hj,rfl⟩:=List.mem_iff_getElem.1 hb
  rw [lp] at hj
  rw [List.getElem_drop]
  have h1:=hcut (eN e.aC6 q.Id+j) ab
  have h2:=anb hf (show eN e.aC6 q.Id+j < e.aC6.length by omega)
  omega
 have hlt:∀b∈e.aC6.take (eN e.aC6 q.Id),b.aC7.Id < q.Id:=by
  intro b hb
  rw [←e1] at hb
  have:=(List.mem_filter.1 hb).2
  unfold lf at this;simpa using this
 unfold nN
 rw [e1,List.pairwise_append,List.pairwise_cons]
 refine ⟨hp.sublist (List.take_sublist _ _),⟨fun b hb=>hge b hb,hp.sublist (List.drop_sublist _ _)⟩,fun a ha b hb=>?_⟩
 have h1:=hlt a ha
 rcases List.mem_cons.1 hb with rfl|hb
 ·exact h1
 ·have:=hge b hb;omega
def Vq:aC9:=⟨0,⟨0,[]⟩,0,0⟩
def Vr:aC7:=⟨0,0,[],[]⟩
inductive LF(s:Store):fx→Prop
 | adm (q:aC7) (l:Int) (h1:bp q=true) (h2:0≤q.Id∧q.Id≤5) (h3:0≤l∧l≤2):LF s ⟨1,q,l,0,Vq,0⟩
 | can (i:Int) (h:0≤i∧i≤5):LF s ⟨2,Vr,0,i,Vq,0⟩
 | stp (n:Int) (h:1≤n∧n≤3):LF s ⟨4,Vr,0,0,Vq,n⟩
 | upd (u:aC9):LF s ⟨3,Vr,0,0,u,0⟩
structure aC2 where
 l:List fx
 c:kc
def nY(s:Store):av:=⟨s,0,[0,1,2],[],[],[],0⟩
section
def Vs(n c0:Nat)(q:aC7)(snap:Nat→List Row):Nat→List Row
 | 0=>[]
 | k+1=>Vs n c0 q snap k++(snap ((c0+k)%n)).filter (ib q)
structure aAa(n c0:Nat)(q:aC7)(t:Int)(snap:Nat→List Row)(k:Nat)(e:av)(a:aC6):Prop where
 hq:a.aC7=q
 ht:a.Time=t
 hc:a.Cap=0
 ha:a.Age=k
 hr:a.Rows=Vs n c0 q snap k
 td:∀i:Nat,(i:Int)∈a.aDf↔i < n∧∀j < k,i≠(c0+j)%n
 tr:∀x∈a.aDf,0≤x∧x < n
 sn:∀i:Nat,(i:Int)∈a.aDf→eU (wB e.Store i) t=snap i
structure Iso(n c0:Nat)(q:aC7)(t:Int)(snap:Nat→List Row)(N k:Nat)(e:av):Prop where
 b:az2 N e
 hn:e.Store.aC5.length=n
 hcu:e.aDa=((c0+k)%n:Nat)
 htm:t≤e.Store.Now
 hst:(k < n∧(∃a∈e.aC6,aAa n c0 q t snap k e a)∧∀f∈e.Done,f.aC7.Id≠q.Id) ∨
  (n≤k∧(∀a∈e.aC6,a.aC7.Id≠q.Id)∧∃d1 d2,e.Done=d1++⟨q,t,n,Vs n c0 q snap n⟩::d2∧∀f∈d2,f.aC7.Id≠q.Id)
section
variable{n c0:Nat}{q:aC7}{t:Int}{snap:Nat→List Row}{N k:Nat}{e:av}
end
structure aC4 where
 e:av
def pH(e:av):Bool:=!(aU e&&decide (0 < e.aC6.length))
def eA(e:av):Nat→av
 | 0=>e
 | k+1=>if pH (eA e k) then eA e k else dO (eA e k)
def fP(e:av):av:=eA e 200
def aot{e:av}{k:Nat}(h:pH (eA e k)=true):∀m,eA e (k+m)=eA e k
 | 0=>rfl
 | m+1=>by
  show (if pH (eA e (k+m)) then eA e (k+m) else _)=_
  rw [aot h m,if_pos h]
def aAb(hk:k≤200)(h:k=200∨pH (eA e k)=true):eA e k=fP e:=by
 rcases h with rfl|h
 ·rfl
 ·have:=aot h (200 - k)
  rw [Nat.add_sub_cancel' hk] at this
  exact this.symm
def FG:gZ:=⟨⟨0,0,[],[]⟩,0,0,[]⟩
def fD(e:av)(id:Int):gZ×Bool:=if aU e then (match e.Done.reverse.find? (fun d=>d.aC7.Id==id) with|some d=>(d,true)|none=>(FG,false)) else (FG,false)
def aAc{d1 d2:List gZ}{f:gZ}(hf:f.aC7.Id=id)(h:∀g∈d2,g.aC7.Id≠id):(d1++f::d2).reverse.find? (fun d=>d.aC7.Id==id)=some f:=by
 rw [List.reverse_append,List.find?_append,List.reverse_cons,List.find?_append]
 have h1:d2.reverse.find? (fun d=>d.aC7.Id==id)=none:=by
  rw [List.find?_eq_none]
  intro g hg
  have:=h g (List.mem_reverse.1 hg)
  simpa using this
 rw [h1]
 simp [hf]
section
variable{n c0:Nat}{q:aC7}{t:Int}{snap:Nat→List Row}{N k:Nat}{e:av}
end
section
variable{n:Nat}{q:aC7}{t:Int}{snap:Nat→List Row}{N k:Nat}{a b:av}{s:Store}{x:fx}
end
def LG(e:av):∀k,aZ (eA e k)≤aZ e+200 * k
 | 0=>Nat.le_refl _
 | k+1=>by
  have h1:=LG e k
  have h2:=am3 (eA e k)
  show aZ (if pH (eA e k) then eA e k else dO (eA e k))≤_
  split<;>omega
def aAd(e:av):aZ (fP e)≤aZ e+40000:=LG e 200
def aAe(h:pH (eA e k)=false):eA e (k+1)=dO (eA e k):=by
 show (if pH (eA e k) then eA e k else dO (eA e k))=_
 rw [if_neg fR]
def aou(hk:k < e.Done.length)(hok:aU e=true)(hn:∀f∈e.Done.drop (e.Done.length - k),f.aC7.Id≠id)(hy:e.Done[e.Done.length - 1 - k].aC7.Id=id):fD e id=(e.Done[e.Done.length - 1 - k],true):=by
 have hd:e.Done=e.Done.take (e.Done.length - 1 - k)++e.Done[e.Done.length - 1 - k]::e.Done.drop (e.Done.length - k):=by
  have h1:e.Done.length - k=e.Done.length - 1 - k+1:=ab
  rw [h1,←List.drop_eq_getElem_cons ab,hO]
 unfold fD
 rw [if_pos hok]
 have:=aAc (d1:=e.Done.take (e.Done.length - 1 - k)) hy hn
 rw [←hd] at this
 rw [this]
def aov(hok:aU e=true)(hn:∀f∈e.Done,f.aC7.Id≠id):fD e id=(FG,false):=by
 have:e.Done.reverse.find? (fun d=>d.aC7.Id==id)=none:=by
  rw [List.find?_eq_none]
  intro g hg
  have:=hn g (List.mem_reverse.1 hg)
  simpa using this
 unfold fD
 rw [if_pos hok,this]
def aow(hok:aU e=false):fD e id=(FG,false):=if_neg oU
def aox(hk:k < e.Done.length)(hn:∀f∈e.Done.drop (e.Done.length - k),f.aC7.Id≠id)(hy:¬e.Done[e.Done.length - 1 - k].aC7.Id=id):∀f∈e.Done.drop (e.Done.length - (k+1)),f.aC7.Id≠id:=by
 have h1:e.Done.length - k=e.Done.length - (k+1)+1:=ab
 have h2:e.Done.length - 1 - k=e.Done.length - (k+1):=ab
 rw [List.drop_eq_getElem_cons ab,←h1]
 intro f hf
 rcases List.mem_cons.1 hf with rfl|hf
 ·simp only [h2] at hy;exact hy
 ·exact hn f hf
end
end Go.Proofs.YtmekkgdboplbjaaGreatDoor
