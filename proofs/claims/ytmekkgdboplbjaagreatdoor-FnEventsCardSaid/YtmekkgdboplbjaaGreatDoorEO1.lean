/- Definitions and their laws. No condition. -/
import Derived.Test.YtmekkgdboplbjaaGreatDoorEA1
import Derived.Test.YtmekkgdboplbjaaGreatDoorER0
import Derived.Lib.Split
import Derived.Lib.AtoiAllCases
set_option linter.all false
namespace Go.Proofs.YtmekkgdboplbjaaGreatDoor
open Go Go.RowKit M
set_option maxRecDepth 10000
def de(c:aG):Int×aG:=aw c 7
def pb(c:aG):Int×aG:=aw (de c).2 6
def xZ(c:aG):ax4×aG:=mj (pb c).2 (pb c).1
def AM(c:aG):Int×aG:=bL (xZ c).2 [0,0,1,2]
structure pc where
 e:aC
 c:aG
def ob(x:pc):pc:=
 if (de x.c).1=0∨(de x.c).1=1 then ⟨(gH x.e (xZ x.c).1 (AM x.c).1).1,(AM x.c).2⟩
 else if (de x.c).1=2 then ⟨(dl x.e (fE (de x.c).2 x.e.Store).1).1,(fE (de x.c).2 x.e.Store).2⟩
 else if (de x.c).1=3 then ⟨(dk x.e (pb x.c).1).1,(pb x.c).2⟩
 else ⟨dL x.e,(de x.c).2⟩
def Th{x:pc}(h:(de x.c).1=0∨(de x.c).1=1):ob x=⟨(gH x.e (xZ x.c).1 (AM x.c).1).1,(AM x.c).2⟩:=if_pos h
def aku{x:pc}(h:¬((de x.c).1=0∨(de x.c).1=1))(h2:(de x.c).1=2):ob x=⟨(dl x.e (fE (de x.c).2 x.e.Store).1).1,(fE (de x.c).2 x.e.Store).2⟩:=by unfold ob;rw [if_neg h,if_pos h2]
def akv{x:pc}(h:¬((de x.c).1=0∨(de x.c).1=1))(h2:¬(de x.c).1=2)(h3:(de x.c).1=3):ob x=⟨(dk x.e (pb x.c).1).1,(pb x.c).2⟩:=by unfold ob;rw [if_neg h,if_neg h2,if_pos h3]
def auM{x:pc}(h:¬((de x.c).1=0∨(de x.c).1=1))(h2:¬(de x.c).1=2)(h3:¬(de x.c).1=3):ob x=⟨dL x.e,(de x.c).2⟩:=by unfold ob;rw [if_neg h,if_neg h2,if_neg h3]
def co(x:pc):Nat→pc
 | 0=>x
 | k+1=>ob (co x k)
def cq(c:aG)(most:Int):pc:=⟨rW (bD c).s,(aw (bD c).c most).2⟩
def qn(c:aG)(most:Int):Nat:=(aw (bD c).c most).1.toNat
def eZ(c:aG)(most:Int):pc:=co (cq c most) (qn c most)
def Ti(c:aG){most:Int}(h:0 < most):(qn c most:Int) < most:=by
 have b1:=dW (bD c).c most
 have b2:=dY (bD c).c (n:=most) h
 unfold qn;omega
def auN(c:aG)(most:Int):hZ 0 (cq c most).e:=at5 (AG c)
def auO{N:Nat}{x:pc}(h:hZ N x.e)(hN:N≤249):hZ (N+1) (ob x).e:=by
 unfold ob
 split
 ·exact at4 h ab _ _
 ·split
  ·exact (atZ h _).le ab
  ·split
   ·exact (atY h _).le ab
   ·exact atX h hN
def Tj(c:aG)(most:Int):∀k,k≤200→hZ k (co (cq c most) k).e
 | 0,_=>auN c most
 | k+1,h=>auO (Tj c most k ab) ab
def auP(c:aG)(most:Int):bA (cq c most).e≤210:=by
 have:=vE (AG c)
 unfold cq rW bA
 dsimp only
 simp [bo,gj,iO,kk,jt];omega
def auQ(x:pc):bA (ob x).e≤bA x.e+200:=by
 unfold ob
 split
 ·have h1:=aj9 x.e (xZ x.c).1 (AM x.c).1
  have h2:=Jh (pb x.c).2 (pb x.c).1
  have h3:fM (xZ x.c).1≤6:=h2
  dsimp only;omega
 ·split
  ·have:=akd x.e (fE (de x.c).2 x.e.Store).1
   dsimp only;omega
  ·split
   ·have:=akc x.e (pb x.c).1
    dsimp only;omega
   ·exact ajN x.e
def Tk(c:aG)(most:Int):∀k,bA (co (cq c most) k).e≤210+200 * k
 | 0=>auP c most
 | k+1=>by
  have h1:=Tk c most k
  have h2:=auQ (co (cq c most) k)
  show bA (ob (co (cq c most) k)).e≤_
  omega
def tY(c:aG):Int×aG:=aw c 6
def rY(c:aG):List Int:=rz.getD (tY c).1.toNat []
def qo(c:aG):Int×aG:=aw (tY c).2 12
def qp(c:aG):List Int×aG:=if (qo c).1=0 then ((rY c).set 0 (bL (qo c).2 [-1,0,3]).1,(bL (qo c).2 [-1,0,3]).2) else (rY c,(qo c).2)
def auR{c:aG}(h:(qo c).1=0):qp c=((rY c).set 0 (bL (qo c).2 [-1,0,3]).1,(bL (qo c).2 [-1,0,3]).2):=if_pos h
def auS{c:aG}(h:¬(qo c).1=0):qp c=(rY c,(qo c).2):=if_neg h
def Tl(c:aG):(rY c).length=3:=by
 have b1:=dW c 6
 have b2:=dY c (n:=6) aj
 have h6:rz.length=6:=rfl
 have hk:(tY c).1.toNat < rz.length:=by unfold tY;omega
 unfold rY
 rw [AE hk]
 exact ao0 hk
def auT(c:aG):(qp c).1.length=3:=by
 have:=Tl c
 unfold qp
 split
 ·dsimp only;rw [List.length_set];exact this
 ·exact this
def eb(c:aG):Int×aG:=aw (eZ c 14).c 16
def Ed(e:aC)(v:Int):aC:=⟨e.Store,v,e.Order,e.ax3,e.Done,e.ayf,e.Steps⟩
def Ee(e:aC)(v:Int):aC:=⟨e.Store,e.ax7,e.Order,e.ax3,e.Done,e.ayf,v⟩
def Ef(e:aC)(v:Int):aC:=⟨⟨e.Store.ax2,v⟩,e.ax7,e.Order,e.ax3,e.Done,e.ayf,e.Steps⟩
def Kb(e:aC)(o:List Int):aC:=⟨e.Store,e.ax7,o,e.ax3,e.Done,e.ayf,e.Steps⟩
def bR(c:aG):aC×aG:=
 if (eb c).1=0 then (Ed (eZ c 14).e (bL (eb c).2 [-1,8]).1,(bL (eb c).2 [-1,8]).2)
 else if (eb c).1=1 then (Ee (eZ c 14).e (bL (eb c).2 [-1,99999,100000,100001]).1,(bL (eb c).2 [-1,99999,100000,100001]).2)
 else if (eb c).1=2 then (Ef (eZ c 14).e (-1),(eb c).2)
 else if (eb c).1=3 then (Kb (eZ c 14).e (qp (eb c).2).1,(qp (eb c).2).2)
 else ((eZ c 14).e,(eb c).2)
def akw{c:aG}(h:(eb c).1=0):bR c=(Ed (eZ c 14).e (bL (eb c).2 [-1,8]).1,(bL (eb c).2 [-1,8]).2):=if_pos h
def akx{c:aG}(h0:¬(eb c).1=0)(h:(eb c).1=1):bR c=(Ee (eZ c 14).e (bL (eb c).2 [-1,99999,100000,100001]).1,(bL (eb c).2 [-1,99999,100000,100001]).2):=by unfold bR;rw [if_neg h0,if_pos h]
def aky{c:aG}(h0:¬(eb c).1=0)(h1:¬(eb c).1=1)(h:(eb c).1=2):bR c=(Ef (eZ c 14).e (-1),(eb c).2):=by unfold bR;rw [if_neg h0,if_neg h1,if_pos h]
def akz{c:aG}(h0:¬(eb c).1=0)(h1:¬(eb c).1=1)(h2:¬(eb c).1=2)(h:(eb c).1=3):bR c=(Kb (eZ c 14).e (qp (eb c).2).1,(qp (eb c).2).2):=by unfold bR;rw [if_neg h0,if_neg h1,if_neg h2,if_pos h]
def akA{c:aG}(h0:¬(eb c).1=0)(h1:¬(eb c).1=1)(h2:¬(eb c).1=2)(h3:¬(eb c).1=3):bR c=((eZ c 14).e,(eb c).2):=by unfold bR;rw [if_neg h0,if_neg h1,if_neg h2,if_neg h3]
def akB(c:aG):bA (eZ c 14).e≤3010:=by
 have h1:=Tk c 14 (qn c 14)
 have h2:=Ti c (most:=14) aj
 unfold eZ;omega
def akC(c:aG):bA (bR c).1≤3100:=by
 have h:=akB c
 unfold bR
 split
 ·unfold Ed bA at *;dsimp only at *;simp only [bo] at *;omega
 ·split
  ·unfold Ee bA at *;dsimp only at *;simp only [bo] at *;omega
  ·split
   ·unfold Ef bA cg at *;dsimp only at *;simp only [bo] at *;omega
   ·split
    ·have h3:=auT (eb c).2
     unfold Kb bA at *;dsimp only at *;simp only [gj,bo] at *;omega
    ·dsimp only;omega
def rZ(a b:aC):Prop:=a.ayf=b.ayf∧a.Done=b.Done∧a.ax3=b.ax3
def rZ.cur(e:aC)(v:Int):rZ (Ed e v) e:=⟨rfl,rfl,rfl⟩
def rZ.stp(e:aC)(v:Int):rZ (Ee e v) e:=⟨rfl,rfl,rfl⟩
def rZ.now(e:aC)(v:Int):rZ (Ef e v) e:=⟨rfl,rfl,rfl⟩
def rZ.refl(e:aC):rZ e e:=⟨rfl,rfl,rfl⟩
def rZ.w{N:Nat}{a b:aC}(h:rZ a b)(k:hZ N b)(ok:bn a=true):qm N a:=
 ⟨ok,by rw [h.1];exact k.ld,by rw [h.2.1,h.2.2];exact k.dn,by rw [h.2.2];exact k.ag⟩
def fQ(r:Row):av:=if bM r then itoa r.Id++[58]++eX r.Values else []
def Eg{r:Row}(h:bM r=true):0≤r.Id∧r.Id≤999∧r.Values.length=3∧∀x∈r.Values,ee x:=by
 unfold bM at h
 simp only [aX,decide_eq_true_eq,aK] at h
 refine ⟨h.2.1.1,h.2.1.2,ab,fun x hx=>?_⟩
 have:=List.all_eq_true.1 h.1 x hx
 simp [me,aK] at this
 unfold ee;omega
def Eh(r:Row):(fQ r).length≤100:=by
 unfold fQ
 split
 ·rename_i h
  obtain ⟨h1,h2,h3,h4⟩:=Eg h
  have h5:(itoa r.Id).length≤21:=eH et
  have h6:=vk h4
  simp only [bJ,List.length_cons,List.length_nil]
  omega
 ·simp
def Tm{q:ax4}(h:bN q=true):q.Out.length≤3∧∀f∈q.Out,0≤f∧f≤2:=by
 unfold bN nP at h
 simp only [aX] at h
 have h1:=h.2.2.1
 have h2:=h.2.2.2
 refine ⟨by simp [aK] at h2;omega,fun f hf=>?_⟩
 have:=List.all_eq_true.1 h1 f hf
 simpa [lA,aK] using this
def la(c:fC):List av:=[[102]++itoa c.Field,itoa c.Low++[46,46]++itoa c.High]
def im(q:ax4)(k:Nat):List av:=[[113]++itoa q.Id,[116]++itoa q.ax8]++(q.ax5.take k).flatMap la
def akD{q:ax4}{k:Nat}(h:k < q.ax5.length):im q (k+1)=im q k++la q.ax5[k]:=by
 unfold im;rw [anF h,bB]
def akE{q:ax4}{k:Nat}:im q k≠[]:=by simp [im]
def eE(q:ax4):av:=if bN q then ja (im q q.ax5.length++[[111,117,116],eX q.Out]) [32] else []
def ya{q:ax4}(h:bN q=true):0≤q.Id∧q.Id≤23∧0≤q.ax8∧q.ax8≤3∧q.ax5.length≤3∧q.Out.length≤3∧(∀x∈q.Out,ee x)∧∀k,(hk:k < q.ax5.length)→0≤q.ax5[k].Field∧q.ax5[k].Field≤2∧0≤q.ax5[k].Low∧q.ax5[k].Low≤99∧0≤q.ax5[k].High∧q.ax5[k].High≤99:=by
 have ho:=Tm h
 have h':=h
 unfold bN nO at h'
 simp only [aX,aK,decide_eq_true_eq] at h'
 refine ⟨ab,ab,ab,ab,ab,ho.1,fun x hx=>by have:=ho.2 x hx;unfold ee;omega,fun k hk=>?_⟩
 have:=List.all_eq_true.1 h'.2.1 k (List.mem_range.2 hk)
 rw [aX,fP hk] at this
 have:=this.1
 simp [nN,aK] at this
 omega
def Ei{q:ax4}(k:Nat):(im q k).length=2+2 * (q.ax5.take k).length:=by
 unfold im
 rw [bJ]
 have:∀l:List fC,(l.flatMap la).length=2 * l.length:=by
  intro l
  induction l with
  | nil=>rfl
  | cons c l ih=>rw [List.flatMap_cons,bJ,ih];simp [la];omega
 rw [this];rfl
def auU{q:ax4}(h:bN q=true)(k:Nat):∀x∈im q k,x.length≤66:=by
 obtain ⟨a1,a2,a3,a4,a5,a6,a7,a8⟩:=ya h
 have h1:(itoa q.Id).length≤21:=eH et
 have h2:(itoa q.ax8).length≤21:=eH et
 intro x hx
 unfold im at hx
 rcases List.mem_append.1 hx with hx|hx
 ·simp only [kz,List.not_mem_nil,or_false] at hx
  rcases hx with rfl|rfl<;>simp only [bJ,List.length_cons,List.length_nil]<;>omega
 ·obtain ⟨c,hc,hx⟩:=List.mem_flatMap.1 hx
  obtain ⟨j,hj,rfl⟩:=List.mem_iff_getElem.1 (List.mem_of_mem_take hc)
  have h3:=a8 j hj
  have h4:(itoa q.ax5[j].Field).length≤21:=eH et
  have h5:(itoa q.ax5[j].Low).length≤21:=eH et
  have h6:(itoa q.ax5[j].High).length≤21:=eH et
  simp only [la,kz,List.not_mem_nil,or_false] at hx
  rcases hx with rfl|rfl<;>simp only [bJ,List.length_cons,List.length_nil]<;>omega
def Ej{q:ax4}(h:bN q=true)(k:Nat):(ja (im q k) [32]).length≤600:=by
 have h1:=Jl (m:=66) (sep:=[32]) (auU h k)
 have h2:=(ya h).2.2.2.2.1
 have h3:=Ei (q:=q) k
 rw [cI] at h3
 rw [h3] at h1
 simp only [List.length_cons,List.length_nil] at h1
 have:(2+2 * min k q.ax5.length) * (66+(0+1))≤8 * 67:=Nat.mul_le_mul ab ab
 omega
def Tn{q:ax4}(k:Nat):ja (im q k++[[111,117,116],eX q.Out]) [32]=ja (im q k) [32]++[32,111,117,116,32]++eX q.Out:=by
 rw [ahT akE];simp [bB]
def Kc(q:ax4):(eE q).length≤800:=by
 unfold eE
 split
 ·rename_i h
  have h1:=Ej h q.ax5.length
  obtain ⟨a1,a2,a3,a4,a5,a6,a7,a8⟩:=ya h
  have h2:=vk a7
  rw [Tn]
  simp only [bJ,List.length_cons,List.length_nil]
  omega
 ·simp
def fF(u:ax6):av:=
 if dK u then
  if u.Kind=1 then [105,110,115,101,114,116,32]++fQ u.Row
  else if u.Kind=2 then [100,101,108,101,116,101,32]++itoa u.Row.Id
  else [115,101,116,32]++itoa u.Row.Id++[32,102]++itoa u.Field++[32]++itoa u.Value
 else []
def Tp{u:ax6}(h:dK u=true):0≤u.Row.Id∧u.Row.Id≤999∧0≤u.Field∧u.Field≤99∧0≤u.Value∧u.Value≤99:=by
 unfold dK at h
 split at h
 ·simp [bM,aK] at h;omega
 ·split at h
  ·simp [pS,aK] at h;omega
  ·split at h
   ·simp [pS,aK] at h;omega
   ·cases h
def akF(u:ax6):(fF u).length≤200:=by
 unfold fF
 split
 ·rename_i h
  have h1:=Tp h
  have h2:=Eh u.Row
  have h3:(itoa u.Row.Id).length≤21:=eH et
  have h4:(itoa u.Field).length≤21:=eH et
  have h5:(itoa u.Value).length≤21:=eH et
  split
  ·simp only [bJ,List.length_cons,List.length_nil];omega
  ·split<;>simp only [bJ,List.length_cons,List.length_nil]<;>omega
 ·simp
def eo(x:cZ):av:=
 if dE x then
  if x.Kind=1 then [97,100,109,105,116,32]++itoa x.Limit++[32]++eE x.ax4
  else if x.Kind=2 then [99,97,110,99,101,108,32]++itoa x.Id
  else if x.Kind=3 then fF x.ax6
  else [115,116,101,112,32]++itoa x.Steps
 else []
def akG{x:cZ}(h:dE x=true):0≤x.Limit∧x.Limit≤32∧0≤x.Id∧x.Id≤23∧0≤x.Steps∧x.Steps≤100:=by
 unfold dE at h
 split at h
 ·simp [aK] at h;omega
 ·split at h
  ·simp [aK] at h;omega
  ·split at h
   ·simp [aK] at h;omega
   ·split at h
    ·simp [aK] at h;omega
    ·cases h
section
/- ---- one value by its text ---- -/
noncomputable def nn{α:Type}(P:α→Bool)(f:α→av)(s:av):Option α:=@dite _ (∃x,P x=true∧f x=s) (Classical.propDecidable _) (fun h=>some h.choose) (fun _=>none)
section
variable{α:Type}{P:α→Bool}{f:α→av}{g:av→α}{s:av}{x:α}
def auV(h:nn P f s=some x):P x=true∧f x=s:=by
 unfold nn at h
 split at h
 ·rename_i h1;injection h with h;subst h;exact h1.choose_spec
 ·cases h
def AN(hg:∀x,P x=true→g (f x)=x)(h:P x=true):nn P f (f x)=some x:=by
 have h1:∃y,P y=true∧f y=f x:=⟨x,h,rfl⟩
 unfold nn
 rw [dif_pos h1]
 have h2:=h1.choose_spec
 have h3:=hg _ h2.1
 rw [h2.2,hg _ h] at h3
 rw [←h3]
def tZ(hg:∀x,P x=true→g (f x)=x)(h1:P (g s)=true)(h2:f (g s)=s):nn P f s=some (g s):=by
 have:=AN (x:=g s) hg h1
 rwa [h2] at this
def yb(h:∀x,P x=true→f x≠s):nn P f s=none:=by
 unfold nn
 rw [dif_neg]
 rintro ⟨x,h1,h2⟩
 exact h x h1 h2
def oe(hg:∀x,P x=true→g (f x)=x)(h:¬(P (g s)=true∧f (g s)=s)):nn P f s=none:=by
 apply yb
 rintro x h1 rfl
 rw [hg x h1] at h
 exact h ⟨h1,rfl⟩
def Tq{ok:av→Bool}(hk:∀x,P x=true→ok (f x)=true)(h:ok s=false):nn P f s=none:=by
 apply yb
 rintro x h1 rfl
 rw [hk x h1] at h
 cases h
end
/- ---- numbers ---- -/
def og(b:UInt8):Bool:=decide (48≤b.toNat)&&decide (b.toNat≤57)
def yc(l:av):Nat:=l.foldl (fun a b=>a * 10+(b.toNat - 48)) 0
def akH(l:av)(b:UInt8):yc (l++[b])=yc l * 10+(b.toNat - 48):=by unfold yc;rw [List.foldl_append];rfl
def Kd{d:Nat}(h:d < 10):(UInt8.ofNat (48+d)).toNat=48+d:=by
 rw [UInt8.toNat_ofNat'];omega
def AO(u:Nat):∀b∈Lib.decDigits u,og b=true:=by
 induction u using Nat.strongRecOn with
 | ind u ih=>
  intro b hb
  by_cases h:u < 10
  ·rw [xE h] at hb
   rw [List.mem_singleton] at hb;subst hb
   unfold og;rw [Kd h,aX,decide_eq_true_iff,decide_eq_true_iff];omega
  ·rw [DI ab] at hb
   rcases List.mem_append.1 hb with hb|hb
   ·exact ih _ ab b hb
   ·rw [List.mem_singleton] at hb;subst hb
    unfold og;rw [Kd (Nat.mod_lt _ ab),aX,decide_eq_true_iff,decide_eq_true_iff];omega
def Tr(u:Nat):yc (Lib.decDigits u)=u:=by
 induction u using Nat.strongRecOn with
 | ind u ih=>
  by_cases h:u < 10
  ·rw [xE h]
   show 0 * 10+((UInt8.ofNat (48+u)).toNat - 48)=u
   rw [Kd h];omega
  ·rw [DI ab,akH,ih _ ab,Kd (Nat.mod_lt _ ab)]
   omega
def Ts(u:Nat):Lib.decDigits u≠[]:=by
 by_cases h:u < 10
 ·rw [xE h];simp
 ·rw [DI ab];simp
def Ek:∀(k u:Nat),u < 10 ^ (k+1)→(Lib.decDigits u).length≤k+1
 | 0,u,h=>by rw [xE ou];simp
 | k+1,u,h=>by
  by_cases h1:u < 10
  ·rw [xE h1];simp
  ·rw [DI ab,bJ]
   have:=Ek k (u / 10) (by rw [Nat.pow_succ] at h;omega)
   simp;omega
def El(b:UInt8):Bool:=og b||b==45
def auW(n:Int):∀b∈itoa n,El b=true:=by
 intro b hb
 by_cases h:n < 0
 ·rw [xF h] at hb
  rcases List.mem_cons.1 hb with rfl|hb
  ·rfl
  ·simp [El,AO _ b hb]
 ·rw [rx h] at hb
  simp [El,AO _ b hb]
def auX(n:Int):itoa n≠[]:=by
 by_cases h:n < 0
 ·rw [xF h];simp
 ·rw [rx h];exact Ts _
def auY{n:Int}(h : -999999999≤n∧n≤999999999):(itoa n).length≤10:=by
 have h1:=Ek 8 n.natAbs ab
 by_cases h:n < 0
 ·rw [xF h];simp;omega
 ·rw [rx h];omega
def akI(u:Nat):∃b r,Lib.decDigits u=b::r∧og b=true:=by
 have h1:=Ts u
 have h2:=AO u
 cases h:Lib.decDigits u with
 | nil=>exact absurd h h1
 | cons b r=>exact ⟨b,r,rfl,h2 b iF⟩
def Em{b:UInt8}:og b=true↔48≤b.toNat∧b.toNat≤57:=by simp [og]
def akJ:∀(l:av) (acc:Nat),(∀b∈l,og b=true)→l.foldl (fun a b=>a * 10+(b.toNat - 48)) acc < 1844674407370955162→Lib.parseUint10 acc l = .ok (l.foldl (fun a b=>a * 10+(b.toNat - 48)) acc)
 | [],acc,_,_=>rfl
 | c::r,acc,hd,hv=>by
  have h1:=Em.1 (hd c aM)
  have hmono:∀(l:av) (a:Nat),a≤l.foldl (fun a b=>a * 10+(b.toNat - 48)) a:=by
   intro l
   induction l with
   | nil=>intro a;exact Nat.le_refl _
   | cons x l ih=>intro a;exact Nat.le_trans (show a≤a * 10+(x.toNat - 48) by omega) (ih _)
  have h2:=hmono r (acc * 10+(c.toNat - 48))
  rw [List.foldl_cons] at hv ⊢
  unfold Lib.parseUint10
  rw [if_pos h1,if_neg ab,if_neg ab]
  exact akJ r _ (fun b hb=>hd b vZ) hv
def akK{n:Int}(h : -999999999≤n∧n≤999999999):Lib.atoiAll (itoa n) = .ok n:=by
 have hv:=Tr n.natAbs
 have hp:Lib.parseMag (Lib.decDigits n.natAbs) = .ok n.natAbs:=by
  unfold Lib.parseMag
  rw [if_neg (Ts _)]
  have:=akJ (Lib.decDigits n.natAbs) 0 (AO _) (by show yc _ < _;rw [hv];omega)
  rw [this]
  show Lib.NumEnd.ok (yc _)=_
  rw [hv]
 by_cases h0:n < 0
 ·rw [xF h0]
  simp only [Lib.atoiAll]
  rw [if_pos (Or.inr aj),hp]
  dsimp only
  rw [if_neg (by intro e;exact e.1 aj),if_neg ab,if_pos aj]
  congr 1;omega
 ·rw [rx h0]
  obtain ⟨b,r,e,hb⟩:=akI n.natAbs
  have hb:=Em.1 hb
  rw [e] at hp ⊢
  simp only [Lib.atoiAll]
  rw [if_neg ab,hp]
  dsimp only
  rw [if_neg ab,if_neg ab,if_neg ab]
  congr 1;omega
def ia(n:Int):Bool:=decide (-999999999≤n)&&decide (n≤999999999)
def yd{n:Int}:ia n=true ↔ -999999999≤n∧n≤999999999:=by simp [ia]
noncomputable def jV(s:av):Option Int:=nn ia itoa s
def Ke(s:av):Int:=match Lib.atoiAll s with | .ok v=>v|_=>0
def akL(n:Int)(h:ia n=true):Ke (itoa n)=n:=by unfold Ke;rw [akK (yd.1 h)]
def Kf{n:Int}(h:ia n=true):jV (itoa n)=some n:=AN akL h
def auZ{s:av}(h:∀v,Lib.atoiAll s ≠ .ok v):jV s=none:=by
 apply yb
 rintro n hn rfl
 exact h n (akK (yd.1 hn))
def au0{s:av}{v:Int}(h:Lib.atoiAll s = .ok v)(h2:¬(ia v=true∧itoa v=s)):jV s=none:=by
 refine oe akL ?_
 rw [show Ke s=v by unfold Ke;rw [h]];exact h2
def au1{s:av}{v:Int}(h1:ia v=true)(h2:itoa v=s):jV s=some v:=by rw [←h2];exact Kf h1
/- the reference's reading -/
def fR(l:av):Nat×Nat:=l.foldl (fun a b=>if og b then (a.1 * 10+(b.toNat - 48),a.2+1) else a) (0,0)
def Tt(l:av)(b:UInt8):fR (l++[b])=if og b then ((fR l).1 * 10+(b.toNat - 48),(fR l).2+1) else fR l:=by unfold fR;rw [List.foldl_append];rfl
def akM(l:av):(fR l).2≤l.length∧(fR l).1 < 10 ^ (fR l).2:=by
 induction l using At with
 | h0=>exact ⟨Nat.le_refl _,aj⟩
 | h1 l b ih=>
  rw [Tt]
  split
  ·rename_i h
   have:=Em.1 h
   refine ⟨iV,?_⟩
   show _ < 10 ^ ((fR l).2+1)
   rw [Nat.pow_succ];omega
  ·exact ⟨iV,ih.2⟩
def akN{l:av}(h:∀b∈l,og b=true):fR l=(yc l,l.length):=by
 induction l using At with
 | h0=>rfl
 | h1 l b ih=>
  rw [Tt,if_pos (h b aM),ih (fun x hx=>h x gC),akH]
  simp
def au2(l:av):fR (45::l)=fR l:=rfl
def pd(s:av):Int:=if s.head?=some 45 then -((fR (s.take 11)).1:Int) else ((fR (s.take 11)).1:Int)
def sa(s:av):Bool:=decide (9 < (fR (s.take 11)).2)||(decide (10 < s.length)||!(itoa (pd s)==s))
def akO(n:Int)(h:ia n=true):pd (itoa n)=n∧sa (itoa n)=false:=by
 have hl:=auY (yd.1 h)
 have ht:(itoa n).take 11=itoa n:=qG ab
 have hk:=Ek 8 n.natAbs (by have:=yd.1 h;omega)
 have hs:fR (itoa n)=(n.natAbs,(Lib.decDigits n.natAbs).length):=by
  by_cases h0:n < 0
  ·rw [xF h0,au2,akN (AO _),Tr]
  ·rw [rx h0,akN (AO _),Tr]
 have h1:pd (itoa n)=n:=by
  unfold pd
  rw [ht,hs]
  by_cases h0:n < 0
  ·rw [if_pos (by rw [xF h0];rfl)];simp;omega
  ·rw [if_neg]
   ·simp;omega
   ·rw [rx h0]
    obtain ⟨b,r,e,hb⟩:=akI n.natAbs
    rw [e]
    intro e
    simp at e
    rw [e] at hb
    exact absurd hb aj
 refine ⟨h1,?_⟩
 unfold sa
 rw [h1,ht,hs]
 simp
 omega
def au3{s:av}(h:sa s=true):jV s=none:=Tq (ok:=fun s=>!sa s) (fun n hn=>by rw [(akO n hn).2];rfl) (by rw [h];rfl)
def au4{s:av}(h:sa s=false):jV s=some (pd s):=by
 have h1:=h
 unfold sa at h1
 simp at h1
 have h2:=akM (s.take 11)
 have h3:10 ^ (fR (s.take 11)).2≤10 ^ 9:=Nat.pow_le_pow_right aj ab
 refine tZ (g:=pd) (fun n hn=>(akO n hn).1) (yd.2 ?_) h1.2.2
 unfold pd
 split<;>omega
noncomputable def gV(s:av):Bool:=(jV s).isSome
noncomputable def eL(s:av):Int:=(jV s).getD 0
noncomputable def er(s:av):Int:=(jV s).getD (-100000)
def En{n:Int}(h:ia n=true):gV (itoa n)=true:=by unfold gV;rw [Kf h];rfl
def qr{n:Int}(h:ia n=true):eL (itoa n)=n:=by unfold eL;rw [Kf h];rfl
def qt{n:Int}(h:ia n=true):er (itoa n)=n:=by unfold er;rw [Kf h];rfl
/- ---- parts of a text ---- -/
def aq(c:UInt8):av→List av
 | []=>[[]]
 | b::r=>if b=c then []::aq c r else (b::(aq c r).headD [])::(aq c r).tail
def vJ(c:UInt8)(s:av):aq c s≠[]:=by
 cases s with
 | nil=>simp [aq]
 | cons b r=>unfold aq;split<;>simp
def ua{c:UInt8}{a:av}(h:c∉a):aq c a=[a]:=by
 induction a with
 | nil=>rfl
 | cons b r ih=>
  unfold aq
  rw [if_neg (by rintro rfl;simp at h),ih (fun hx=>h gC)]
  rfl
def Tu(c:UInt8)(a b:av):aq c (a++c::b)=aq c a++aq c b:=by
 induction a with
 | nil=>simp [aq]
 | cons x r ih=>
  rw [List.cons_append]
  rw [aq,aq.eq_2 c x r]
  split
  ·rw [ih];rfl
  ·have h1:=vJ c r
   rw [ih]
   cases hh:aq c r with
   | nil=>exact absurd hh h1
   | cons y ys=>rfl
def akP(c b:UInt8)(s:av):aq c (s++[b])=if b=c then aq c s++[[]] else (aq c s).dropLast++[(aq c s).getLastD []++[b]]:=by
 split
 ·rename_i h;subst h
  have:=Tu b s []
  simpa [aq] using this
 ·rename_i h
  induction s with
  | nil=>simp [aq,h]
  | cons x r ih=>
   have h1:=vJ c r
   rw [List.cons_append]
   unfold aq
   rw [ih]
   cases hh:aq c r with
   | nil=>exact absurd hh h1
   | cons y ys=>
    split
    ·cases ys<;>simp
    ·cases ys with
     | nil=>simp
     | cons z zs=>simp
def qu{c:UInt8}{a b:av}(h:c∉a):aq c (a++c::b)=a::aq c b:=by rw [Tu,ua h];rfl
def akQ{c:UInt8}{ws:List av}(h0:ws≠[])(h:∀w∈ws,c∉w):aq c (ja ws [c])=ws:=by
 induction ws using At with
 | h0=>exact absurd rfl h0
 | h1 ws y ih=>
  rw [Au]
  split
  ·rename_i e;subst e;simp [ua (h y aM)]
  ·rename_i e
   rw [bB,List.singleton_append,Tu,ih e (fun w hw=>h w (by simp [hw])),ua (h y aM)]
/- the library's splitting is this one -/
def au5(c:UInt8)(s:av):(aq c s).length=s.count c+1:=by
 induction s with
 | nil=>rfl
 | cons b r ih=>
  unfold aq
  split
  ·rename_i h;subst h;simp [ih]
  ·rename_i h
   have h1:=vJ c r
   rw [List.count_cons_of_ne (fun e=>h e)]
   cases hh:aq c r with
   | nil=>exact absurd hh h1
   | cons y ys=>rw [hh] at ih;simpa using ih
def akR{c:UInt8}{a b:av}(h:c∉a):Lib.index (a++c::b) [c]=a.length:=by
 induction a with
 | nil=>unfold Lib.index;simp
 | cons x r ih=>
  rw [List.cons_append]
  unfold Lib.index
  rw [if_neg,ih (fun hx=>h gC)]
  ·rw [if_neg]
   ·simp
   ·intro e;have:=beq_iff_eq.1 e;omega
  ·simp;rintro rfl;simp at h
def au6{c:UInt8}{s:av}(h:c∈s):∃a b,s=a++c::b∧c∉a:=by
 induction s with
 | nil=>simp at h
 | cons x r ih=>
  by_cases e:x=c
  ·subst e;exact ⟨[],r,rfl,aM⟩
  ·obtain ⟨a,b,e1,e2⟩:=ih (by rcases List.mem_cons.1 h with h|h;exact absurd h.symm e;exact h)
   exact ⟨x::a,b,by rw [e1];rfl,by rintro hx;rcases List.mem_cons.1 hx with hx|hx;exact e hx.symm;exact e2 hx⟩
def akS(c:UInt8):∀(k:Nat) (s:av),s.count c=k→Lib.splitK [c] 0 k s=aq c s
 | 0,s,h=>by rw [ua (fun hx=>by have:=List.count_pos_iff.2 hx;omega)];rfl
 | k+1,s,h=>by
  have hm:c∈s:=List.count_pos_iff.1 ab
  obtain ⟨a,b,rfl,ha⟩:=au6 hm
  rw [qu ha]
  unfold Lib.splitK
  rw [akR ha,if_neg (by intro e;have:=beq_iff_eq.1 e;omega)]
  have hc:b.count c=k:=by
   rw [List.count_append,List.count_cons_self,List.count_eq_zero_of_not_mem ha] at h;omega
  have:=akS c k b hc
  simp [this]
end
/- ---- parts of printed texts ---- -/
def jW{n:Int}{c:UInt8}(h:El c=false):c∉itoa n:=by
 intro hc
 rw [auW n c hc] at h
 cases h
def Tv{l:List Int}{c:UInt8}(h:El c=false)(h2:c≠44):c∉eX l:=by
 unfold eX
 have:∀ws:List av,(∀w∈ws,c∉w)→c∉ja ws [44]:=by
  intro ws
  induction ws using At with
  | h0=>intro _;simp [ahS]
  | h1 ws y ih=>
   intro hw
   rw [Au]
   split
   ·exact hw y aM
   ·simp only [eS,List.mem_singleton,not_or]
    exact ⟨⟨ih (fun w hx=>hw w gC),h2⟩,hw y aM⟩
 refine this _ fun w hw=>?_
 obtain ⟨x,_,rfl⟩:=List.mem_map.1 hw
 exact jW h
def Tw{l:List Int}(h:l≠[]):aq 44 (eX l)=l.map itoa:=by
 unfold eX
 refine akQ ou fun w hw=>?_
 obtain ⟨x,_,rfl⟩:=List.mem_map.1 hw
 exact jW aj
noncomputable def qv(s:av):Bool:=(aq 44 s).all gV
noncomputable def ub(s:av):List Int:=if qv s then (aq 44 s).map eL else []
noncomputable def AP(s:av):List Int:=(aq 44 s).map er
def Tx{l:List Int}(h:l≠[])(h2:∀x∈l,ia x=true):qv (eX l)=true:=by
 unfold qv
 rw [Tw h,lQ]
 intro w hw
 obtain ⟨x,hx,rfl⟩:=List.mem_map.1 hw
 exact En (h2 x hx)
def au7{l:List Int}(h2:∀x∈l,ia x=true):(l.map itoa).map eL=l:=by
 rw [List.map_map]
 conv=>rhs;rw [←List.map_id l]
 exact List.map_congr_left fun x hx=>qr (h2 x hx)
def au8{l:List Int}(h2:∀x∈l,ia x=true):(l.map itoa).map er=l:=by
 rw [List.map_map]
 conv=>rhs;rw [←List.map_id l]
 exact List.map_congr_left fun x hx=>qt (h2 x hx)
def akT{l:List Int}(h:l≠[])(h2:∀x∈l,ia x=true):ub (eX l)=l:=by
 unfold ub
 rw [if_pos (Tx h h2),Tw h,au7 h2]
def akU{l:List Int}(h:l≠[])(h2:∀x∈l,ia x=true):AP (eX l)=l:=by
 unfold AP
 rw [Tw h,au8 h2]
def fv(s p:av):av:=(Lib.cut s p).1
def io(s p:av):av:=(Lib.cut s p).2.1
def AQ{c:UInt8}{a b:av}(h:c∉a):fv (a++c::b) [c]=a∧io (a++c::b) [c]=b:=by
 unfold fv io Lib.cut
 rw [akR h,if_pos ab]
 simp
def au9{c:UInt8}{a b:av}(h:c∉a):Lib.index (a++c::c::b) [c,c]=a.length:=by
 induction a with
 | nil=>unfold Lib.index;simp
 | cons x r ih=>
  rw [List.cons_append]
  unfold Lib.index
  rw [if_neg,ih (fun hx=>h gC)]
  ·rw [if_neg]
   ·simp
   ·intro e;have:=beq_iff_eq.1 e;omega
  ·simp;rintro rfl;simp at h
def ava{c:UInt8}{a b:av}(h:c∉a):fv (a++c::c::b) [c,c]=a∧io (a++c::c::b) [c,c]=b:=by
 unfold fv io Lib.cut
 rw [au9 h,if_pos ab]
 simp
def lb{n:Int}(a : -999999999≤n)(b:n≤999999999):ia n=true:=yd.2 ⟨a,b⟩
/- ---- rows ---- -/
def akV{r:Row}(h:bM r=true):(0≤r.Id∧r.Id≤999)∧r.Values≠[]∧r.Values.length=3∧∀x∈r.Values,ia x=true:=by
 obtain ⟨a,b,c,d⟩:=Eg h
 refine ⟨⟨a,b⟩,by rintro e;rw [e] at c;simp at c,c,fun x hx=>?_⟩
 unfold bM at h
 simp only [aX] at h
 have:=List.all_eq_true.1 h.1 x hx
 simp [me,aK] at this
 exact lb ab ab
noncomputable def oh(s:av):Row:=⟨eL (fv s [58]),ub (io s [58])⟩
noncomputable def Kg(s:av):Bool:=gV (fv s [58])&&qv (io s [58])
noncomputable def lL(s:av):Row:=⟨er ((aq 58 s).getD 0 []),if (aq 58 s).length=2 then AP ((aq 58 s).getD 1 []) else []⟩
noncomputable def iU(s:av):Option Row:=nn bM fQ s
def Ty{r:Row}(h:bM r=true):fQ r=itoa r.Id++58::eX r.Values:=by unfold fQ;rw [if_pos h];simp
def avb{r:Row}(h:fQ r≠[]):bM r=true:=by
 cases e:bM r with
 | true=>rfl
 | false=>exact absurd (by unfold fQ;rw [if_neg yo]) h
def avc{r:Row}(h:bM r=true):fQ r≠[]:=by rw [Ty h];simp
def Kh(r:Row)(h:bM r=true):oh (fQ r)=r∧Kg (fQ r)=true:=by
 obtain ⟨⟨a,b⟩,c,d,e⟩:=akV h
 have hc:=AQ (c:=58) (a:=itoa r.Id) (b:=eX r.Values) (jW aj)
 have hn:=lb (n:=r.Id) ab ab
 unfold oh Kg
 rw [Ty h,hc.1,hc.2,qr hn,akT c e,En hn,Tx c e]
 exact ⟨rfl,rfl⟩
def Tz(r:Row)(h:bM r=true):lL (fQ r)=r:=by
 obtain ⟨⟨a,b⟩,c,d,e⟩:=akV h
 have hs:aq 58 (fQ r)=[itoa r.Id,eX r.Values]:=by
  rw [Ty h,qu (jW aj),ua (Tv aj aj)]
 unfold lL
 rw [hs]
 show (⟨er (itoa r.Id),AP (eX r.Values)⟩:Row)=r
 rw [qt (lb ab ab),akU c e]
def pf:Row:=⟨0,[]⟩
def avd{s:av}(h:Kg s=false∨bM (oh s)=false∨fQ (oh s)≠s):iU s=none:=by
 rcases h with h|h|h
 ·exact Tq (fun r hr=>(Kh r hr).2) h
 ·exact oe (g:=oh) (fun r hr=>(Kh r hr).1) iF
 ·exact oe (g:=oh) (fun r hr=>(Kh r hr).1) (fun e=>h e.2)
def ave{s:av}(h1:bM (oh s)=true)(h2:fQ (oh s)=s):iU s=some (oh s):=tZ (g:=oh) (fun r hr=>(Kh r hr).1) h1 h2
def akW{s:av}(h:s=[]∨fQ (lL s)≠s):iU s=none:=by
 rcases h with h|h
 ·exact yb fun r hr e=>avc hr (e.trans h)
 ·exact oe (g:=lL) Tz (fun e=>h e.2)
def akX{s:av}(h1:s≠[])(h2:fQ (lL s)=s):iU s=some (lL s):=tZ (g:=lL) Tz (avb Lh) h2
/- ---- a number behind a letter ---- -/
def Eo(s p:av):Bool:=p.isPrefixOf s
def qw(s p:av):av:=if p.isPrefixOf s then s.drop p.length else s
noncomputable def sb(c:UInt8)(w:av):Int:=eL (qw w [c])
noncomputable def sd(c:UInt8)(w:av):Bool:=Eo w [c]&&gV (qw w [c])
noncomputable def jX(c:UInt8)(w:av):Int:=if w.length < 2∨w.head?≠some c then -100000 else er (w.drop 1)
def Ki{c:UInt8}{n:Int}(h:ia n=true):sb c (c::itoa n)=n∧sd c (c::itoa n)=true∧jX c (c::itoa n)=n:=by
 have h1:=auX n
 have h2:(itoa n).length≠0:=Ff
 refine ⟨?_,?_,?_⟩
 ·unfold sb qw;rw [if_pos aM];exact qr h
 ·unfold sd Eo qw;rw [if_pos aM];simp [En h]
 ·unfold jX;rw [if_neg iV];exact qt h
/- ---- updates ---- -/
def dH:ax6:=⟨0,pf,0,0⟩
noncomputable def np(s:av):ax6:=
 if (aq 32 s).getD 0 []=([105,110,115,101,114,116]:av)∧(aq 32 s).length=2 then ⟨1,(iU ((aq 32 s).getD 1 [])).getD pf,0,0⟩
 else if (aq 32 s).getD 0 []=([100,101,108,101,116,101]:av)∧(aq 32 s).length=2 then ⟨2,⟨eL ((aq 32 s).getD 1 []),[]⟩,0,0⟩
 else if (aq 32 s).getD 0 []=([115,101,116]:av)∧(aq 32 s).length=4 then ⟨3,⟨eL ((aq 32 s).getD 1 []),[]⟩,sb 102 ((aq 32 s).getD 2 []),eL ((aq 32 s).getD 3 [])⟩
 else dH
noncomputable def iB(s:av):ax6:=
 if (aq 32 s).length=2∧(aq 32 s).getD 0 []=([105,110,115,101,114,116]:av) then ⟨1,(iU ((aq 32 s).getD 1 [])).getD pf,0,0⟩
 else if (aq 32 s).length=2 then ⟨2,⟨er ((aq 32 s).getD 1 []),[]⟩,0,0⟩
 else if (aq 32 s).length=4 then ⟨3,⟨er ((aq 32 s).getD 1 []),[]⟩,jX 102 ((aq 32 s).getD 2 []),er ((aq 32 s).getD 3 [])⟩
 else dH
noncomputable def fS(s:av):Option ax6:=nn dK fF s
def avf{r:Row}:(32:UInt8)∉fQ r:=by
 unfold fQ
 split
 ·simp only [eS,not_or]
  exact ⟨⟨jW aj,aj⟩,Tv aj aj⟩
 ·simp
def Kj{u:ax6}(h:dK u=true) :
  (∃r,bM r=true∧u=⟨1,r,0,0⟩∧fF u=([105,110,115,101,114,116]:av)++32::fQ r) ∨
  (∃n:Int,0≤n∧n≤999∧u=⟨2,⟨n,[]⟩,0,0⟩∧fF u=([100,101,108,101,116,101]:av)++32::itoa n) ∨
  (∃n f v:Int,(0≤n∧n≤999)∧(0≤f∧f≤2)∧(0≤v∧v≤99)∧u=⟨3,⟨n,[]⟩,f,v⟩∧fF u=([115,101,116]:av)++32::(itoa n++32::(102::itoa f++32::itoa v))):=by
 have h':=h
 obtain ⟨k,⟨i,vs⟩,f,v⟩:=u
 unfold dK at h
 dsimp only at h
 split at h
 ·rename_i hk
  subst hk
  simp only [aX,decide_eq_true_eq] at h
  obtain ⟨h1,rfl,rfl⟩:=h
  refine Or.inl ⟨⟨i,vs⟩,h1,rfl,?_⟩
  unfold fF
  rw [if_pos h',if_pos rfl]
  rfl
 ·split at h
  ·rename_i hk
   subst hk
   simp [pS,aK] at h
   obtain ⟨⟨⟨h1,h2⟩,rfl⟩,rfl,rfl⟩:=h
   refine Or.inr (Or.inl ⟨i,h1,h2,rfl,?_⟩)
   unfold fF
   rw [if_pos h',if_neg aM,if_pos rfl]
   rfl
  ·split at h
   ·rename_i hk
    subst hk
    simp [pS,aK] at h
    obtain ⟨⟨⟨h1,h2⟩,rfl⟩,⟨h3,h4⟩,h5,h6⟩:=h
    refine Or.inr (Or.inr ⟨i,f,v,⟨h1,h2⟩,⟨h3,h4⟩,⟨h5,h6⟩,rfl,?_⟩)
    unfold fF
    rw [if_pos h',if_neg aM,if_neg aM]
    simp [bB]
   ·cases h
def avg{r:Row}(h:bM r=true):iU (fQ r)=some r:=AN (g:=lL) Tz h
def AR(u:ax6)(h:dK u=true):np (fF u)=u∧iB (fF u)=u:=by
 rcases Kj h with ⟨r,h1,rfl,e⟩|⟨n,h1,h2,rfl,e⟩|⟨n,f,v,⟨h1,h2⟩,⟨h3,h4⟩,⟨h5,h6⟩,rfl,e⟩
 ·have hs:aq 32 (([105,110,115,101,114,116]:av)++32::fQ r)=[([105,110,115,101,114,116]:av),fQ r]:=by rw [qu aj,ua avf]
  unfold np iB
  rw [e,hs]
  have:=avg h1
  simp [this]
 ·have hs:aq 32 (([100,101,108,101,116,101]:av)++32::itoa n)=[([100,101,108,101,116,101]:av),itoa n]:=by rw [qu aj,ua (jW aj)]
  have hn:=lb (n:=n) ab ab
  unfold np iB
  rw [e,hs]
  simp [qr hn,qt hn]
 ·have hs:aq 32 (([115,101,116]:av)++32::(itoa n++32::(102::itoa f++32::itoa v)))=[([115,101,116]:av),itoa n,102::itoa f,itoa v]:=by
   rw [qu aj,qu (jW aj),qu,ua (jW aj)]
   intro hx
   rcases List.mem_cons.1 hx with hx|hx
   ·exact absurd hx aj
   ·exact jW aj hx
  have hn:=lb (n:=n) ab ab
  have hf:=Ki (c:=102) (lb (n:=f) ab ab)
  have hv:=lb (n:=v) ab ab
  unfold np iB
  rw [e,hs]
  simp [qr hn,qt hn,qr hv,qt hv,hf]
def akY{u:ax6}(h:dK u=true):fF u≠[]:=by
 rcases Kj h with ⟨r,h1,rfl,e⟩|⟨n,h1,h2,rfl,e⟩|⟨n,f,v,⟨h1,h2⟩,⟨h3,h4⟩,⟨h5,h6⟩,rfl,e⟩<;>rw [e]<;>simp
def avh{u:ax6}(h:fF u≠[]):dK u=true:=by
 cases e:dK u with
 | true=>rfl
 | false=>exact absurd (by unfold fF;rw [if_neg yo]) h
def avi{u:ax6}(h:dK u=true):fS (fF u)=some u:=AN (g:=np) (fun u hu=>(AR u hu).1) h
def avj{s:av}(h:dK (np s)=false∨fF (np s)≠s):fS s=none:=by
 rcases h with h|h
 ·exact oe (g:=np) (fun u hu=>(AR u hu).1) iF
 ·exact oe (g:=np) (fun u hu=>(AR u hu).1) (fun e=>h e.2)
def avk{s:av}(h1:dK (np s)=true)(h2:fF (np s)=s):fS s=some (np s):=tZ (g:=np) (fun u hu=>(AR u hu).1) h1 h2
def akZ{s:av}(h:s=[]∨fF (iB s)≠s):fS s=none:=by
 rcases h with h|h
 ·exact yb fun r hr e=>akY hr (e.trans h)
 ·exact oe (g:=iB) (fun u hu=>(AR u hu).2) (fun e=>h e.2)
def ak0{s:av}(h1:s≠[])(h2:fF (iB s)=s):fS s=some (iB s):=tZ (g:=iB) (fun u hu=>(AR u hu).2) (avh Lh) h2
/- ---- queries ---- -/
def fa:ax4:=⟨0,0,[],[]⟩
noncomputable def Kk(ws:List av)(j:Nat):fC:=⟨sb 102 (ws.getD (2+2 * j) []),eL (fv (ws.getD (3+2 * j) []) [46,46]),eL (io (ws.getD (3+2 * j) []) [46,46])⟩
noncomputable def ye(ws:List av)(j:Nat):Bool:=sd 102 (ws.getD (2+2 * j) [])&&(gV (fv (ws.getD (3+2 * j) []) [46,46])&&gV (io (ws.getD (3+2 * j) []) [46,46]))
noncomputable def vK(ws:List av)(k:Nat):List fC:=(List.range k).map (Kk ws)
noncomputable def mC(ws:List av):ax4:=⟨sb 113 (ws.getD 0 []),sb 116 (ws.getD 1 []),vK ws ((ws.length - 4) / 2),ub (ws.getD (ws.length - 1) [])⟩
noncomputable def Kl(ws:List av):Bool:=sd 113 (ws.getD 0 [])&&(sd 116 (ws.getD 1 [])&&qv (ws.getD (ws.length - 1) []))
noncomputable def vL(ws:List av)(k:Nat):Bool:=Kl ws&&(List.range k).all (ye ws)
noncomputable def AS(ws:List av):Bool:=decide (4≤ws.length∧ws.length%2=0∧ws.length≤10)&&vL ws ((ws.length - 4) / 2)
def avl(ws:List av)(k:Nat):vK ws (k+1)=vK ws k++[Kk ws k]:=by unfold vK;rw [List.range_succ,bK];rfl
def avm(ws:List av)(k:Nat):vL ws (k+1)=(vL ws k&&ye ws k):=by unfold vL;rw [List.range_succ,List.all_append];simp [Bool.and_assoc]
def TA(ws:List av)(k:Nat):(vK ws k).length=k:=by unfold vK;simp
def nq(w:av)(i:Nat):Bool:=(w.drop i).take 2==[46,46]
def Ep(w:av):Option Nat:=(List.range (w.length - 1)).find? (nq w)
noncomputable def uc(w:av):Int×Int:=match Ep w with|some i=>(er (w.take i),er (w.drop (i+2)))|none=>(-100000,-100000)
noncomputable def Km(ws:List av)(j:Nat):fC:=⟨jX 102 (ws.getD (2+2 * j) []),(uc (ws.getD (3+2 * j) [])).1,(uc (ws.getD (3+2 * j) [])).2⟩
noncomputable def ud(ws:List av)(k:Nat):List fC:=(List.range k).map (Km ws)
noncomputable def se(ws:List av):ax4:=⟨jX 113 (ws.getD 0 []),jX 116 (ws.getD 1 []),ud ws ((ws.length - 4) / 2),AP (ws.getD (ws.length - 1) [])⟩
def avn(ws:List av)(k:Nat):ud ws (k+1)=ud ws k++[Km ws k]:=by unfold ud;rw [List.range_succ,bK];rfl
def avo(ws:List av)(k:Nat):(ud ws k).length=k:=by unfold ud;simp
def ak1{w:av}{k:Nat}(h0:k+1 < w.length)(h1:∀j,j < k→nq w j=false)(h2:nq w k=true):uc w=(er (w.take k),er (w.drop (k+2))):=by
 have:Ep w=some k:=by
  unfold Ep
  rw [List.find?_range_eq_some]
  exact ⟨h2,List.mem_range.2 ab,fun j hj=>by rw [h1 j hj];rfl⟩
 unfold uc
 rw [this]
def avp{w:av}(h1:∀j,j+1 < w.length→nq w j=false):uc w=(-100000,-100000):=by
 have:Ep w=none:=by
  unfold Ep
  rw [List.find?_eq_none]
  intro j hj
  rw [h1 j (by have:=List.mem_range.1 hj;omega)];simp
 unfold uc
 rw [this]
def avq{a b:av}(ha:(46:UInt8)∉a):uc (a++46::46::b)=(er a,er b):=by
 have:=ak1 (w:=a++46::46::b) (k:=a.length) aM (fun j hj=>?_) (by unfold nq;simp)
 ·rw [this,List.take_append_of_le_length (Nat.le_refl _),cJ,show a++46::46::b=(a++[46,46])++b by simp,List.drop_append_of_le_length aM,List.drop_eq_nil_of_le aM];rfl
 ·unfold nq
  rw [Bool.eq_false_iff]
  intro e
  have e:=beq_iff_eq.1 e
  rw [List.drop_append_of_le_length ab,List.drop_eq_getElem_cons hj,List.cons_append,List.take_succ_cons] at e
  injection e with e1 e2
  exact ha (e1▸List.getElem_mem hj)
def ak2{q:ax4}(h:bN q=true):ia q.Id=true∧ia q.ax8=true∧q.Out≠[]∧(∀x∈q.Out,ia x=true)∧q.ax5.length≤3∧∀k,(hk:k < q.ax5.length)→ia q.ax5[k].Field=true∧ia q.ax5[k].Low=true∧ia q.ax5[k].High=true:=by
 obtain ⟨a1,a2,a3,a4,a5,a6,a7,a8⟩:=ya h
 have ho:=Tm h
 have ho1:1≤q.Out.length:=by
  have h':=h
  unfold bN nP at h'
  simp only [aX,aK,decide_eq_true_eq] at h'
  omega
 refine ⟨lb ab ab,lb ab ab,by rintro e;rw [e] at ho1;simp at ho1,fun x hx=>?_,a5,fun k hk=>?_⟩
 ·have:=ho.2 x hx
  exact lb ab ab
 ·have:=a8 k hk
  exact ⟨lb ab ab,lb ab ab,lb ab ab⟩
def lf(q:ax4):List av:=im q q.ax5.length++[[111,117,116],eX q.Out]
def avr{c:fC}:∀w∈la c,(32:UInt8)∉w:=by
 intro w hw
 unfold la at hw
 rcases List.mem_cons.1 hw with rfl|hw
 ·simp only [eS,not_or];exact ⟨aj,jW aj⟩
 ·rw [List.mem_singleton] at hw;subst hw
  simp only [eS,not_or];exact ⟨⟨jW aj,aj⟩,jW aj⟩
def avs(q:ax4):∀w∈lf q,(32:UInt8)∉w:=by
 intro w hw
 unfold lf im at hw
 rcases List.mem_append.1 hw with hw|hw
 ·rcases List.mem_append.1 hw with hw|hw
  ·rcases List.mem_cons.1 hw with rfl|hw
   ·simp only [eS,not_or];exact ⟨aj,jW aj⟩
   ·rw [List.mem_singleton] at hw;subst hw
    simp only [eS,not_or];exact ⟨aj,jW aj⟩
  ·obtain ⟨c,_,hc⟩:=List.mem_flatMap.1 hw
   exact avr w hc
 ·rcases List.mem_cons.1 hw with rfl|hw
  ·decide
  ·rw [List.mem_singleton] at hw;subst hw
   exact Tv aj aj
def ak3{q:ax4}(h:bN q=true):aq 32 (eE q)=lf q:=by
 unfold eE
 rw [if_pos h]
 exact akQ aM (avs q)
def TB(q:ax4):(lf q).length=4+2 * q.ax5.length:=by
 unfold lf
 rw [bJ,Ei]
 simp;omega
def ak4:∀(l:List fC) (k:Nat) (hk:k < l.length),(l.flatMap la).getD (2 * k) []=[102]++itoa l[k].Field∧(l.flatMap la).getD (2 * k+1) []=itoa l[k].Low++[46,46]++itoa l[k].High
 | c::r,0,_=>by simp [la]
 | c::r,k+1,hk=>by
  have:=ak4 r k (by simpa using hk)
  simpa [la,Nat.mul_succ] using this
def avt(l:List fC):(l.flatMap la).length=2 * l.length:=by
 induction l with
 | nil=>rfl
 | cons c r ih=>rw [List.flatMap_cons,bJ,ih];simp [la];omega
def ak5{q:ax4}:(lf q).getD 0 []=113::itoa q.Id∧(lf q).getD 1 []=116::itoa q.ax8∧(lf q).getD (3+2 * q.ax5.length) []=eX q.Out∧∀k,(hk:k < q.ax5.length)→(lf q).getD (2+2 * k) []=102::itoa q.ax5[k].Field∧(lf q).getD (3+2 * k) []=itoa q.ax5[k].Low++46::46::itoa q.ax5[k].High:=by
 have hl:=avt q.ax5
 have e:lf q=(113::itoa q.Id)::(116::itoa q.ax8)::(q.ax5.flatMap la++[[111,117,116],eX q.Out]):=by
  unfold lf im
  rw [cJ]
  simp
 rw [e]
 refine ⟨rfl,rfl,?_,fun k hk=>?_⟩
 ·rw [show 3+2 * q.ax5.length=(q.ax5.flatMap la).length+1+1+1 by omega,List.getD_cons_succ,List.getD_cons_succ]
  simp [List.getD_eq_getElem?_getD,List.getElem?_append_right]
 ·have:=ak4 q.ax5 k hk
  rw [show 2+2 * k=2 * k+1+1 by omega,show 3+2 * k=2 * k+1+1+1 by omega,List.getD_cons_succ,List.getD_cons_succ,List.getD_cons_succ,List.getD_cons_succ]
  have gl:∀(xs ys:List av) (i:Nat),i < xs.length→(xs++ys).getD i []=xs.getD i []:=fun xs ys i hi=>by rw [List.getD_eq_getElem?_getD,List.getElem?_append_left hi,←List.getD_eq_getElem?_getD]
  rw [gl _ _ _ ab,gl _ _ _ ab]
  rw [this.1,this.2]
  simp
def TC{q:ax4}(h:bN q=true){k:Nat}(hk:k < q.ax5.length):Kk (lf q) k=q.ax5[k]∧ye (lf q) k=true∧Km (lf q) k=q.ax5[k]:=by
 obtain ⟨a1,a2,a3,a4,a5,a6⟩:=ak2 h
 obtain ⟨b1,b2,b3,b4⟩:=ak5 (q:=q)
 obtain ⟨c1,c2⟩:=b4 k hk
 obtain ⟨d1,d2,d3⟩:=a6 k hk
 have hc:=ava (c:=46) (a:=itoa q.ax5[k].Low) (b:=itoa q.ax5[k].High) (jW aj)
 have hr:=avq (a:=itoa q.ax5[k].Low) (b:=itoa q.ax5[k].High) (jW aj)
 obtain ⟨e1,e2,e3⟩:=Ki (c:=102) d1
 unfold Kk ye Km
 rw [c1,c2,hc.1,hc.2,hr,e1,e2,e3,qr d2,qr d3,En d2,En d3]
 dsimp only
 rw [qt d2,qt d3]
 exact ⟨rfl,rfl,rfl⟩
def ak6{l:List fC}{f:Nat→fC}(h:∀k,(hk:k < l.length)→f k=l[k]):(List.range l.length).map f=l:=by
 apply List.ext_getElem
 ·simp
 ·intro i h1 h2
  simp [h i h2]
def TD(q:ax4)(h:bN q=true):mC (aq 32 (eE q))=q∧AS (aq 32 (eE q))=true∧se (aq 32 (eE q))=q:=by
 obtain ⟨a1,a2,a3,a4,a5,a6⟩:=ak2 h
 obtain ⟨b1,b2,b3,b4⟩:=ak5 (q:=q)
 have hl:=TB q
 have hk:((lf q).length - 4) / 2=q.ax5.length:=ab
 have h1:(lf q).length - 1=3+2 * q.ax5.length:=ab
 obtain ⟨d1,d2,d3⟩:=Ki (c:=113) a1
 obtain ⟨e1,e2,e3⟩:=Ki (c:=116) a2
 rw [ak3 h]
 refine ⟨?_,?_,?_⟩
 ·unfold mC vK
  rw [hk,h1,b1,b2,b3,d1,e1,akT a3 a4,ak6 fun k hk=>(TC h hk).1]
 ·unfold AS vL Kl
  rw [hk,h1,b1,b2,b3,d2,e2,Tx a3 a4,hl]
  simp only [aX,decide_eq_true_eq,lQ,List.mem_range]
  refine ⟨ab,aM,fun k hk=>(TC h hk).2.1⟩
 ·unfold se ud
  rw [hk,h1,b1,b2,b3,d3,e3,akU a3 a4,ak6 fun k hk=>(TC h hk).2.2]
noncomputable def fT(s:av):Option ax4:=nn bN eE s
def avu{q:ax4}(h:eE q≠[]):bN q=true:=by
 cases e:bN q with
 | true=>rfl
 | false=>exact absurd (by unfold eE;rw [if_neg yo]) h
def Kn(q:ax4)(h:bN q=true):(fun s=>mC (aq 32 s)) (eE q)=q:=(TD q h).1
def ak7(q:ax4)(h:bN q=true):(fun s=>se (aq 32 s)) (eE q)=q:=(TD q h).2.2
def ak8{q:ax4}(h:bN q=true):fT (eE q)=some q:=AN (g:=fun s=>mC (aq 32 s)) Kn h
def ak9{s:av}(h:AS (aq 32 s)=false∨bN (mC (aq 32 s))=false∨eE (mC (aq 32 s))≠s):fT s=none:=by
 rcases h with h|h|h
 ·exact Tq (ok:=fun s=>AS (aq 32 s)) (fun q hq=>(TD q hq).2.1) h
 ·exact oe (g:=fun s=>mC (aq 32 s)) Kn iF
 ·exact oe (g:=fun s=>mC (aq 32 s)) Kn (fun e=>h e.2)
def avv{s:av}(h1:bN (mC (aq 32 s))=true)(h2:eE (mC (aq 32 s))=s):fT s=some (mC (aq 32 s)):=tZ (g:=fun s=>mC (aq 32 s)) Kn h1 h2
def avw{s:av}(h:(aq 32 s).length < 4):fT s=none:=by
 refine yb fun q hq e=>?_
 have h1:=ak3 hq
 rw [e] at h1
 have h2:=TB q
 rw [←h1] at h2
 omega
def avx{s:av}(h:eE (se (aq 32 s))≠s):fT s=none:=oe (g:=fun s=>se (aq 32 s)) ak7 (fun e=>h e.2)
def avy{s:av}(h0:4≤(aq 32 s).length)(h2:eE (se (aq 32 s))=s):fT s=some (se (aq 32 s)):=
 tZ (g:=fun s=>se (aq 32 s)) ak7 (avu (by rw [h2];rintro rfl;simp [aq] at h0)) h2
/- ---- events ---- -/
def dN:cZ:=⟨0,fa,0,0,dH,0⟩
noncomputable def eM(s:av):cZ:=
 if fv s [32]=([97,100,109,105,116]:av) then ⟨1,(fT (io (io s [32]) [32])).getD fa,eL (fv (io s [32]) [32]),0,dH,0⟩
 else if fv s [32]=([99,97,110,99,101,108]:av) then ⟨2,fa,0,eL (io s [32]),dH,0⟩
 else if fv s [32]=([115,116,101,112]:av) then ⟨4,fa,0,0,dH,eL (io s [32])⟩
 else ⟨3,fa,0,0,(fS s).getD dH,0⟩
noncomputable def fG(s:av):cZ:=
 if 2 < (aq 32 s).length∧(aq 32 s).getD 0 []=([97,100,109,105,116]:av) then ⟨1,(fT (s.drop (((aq 32 s).getD 0 []).length+((aq 32 s).getD 1 []).length+2))).getD fa,er ((aq 32 s).getD 1 []),0,dH,0⟩
 else if (aq 32 s).length=2∧(aq 32 s).getD 0 []=([99,97,110,99,101,108]:av) then ⟨2,fa,0,er ((aq 32 s).getD 1 []),dH,0⟩
 else if (aq 32 s).length=2∧(aq 32 s).getD 0 []=([115,116,101,112]:av) then ⟨4,fa,0,0,dH,er ((aq 32 s).getD 1 [])⟩
 else ⟨3,fa,0,0,(fS s).getD dH,0⟩
noncomputable def cr(s:av):Option cZ:=nn dE eo s
def TE{q:ax4}:nQ q=true↔q=fa:=by rw [←Dy,fZ];exact Iff.rfl
def Ko{u:ax6}:nR u=true↔u=dH:=by rw [←Dz,fZ];exact Iff.rfl
def TF{x:cZ}(h:dE x=true) :
  (∃(q:ax4) (n:Int),bN q=true∧0≤n∧n≤32∧x=⟨1,q,n,0,dH,0⟩∧eo x=([97,100,109,105,116]:av)++32::(itoa n++32::eE q)) ∨
  (∃n:Int,0≤n∧n≤23∧x=⟨2,fa,0,n,dH,0⟩∧eo x=([99,97,110,99,101,108]:av)++32::itoa n) ∨
  (∃u:ax6,dK u=true∧x=⟨3,fa,0,0,u,0⟩∧eo x=fF u) ∨
  (∃n:Int,1≤n∧n≤100∧x=⟨4,fa,0,0,dH,n⟩∧eo x=([115,116,101,112]:av)++32::itoa n):=by
 have h':=h
 obtain ⟨k,q,l,i,u,n⟩:=x
 unfold dE at h
 dsimp only at h
 split at h
 ·rename_i hk
  subst hk
  simp only [aX,decide_eq_true_eq,aK,Ko] at h
  obtain ⟨h1,⟨h2,h3⟩,rfl,rfl,rfl⟩:=h
  refine Or.inl ⟨q,l,h1,h2,h3,rfl,?_⟩
  unfold eo
  rw [if_pos h',if_pos rfl]
  simp
 ·split at h
  ·rename_i hk
   subst hk
   simp only [aX,decide_eq_true_eq,aK,Ko,TE] at h
   obtain ⟨rfl,rfl,⟨h2,h3⟩,rfl,rfl⟩:=h
   refine Or.inr (Or.inl ⟨i,h2,h3,rfl,?_⟩)
   unfold eo
   rw [if_pos h',if_neg aM,if_pos rfl]
   simp
  ·split at h
   ·rename_i hk
    subst hk
    simp only [aX,decide_eq_true_eq,aK,Ko,TE] at h
    obtain ⟨rfl,rfl,rfl,h1,rfl⟩:=h
    refine Or.inr (Or.inr (Or.inl ⟨u,h1,rfl,?_⟩))
    unfold eo
    rw [if_pos h',if_neg aM,if_neg aM,if_pos rfl]
   ·split at h
    ·rename_i hk
     subst hk
     simp only [aX,decide_eq_true_eq,aK,Ko,TE] at h
     obtain ⟨rfl,rfl,rfl,rfl,h2,h3⟩:=h
     refine Or.inr (Or.inr (Or.inr ⟨n,h2,h3,rfl,?_⟩))
     unfold eo
     rw [if_pos h',if_neg aM,if_neg aM,if_neg aM]
     simp
    ·cases h
def avz{u:ax6}(h:dK u=true):∃a b,fF u=a++32::b∧(32:UInt8)∉a∧a≠([97,100,109,105,116]:av)∧a≠([99,97,110,99,101,108]:av)∧a≠([115,116,101,112]:av):=by
 rcases Kj h with ⟨r,h1,rfl,e⟩|⟨n,h1,h2,rfl,e⟩|⟨n,f,v,⟨h1,h2⟩,⟨h3,h4⟩,⟨h5,h6⟩,rfl,e⟩<;>exact ⟨_,_,e,aj,aj,aj,aj⟩
def AT(x:cZ)(h:dE x=true):eM (eo x)=x∧fG (eo x)=x:=by
 rcases TF h with ⟨q,n,h1,h2,h3,rfl,e⟩|⟨n,h2,h3,rfl,e⟩|⟨u,h1,rfl,e⟩|⟨n,h2,h3,rfl,e⟩
 ·have hn:=lb (n:=n) ab ab
  have hc:=AQ (c:=32) (a:=([97,100,109,105,116]:av)) (b:=itoa n++32::eE q) aj
  have hc2:=AQ (c:=32) (a:=itoa n) (b:=eE q) (jW aj)
  have hs:aq 32 (([97,100,109,105,116]:av)++32::(itoa n++32::eE q))=([97,100,109,105,116]:av)::itoa n::aq 32 (eE q):=by rw [qu aj,qu (jW aj)]
  have hd:(([97,100,109,105,116]:av)++32::(itoa n++32::eE q)).drop (([97,100,109,105,116]:av).length+(itoa n).length+2)=eE q:=by
   rw [show ([97,100,109,105,116]:av)++32::(itoa n++32::eE q)=(([97,100,109,105,116]:av)++32::itoa n++[32])++eE q by simp]
   rw [List.drop_append_of_le_length iV,List.drop_eq_nil_of_le iV];rfl
  have hne:=vJ 32 (eE q)
  have hl:(aq 32 (eE q)).length≠0:=by simpa using hne
  rw [e]
  constructor
  ·unfold eM
   rw [hc.1,hc.2,hc2.1,hc2.2,if_pos rfl,ak8 h1,qr hn];rfl
  ·unfold fG
   rw [hs,if_pos ⟨iV,rfl⟩]
   show (⟨1,(fT (List.drop (([97,100,109,105,116]:av).length+(itoa n).length+2) _)).getD fa,er (itoa n),0,dH,0⟩:cZ)=_
   rw [hd,ak8 h1,qt hn];rfl
 ·have hn:=lb (n:=n) ab ab
  have hc:=AQ (c:=32) (a:=([99,97,110,99,101,108]:av)) (b:=itoa n) aj
  have hs:aq 32 (([99,97,110,99,101,108]:av)++32::itoa n)=[([99,97,110,99,101,108]:av),itoa n]:=Vw
  rw [e]
  unfold eM fG
  rw [hc.1,hc.2,hs,qr hn]
  simp [qt hn]
 ·obtain ⟨a,b,e1,e2,e3,e4,e5⟩:=avz h1
  have hu:=avi h1
  rw [e]
  rw [e1] at hu ⊢
  have hc:=AQ (c:=32) (a:=a) (b:=b) e2
  have hs:(aq 32 (a++32::b)).getD 0 []=a:=by rw [qu e2];rfl
  unfold eM fG
  rw [hc.1,hs,hu]
  simp [e3,e4,e5]
 ·have hn:=lb (n:=n) ab ab
  have hc:=AQ (c:=32) (a:=([115,116,101,112]:av)) (b:=itoa n) aj
  have hs:aq 32 (([115,116,101,112]:av)++32::itoa n)=[([115,116,101,112]:av),itoa n]:=Vw
  rw [e]
  unfold eM fG
  rw [hc.1,hc.2,hs,qr hn]
  simp [qt hn]
def avA{x:cZ}(h:dE x=true):eo x≠[]:=by
 rcases TF h with ⟨q,n,h1,h2,h3,rfl,e⟩|⟨n,h2,h3,rfl,e⟩|⟨u,h1,rfl,e⟩|⟨n,h2,h3,rfl,e⟩<;>rw [e]
 ·simp
 ·simp
 ·exact akY h1
 ·simp
def avB{x:cZ}(h:eo x≠[]):dE x=true:=by
 cases e:dE x with
 | true=>rfl
 | false=>exact absurd (by unfold eo;rw [if_neg yo]) h
def ala{x:cZ}(h:dE x=true):cr (eo x)=some x:=AN (g:=eM) (fun u hu=>(AT u hu).1) h
def avC{s:av}{x:cZ}(h:cr s=some x):dE x=true∧eo x=s:=auV h
def alb{s:av}(h:dE (eM s)=false∨eo (eM s)≠s):cr s=none:=by
 rcases h with h|h
 ·exact oe (g:=eM) (fun u hu=>(AT u hu).1) iF
 ·exact oe (g:=eM) (fun u hu=>(AT u hu).1) (fun e=>h e.2)
def alc{s:av}(h1:dE (eM s)=true)(h2:eo (eM s)=s):cr s=some (eM s):=tZ (g:=eM) (fun u hu=>(AT u hu).1) h1 h2
def Kp{s:av}(h:s=[]∨eo (fG s)≠s):cr s=none:=by
 rcases h with h|h
 ·exact yb fun r hr e=>avA hr (e.trans h)
 ·exact oe (g:=fG) (fun u hu=>(AT u hu).2) (fun e=>h e.2)
def TG{s:av}(h1:s≠[])(h2:eo (fG s)=s):cr s=some (fG s):=tZ (g:=fG) (fun u hu=>(AT u hu).2) (avB Lh) h2
section
def u8(b:Int):UInt8:=UInt8.ofNat b.toNat
def TH{x:UInt8}{b:Int}(h0:0≤b)(h1:b≤255):(((x.toNat:Nat):Int)=b)↔x=u8 b:=by
 have hx:=x.toNat_lt
 constructor
 ·rintro rfl;unfold u8;rw [Int.toNat_natCast,UInt8.ofNat_toNat]
 ·rintro rfl;unfold u8;rw [UInt8.toNat_ofNat'];omega
def ald(s:av):ee (kw s):=by
 unfold kw
 rcases h:Lib.atoiAll s with v|_|_
 ·exact Lib.atoiAll_bounds h
 ·exact (show ee 0 from ⟨aj,aj⟩)
 ·exact Lib.atoiSat_bounds s
def avD{s:av}(h:qh s=true):Lib.atoiAll s = .ok (kw s):=by
 unfold qh at h
 unfold kw
 rcases e:Lib.atoiAll s with v|_|_
 ·rfl
 ·rw [e] at h;cases h
 ·rw [e] at h;cases h
def avE{s:av}(h:qh s=false∨itoa (kw s)≠s∨kw s < -999999999∨999999999 < kw s):jV s=none:=by
 cases e:qh s with
 | false=>
  refine auZ fun v hv=>?_
  unfold qh at e
  rw [hv] at e
  cases e
 | true=>
  refine au0 (avD e) fun hc=>?_
  have:=yd.1 hc.1
  rw [e] at h
  rcases h with h|h|h|h
  ·cases h
  ·exact h hc.2
  ·omega
  ·omega
def avF{s:av}(h2:itoa (kw s)=s)(h3 : -999999999≤kw s)(h4:kw s≤999999999):jV s=some (kw s):=au1 (lb h3 h4) h2
section
variable{s:av}{n:Int}
def avG(h:jV s=none):eL s=0:=by unfold eL;rw [h];rfl
def avH(h:jV s=some n):eL s=n:=by unfold eL;rw [h];rfl
def avI(h:gV s=false):er s = -100000:=by
 unfold gV at h;unfold er
 cases e:jV s with
 | none=>rfl
 | some n=>rw [e] at h;cases h
def avJ(h:gV s=true):er s=eL s:=by
 unfold gV at h;unfold er eL
 cases e:jV s with
 | none=>rw [e] at h;cases h
 | some n=>rfl
def avK(h:jV s=none):gV s=false:=by unfold gV;rw [h];rfl
def avL(h:jV s=some n):gV s=true:=by unfold gV;rw [h];rfl
end
/- the reference's loop over digits -/
def ale{s:av}{k:Nat}(h:k < s.length):fR (s.take (k+1))=if og s[k] then ((fR (s.take k)).1 * 10+(s[k].toNat - 48),(fR (s.take k)).2+1) else fR (s.take k):=by
 rw [cU h,Tt]
def Kq(s:av)(k:Nat)(h:k≤11):(fR (s.take k)).1 < 100000000000∧(fR (s.take k)).2≤11:=by
 have h1:=akM (s.take k)
 have h2:(s.take k).length≤k:=fb
 have h3:10 ^ (fR (s.take k)).2≤10 ^ 11:=Nat.pow_le_pow_right aj ab
 omega
def alf{s:av}{k:Nat}(h:k=s.length∨k=11)(hk:k≤11):s.take k=s.take 11:=by
 rcases h with h|h
 ·rw [qG ab,qG ab]
 ·rw [h]
def alg{s:av}(h:s.head?=some 45):pd s = -((fR (s.take 11)).1:Int):=if_pos h
def Kr{s:av}(h:¬s.head?=some 45):pd s=((fR (s.take 11)).1:Int):=if_neg h
def Er{s:av}{c:UInt8}(h:0 < s.length):s.head?=some c↔s[0].toNat=c.toNat:=by
 cases s with
 | nil=>simp at h
 | cons b r=>simp [UInt8.toNat_inj]
def TI{s:av}{c:UInt8}(h:¬0 < s.length):¬s.head?=some c:=by
 cases s with
 | nil=>simp
 | cons b r=>simp at h
def avM{s:av}(h:9 < (fR (s.take 11)).2∨10 < s.length∨itoa (pd s)≠s):sa s=true:=by
 unfold sa
 rcases h with h|h|h
 ·simp [h]
 ·simp [h]
 ·rw [show (itoa (pd s)==s)=false by simpa using h];simp
def avN{s:av}(h1:(fR (s.take 11)).2≤9)(h2:s.length≤10)(h3:itoa (pd s)=s):sa s=false:=by
 unfold sa
 rw [h3]
 simp;omega
/- splitting, byte by byte -/
def TJ{α:Type}(l:List α)(x d:α):(l++[x]).getLastD d=x:=aM
def TK(c:UInt8)(s:av):aq c s=(aq c s).dropLast++[(aq c s).getLastD []]:=by
 have h:=vJ c s
 have key:∀l:List av,l≠[]→l=l.dropLast++[l.getLastD []]:=by
  intro l
  induction l using At with
  | h0=>intro h;exact absurd rfl h
  | h1 l a _=>intro _;rw [List.dropLast_concat,TJ]
 exact key _ h
def avO{c:UInt8}{s:av}{k:Nat}(h:k < s.length)(hc:s[k]=c):(aq c (s.take (k+1))).dropLast=(aq c (s.take k)).dropLast++[(aq c (s.take k)).getLastD []]∧(aq c (s.take (k+1))).getLastD []=[]:=by
 rw [cU h,akP,if_pos hc,TJ,List.dropLast_concat]
 exact ⟨TK c _,rfl⟩
def avP{c:UInt8}{s:av}{k:Nat}(h:k < s.length)(hc:¬s[k]=c):(aq c (s.take (k+1))).dropLast=(aq c (s.take k)).dropLast∧(aq c (s.take (k+1))).getLastD []=(aq c (s.take k)).getLastD []++[s[k]]:=by
 rw [cU h,akP,if_neg hc,TJ,List.dropLast_concat]
 exact ⟨rfl,rfl⟩
def sf(c:UInt8)(s:av):(aq c s).length≤s.length+1∧1≤(aq c s).length:=by
 rw [au5]
 have:=List.count_le_length (a:=c) (l:=s)
 omega
def yf{c:UInt8}{s w:av}(h:w∈aq c s):w.length≤s.length:=by
 induction s generalizing w with
 | nil=>simp [aq] at h;subst h;simp
 | cons b r ih=>
  unfold aq at h
  split at h
  ·rcases List.mem_cons.1 h with rfl|h
   ·simp
   ·have:=ih h;simp;omega
  ·rcases List.mem_cons.1 h with rfl|h
   ·have h1:=vJ c r
    cases hh:aq c r with
    | nil=>exact absurd hh h1
    | cons y ys=>
     have:=ih (w:=y) (by rw [hh];simp)
     simp;omega
   ·have:=ih (List.mem_of_mem_tail h);simp;omega
def avQ{c:UInt8}(s:av):((aq c s).getLastD []).length≤s.length:=by
 have h:=vJ c s
 have e:=TK c s
 refine yf (c:=c) (s:=s) ?_
 rw [e];simp
def avR(c:UInt8)(s:av):Lib.splitK [c] 0 (Lib.count s [c]) s=aq c s:=by rw [Lib.count_one];exact akS c _ s rfl
def Ks{c:UInt8}{s:av}{k:Nat}(h:k < (aq c s).length):(aq c s).getD k []=(aq c s)[k]:=by rw [List.getD_eq_getElem?_getD,List.getElem?_eq_getElem h];rfl
/- numbers between commas -/
def avS{s:av}{k:Nat}(hk:k < (aq 44 s).length)(h:gV (aq 44 s)[k]=false):qv s=false:=oM hk h
def avT{s:av}(h:qv s=false):ub s=[]:=if_neg iF
def avU{s:av}(h:qv s=true):ub s=(aq 44 s).map eL:=if_pos h
def AU(s p:av):(fv s p).length≤s.length:=by
 unfold fv Lib.cut
 split
 ·simp [cI];omega
 ·exact Nat.le_refl _
def AV(s p:av):(io s p).length≤s.length:=by
 unfold io Lib.cut
 split
 ·simp
 ·simp
def avV(s p:av):(qw s p).length≤s.length:=by
 unfold qw
 split
 ·simp
 ·exact Nat.le_refl _
def avW{s:av}{c:UInt8}(h:0 < s.length):s.head?=some c↔s[0]=c:=by
 cases s with
 | nil=>simp at h
 | cons b r=>simp
def avX{s:av}{c:UInt8}(h:s.length < 2∨s.head?≠some c):jX c s = -100000:=if_pos h
def avY{s:av}{c:UInt8}(h1:¬s.length < 2)(h2:s.head?=some c):jX c s=er (s.drop 1):=if_neg (by rintro (h|h);exact h1 h;exact h h2)
def avZ{s:av}{k:Nat}(h:∀j,j < k→nq s j=false)(h2:nq s k=false):∀j,j < k+1→nq s j=false:=fun j hj=>by
 by_cases e:j=k
 ·rw [e];exact h2
 ·exact h j ab
def jg(c:UInt8)(s:av)(j:Nat):((aq c s).getD j []).length≤s.length:=by
 by_cases h:j < (aq c s).length
 ·rw [Ks h];exact yf (List.getElem_mem h)
 ·rw [List.getD_eq_getElem?_getD,List.getElem?_eq_none ab];simp
def AW{ws:List av}{k:Nat}(h:k < ws.length):ws.getD k []=ws[k]:=by rw [List.getD_eq_getElem?_getD,List.getElem?_eq_getElem h];rfl
def av0(c:UInt8)(s:av):((aq c s).map fun w=>w.length+1).sum=s.length+1:=by
 induction s with
 | nil=>rfl
 | cons b r ih=>
  unfold aq
  split
  ·simp [ih];omega
  ·have h1:=vJ c r
   cases hh:aq c r with
   | nil=>exact absurd hh h1
   | cons y ys=>rw [hh] at ih;simp at ih ⊢;omega
def av1{c:UInt8}{s:av}(h:2 < (aq c s).length):((aq c s).getD 0 []).length+((aq c s).getD 1 []).length+2≤s.length:=by
 have h1:=av0 c s
 rcases hw:aq c s with _|⟨a,_|⟨b,_|⟨d,r⟩⟩⟩<;>rw [hw] at h h1
 ·simp at h
 ·simp at h
 ·simp at h
 ·simp at h1 ⊢;omega
def av2(n:Nat):((n:Int)).tmod 2=((n%2:Nat):Int):=by rw [Int.tmod_eq_emod_of_nonneg ab];omega
/- the updates' readings, case by case -/
noncomputable def jh(ws:List av):ax6:=
 if ws.getD 0 []=([105,110,115,101,114,116]:av)∧ws.length=2 then ⟨1,(iU (ws.getD 1 [])).getD pf,0,0⟩
 else if ws.getD 0 []=([100,101,108,101,116,101]:av)∧ws.length=2 then ⟨2,⟨eL (ws.getD 1 []),[]⟩,0,0⟩
 else if ws.getD 0 []=([115,101,116]:av)∧ws.length=4 then ⟨3,⟨eL (ws.getD 1 []),[]⟩,sb 102 (ws.getD 2 []),eL (ws.getD 3 [])⟩
 else dH
def alh(s:av):np s=jh (aq 32 s):=rfl
section
variable{ws:List av}{s:av}
def av3(h:ws.getD 0 []=([105,110,115,101,114,116]:av)∧ws.length=2):jh ws=⟨1,(iU (ws.getD 1 [])).getD pf,0,0⟩:=if_pos h
def av4(h0:¬(ws.getD 0 []=([105,110,115,101,114,116]:av)∧ws.length=2))(h:ws.getD 0 []=([100,101,108,101,116,101]:av)∧ws.length=2):jh ws=⟨2,⟨eL (ws.getD 1 []),[]⟩,0,0⟩:=by unfold jh;rw [if_neg h0,if_pos h]
def av5(h0:¬(ws.getD 0 []=([105,110,115,101,114,116]:av)∧ws.length=2))(h1:¬(ws.getD 0 []=([100,101,108,101,116,101]:av)∧ws.length=2))(h:ws.getD 0 []=([115,101,116]:av)∧ws.length=4):jh ws=⟨3,⟨eL (ws.getD 1 []),[]⟩,sb 102 (ws.getD 2 []),eL (ws.getD 3 [])⟩:=by unfold jh;rw [if_neg h0,if_neg h1,if_pos h]
def av6(h0:¬(ws.getD 0 []=([105,110,115,101,114,116]:av)∧ws.length=2))(h1:¬(ws.getD 0 []=([100,101,108,101,116,101]:av)∧ws.length=2))(h2:¬(ws.getD 0 []=([115,101,116]:av)∧ws.length=4)):jh ws=dH:=by unfold jh;rw [if_neg h0,if_neg h1,if_neg h2]
def av7(h:(aq 32 s).length=2∧(aq 32 s).getD 0 []=([105,110,115,101,114,116]:av)):iB s=⟨1,(iU ((aq 32 s).getD 1 [])).getD pf,0,0⟩:=if_pos h
def ali(h0:¬((aq 32 s).length=2∧(aq 32 s).getD 0 []=([105,110,115,101,114,116]:av)))(h:(aq 32 s).length=2):iB s=⟨2,⟨er ((aq 32 s).getD 1 []),[]⟩,0,0⟩:=by unfold iB;rw [if_neg h0,if_pos h]
def alj(h0:¬((aq 32 s).length=2∧(aq 32 s).getD 0 []=([105,110,115,101,114,116]:av)))(h1:¬(aq 32 s).length=2)(h:(aq 32 s).length=4):iB s=⟨3,⟨er ((aq 32 s).getD 1 []),[]⟩,jX 102 ((aq 32 s).getD 2 []),er ((aq 32 s).getD 3 [])⟩:=by unfold iB;rw [if_neg h0,if_neg h1,if_pos h]
def alk(h0:¬((aq 32 s).length=2∧(aq 32 s).getD 0 []=([105,110,115,101,114,116]:av)))(h1:¬(aq 32 s).length=2)(h2:¬(aq 32 s).length=4):iB s=dH:=by unfold iB;rw [if_neg h0,if_neg h1,if_neg h2]
def av8(h:fv s [32]=([97,100,109,105,116]:av)):eM s=⟨1,(fT (io (io s [32]) [32])).getD fa,eL (fv (io s [32]) [32]),0,dH,0⟩:=if_pos h
def av9(h0:¬fv s [32]=([97,100,109,105,116]:av))(h:fv s [32]=([99,97,110,99,101,108]:av)):eM s=⟨2,fa,0,eL (io s [32]),dH,0⟩:=by unfold eM;rw [if_neg h0,if_pos h]
def awa(h0:¬fv s [32]=([97,100,109,105,116]:av))(h1:¬fv s [32]=([99,97,110,99,101,108]:av))(h:fv s [32]=([115,116,101,112]:av)):eM s=⟨4,fa,0,0,dH,eL (io s [32])⟩:=by unfold eM;rw [if_neg h0,if_neg h1,if_pos h]
def awb(h0:¬fv s [32]=([97,100,109,105,116]:av))(h1:¬fv s [32]=([99,97,110,99,101,108]:av))(h2:¬fv s [32]=([115,116,101,112]:av)):eM s=⟨3,fa,0,0,(fS s).getD dH,0⟩:=by unfold eM;rw [if_neg h0,if_neg h1,if_neg h2]
def awc(h:2 < (aq 32 s).length∧(aq 32 s).getD 0 []=([97,100,109,105,116]:av)):fG s=⟨1,(fT (s.drop (((aq 32 s).getD 0 []).length+((aq 32 s).getD 1 []).length+2))).getD fa,er ((aq 32 s).getD 1 []),0,dH,0⟩:=if_pos h
def alm(h0:¬(2 < (aq 32 s).length∧(aq 32 s).getD 0 []=([97,100,109,105,116]:av)))(h:(aq 32 s).length=2∧(aq 32 s).getD 0 []=([99,97,110,99,101,108]:av)):fG s=⟨2,fa,0,er ((aq 32 s).getD 1 []),dH,0⟩:=by unfold fG;rw [if_neg h0,if_pos h]
def TL(h0:¬(2 < (aq 32 s).length∧(aq 32 s).getD 0 []=([97,100,109,105,116]:av)))(h1:¬((aq 32 s).length=2∧(aq 32 s).getD 0 []=([99,97,110,99,101,108]:av)))(h:(aq 32 s).length=2∧(aq 32 s).getD 0 []=([115,116,101,112]:av)):fG s=⟨4,fa,0,0,dH,er ((aq 32 s).getD 1 [])⟩:=by unfold fG;rw [if_neg h0,if_neg h1,if_pos h]
def Kt(h0:¬(2 < (aq 32 s).length∧(aq 32 s).getD 0 []=([97,100,109,105,116]:av)))(h1:¬((aq 32 s).length=2∧(aq 32 s).getD 0 []=([99,97,110,99,101,108]:av)))(h2:¬((aq 32 s).length=2∧(aq 32 s).getD 0 []=([115,116,101,112]:av))):fG s=⟨3,fa,0,0,(fS s).getD dH,0⟩:=by unfold fG;rw [if_neg h0,if_neg h1,if_neg h2]
end
end
/- bounds -/
def Ku{n:Int}(h:0≤n∧n≤99):(itoa n).length≤2:=by rw [rx ab];exact Ek 1 _ ab
def sg{n:Int}(h:0≤n∧n≤999):(itoa n).length≤3:=by rw [rx ab];exact Ek 2 _ ab
def aln{l:List Int}(h:∀x∈l,0≤x∧x≤99):(eX l).length≤l.length * 3:=by
 have:=Jl (m:=2) (sep:=[44]) (xs:=l.map itoa) (by intro x hx;obtain ⟨y,hy,rfl⟩:=List.mem_map.1 hx;exact Ku (h y hy))
 simpa [eX] using this
def awd(r:Row):(fQ r).length≤20:=by
 unfold fQ
 split
 ·rename_i h
  have h1:=Eg h
  unfold bM at h
  simp only [aX] at h
  have h2:=aln (l:=r.Values) (fun x hx=>by have:=List.all_eq_true.1 h.1 x hx;simp [me,aK] at this;exact this)
  have h3:=sg (n:=r.Id) ab
  simp only [bJ,List.length_cons,List.length_nil];omega
 ·simp
def awe(u:ax6):(fF u).length≤40:=by
 by_cases h:dK u=true
 ·rcases Kj h with ⟨r,h1,rfl,e⟩|⟨n,h1,h2,rfl,e⟩|⟨n,f,v,⟨h1,h2⟩,⟨h3,h4⟩,⟨h5,h6⟩,rfl,e⟩<;>rw [e]
  ·have:=awd r
   simp only [bJ,List.length_cons,List.length_nil];omega
  ·have:=sg (n:=n) ab
   simp only [bJ,List.length_cons,List.length_nil];omega
  ·have q1_:=sg (n:=n) ab
   have q2_:=sg (n:=f) ab
   have q3_:=sg (n:=v) ab
   simp only [bJ,List.length_cons,List.length_nil];omega
 ·unfold fF;rw [if_neg h];simp
def awf(q:ax4):(eE q).length≤110:=by
 unfold eE
 split
 ·rename_i h
  obtain ⟨a1,a2,a3,a4,a5,a6,a7,a8⟩:=ya h
  have ho:=Tm h
  have hw:∀w∈im q q.ax5.length++[[111,117,116],eX q.Out],w.length≤9:=by
   intro w hw
   rcases List.mem_append.1 hw with hw|hw
   ·unfold im at hw
    rcases List.mem_append.1 hw with hw|hw
    ·rcases List.mem_cons.1 hw with rfl|hw
     ·have:=sg (n:=q.Id) ab;simp only [bJ,List.length_cons,List.length_nil];omega
     ·rw [List.mem_singleton] at hw;subst hw
      have:=sg (n:=q.ax8) ab;simp only [bJ,List.length_cons,List.length_nil];omega
    ·obtain ⟨c,hc,hw⟩:=List.mem_flatMap.1 hw
     rw [cJ] at hc
     obtain ⟨k,hk,rfl⟩:=List.mem_iff_getElem.1 hc
     have h8:=a8 k hk
     have b1:=Ku (n:=q.ax5[k].Field) ab
     have b2:=Ku (n:=q.ax5[k].Low) ab
     have b3:=Ku (n:=q.ax5[k].High) ab
     unfold la at hw
     rcases List.mem_cons.1 hw with rfl|hw
     ·simp only [bJ,List.length_cons,List.length_nil];omega
     ·rw [List.mem_singleton] at hw;subst hw
      simp only [bJ,List.length_cons,List.length_nil];omega
   ·rcases List.mem_cons.1 hw with rfl|hw
    ·decide
    ·rw [List.mem_singleton] at hw;subst hw
     have:=aln (l:=q.Out) (fun x hx=>by have:=ho.2 x hx;omega)
     omega
  have hj:=Jl (m:=9) (sep:=[32]) hw
  have hl:=TB q
  have hl2:(im q q.ax5.length++[[111,117,116],eX q.Out]).length=4+2 * q.ax5.length:=hl
  rw [hl2] at hj
  simp only [List.length_cons,List.length_nil] at hj
  have:(4+2 * q.ax5.length) * (9+(0+1))≤10 * 10:=Nat.mul_le_mul ab ab
  omega
 ·simp
def TM(x:cZ):(eo x).length≤200:=by
 by_cases h:dE x=true
 ·rcases TF h with ⟨q,n,h1,h2,h3,rfl,e⟩|⟨n,h2,h3,rfl,e⟩|⟨u,h1,rfl,e⟩|⟨n,h2,h3,rfl,e⟩<;>rw [e]
  ·have b1:=awf q
   have b2:=sg (n:=n) ab
   simp only [bJ,List.length_cons,List.length_nil];omega
  ·have b2:=sg (n:=n) ab
   simp only [bJ,List.length_cons,List.length_nil];omega
  ·have:=awe u;omega
  ·have b2:=sg (n:=n) ab
   simp only [bJ,List.length_cons,List.length_nil];omega
 ·unfold eo;rw [if_neg h];simp
section
def lg(c:aG)(s:Store):Int×aG:=aw (bQ c s).2 10
def Kv(c:aG)(s:Store):Int×aG:=aw (lg c s).2 6
def Kw(c:aG)(s:Store):Int×aG:=bL (lg c s).2 [0,1,100,101]
def Kx(c:aG)(s:Store):Int×aG:=bL (lg c s).2 [-1,0,32,33]
def bT(c:aG)(s:Store):cZ×aG:=
 if (lg c s).1=0 then (⟨(Kv c s).1,(bQ c s).1.ax4,(bQ c s).1.Limit,(bQ c s).1.Id,(bQ c s).1.ax6,(bQ c s).1.Steps⟩,(Kv c s).2)
 else if (lg c s).1=1 then (⟨(bQ c s).1.Kind,(bQ c s).1.ax4,(bQ c s).1.Limit,(bQ c s).1.Id,(bQ c s).1.ax6,(Kw c s).1⟩,(Kw c s).2)
 else if (lg c s).1=2 then (⟨(bQ c s).1.Kind,(bQ c s).1.ax4,(Kx c s).1,(bQ c s).1.Id,(bQ c s).1.ax6,(bQ c s).1.Steps⟩,(Kx c s).2)
 else ((bQ c s).1,(lg c s).2)
section
variable{c:aG}{s:Store}
def awg(h:(lg c s).1=0):bT c s=(⟨(Kv c s).1,(bQ c s).1.ax4,(bQ c s).1.Limit,(bQ c s).1.Id,(bQ c s).1.ax6,(bQ c s).1.Steps⟩,(Kv c s).2):=if_pos h
def awh(h0:¬(lg c s).1=0)(h:(lg c s).1=1):bT c s=(⟨(bQ c s).1.Kind,(bQ c s).1.ax4,(bQ c s).1.Limit,(bQ c s).1.Id,(bQ c s).1.ax6,(Kw c s).1⟩,(Kw c s).2):=by unfold bT;rw [if_neg h0,if_pos h]
def awi(h0:¬(lg c s).1=0)(h1:¬(lg c s).1=1)(h:(lg c s).1=2):bT c s=(⟨(bQ c s).1.Kind,(bQ c s).1.ax4,(Kx c s).1,(bQ c s).1.Id,(bQ c s).1.ax6,(bQ c s).1.Steps⟩,(Kx c s).2):=by unfold bT;rw [if_neg h0,if_neg h1,if_pos h]
def awj(h0:¬(lg c s).1=0)(h1:¬(lg c s).1=1)(h2:¬(lg c s).1=2):bT c s=((bQ c s).1,(lg c s).2):=by unfold bT;rw [if_neg h0,if_neg h1,if_neg h2]
def awk:ki (bT c s).1=ki (bQ c s).1:=by
 unfold bT
 repeat' split
 all_goals rfl
end
structure Es where
 l:List Int
 c:aG
def txV(st b:Int):Int:=if st=2 then 97+(if st=1 then b.tmod 2 else b).tmod 4 else if st=1 then b.tmod 2 else b
def TN(st:Int)(x:Es):Es:=⟨x.l++[txV st (hJ x.c).1],(hJ x.c).2⟩
def qx(st:Int)(x:Es):Nat→Es
 | 0=>x
 | k+1=>TN st (qx st x k)
def lM(c:aG):Int×aG:=aw c 4
def jY(c:aG)(m:Int):Int×aG:=aw (lM c).2 (m+1)
def sh(c:aG)(m:Int):Es:=qx (lM c).1 ⟨[],(jY c m).2⟩ (jY c m).1.toNat
def alp(st:Int)(c:aG)(k:Nat):(qx st ⟨[],c⟩ k).l.length=k:=by
 induction k with
 | zero=>rfl
 | succ k ih=>rw [qx];simp [TN,ih]
def fw(c:aG)(s:av):Int×aG:=aw c s.length
def ji(c:aG)(s:av):Int×aG:=aw (fw c s).2 4
def Ky(c:aG)(s:av):Int×aG:=hJ (ji c s).2
def TO(c:aG)(s:av):Int×aG:=aw (ji c s).2 255
def TP(s:av)(k:Nat):Int:=((s.getD k 0).toNat:Int)
def TQ(c:aG)(s:av):Int:=IntKind.u8.wrap (Gh (TP s (fw c s).1.toNat) (1+(TO c s).1))
def mD(c:aG)(s:av):av×aG:=
 if s.length=0 then (ii (sh c 3).l,(sh c 3).c)
 else if (ji c s).1=0 then (s.take (fw c s).1.toNat++s.drop ((fw c s).1.toNat+1),(ji c s).2)
 else if (ji c s).1=1 then (s.take (fw c s).1.toNat++ii [(Ky c s).1]++s.drop (fw c s).1.toNat,(Ky c s).2)
 else if (ji c s).1=2 then (s.take (fw c s).1.toNat,(ji c s).2)
 else (s.take (fw c s).1.toNat++ii [TQ c s]++s.drop ((fw c s).1.toNat+1),(TO c s).2)
section
variable{c:aG}{s:av}
def awl(h:s.length=0):mD c s=(ii (sh c 3).l,(sh c 3).c):=if_pos h
def awm(h:¬s.length=0)(h0:(ji c s).1=0):mD c s=(s.take (fw c s).1.toNat++s.drop ((fw c s).1.toNat+1),(ji c s).2):=by unfold mD;rw [if_neg h,if_pos h0]
def awn(h:¬s.length=0)(h0:¬(ji c s).1=0)(h1:(ji c s).1=1):mD c s=(s.take (fw c s).1.toNat++ii [(Ky c s).1]++s.drop (fw c s).1.toNat,(Ky c s).2):=by unfold mD;rw [if_neg h,if_neg h0,if_pos h1]
def awo(h:¬s.length=0)(h0:¬(ji c s).1=0)(h1:¬(ji c s).1=1)(h2:(ji c s).1=2):mD c s=(s.take (fw c s).1.toNat,(ji c s).2):=by unfold mD;rw [if_neg h,if_neg h0,if_neg h1,if_pos h2]
def awp(h:¬s.length=0)(h0:¬(ji c s).1=0)(h1:¬(ji c s).1=1)(h2:¬(ji c s).1=2):mD c s=(s.take (fw c s).1.toNat++ii [TQ c s]++s.drop ((fw c s).1.toNat+1),(TO c s).2):=by unfold mD;rw [if_neg h,if_neg h0,if_neg h1,if_neg h2]
def TR(l:List Int):(ii l).length=l.length:=by unfold ii;exact bf _
def awq:(mD c s).1.length≤s.length+4:=by
 unfold mD
 split
 ·have h1:=dY (lM c).2 (n:=3+1) aj
  have h2:(jY c 3).1=(aw (lM c).2 (3+1)).1:=rfl
  rw [TR]
  have h3:(sh c 3).l.length=(jY c 3).1.toNat:=alp _ _ _
  rw [h3];omega
 ·repeat' split
  all_goals (dsimp only;simp only [bJ,cI,lj,TR,List.length_cons,List.length_nil];omega)
end
def Et:List av:=[[],[97,100,109,105,116,32,48,32,113,49,32,116,48,32,111,117,116,32,48],[97,100,109,105,116,32,113,49,32,116,48,32,111,117,116,32,48],[97,100,109,105,116,32,51,51,32,113,49,32,116,48,32,111,117,116,32,48],[99,97,110,99,101,108,32,50,52],[99,97,110,99,101,108,32,51],[115,116,101,112,32,48],[115,116,101,112,32,49,48,48],[105,110,115,101,114,116,32,49,58,50,44,51,44,52],[119,104,97,116,32,49]]
def Kz(code:aG):cZ×aG:=bT (bD code).c (bD code).s
def AX(c:aG):av:=eo (Kz c).1
def Eu(c:aG):Int×aG:=aw (Kz c).2 4
def TS(c:aG):Int×aG:=aw (Eu c).2 10
def si(c:aG):av:=if (Eu c).1=0 then (mD (Eu c).2 (AX c)).1 else if (Eu c).1=1 then Et.getD (TS c).1.toNat [] else AX c
def awr:∀w∈Et,w.length≤200:=aj
def aws(c:aG):(si c).length≤300:=by
 have h1:=TM (Kz c).1
 have h2:(AX c).length≤200:=h1
 unfold si
 split
 ·have:=awq (c:=(Eu c).2) (s:=AX c);omega
 ·split
  ·by_cases h:(TS c).1.toNat < Et.length
   ·have:=awr (Et.getD (TS c).1.toNat []) (by rw [List.getD_eq_getElem?_getD,List.getElem?_eq_getElem h];exact List.getElem_mem h)
    omega
   ·rw [List.getD_eq_getElem?_getD,List.getElem?_eq_none ab];simp
  ·omega
def awt(x:cZ):(cr (eo x)).isSome=dE x:=by
 cases h:dE x with
 | true=>rw [ala h];rfl
 | false=>
  have e:eo x=[]:=by unfold eo;rw [if_neg iF]
  rw [e,Kp (Or.inl rfl)];rfl
def awu(e:aC)(v:Int)(h:cg e.Store≤200):cg (Ed e v).Store≤200:=h
def awv(e:aC)(v:Int)(h:cg e.Store≤200):cg (Ee e v).Store≤200:=h
def aww(e:aC)(v:Int)(h:cg e.Store≤200):cg (Ef e v).Store≤200:=h
def awx(e:aC)(v:List Int)(h:cg e.Store≤200):cg (Kb e v).Store≤200:=h
def awy(e:aC)(c:aG)(h:cg e.Store≤200):cg (e,c).1.Store≤200:=h
def awz(c:aG):cg (eZ c 14).e.Store≤200:=by
 have hn:=Ti c (most:=14) aj
 have h0:=Tj c 14 (qn c 14) ab
 have h1:=(mB.1 h0.ok).so
 have h2:=vE h1
 unfold eZ;exact h2
def alq(c:aG):cg (bR c).1.Store≤200:=by
 have h:=awz c
 by_cases k0:(eb c).1=0
 ·rw [akw k0];exact awu _ _ h
 by_cases k1:(eb c).1=1
 ·rw [akx k0 k1];exact awv _ _ h
 by_cases k2:(eb c).1=2
 ·rw [aky k0 k1 k2];exact aww _ _ h
 by_cases k3:(eb c).1=3
 ·rw [akz k0 k1 k2 k3];exact awx _ _ h
 ·rw [akA k0 k1 k2 k3];exact awy _ _ h
def fx(code:aG):List cZ:=(xY (bR code).2 (bR code).1.Store 6).l
def awA(c:aG):ki (bT (bD c).c (bD c).s).1≤10:=by rw [awk];exact Tb _ _
def alr(c:aG):(fx c).length≤6:=by
 have h1:=Td (s:=(bR c).1.Store) (c:=(aw (bR c).2 6).2) (vH (bR c).2 6)
 have h2:=dY (bR c).2 (n:=6) aj
 have h3:=dW (bR c).2 6
 unfold fx xY
 unfold vH at h1 ⊢
 omega
def awB(c:aG):IW (fx c)≤100:=by
 have h1:=alr c
 have key:∀(s:Store) (c:aG) (k:Nat),((rV s c k).l.map ki).sum≤10 * k:=by
  intro s c k
  induction k with
  | zero=>exact Nat.le_refl _
  | succ k ih=>
   rw [rV];unfold Tc
   rw [bK,List.sum_append]
   have:=Tb (rV s c k).c s
   simp;omega
 have h2:=key (bR c).1.Store (aw (bR c).2 6).2 (vH (bR c).2 6)
 have h3:=dY (bR c).2 (n:=6) aj
 have h4:=dW (bR c).2 6
 have h5:vH (bR c).2 6=(aw (bR c).2 6).1.toNat:=rfl
 show (fx c).length+((fx c).map ki).sum≤100
 have h6:((fx c).map ki).sum≤10 * vH (bR c).2 6:=h2
 omega
end
end Go.Proofs.YtmekkgdboplbjaaGreatDoor
