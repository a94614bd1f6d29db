/- Definitions and their laws. No condition. -/
import Derived.Test.YtmekkgdboplbjaaGreatDoorDE0
import Derived.Lib.Split
import Derived.Lib.AtoiAllCases
set_option linter.all false
namespace Go.Proofs.YtmekkgdboplbjaaGreatDoor
open Go Go.RowKit M
set_option maxRecDepth 10000
def gS(c:dt):List am:=[[102]++itoa c.Field,itoa c.Low++[46,46]++itoa c.High]
def eU(q:ac9)(k:Nat):List am:=[[113]++itoa q.Id,[116]++itoa q.ade]++(q.ada.take k).flatMap gS
def OC{q:ac9}{k:Nat}(h:k < q.ada.length):eU q (k+1)=eU q k++gS q.ada[k]:=by
 unfold eU;rw [TA h,aW]
def OD{q:ac9}{k:Nat}:eU q k≠[]:=by simp [eU]
def cw(q:ac9):am:=if aQ q then ee (eU q q.ada.length++[[111,117,116],cJ q.Out]) [32] else []
def py{q:ac9}(h:aQ q=true):0≤q.Id∧q.Id≤23∧0≤q.ade∧q.ade≤3∧q.ada.length≤3∧q.Out.length≤3∧(∀x∈q.Out,cq x)∧∀k,(hk:k < q.ada.length)→0≤q.ada[k].Field∧q.ada[k].Field≤2∧0≤q.ada[k].Low∧q.ada[k].Low≤99∧0≤q.ada[k].High∧q.ada[k].High≤99:=by
 have ho:=vu h
 have h':=h
 unfold aQ jA at h'
 simp only [aT,aE,decide_eq_true_eq] at h'
 refine ⟨ab,ab,ab,ab,ab,ho.1,fun x hx=>by have:=ho.2 x hx;unfold cq;omega,fun k hk=>?_⟩
 have:=List.all_eq_true.1 h'.2.1 k (List.mem_range.2 hk)
 rw [aT,iC hk] at this
 have:=this.1
 simp [iD,aE] at this
 omega
def vK{q:ac9}(k:Nat):(eU q k).length=2+2 * (q.ada.take k).length:=by
 unfold eU
 rw [aZ]
 have:∀l:List dt,(l.flatMap gS).length=2 * l.length:=by
  intro l
  induction l with
  | nil=>rfl
  | cons c l ih=>rw [List.flatMap_cons,aZ,ih];simp [gS];omega
 rw [this];rfl
def XX{q:ac9}(h:aQ q=true)(k:Nat):∀x∈eU q k,x.length≤66:=by
 obtain ⟨a1,a2,a3,a4,a5,a6,a7,a8⟩:=py h
 have h1:(itoa q.Id).length≤21:=dj cR
 have h2:(itoa q.ade).length≤21:=dj cR
 intro x hx
 unfold eU at hx
 rcases List.mem_append.1 hx with hx|hx
 ·simp only [jp,List.not_mem_nil,or_false] at hx
  rcases hx with rfl|rfl<;>simp only [aZ,List.length_cons,List.length_nil]<;>omega
 ·obtain ⟨c,hc,hx⟩:=List.mem_flatMap.1 hx
  obtain ⟨j,hj,rfl⟩:=List.mem_iff_getElem.1 (List.mem_of_mem_take hc)
  have h3:=a8 j hj
  have h4:(itoa q.ada[j].Field).length≤21:=dj cR
  have h5:(itoa q.ada[j].Low).length≤21:=dj cR
  have h6:(itoa q.ada[j].High).length≤21:=dj cR
  simp only [gS,jp,List.not_mem_nil,or_false] at hx
  rcases hx with rfl|rfl<;>simp only [aZ,List.length_cons,List.length_nil]<;>omega
def vL{q:ac9}(h:aQ q=true)(k:Nat):(ee (eU q k) [32]).length≤600:=by
 have h1:=vn (m:=66) (sep:=[32]) (XX h k)
 have h2:=(py h).2.2.2.2.1
 have h3:=vK (q:=q) k
 rw [cu] at h3
 rw [h3] at h1
 simp only [List.length_cons,List.length_nil] at h1
 have:(2+2 * min k q.ada.length) * (66+(0+1))≤8 * 67:=Nat.mul_le_mul ab ab
 omega
def En{q:ac9}(k:Nat):ee (eU q k++[[111,117,116],cJ q.Out]) [32]=ee (eU q k) [32]++[32,111,117,116,32]++cJ q.Out:=by
 rw [MX OD];simp [aW]
def OE(q:ac9):(cw q).length≤800:=by
 unfold cw
 split
 ·rename_i h
  have h1:=vL h q.ada.length
  obtain ⟨a1,a2,a3,a4,a5,a6,a7,a8⟩:=py h
  have h2:=mO a7
  rw [En]
  simp only [aZ,List.length_cons,List.length_nil]
  omega
 ·simp
def dO(u:adb):am:=
 if ci u then
  if u.Kind=1 then [105,110,115,101,114,116,32]++dN u.Row
  else if u.Kind=2 then [100,101,108,101,116,101,32]++itoa u.Row.Id
  else [115,101,116,32]++itoa u.Row.Id++[32,102]++itoa u.Field++[32]++itoa u.Value
 else []
def OF{u:adb}(h:ci u=true):0≤u.Row.Id∧u.Row.Id≤999∧0≤u.Field∧u.Field≤99∧0≤u.Value∧u.Value≤99:=by
 unfold ci at h
 split at h
 ·simp [bf,aE] at h;omega
 ·split at h
  ·simp [lH,aE] at h;omega
  ·split at h
   ·simp [lH,aE] at h;omega
   ·cases h
def XY(u:adb):(dO u).length≤200:=by
 unfold dO
 split
 ·rename_i h
  have h1:=OF h
  have h2:=DH u.Row
  have h3:(itoa u.Row.Id).length≤21:=dj cR
  have h4:(itoa u.Field).length≤21:=dj cR
  have h5:(itoa u.Value).length≤21:=dj cR
  split
  ·simp only [aZ,List.length_cons,List.length_nil];omega
  ·split<;>simp only [aZ,List.length_cons,List.length_nil]<;>omega
 ·simp
def bP(x:bR):am:=
 if ca x then
  if x.Kind=1 then [97,100,109,105,116,32]++itoa x.Limit++[32]++cw x.ac9
  else if x.Kind=2 then [99,97,110,99,101,108,32]++itoa x.Id
  else if x.Kind=3 then dO x.adb
  else [115,116,101,112,32]++itoa x.Steps
 else []
def XZ{x:bR}(h:ca x=true):0≤x.Limit∧x.Limit≤32∧0≤x.Id∧x.Id≤23∧0≤x.Steps∧x.Steps≤100:=by
 unfold ca at h
 split at h
 ·simp [aE] at h;omega
 ·split at h
  ·simp [aE] at h;omega
  ·split at h
   ·simp [aE] at h;omega
   ·split at h
    ·simp [aE] at h;omega
    ·cases h
section
/- ---- one value by its text ---- -/
noncomputable def jF{α:Type}(P:α→Bool)(f:α→am)(s:am):Option α:=@dite _ (∃x,P x=true∧f x=s) (Classical.propDecidable _) (fun h=>some h.choose) (fun _=>none)
section
variable{α:Type}{P:α→Bool}{f:α→am}{g:am→α}{s:am}{x:α}
def OG(h:jF P f s=some x):P x=true∧f x=s:=by
 unfold jF at h
 split at h
 ·rename_i h1;injection h with h;subst h;exact h1.choose_spec
 ·cases h
def tD(hg:∀x,P x=true→g (f x)=x)(h:P x=true):jF P f (f x)=some x:=by
 have h1:∃y,P y=true∧f y=f x:=⟨x,h,rfl⟩
 unfold jF
 rw [dif_pos h1]
 have h2:=h1.choose_spec
 have h3:=hg _ h2.1
 rw [h2.2,hg _ h] at h3
 rw [←h3]
def yR(hg:∀x,P x=true→g (f x)=x)(h1:P (g s)=true)(h2:f (g s)=s):jF P f s=some (g s):=by
 have:=tD (x:=g s) hg h1
 rwa [h2] at this
def Eo(h:∀x,P x=true→f x≠s):jF P f s=none:=by
 unfold jF
 rw [dif_neg]
 rintro ⟨x,h1,h2⟩
 exact h x h1 h2
def nX(hg:∀x,P x=true→g (f x)=x)(h:¬(P (g s)=true∧f (g s)=s)):jF P f s=none:=by
 apply Eo
 rintro x h1 rfl
 rw [hg x h1] at h
 exact h ⟨h1,rfl⟩
def OH{ok:am→Bool}(hk:∀x,P x=true→ok (f x)=true)(h:ok s=false):jF P f s=none:=by
 apply Eo
 rintro x h1 rfl
 rw [hk x h1] at h
 cases h
end
/- ---- numbers ---- -/
def pz(b:UInt8):Bool:=decide (48≤b.toNat)&&decide (b.toNat≤57)
def tE(l:am):Nat:=l.foldl (fun a b=>a * 10+(b.toNat - 48)) 0
def Ya(l:am)(b:UInt8):tE (l++[b])=tE l * 10+(b.toNat - 48):=by unfold tE;rw [List.foldl_append];rfl
def yS{d:Nat}(h:d < 10):(UInt8.ofNat (48+d)).toNat=48+d:=by
 rw [UInt8.toNat_ofNat'];omega
def yT(u:Nat):∀b∈Lib.decDigits u,pz b=true:=by
 induction u using Nat.strongRecOn with
 | ind u ih=>
  intro b hb
  by_cases h:u < 10
  ·rw [pb h] at hb
   rw [List.mem_singleton] at hb;subst hb
   unfold pz;rw [yS h,aT,decide_eq_true_iff,decide_eq_true_iff];omega
  ·rw [vl ab] at hb
   rcases List.mem_append.1 hb with hb|hb
   ·exact ih _ ab b hb
   ·rw [List.mem_singleton] at hb;subst hb
    unfold pz;rw [yS (Nat.mod_lt _ ab),aT,decide_eq_true_iff,decide_eq_true_iff];omega
def Yb(u:Nat):tE (Lib.decDigits u)=u:=by
 induction u using Nat.strongRecOn with
 | ind u ih=>
  by_cases h:u < 10
  ·rw [pb h]
   show 0 * 10+((UInt8.ofNat (48+u)).toNat - 48)=u
   rw [yS h];omega
  ·rw [vl ab,Ya,ih _ ab,yS (Nat.mod_lt _ ab)]
   omega
def Ep(u:Nat):Lib.decDigits u≠[]:=by
 by_cases h:u < 10
 ·rw [pb h];simp
 ·rw [vl ab];simp
def Er:∀(k u:Nat),u < 10 ^ (k+1)→(Lib.decDigits u).length≤k+1
 | 0,u,h=>by rw [pb om];simp
 | k+1,u,h=>by
  by_cases h1:u < 10
  ·rw [pb h1];simp
  ·rw [vl ab,aZ]
   have:=Er k (u / 10) (by rw [Nat.pow_succ] at h;omega)
   simp;omega
def vO(b:UInt8):Bool:=pz b||b==45
def Yc(n:Int):∀b∈itoa n,vO b=true:=by
 intro b hb
 by_cases h:n < 0
 ·rw [yy h] at hb
  rcases List.mem_cons.1 hb with rfl|hb
  ·rfl
  ·simp [vO,yT _ b hb]
 ·rw [pc h] at hb
  simp [vO,yT _ b hb]
def Yd(n:Int):itoa n≠[]:=by
 by_cases h:n < 0
 ·rw [yy h];simp
 ·rw [pc h];exact Ep _
def Ye(u:Nat):∃b r,Lib.decDigits u=b::r∧pz b=true:=by
 have h1:=Ep u
 have h2:=yT u
 cases h:Lib.decDigits u with
 | nil=>exact absurd h h1
 | cons b r=>exact ⟨b,r,rfl,h2 b eJ⟩
def OI{b:UInt8}:pz b=true↔48≤b.toNat∧b.toNat≤57:=by simp [pz]
def OJ:∀(l:am) (acc:Nat),(∀b∈l,pz b=true)→l.foldl (fun a b=>a * 10+(b.toNat - 48)) acc < 1844674407370955162→Lib.parseUint10 acc l = .ok (l.foldl (fun a b=>a * 10+(b.toNat - 48)) acc)
 | [],acc,_,_=>rfl
 | c::r,acc,hd,hv=>by
  have h1:=OI.1 (hd c aF)
  have hmono:∀(l:am) (a:Nat),a≤l.foldl (fun a b=>a * 10+(b.toNat - 48)) a:=by
   intro l
   induction l with
   | nil=>intro a;exact Nat.le_refl _
   | cons x l ih=>intro a;exact Nat.le_trans (show a≤a * 10+(x.toNat - 48) by omega) (ih _)
  have h2:=hmono r (acc * 10+(c.toNat - 48))
  rw [List.foldl_cons] at hv ⊢
  unfold Lib.parseUint10
  rw [if_pos h1,if_neg ab,if_neg ab]
  exact OJ r _ (fun b hb=>hd b pM) hv
def OK{n:Int}(h : -999999999≤n∧n≤999999999):Lib.atoiAll (itoa n) = .ok n:=by
 have hv:=Yb n.natAbs
 have hp:Lib.parseMag (Lib.decDigits n.natAbs) = .ok n.natAbs:=by
  unfold Lib.parseMag
  rw [if_neg (Ep _)]
  have:=OJ (Lib.decDigits n.natAbs) 0 (yT _) (by show tE _ < _;rw [hv];omega)
  rw [this]
  show Lib.NumEnd.ok (tE _)=_
  rw [hv]
 by_cases h0:n < 0
 ·rw [yy h0]
  simp only [Lib.atoiAll]
  rw [if_pos (Or.inr ae),hp]
  dsimp only
  rw [if_neg (by intro e;exact e.1 ae),if_neg ab,if_pos ae]
  congr 1;omega
 ·rw [pc h0]
  obtain ⟨b,r,e,hb⟩:=Ye n.natAbs
  have hb:=OI.1 hb
  rw [e] at hp ⊢
  simp only [Lib.atoiAll]
  rw [if_neg ab,hp]
  dsimp only
  rw [if_neg ab,if_neg ab,if_neg ab]
  congr 1;omega
def eV(n:Int):Bool:=decide (-999999999≤n)&&decide (n≤999999999)
def vP{n:Int}:eV n=true ↔ -999999999≤n∧n≤999999999:=by simp [eV]
noncomputable def ic(s:am):Option Int:=jF eV itoa s
def yU(s:am):Int:=match Lib.atoiAll s with | .ok v=>v|_=>0
def OL(n:Int)(h:eV n=true):yU (itoa n)=n:=by unfold yU;rw [OK (vP.1 h)]
def yV{n:Int}(h:eV n=true):ic (itoa n)=some n:=tD OL h
def Yf{s:am}{n:Int}(h:ic s=some n):eV n=true∧itoa n=s:=OG h
def Yg{s:am}(h:∀v,Lib.atoiAll s ≠ .ok v):ic s=none:=by
 apply Eo
 rintro n hn rfl
 exact h n (OK (vP.1 hn))
def Yh{s:am}{v:Int}(h:Lib.atoiAll s = .ok v)(h2:¬(eV v=true∧itoa v=s)):ic s=none:=by
 refine nX OL ?_
 rw [show yU s=v by unfold yU;rw [h]];exact h2
def Yi{s:am}{v:Int}(h1:eV v=true)(h2:itoa v=s):ic s=some v:=by rw [←h2];exact yV h1
/- the reference's reading -/
noncomputable def fz(s:am):Bool:=(ic s).isSome
noncomputable def bQ(s:am):Int:=(ic s).getD 0
noncomputable def go(s:am):Int:=(ic s).getD (-100000)
def tF{n:Int}(h:eV n=true):fz (itoa n)=true:=by unfold fz;rw [yV h];rfl
def kU{n:Int}(h:eV n=true):bQ (itoa n)=n:=by unfold bQ;rw [yV h];rfl
def lU{n:Int}(h:eV n=true):go (itoa n)=n:=by unfold go;rw [yV h];rfl
def Yj(s:am):-999999999≤bQ s∧bQ s≤999999999:=by
 unfold bQ
 cases h:ic s with
 | none=>simp
 | some n=>exact vP.1 (Yf h).1
/- ---- parts of a text ---- -/
def aw(c:UInt8):am→List am
 | []=>[[]]
 | b::r=>if b=c then []::aw c r else (b::(aw c r).headD [])::(aw c r).tail
def yW(c:UInt8)(s:am):aw c s≠[]:=by
 cases s with
 | nil=>simp [aw]
 | cons b r=>unfold aw;split<;>simp
def nY{c:UInt8}{a:am}(h:c∉a):aw c a=[a]:=by
 induction a with
 | nil=>rfl
 | cons b r ih=>
  unfold aw
  rw [if_neg (by rintro rfl;simp at h),ih (fun hx=>h fS)]
  rfl
def OM(c:UInt8)(a b:am):aw c (a++c::b)=aw c a++aw c b:=by
 induction a with
 | nil=>simp [aw]
 | cons x r ih=>
  rw [List.cons_append]
  rw [aw,aw.eq_2 c x r]
  split
  ·rw [ih];rfl
  ·have h1:=yW c r
   rw [ih]
   cases hh:aw c r with
   | nil=>exact absurd hh h1
   | cons y ys=>rfl
def kk{c:UInt8}{a b:am}(h:c∉a):aw c (a++c::b)=a::aw c b:=by rw [OM,nY h];rfl
def ON{c:UInt8}{ws:List am}(h0:ws≠[])(h:∀w∈ws,c∉w):aw c (ee ws [c])=ws:=by
 induction ws using vm with
 | h0=>exact absurd rfl h0
 | h1 ws y ih=>
  rw [pd]
  split
  ·rename_i e;subst e;simp [nY (h y aF)]
  ·rename_i e
   rw [aW,List.singleton_append,OM,ih e (fun w hw=>h w (by simp [hw])),nY (h y aF)]
/- the library's splitting is this one -/
def Yk(c:UInt8)(s:am):(aw c s).length=s.count c+1:=by
 induction s with
 | nil=>rfl
 | cons b r ih=>
  unfold aw
  split
  ·rename_i h;subst h;simp [ih]
  ·rename_i h
   have h1:=yW c r
   rw [List.count_cons_of_ne (fun e=>h e)]
   cases hh:aw c r with
   | nil=>exact absurd hh h1
   | cons y ys=>rw [hh] at ih;simpa using ih
def OO{c:UInt8}{a b:am}(h:c∉a):Lib.index (a++c::b) [c]=a.length:=by
 induction a with
 | nil=>unfold Lib.index;simp
 | cons x r ih=>
  rw [List.cons_append]
  unfold Lib.index
  rw [if_neg,ih (fun hx=>h fS)]
  ·rw [if_neg]
   ·simp
   ·intro e;have:=beq_iff_eq.1 e;omega
  ·simp;rintro rfl;simp at h
def Yl{c:UInt8}{s:am}(h:c∈s):∃a b,s=a++c::b∧c∉a:=by
 induction s with
 | nil=>simp at h
 | cons x r ih=>
  by_cases e:x=c
  ·subst e;exact ⟨[],r,rfl,aF⟩
  ·obtain ⟨a,b,e1,e2⟩:=ih (by rcases List.mem_cons.1 h with h|h;exact absurd h.symm e;exact h)
   exact ⟨x::a,b,by rw [e1];rfl,by rintro hx;rcases List.mem_cons.1 hx with hx|hx;exact e hx.symm;exact e2 hx⟩
def OP(c:UInt8):∀(k:Nat) (s:am),s.count c=k→Lib.splitK [c] 0 k s=aw c s
 | 0,s,h=>by rw [nY (fun hx=>by have:=List.count_pos_iff.2 hx;omega)];rfl
 | k+1,s,h=>by
  have hm:c∈s:=List.count_pos_iff.1 ab
  obtain ⟨a,b,rfl,ha⟩:=Yl hm
  rw [kk ha]
  unfold Lib.splitK
  rw [OO ha,if_neg (by intro e;have:=beq_iff_eq.1 e;omega)]
  have hc:b.count c=k:=by
   rw [List.count_append,List.count_cons_self,List.count_eq_zero_of_not_mem ha] at h;omega
  have:=OP c k b hc
  simp [this]
end
/- ---- parts of printed texts ---- -/
def de{n:Int}{c:UInt8}(h:vO c=false):c∉itoa n:=by
 intro hc
 rw [Yc n c hc] at h
 cases h
def tG{l:List Int}{c:UInt8}(h:vO c=false)(h2:c≠44):c∉cJ l:=by
 unfold cJ
 have:∀ws:List am,(∀w∈ws,c∉w)→c∉ee ws [44]:=by
  intro ws
  induction ws using vm with
  | h0=>intro _;simp [Dl]
  | h1 ws y ih=>
   intro hw
   rw [pd]
   split
   ·exact hw y aF
   ·simp only [cB,List.mem_singleton,not_or]
    exact ⟨⟨ih (fun w hx=>hw w fS),h2⟩,hw y aF⟩
 refine this _ fun w hw=>?_
 obtain ⟨x,_,rfl⟩:=List.mem_map.1 hw
 exact de h
def Es{l:List Int}(h:l≠[]):aw 44 (cJ l)=l.map itoa:=by
 unfold cJ
 refine ON om fun w hw=>?_
 obtain ⟨x,_,rfl⟩:=List.mem_map.1 hw
 exact de ae
noncomputable def lV(s:am):Bool:=(aw 44 s).all fz
noncomputable def nZ(s:am):List Int:=if lV s then (aw 44 s).map bQ else []
noncomputable def vQ(s:am):List Int:=(aw 44 s).map go
def Et{l:List Int}(h:l≠[])(h2:∀x∈l,eV x=true):lV (cJ l)=true:=by
 unfold lV
 rw [Es h,nk]
 intro w hw
 obtain ⟨x,hx,rfl⟩:=List.mem_map.1 hw
 exact tF (h2 x hx)
def Ym{l:List Int}(h2:∀x∈l,eV x=true):(l.map itoa).map bQ=l:=by
 rw [List.map_map]
 conv=>rhs;rw [←List.map_id l]
 exact List.map_congr_left fun x hx=>kU (h2 x hx)
def Yn{l:List Int}(h2:∀x∈l,eV x=true):(l.map itoa).map go=l:=by
 rw [List.map_map]
 conv=>rhs;rw [←List.map_id l]
 exact List.map_congr_left fun x hx=>lU (h2 x hx)
def OQ{l:List Int}(h:l≠[])(h2:∀x∈l,eV x=true):nZ (cJ l)=l:=by
 unfold nZ
 rw [if_pos (Et h h2),Es h,Ym h2]
def OR{l:List Int}(h:l≠[])(h2:∀x∈l,eV x=true):vQ (cJ l)=l:=by
 unfold vQ
 rw [Es h,Yn h2]
def dm(s p:am):am:=(Lib.cut s p).1
def fg(s p:am):am:=(Lib.cut s p).2.1
def tH{c:UInt8}{a b:am}(h:c∉a):dm (a++c::b) [c]=a∧fg (a++c::b) [c]=b:=by
 unfold dm fg Lib.cut
 rw [OO h,if_pos ab]
 simp
def Yo{c:UInt8}{a b:am}(h:c∉a):Lib.index (a++c::c::b) [c,c]=a.length:=by
 induction a with
 | nil=>unfold Lib.index;simp
 | cons x r ih=>
  rw [List.cons_append]
  unfold Lib.index
  rw [if_neg,ih (fun hx=>h fS)]
  ·rw [if_neg]
   ·simp
   ·intro e;have:=beq_iff_eq.1 e;omega
  ·simp;rintro rfl;simp at h
def Yp{c:UInt8}{a b:am}(h:c∉a):dm (a++c::c::b) [c,c]=a∧fg (a++c::c::b) [c,c]=b:=by
 unfold dm fg Lib.cut
 rw [Yo h,if_pos ab]
 simp
def ie{n:Int}(a : -999999999≤n)(b:n≤999999999):eV n=true:=vP.2 ⟨a,b⟩
/- ---- rows ---- -/
def OS{r:Row}(h:bf r=true):(0≤r.Id∧r.Id≤999)∧r.Values≠[]∧r.Values.length=3∧∀x∈r.Values,eV x=true:=by
 obtain ⟨a,b,c,d⟩:=mX h
 refine ⟨⟨a,b⟩,by rintro e;rw [e] at c;simp at c,c,fun x hx=>?_⟩
 unfold bf at h
 simp only [aT] at h
 have:=List.all_eq_true.1 h.1 x hx
 simp [ja,aE] at this
 exact ie ab ab
noncomputable def kl(s:am):Row:=⟨bQ (dm s [58]),nZ (fg s [58])⟩
noncomputable def yX(s:am):Bool:=fz (dm s [58])&&lV (fg s [58])
noncomputable def Eu(s:am):Row:=⟨go ((aw 58 s).getD 0 []),if (aw 58 s).length=2 then vQ ((aw 58 s).getD 1 []) else []⟩
noncomputable def jG(s:am):Option Row:=jF bf dN s
def OT{r:Row}(h:bf r=true):dN r=itoa r.Id++58::cJ r.Values:=by unfold dN;rw [if_pos h];simp
def yY(r:Row)(h:bf r=true):kl (dN r)=r∧yX (dN r)=true:=by
 obtain ⟨⟨a,b⟩,c,d,e⟩:=OS h
 have hc:=tH (c:=58) (a:=itoa r.Id) (b:=cJ r.Values) (de ae)
 have hn:=ie (n:=r.Id) ab ab
 unfold kl yX
 rw [OT h,hc.1,hc.2,kU hn,OQ c e,tF hn,Et c e]
 exact ⟨rfl,rfl⟩
def Yq(r:Row)(h:bf r=true):Eu (dN r)=r:=by
 obtain ⟨⟨a,b⟩,c,d,e⟩:=OS h
 have hs:aw 58 (dN r)=[itoa r.Id,cJ r.Values]:=by
  rw [OT h,kk (de ae),nY (tG ae ae)]
 unfold Eu
 rw [hs]
 show (⟨go (itoa r.Id),vQ (cJ r.Values)⟩:Row)=r
 rw [lU (ie ab ab),OR c e]
def oa:Row:=⟨0,[]⟩
def Yr{s:am}(h:yX s=false∨bf (kl s)=false∨dN (kl s)≠s):jG s=none:=by
 rcases h with h|h|h
 ·exact OH (fun r hr=>(yY r hr).2) h
 ·exact nX (g:=kl) (fun r hr=>(yY r hr).1) eJ
 ·exact nX (g:=kl) (fun r hr=>(yY r hr).1) (fun e=>h e.2)
def Ys{s:am}(h1:bf (kl s)=true)(h2:dN (kl s)=s):jG s=some (kl s):=yR (g:=kl) (fun r hr=>(yY r hr).1) h1 h2
/- ---- a number behind a letter ---- -/
def vR(s p:am):Bool:=p.isPrefixOf s
def lW(s p:am):am:=if p.isPrefixOf s then s.drop p.length else s
noncomputable def nb(c:UInt8)(w:am):Int:=bQ (lW w [c])
noncomputable def nc(c:UInt8)(w:am):Bool:=vR w [c]&&fz (lW w [c])
noncomputable def tJ(c:UInt8)(w:am):Int:=if w.length < 2∨w.head?≠some c then -100000 else go (w.drop 1)
def yZ{c:UInt8}{n:Int}(h:eV n=true):nb c (c::itoa n)=n∧nc c (c::itoa n)=true∧tJ c (c::itoa n)=n:=by
 have h1:=Yd n
 have h2:(itoa n).length≠0:=by simpa using h1
 refine ⟨?_,?_,?_⟩
 ·unfold nb lW;rw [if_pos aF];exact kU h
 ·unfold nc vR lW;rw [if_pos aF];simp [tF h]
 ·unfold tJ;rw [if_neg iR];exact lU h
/- ---- updates ---- -/
def cy:adb:=⟨0,oa,0,0⟩
noncomputable def jH(s:am):adb:=
 if (aw 32 s).getD 0 []=([105,110,115,101,114,116]:am)∧(aw 32 s).length=2 then ⟨1,(jG ((aw 32 s).getD 1 [])).getD oa,0,0⟩
 else if (aw 32 s).getD 0 []=([100,101,108,101,116,101]:am)∧(aw 32 s).length=2 then ⟨2,⟨bQ ((aw 32 s).getD 1 []),[]⟩,0,0⟩
 else if (aw 32 s).getD 0 []=([115,101,116]:am)∧(aw 32 s).length=4 then ⟨3,⟨bQ ((aw 32 s).getD 1 []),[]⟩,nb 102 ((aw 32 s).getD 2 []),bQ ((aw 32 s).getD 3 [])⟩
 else cy
noncomputable def zb(s:am):adb:=
 if (aw 32 s).length=2∧(aw 32 s).getD 0 []=([105,110,115,101,114,116]:am) then ⟨1,(jG ((aw 32 s).getD 1 [])).getD oa,0,0⟩
 else if (aw 32 s).length=2 then ⟨2,⟨go ((aw 32 s).getD 1 []),[]⟩,0,0⟩
 else if (aw 32 s).length=4 then ⟨3,⟨go ((aw 32 s).getD 1 []),[]⟩,tJ 102 ((aw 32 s).getD 2 []),go ((aw 32 s).getD 3 [])⟩
 else cy
noncomputable def gz(s:am):Option adb:=jF ci dO s
def Yt{r:Row}:(32:UInt8)∉dN r:=by
 unfold dN
 split
 ·simp only [cB,not_or]
  exact ⟨⟨de ae,ae⟩,tG ae ae⟩
 ·simp
def qV{u:adb}(h:ci u=true) :
  (∃r,bf r=true∧u=⟨1,r,0,0⟩∧dO u=([105,110,115,101,114,116]:am)++32::dN r) ∨
  (∃n:Int,0≤n∧n≤999∧u=⟨2,⟨n,[]⟩,0,0⟩∧dO u=([100,101,108,101,116,101]:am)++32::itoa n) ∨
  (∃n f v:Int,(0≤n∧n≤999)∧(0≤f∧f≤2)∧(0≤v∧v≤99)∧u=⟨3,⟨n,[]⟩,f,v⟩∧dO u=([115,101,116]:am)++32::(itoa n++32::(102::itoa f++32::itoa v))):=by
 have h':=h
 obtain ⟨k,⟨i,vs⟩,f,v⟩:=u
 unfold ci at h
 dsimp only at h
 split at h
 ·rename_i hk
  subst hk
  simp only [aT,decide_eq_true_eq] at h
  obtain ⟨h1,rfl,rfl⟩:=h
  refine Or.inl ⟨⟨i,vs⟩,h1,rfl,?_⟩
  unfold dO
  rw [if_pos h',if_pos rfl]
  rfl
 ·split at h
  ·rename_i hk
   subst hk
   simp [lH,aE] at h
   obtain ⟨⟨⟨h1,h2⟩,rfl⟩,rfl,rfl⟩:=h
   refine Or.inr (Or.inl ⟨i,h1,h2,rfl,?_⟩)
   unfold dO
   rw [if_pos h',if_neg aF,if_pos rfl]
   rfl
  ·split at h
   ·rename_i hk
    subst hk
    simp [lH,aE] at h
    obtain ⟨⟨⟨h1,h2⟩,rfl⟩,⟨h3,h4⟩,h5,h6⟩:=h
    refine Or.inr (Or.inr ⟨i,f,v,⟨h1,h2⟩,⟨h3,h4⟩,⟨h5,h6⟩,rfl,?_⟩)
    unfold dO
    rw [if_pos h',if_neg aF,if_neg aF]
    simp [aW]
   ·cases h
def Yu{r:Row}(h:bf r=true):jG (dN r)=some r:=tD (g:=Eu) Yq h
def zc(u:adb)(h:ci u=true):jH (dO u)=u∧zb (dO u)=u:=by
 rcases qV h with ⟨r,h1,rfl,e⟩|⟨n,h1,h2,rfl,e⟩|⟨n,f,v,⟨h1,h2⟩,⟨h3,h4⟩,⟨h5,h6⟩,rfl,e⟩
 ·have hs:aw 32 (([105,110,115,101,114,116]:am)++32::dN r)=[([105,110,115,101,114,116]:am),dN r]:=by rw [kk ae,nY Yt]
  unfold jH zb
  rw [e,hs]
  have:=Yu h1
  simp [this]
 ·have hs:aw 32 (([100,101,108,101,116,101]:am)++32::itoa n)=[([100,101,108,101,116,101]:am),itoa n]:=by rw [kk ae,nY (de ae)]
  have hn:=ie (n:=n) ab ab
  unfold jH zb
  rw [e,hs]
  simp [kU hn,lU hn]
 ·have hs:aw 32 (([115,101,116]:am)++32::(itoa n++32::(102::itoa f++32::itoa v)))=[([115,101,116]:am),itoa n,102::itoa f,itoa v]:=by
   rw [kk ae,kk (de ae),kk,nY (de ae)]
   intro hx
   rcases List.mem_cons.1 hx with hx|hx
   ·exact absurd hx ae
   ·exact de ae hx
  have hn:=ie (n:=n) ab ab
  have hf:=yZ (c:=102) (ie (n:=f) ab ab)
  have hv:=ie (n:=v) ab ab
  unfold jH zb
  rw [e,hs]
  simp [kU hn,lU hn,kU hv,lU hv,hf]
def Yv{u:adb}(h:ci u=true):dO u≠[]:=by
 rcases qV h with ⟨r,h1,rfl,e⟩|⟨n,h1,h2,rfl,e⟩|⟨n,f,v,⟨h1,h2⟩,⟨h3,h4⟩,⟨h5,h6⟩,rfl,e⟩<;>rw [e]<;>simp
def Yw{u:adb}(h:ci u=true):gz (dO u)=some u:=tD (g:=jH) (fun u hu=>(zc u hu).1) h
def Yx{s:am}(h:ci (jH s)=false∨dO (jH s)≠s):gz s=none:=by
 rcases h with h|h
 ·exact nX (g:=jH) (fun u hu=>(zc u hu).1) eJ
 ·exact nX (g:=jH) (fun u hu=>(zc u hu).1) (fun e=>h e.2)
def Yy{s:am}(h1:ci (jH s)=true)(h2:dO (jH s)=s):gz s=some (jH s):=yR (g:=jH) (fun u hu=>(zc u hu).1) h1 h2
/- ---- queries ---- -/
def dp:ac9:=⟨0,0,[],[]⟩
noncomputable def zd(ws:List am)(j:Nat):dt:=⟨nb 102 (ws.getD (2+2 * j) []),bQ (dm (ws.getD (3+2 * j) []) [46,46]),bQ (fg (ws.getD (3+2 * j) []) [46,46])⟩
noncomputable def qW(ws:List am)(j:Nat):Bool:=nc 102 (ws.getD (2+2 * j) [])&&(fz (dm (ws.getD (3+2 * j) []) [46,46])&&fz (fg (ws.getD (3+2 * j) []) [46,46]))
noncomputable def pA(ws:List am)(k:Nat):List dt:=(List.range k).map (zd ws)
noncomputable def jj(ws:List am):ac9:=⟨nb 113 (ws.getD 0 []),nb 116 (ws.getD 1 []),pA ws ((ws.length - 4) / 2),nZ (ws.getD (ws.length - 1) [])⟩
noncomputable def ze(ws:List am):Bool:=nc 113 (ws.getD 0 [])&&(nc 116 (ws.getD 1 [])&&lV (ws.getD (ws.length - 1) []))
noncomputable def pB(ws:List am)(k:Nat):Bool:=ze ws&&(List.range k).all (qW ws)
noncomputable def tK(ws:List am):Bool:=decide (4≤ws.length∧ws.length%2=0∧ws.length≤10)&&pB ws ((ws.length - 4) / 2)
def Yz(ws:List am)(k:Nat):pA ws (k+1)=pA ws k++[zd ws k]:=by unfold pA;rw [List.range_succ,bL];rfl
def YA(ws:List am)(k:Nat):pB ws (k+1)=(pB ws k&&qW ws k):=by unfold pB;rw [List.range_succ,List.all_append];simp [Bool.and_assoc]
def Ev(ws:List am)(k:Nat):(pA ws k).length=k:=by unfold pA;simp
def vS(w:am)(i:Nat):Bool:=(w.drop i).take 2==[46,46]
def Ew(w:am):Option Nat:=(List.range (w.length - 1)).find? (vS w)
noncomputable def vT(w:am):Int×Int:=match Ew w with|some i=>(go (w.take i),go (w.drop (i+2)))|none=>(-100000,-100000)
noncomputable def Ex(ws:List am)(j:Nat):dt:=⟨tJ 102 (ws.getD (2+2 * j) []),(vT (ws.getD (3+2 * j) [])).1,(vT (ws.getD (3+2 * j) [])).2⟩
noncomputable def OU(ws:List am)(k:Nat):List dt:=(List.range k).map (Ex ws)
noncomputable def OV(ws:List am):ac9:=⟨tJ 113 (ws.getD 0 []),tJ 116 (ws.getD 1 []),OU ws ((ws.length - 4) / 2),vQ (ws.getD (ws.length - 1) [])⟩
def YB{w:am}{k:Nat}(h0:k+1 < w.length)(h1:∀j,j < k→vS w j=false)(h2:vS w k=true):vT w=(go (w.take k),go (w.drop (k+2))):=by
 have:Ew w=some k:=by
  unfold Ew
  rw [List.find?_range_eq_some]
  exact ⟨h2,List.mem_range.2 ab,fun j hj=>by rw [h1 j hj];rfl⟩
 unfold vT
 rw [this]
def YC{a b:am}(ha:(46:UInt8)∉a):vT (a++46::46::b)=(go a,go b):=by
 have:=YB (w:=a++46::46::b) (k:=a.length) aF (fun j hj=>?_) (by unfold vS;simp)
 ·rw [this,List.take_append_of_le_length (Nat.le_refl _),cC,show a++46::46::b=(a++[46,46])++b by simp,List.drop_append_of_le_length aF,List.drop_eq_nil_of_le aF];rfl
 ·unfold vS
  rw [Bool.eq_false_iff]
  intro e
  have e:=beq_iff_eq.1 e
  rw [List.drop_append_of_le_length ab,List.drop_eq_getElem_cons hj,List.cons_append,List.take_succ_cons] at e
  injection e with e1 e2
  exact ha (e1▸List.getElem_mem hj)
def OW{q:ac9}(h:aQ q=true):eV q.Id=true∧eV q.ade=true∧q.Out≠[]∧(∀x∈q.Out,eV x=true)∧q.ada.length≤3∧∀k,(hk:k < q.ada.length)→eV q.ada[k].Field=true∧eV q.ada[k].Low=true∧eV q.ada[k].High=true:=by
 obtain ⟨a1,a2,a3,a4,a5,a6,a7,a8⟩:=py h
 have ho:=vu h
 have ho1:1≤q.Out.length:=by
  have h':=h
  unfold aQ kc at h'
  simp only [aT,aE,decide_eq_true_eq] at h'
  omega
 refine ⟨ie ab ab,ie ab ab,by rintro e;rw [e] at ho1;simp at ho1,fun x hx=>?_,a5,fun k hk=>?_⟩
 ·have:=ho.2 x hx
  exact ie ab ab
 ·have:=a8 k hk
  exact ⟨ie ab ab,ie ab ab,ie ab ab⟩
def ig(q:ac9):List am:=eU q q.ada.length++[[111,117,116],cJ q.Out]
def YD{c:dt}:∀w∈gS c,(32:UInt8)∉w:=by
 intro w hw
 unfold gS at hw
 rcases List.mem_cons.1 hw with rfl|hw
 ·simp only [cB,not_or];exact ⟨ae,de ae⟩
 ·rw [List.mem_singleton] at hw;subst hw
  simp only [cB,not_or];exact ⟨⟨de ae,ae⟩,de ae⟩
def YE(q:ac9):∀w∈ig q,(32:UInt8)∉w:=by
 intro w hw
 unfold ig eU at hw
 rcases List.mem_append.1 hw with hw|hw
 ·rcases List.mem_append.1 hw with hw|hw
  ·rcases List.mem_cons.1 hw with rfl|hw
   ·simp only [cB,not_or];exact ⟨ae,de ae⟩
   ·rw [List.mem_singleton] at hw;subst hw
    simp only [cB,not_or];exact ⟨ae,de ae⟩
  ·obtain ⟨c,_,hc⟩:=List.mem_flatMap.1 hw
   exact YD w hc
 ·rcases List.mem_cons.1 hw with rfl|hw
  ·decide
  ·rw [List.mem_singleton] at hw;subst hw
   exact tG ae ae
def YF{q:ac9}(h:aQ q=true):aw 32 (cw q)=ig q:=by
 unfold cw
 rw [if_pos h]
 exact ON aF (YE q)
def OX(q:ac9):(ig q).length=4+2 * q.ada.length:=by
 unfold ig
 rw [aZ,vK]
 simp;omega
def OY:∀(l:List dt) (k:Nat) (hk:k < l.length),(l.flatMap gS).getD (2 * k) []=[102]++itoa l[k].Field∧(l.flatMap gS).getD (2 * k+1) []=itoa l[k].Low++[46,46]++itoa l[k].High
 | c::r,0,_=>by simp [gS]
 | c::r,k+1,hk=>by
  have:=OY r k ww
  simpa [gS,Nat.mul_succ] using this
def YG(l:List dt):(l.flatMap gS).length=2 * l.length:=by
 induction l with
 | nil=>rfl
 | cons c r ih=>rw [List.flatMap_cons,aZ,ih];simp [gS];omega
def OZ{q:ac9}:(ig q).getD 0 []=113::itoa q.Id∧(ig q).getD 1 []=116::itoa q.ade∧(ig q).getD (3+2 * q.ada.length) []=cJ q.Out∧∀k,(hk:k < q.ada.length)→(ig q).getD (2+2 * k) []=102::itoa q.ada[k].Field∧(ig q).getD (3+2 * k) []=itoa q.ada[k].Low++46::46::itoa q.ada[k].High:=by
 have hl:=YG q.ada
 have e:ig q=(113::itoa q.Id)::(116::itoa q.ade)::(q.ada.flatMap gS++[[111,117,116],cJ q.Out]):=by
  unfold ig eU
  rw [cC]
  simp
 rw [e]
 refine ⟨rfl,rfl,?_,fun k hk=>?_⟩
 ·rw [show 3+2 * q.ada.length=(q.ada.flatMap gS).length+1+1+1 by omega,List.getD_cons_succ,List.getD_cons_succ]
  simp [List.getD_eq_getElem?_getD,List.getElem?_append_right]
 ·have:=OY q.ada k hk
  rw [show 2+2 * k=2 * k+1+1 by omega,show 3+2 * k=2 * k+1+1+1 by omega,List.getD_cons_succ,List.getD_cons_succ,List.getD_cons_succ,List.getD_cons_succ]
  have gl:∀(xs ys:List am) (i:Nat),i < xs.length→(xs++ys).getD i []=xs.getD i []:=fun xs ys i hi=>by rw [List.getD_eq_getElem?_getD,List.getElem?_append_left hi,←List.getD_eq_getElem?_getD]
  rw [gl _ _ _ ab,gl _ _ _ ab]
  rw [this.1,this.2]
  simp
def Ey{q:ac9}(h:aQ q=true){k:Nat}(hk:k < q.ada.length):zd (ig q) k=q.ada[k]∧qW (ig q) k=true∧Ex (ig q) k=q.ada[k]:=by
 obtain ⟨a1,a2,a3,a4,a5,a6⟩:=OW h
 obtain ⟨b1,b2,b3,b4⟩:=OZ (q:=q)
 obtain ⟨c1,c2⟩:=b4 k hk
 obtain ⟨d1,d2,d3⟩:=a6 k hk
 have hc:=Yp (c:=46) (a:=itoa q.ada[k].Low) (b:=itoa q.ada[k].High) (de ae)
 have hr:=YC (a:=itoa q.ada[k].Low) (b:=itoa q.ada[k].High) (de ae)
 obtain ⟨e1,e2,e3⟩:=yZ (c:=102) d1
 unfold zd qW Ex
 rw [c1,c2,hc.1,hc.2,hr,e1,e2,e3,kU d2,kU d3,tF d2,tF d3]
 dsimp only
 rw [lU d2,lU d3]
 exact ⟨rfl,rfl,rfl⟩
def Pa{l:List dt}{f:Nat→dt}(h:∀k,(hk:k < l.length)→f k=l[k]):(List.range l.length).map f=l:=by
 apply List.ext_getElem
 ·simp
 ·intro i h1 h2
  simp [h i h2]
def Pb(q:ac9)(h:aQ q=true):jj (aw 32 (cw q))=q∧tK (aw 32 (cw q))=true∧OV (aw 32 (cw q))=q:=by
 obtain ⟨a1,a2,a3,a4,a5,a6⟩:=OW h
 obtain ⟨b1,b2,b3,b4⟩:=OZ (q:=q)
 have hl:=OX q
 have hk:((ig q).length - 4) / 2=q.ada.length:=ab
 have h1:(ig q).length - 1=3+2 * q.ada.length:=ab
 obtain ⟨d1,d2,d3⟩:=yZ (c:=113) a1
 obtain ⟨e1,e2,e3⟩:=yZ (c:=116) a2
 rw [YF h]
 refine ⟨?_,?_,?_⟩
 ·unfold jj pA
  rw [hk,h1,b1,b2,b3,d1,e1,OQ a3 a4,Pa fun k hk=>(Ey h hk).1]
 ·unfold tK pB ze
  rw [hk,h1,b1,b2,b3,d2,e2,Et a3 a4,hl]
  simp only [aT,decide_eq_true_eq,nk,List.mem_range]
  refine ⟨ab,aF,fun k hk=>(Ey h hk).2.1⟩
 ·unfold OV OU
  rw [hk,h1,b1,b2,b3,d3,e3,OR a3 a4,Pa fun k hk=>(Ey h hk).2.2]
noncomputable def gA(s:am):Option ac9:=jF aQ cw s
def zg(q:ac9)(h:aQ q=true):(fun s=>jj (aw 32 s)) (cw q)=q:=(Pb q h).1
def Pc{q:ac9}(h:aQ q=true):gA (cw q)=some q:=tD (g:=fun s=>jj (aw 32 s)) zg h
def Pd{s:am}(h:tK (aw 32 s)=false∨aQ (jj (aw 32 s))=false∨cw (jj (aw 32 s))≠s):gA s=none:=by
 rcases h with h|h|h
 ·exact OH (ok:=fun s=>tK (aw 32 s)) (fun q hq=>(Pb q hq).2.1) h
 ·exact nX (g:=fun s=>jj (aw 32 s)) zg eJ
 ·exact nX (g:=fun s=>jj (aw 32 s)) zg (fun e=>h e.2)
def YH{s:am}(h1:aQ (jj (aw 32 s))=true)(h2:cw (jj (aw 32 s))=s):gA s=some (jj (aw 32 s)):=yR (g:=fun s=>jj (aw 32 s)) zg h1 h2
/- ---- events ---- -/
def cY:bR:=⟨0,dp,0,0,cy,0⟩
noncomputable def cK(s:am):bR:=
 if dm s [32]=([97,100,109,105,116]:am) then ⟨1,(gA (fg (fg s [32]) [32])).getD dp,bQ (dm (fg s [32]) [32]),0,cy,0⟩
 else if dm s [32]=([99,97,110,99,101,108]:am) then ⟨2,dp,0,bQ (fg s [32]),cy,0⟩
 else if dm s [32]=([115,116,101,112]:am) then ⟨4,dp,0,0,cy,bQ (fg s [32])⟩
 else ⟨3,dp,0,0,(gz s).getD cy,0⟩
noncomputable def vU(s:am):bR:=
 if 2 < (aw 32 s).length∧(aw 32 s).getD 0 []=([97,100,109,105,116]:am) then ⟨1,(gA (s.drop (((aw 32 s).getD 0 []).length+((aw 32 s).getD 1 []).length+2))).getD dp,go ((aw 32 s).getD 1 []),0,cy,0⟩
 else if (aw 32 s).length=2∧(aw 32 s).getD 0 []=([99,97,110,99,101,108]:am) then ⟨2,dp,0,go ((aw 32 s).getD 1 []),cy,0⟩
 else if (aw 32 s).length=2∧(aw 32 s).getD 0 []=([115,116,101,112]:am) then ⟨4,dp,0,0,cy,go ((aw 32 s).getD 1 [])⟩
 else ⟨3,dp,0,0,(gz s).getD cy,0⟩
noncomputable def bq(s:am):Option bR:=jF ca bP s
def Ez{q:ac9}:ta q=true↔q=dp:=by rw [←ve,mD];exact Iff.rfl
def zh{u:adb}:tb u=true↔u=cy:=by rw [←vf,mD];exact Iff.rfl
def tL{x:bR}(h:ca x=true) :
  (∃(q:ac9) (n:Int),aQ q=true∧0≤n∧n≤32∧x=⟨1,q,n,0,cy,0⟩∧bP x=([97,100,109,105,116]:am)++32::(itoa n++32::cw q)) ∨
  (∃n:Int,0≤n∧n≤23∧x=⟨2,dp,0,n,cy,0⟩∧bP x=([99,97,110,99,101,108]:am)++32::itoa n) ∨
  (∃u:adb,ci u=true∧x=⟨3,dp,0,0,u,0⟩∧bP x=dO u) ∨
  (∃n:Int,1≤n∧n≤100∧x=⟨4,dp,0,0,cy,n⟩∧bP x=([115,116,101,112]:am)++32::itoa n):=by
 have h':=h
 obtain ⟨k,q,l,i,u,n⟩:=x
 unfold ca at h
 dsimp only at h
 split at h
 ·rename_i hk
  subst hk
  simp only [aT,decide_eq_true_eq,aE,zh] at h
  obtain ⟨h1,⟨h2,h3⟩,rfl,rfl,rfl⟩:=h
  refine Or.inl ⟨q,l,h1,h2,h3,rfl,?_⟩
  unfold bP
  rw [if_pos h',if_pos rfl]
  simp
 ·split at h
  ·rename_i hk
   subst hk
   simp only [aT,decide_eq_true_eq,aE,zh,Ez] at h
   obtain ⟨rfl,rfl,⟨h2,h3⟩,rfl,rfl⟩:=h
   refine Or.inr (Or.inl ⟨i,h2,h3,rfl,?_⟩)
   unfold bP
   rw [if_pos h',if_neg aF,if_pos rfl]
   simp
  ·split at h
   ·rename_i hk
    subst hk
    simp only [aT,decide_eq_true_eq,aE,zh,Ez] at h
    obtain ⟨rfl,rfl,rfl,h1,rfl⟩:=h
    refine Or.inr (Or.inr (Or.inl ⟨u,h1,rfl,?_⟩))
    unfold bP
    rw [if_pos h',if_neg aF,if_neg aF,if_pos rfl]
   ·split at h
    ·rename_i hk
     subst hk
     simp only [aT,decide_eq_true_eq,aE,zh,Ez] at h
     obtain ⟨rfl,rfl,rfl,rfl,h2,h3⟩:=h
     refine Or.inr (Or.inr (Or.inr ⟨n,h2,h3,rfl,?_⟩))
     unfold bP
     rw [if_pos h',if_neg aF,if_neg aF,if_neg aF]
     simp
    ·cases h
def YI{u:adb}(h:ci u=true):∃a b,dO u=a++32::b∧(32:UInt8)∉a∧a≠([97,100,109,105,116]:am)∧a≠([99,97,110,99,101,108]:am)∧a≠([115,116,101,112]:am):=by
 rcases qV h with ⟨r,h1,rfl,e⟩|⟨n,h1,h2,rfl,e⟩|⟨n,f,v,⟨h1,h2⟩,⟨h3,h4⟩,⟨h5,h6⟩,rfl,e⟩<;>exact ⟨_,_,e,ae,ae,ae,ae⟩
def zi(x:bR)(h:ca x=true):cK (bP x)=x∧vU (bP x)=x:=by
 rcases tL h with ⟨q,n,h1,h2,h3,rfl,e⟩|⟨n,h2,h3,rfl,e⟩|⟨u,h1,rfl,e⟩|⟨n,h2,h3,rfl,e⟩
 ·have hn:=ie (n:=n) ab ab
  have hc:=tH (c:=32) (a:=([97,100,109,105,116]:am)) (b:=itoa n++32::cw q) ae
  have hc2:=tH (c:=32) (a:=itoa n) (b:=cw q) (de ae)
  have hs:aw 32 (([97,100,109,105,116]:am)++32::(itoa n++32::cw q))=([97,100,109,105,116]:am)::itoa n::aw 32 (cw q):=by rw [kk ae,kk (de ae)]
  have hd:(([97,100,109,105,116]:am)++32::(itoa n++32::cw q)).drop (([97,100,109,105,116]:am).length+(itoa n).length+2)=cw q:=by
   rw [show ([97,100,109,105,116]:am)++32::(itoa n++32::cw q)=(([97,100,109,105,116]:am)++32::itoa n++[32])++cw q by simp]
   rw [List.drop_append_of_le_length iR,List.drop_eq_nil_of_le iR];rfl
  have hne:=yW 32 (cw q)
  have hl:(aw 32 (cw q)).length≠0:=by simpa using hne
  rw [e]
  constructor
  ·unfold cK
   rw [hc.1,hc.2,hc2.1,hc2.2,if_pos rfl,Pc h1,kU hn];rfl
  ·unfold vU
   rw [hs,if_pos ⟨iR,rfl⟩]
   show (⟨1,(gA (List.drop (([97,100,109,105,116]:am).length+(itoa n).length+2) _)).getD dp,go (itoa n),0,cy,0⟩:bR)=_
   rw [hd,Pc h1,lU hn];rfl
 ·have hn:=ie (n:=n) ab ab
  have hc:=tH (c:=32) (a:=([99,97,110,99,101,108]:am)) (b:=itoa n) ae
  have hs:aw 32 (([99,97,110,99,101,108]:am)++32::itoa n)=[([99,97,110,99,101,108]:am),itoa n]:=Gr
  rw [e]
  unfold cK vU
  rw [hc.1,hc.2,hs,kU hn]
  simp [lU hn]
 ·obtain ⟨a,b,e1,e2,e3,e4,e5⟩:=YI h1
  have hu:=Yw h1
  rw [e]
  rw [e1] at hu ⊢
  have hc:=tH (c:=32) (a:=a) (b:=b) e2
  have hs:(aw 32 (a++32::b)).getD 0 []=a:=by rw [kk e2];rfl
  unfold cK vU
  rw [hc.1,hs,hu]
  simp [e3,e4,e5]
 ·have hn:=ie (n:=n) ab ab
  have hc:=tH (c:=32) (a:=([115,116,101,112]:am)) (b:=itoa n) ae
  have hs:aw 32 (([115,116,101,112]:am)++32::itoa n)=[([115,116,101,112]:am),itoa n]:=Gr
  rw [e]
  unfold cK vU
  rw [hc.1,hc.2,hs,kU hn]
  simp [lU hn]
def YJ{x:bR}(h:ca x=true):bP x≠[]:=by
 rcases tL h with ⟨q,n,h1,h2,h3,rfl,e⟩|⟨n,h2,h3,rfl,e⟩|⟨u,h1,rfl,e⟩|⟨n,h2,h3,rfl,e⟩<;>rw [e]
 ·simp
 ·simp
 ·exact Yv h1
 ·simp
def Pe{x:bR}(h:ca x=true):bq (bP x)=some x:=tD (g:=cK) (fun u hu=>(zi u hu).1) h
def Pf{s:am}{x:bR}(h:bq s=some x):ca x=true∧bP x=s:=OG h
def Pg{s:am}(h:ca (cK s)=false∨bP (cK s)≠s):bq s=none:=by
 rcases h with h|h
 ·exact nX (g:=cK) (fun u hu=>(zi u hu).1) eJ
 ·exact nX (g:=cK) (fun u hu=>(zi u hu).1) (fun e=>h e.2)
def Ph{s:am}(h1:ca (cK s)=true)(h2:bP (cK s)=s):bq s=some (cK s):=yR (g:=cK) (fun u hu=>(zi u hu).1) h1 h2
section
def u8(b:Int):UInt8:=UInt8.ofNat b.toNat
def Pi(s:am):cq (gI s):=by
 unfold gI
 rcases h:Lib.atoiAll s with v|_|_
 ·exact Lib.atoiAll_bounds h
 ·exact (show cq 0 from ⟨ae,ae⟩)
 ·exact Lib.atoiSat_bounds s
def YK{s:am}(h:lu s=true):Lib.atoiAll s = .ok (gI s):=by
 unfold lu at h
 unfold gI
 rcases e:Lib.atoiAll s with v|_|_
 ·rfl
 ·rw [e] at h;cases h
 ·rw [e] at h;cases h
def YL{s:am}(h:lu s=false∨itoa (gI s)≠s∨gI s < -999999999∨999999999 < gI s):ic s=none:=by
 cases e:lu s with
 | false=>
  refine Yg fun v hv=>?_
  unfold lu at e
  rw [hv] at e
  cases e
 | true=>
  refine Yh (YK e) fun hc=>?_
  have:=vP.1 hc.1
  rw [e] at h
  rcases h with h|h|h|h
  ·cases h
  ·exact h hc.2
  ·omega
  ·omega
def YM{s:am}(h2:itoa (gI s)=s)(h3 : -999999999≤gI s)(h4:gI s≤999999999):ic s=some (gI s):=Yi (ie h3 h4) h2
section
variable{s:am}{n:Int}
def YN(h:ic s=none):bQ s=0:=by unfold bQ;rw [h];rfl
def YO(h:ic s=some n):bQ s=n:=by unfold bQ;rw [h];rfl
def YP(h:ic s=none):fz s=false:=by unfold fz;rw [h];rfl
def YQ(h:ic s=some n):fz s=true:=by unfold fz;rw [h];rfl
end
/- the reference's loop over digits -/
/- splitting, byte by byte -/
def zj(c:UInt8)(s:am):(aw c s).length≤s.length+1∧1≤(aw c s).length:=by
 rw [Yk]
 have:=List.count_le_length (a:=c) (l:=s)
 omega
def Pj{c:UInt8}{s w:am}(h:w∈aw c s):w.length≤s.length:=by
 induction s generalizing w with
 | nil=>simp [aw] at h;subst h;simp
 | cons b r ih=>
  unfold aw at h
  split at h
  ·rcases List.mem_cons.1 h with rfl|h
   ·simp
   ·have:=ih h;simp;omega
  ·rcases List.mem_cons.1 h with rfl|h
   ·have h1:=yW c r
    cases hh:aw c r with
    | nil=>exact absurd hh h1
    | cons y ys=>
     have:=ih (w:=y) (by rw [hh];simp)
     simp;omega
   ·have:=ih (List.mem_of_mem_tail h);simp;omega
def YR(c:UInt8)(s:am):Lib.splitK [c] 0 (Lib.count s [c]) s=aw c s:=by rw [Lib.count_one];exact OP c _ s rfl
def YS{c:UInt8}{s:am}{k:Nat}(h:k < (aw c s).length):(aw c s).getD k []=(aw c s)[k]:=by rw [List.getD_eq_getElem?_getD,List.getElem?_eq_getElem h];rfl
/- numbers between commas -/
def YT{s:am}{k:Nat}(hk:k < (aw 44 s).length)(h:fz (aw 44 s)[k]=false):lV s=false:=mC hk h
def YU{s:am}(h:lV s=false):nZ s=[]:=if_neg eJ
def YV{s:am}(h:lV s=true):nZ s=(aw 44 s).map bQ:=if_pos h
def tN(s p:am):(dm s p).length≤s.length:=by
 unfold dm Lib.cut
 split
 ·simp [cu];omega
 ·exact Nat.le_refl _
def tO(s p:am):(fg s p).length≤s.length:=by
 unfold fg Lib.cut
 split
 ·simp
 ·simp
def YW(s p:am):(lW s p).length≤s.length:=by
 unfold lW
 split
 ·simp
 ·exact Nat.le_refl _
def kV(c:UInt8)(s:am)(j:Nat):((aw c s).getD j []).length≤s.length:=by
 by_cases h:j < (aw c s).length
 ·rw [YS h];exact Pj (List.getElem_mem h)
 ·rw [List.getD_eq_getElem?_getD,List.getElem?_eq_none ab];simp
def vV{ws:List am}{k:Nat}(h:k < ws.length):ws.getD k []=ws[k]:=by rw [List.getD_eq_getElem?_getD,List.getElem?_eq_getElem h];rfl
def YX(n:Nat):((n:Int)).tmod 2=((n%2:Nat):Int):=by rw [Int.tmod_eq_emod_of_nonneg ab];omega
/- the updates' readings, case by case -/
noncomputable def fM(ws:List am):adb:=
 if ws.getD 0 []=([105,110,115,101,114,116]:am)∧ws.length=2 then ⟨1,(jG (ws.getD 1 [])).getD oa,0,0⟩
 else if ws.getD 0 []=([100,101,108,101,116,101]:am)∧ws.length=2 then ⟨2,⟨bQ (ws.getD 1 []),[]⟩,0,0⟩
 else if ws.getD 0 []=([115,101,116]:am)∧ws.length=4 then ⟨3,⟨bQ (ws.getD 1 []),[]⟩,nb 102 (ws.getD 2 []),bQ (ws.getD 3 [])⟩
 else cy
def Pk(s:am):jH s=fM (aw 32 s):=rfl
section
variable{ws:List am}{s:am}
def YY(h:ws.getD 0 []=([105,110,115,101,114,116]:am)∧ws.length=2):fM ws=⟨1,(jG (ws.getD 1 [])).getD oa,0,0⟩:=if_pos h
def YZ(h0:¬(ws.getD 0 []=([105,110,115,101,114,116]:am)∧ws.length=2))(h:ws.getD 0 []=([100,101,108,101,116,101]:am)∧ws.length=2):fM ws=⟨2,⟨bQ (ws.getD 1 []),[]⟩,0,0⟩:=by unfold fM;rw [if_neg h0,if_pos h]
def Za(h0:¬(ws.getD 0 []=([105,110,115,101,114,116]:am)∧ws.length=2))(h1:¬(ws.getD 0 []=([100,101,108,101,116,101]:am)∧ws.length=2))(h:ws.getD 0 []=([115,101,116]:am)∧ws.length=4):fM ws=⟨3,⟨bQ (ws.getD 1 []),[]⟩,nb 102 (ws.getD 2 []),bQ (ws.getD 3 [])⟩:=by unfold fM;rw [if_neg h0,if_neg h1,if_pos h]
def Zb(h0:¬(ws.getD 0 []=([105,110,115,101,114,116]:am)∧ws.length=2))(h1:¬(ws.getD 0 []=([100,101,108,101,116,101]:am)∧ws.length=2))(h2:¬(ws.getD 0 []=([115,101,116]:am)∧ws.length=4)):fM ws=cy:=by unfold fM;rw [if_neg h0,if_neg h1,if_neg h2]
def Zc(h:dm s [32]=([97,100,109,105,116]:am)):cK s=⟨1,(gA (fg (fg s [32]) [32])).getD dp,bQ (dm (fg s [32]) [32]),0,cy,0⟩:=if_pos h
def Zd(h0:¬dm s [32]=([97,100,109,105,116]:am))(h:dm s [32]=([99,97,110,99,101,108]:am)):cK s=⟨2,dp,0,bQ (fg s [32]),cy,0⟩:=by unfold cK;rw [if_neg h0,if_pos h]
def Ze(h0:¬dm s [32]=([97,100,109,105,116]:am))(h1:¬dm s [32]=([99,97,110,99,101,108]:am))(h:dm s [32]=([115,116,101,112]:am)):cK s=⟨4,dp,0,0,cy,bQ (fg s [32])⟩:=by unfold cK;rw [if_neg h0,if_neg h1,if_pos h]
def Zf(h0:¬dm s [32]=([97,100,109,105,116]:am))(h1:¬dm s [32]=([99,97,110,99,101,108]:am))(h2:¬dm s [32]=([115,116,101,112]:am)):cK s=⟨3,dp,0,0,(gz s).getD cy,0⟩:=by unfold cK;rw [if_neg h0,if_neg h1,if_neg h2]
end
def Zg(x:List dt):vb x=x.length:=by
 have h:∀l:List dt,(l.map yn).sum=0:=by
  intro l
  induction l with
  | nil=>rfl
  | cons a l ih=>rw [List.map_cons,List.sum_cons,ih];rfl
 simp [vb,h]
def Pm(s:am):yo ((bq s).getD cY)≤20:=by
 cases h:bq s with
 | none=>decide
 | some x=>
  have h0_:=(Pf h).1
  show yo x≤20
  rcases tL h0_ with ⟨q,n,h1,h2,h3,rfl,e⟩|⟨n,h2,h3,rfl,e⟩|⟨u,h1,rfl,e⟩|⟨n,h2,h3,rfl,e⟩
  ·have h4:=py h1
   show aX 1+fI q+aX n+aX 0+iB cy+aX 0≤20
   have h5:iB cy=0:=ae
   rw [h5]
   simp only [fI,Zg,fy,aX];omega
  ·have h5:iB cy=0:=by decide
   have h6:fI dp=0:=ae
   show aX 2+fI dp+aX 0+aX n+iB cy+aX 0≤20
   rw [h5,h6];simp [aX]
  ·have h6:fI dp=0:=by decide
   show aX 3+fI dp+aX 0+aX 0+iB u+aX 0≤20
   rw [h6]
   rcases qV h1 with ⟨r,hr1,rfl,e⟩|⟨n,h1,h2,rfl,e⟩|⟨n,f,v,⟨h1,h2⟩,⟨h3,h4⟩,⟨h5,h6⟩,rfl,e⟩
   ·have:=mX hr1
    simp only [iB,gx,fy,aX];omega
   ·simp only [iB,gx,fy,aX];simp
   ·simp only [iB,gx,fy,aX];simp
  ·have h5:iB cy=0:=by decide
   have h6:fI dp=0:=ae
   show aX 4+fI dp+aX 0+aX 0+iB cy+aX n≤20
   rw [h5,h6];simp [aX]
end
structure Zh(s:Store):Prop where
 l1:1≤s.ac7.length
 l8:s.ac7.length≤8
 n0:0≤s.Now
 n1:s.Now≤100000
 sm:∀g∈s.ac7,g.length≤4
 vs:∀v∈aY s,en s.Now v=true
 ap:(aY s).Pairwise fun a b=>gj a b=true
def EA(a b:aM):gj a b=gj b a:=by
 unfold gj
 rw [show (a.Id==b.Id)=(b.Id==a.Id) from by rw [Bool.eq_iff_iff];simp only [beq_iff_eq];exact eq_comm]
 rw [Bool.or_comm (_&&_) (_&&_)]
def nd{α:Type}{l:List α}{d:α}{i:Nat}(h:i < l.length):l.getD i d=l[i]:=by
 rw [List.getD_eq_getElem?_getD,List.getElem?_eq_getElem h];rfl
def lX{s:Store}:bV s=true↔Zh s:=by
 constructor
 ·intro h
  obtain ⟨h1,h2,h3,h4,h5,h6⟩:=qH h
  refine ⟨h2,h1,h3,h4,h5,fun v hv=>?_,?_⟩
  ·obtain ⟨i,hi,rfl⟩:=List.mem_iff_getElem.1 hv
   have:=h6 i hi
   rwa [nd hi] at this
  ·rw [List.pairwise_iff_getElem]
   intro i j hi hj hij
   unfold bV lM at h
   rw [aT] at h
   have hg:=List.all_eq_true.1 h.2 j (List.mem_range.2 hj)
   unfold lL iU at hg
   rw [aT] at hg
   have:=List.all_eq_true.1 hg.2 i (List.mem_range.2 hij)
   rw [nd hi,nd hj] at this
   rw [EA];exact this
 ·intro h
  unfold bV oX
  have e1:s.ac7.all mN=true:=List.all_eq_true.2 fun g hg=>by have:=h.sm g hg;unfold mN;rw [decide_eq_true_eq];omega
  have e2:lM s.Now (aY s) (aY s).length=true:=by
   unfold lM
   refine List.all_eq_true.2 fun i hi=>?_
   have hi:=List.mem_range.1 hi
   unfold lL iU
   rw [nd hi,aT]
   refine ⟨h.vs _ (List.getElem_mem hi),List.all_eq_true.2 fun m hm=>?_⟩
   have hm:=List.mem_range.1 hm
   have:=List.pairwise_iff_getElem.1 h.ap m i ab hi hm
   rw [nd ab,EA];exact this
  have l1:=h.l1;have l8:=h.l8;have n0:=h.n0;have n1:=h.n1
  rw [e1,e2]
  simp only [aE,aT,decide_eq_true_eq,and_true]
  omega
def EB(s:Store)(keep:List Int)(h:bV s=true):aY (cP s keep)=(aY s).filter fun v=>hJ v keep:=by
 rw [yA h]
 unfold aY
 dsimp only
 generalize s.ac7=l
 induction l with
 | nil=>rfl
 | cons x l ih=>rw [List.map_cons,List.flatten_cons,List.flatten_cons,eY,ih];rfl
def Zi{s:Store}(keep:List Int)(h:bV s=true):bV (cP s keep)=true:=by
 have k:=lX.1 h
 have e:=EB s keep h
 rw [lX]
 have hr:=yA (keep:=keep) h
 refine ⟨?_,?_,?_,?_,?_,?_,?_⟩
 ·rw [hr];show 1≤(s.ac7.map _).length;rw [aO];exact k.l1
 ·rw [hr];show (s.ac7.map _).length≤8;rw [aO];exact k.l8
 ·rw [hr];exact k.n0
 ·rw [hr];exact k.n1
 ·rw [hr]
  intro g hg
  obtain ⟨x,hx,rfl⟩:=List.mem_map.1 hg
  exact Nat.le_trans (jO _ _) (k.sm x hx)
 ·rw [e,show (cP s keep).Now=s.Now by rw [hr]]
  intro v hv
  exact k.vs v (List.mem_filter.1 hv).1
 ·rw [e];exact k.ap.filter _
def ne{s:Store}(keep:List Int):(cP s keep).ac7.length=s.ac7.length∧(cP s keep).Now=s.Now:=by
 unfold cP
 split
 ·exact ⟨aO _,rfl⟩
 ·exact ⟨rfl,rfl⟩
def Zj{keep:List Int}{t:Int}(ht:t∈keep)(l:List aM):bD (jC keep l) t=bD l t:=by
 unfold bD jC
 rw [List.filter_filter]
 congr 1
 refine List.filter_congr fun v _=>?_
 cases hv:eB v t with
 | false=>simp
 | true=>
  have:hJ v keep=true:=by
   unfold hJ
   rw [Bool.or_eq_true]
   exact .inr (List.any_eq_true.2 ⟨t,ht,hv⟩)
  rw [this];rfl
def Pn{s:Store}{i:Nat}(h:¬i < s.ac7.length):dv s i=[]:=by
 unfold dv;rw [List.getD_eq_getElem?_getD,List.getElem?_eq_none ab];rfl
def EC{s:Store}{i:Nat}(h:i < s.ac7.length):dv s i=s.ac7[i]:=nd h
def Zk{s:Store}{keep:List Int}(h:bV s=true)(i:Nat):dv (cP s keep) i=jC keep (dv s i):=by
 rw [yA h]
 by_cases hi:i < s.ac7.length
 ·rw [EC (s:=⟨s.ac7.map (jC keep),s.Now⟩) nj,EC hi];simp
 ·rw [Pn (s:=⟨s.ac7.map (jC keep),s.Now⟩) nj,Pn hi];rfl
def zk{s:Store}{keep:List Int}{t:Int}(h:bV s=true)(ht:t∈keep)(i:Nat):bD (dv (cP s keep) i) t=bD (dv s i) t:=by
 rw [Zk h,Zj ht]
def ED{n:Int}{v:aM}(h:en n v=true):en (n+1) v=true:=by
 unfold en at *
 simp only [aT,Bool.or_eq_true,aE,decide_eq_true_eq] at *
 exact ⟨h.1,ab,ab⟩
def zl{α:Type}{l:List α}{i:Nat}{x:α}(h:i < l.length):l.set i x=l.take i++x::l.drop (i+1):=by
 rw [List.set_eq_take_append_cons_drop,if_pos h]
def Po{s:Store}{i k:Nat}(hi:i < s.ac7.length)(hk:k < s.ac7[i].length):aY s=((s.ac7.take i).flatten++s.ac7[i].take k)++s.ac7[i][k]::(s.ac7[i].drop (k+1)++(s.ac7.drop (i+1)).flatten):=by
 have e1:=Di hi
 have e2:s.ac7[i]=s.ac7[i].take k++s.ac7[i][k]::s.ac7[i].drop (k+1):=by rw [←List.drop_eq_getElem_cons hk,fh]
 rw [e1]
 unfold cX
 conv=>lhs;rw [e2]
 simp only [aW,List.cons_append]
def Pp{s:Store}{i k:Nat}{v:aM}{n:Int}(hi:i < s.ac7.length)(hk:k < s.ac7[i].length):aY ⟨s.ac7.set i (s.ac7[i].set k v),n⟩=((s.ac7.take i).flatten++s.ac7[i].take k)++v::(s.ac7[i].drop (k+1)++(s.ac7.drop (i+1)).flatten):=by
 unfold aY
 dsimp only
 rw [zl hi,List.flatten_append,List.flatten_cons,zl hk]
 simp only [aW,List.cons_append]
def EE{L:List (List aM)}{r:Nat}{v:aM}{n:Int}(hr:r < L.length):(aY ⟨mV L r v,n⟩).Perm (v::aY ⟨L,n⟩):=by
 unfold aY
 dsimp only
 rw [po hr,zl hr,List.flatten_append,List.flatten_cons]
 have e:L.flatten=(L.take r).flatten++(L[r]++(L.drop (r+1)).flatten):=by
  rw [←List.flatten_cons,←List.flatten_append,←List.drop_eq_getElem_cons hr,fh]
 rw [e]
 have:(L.take r).flatten++(L[r]++[v]++(L.drop (r+1)).flatten)=((L.take r).flatten++L[r])++v::(L.drop (r+1)).flatten:=by simp only [aW,List.cons_append,List.nil_append]
 rw [this]
 refine List.perm_middle.trans ?_
 rw [aW]
def vW{id:Int}{v:aM}:jE id v=true↔v.Id=id∧v.adj = -1:=by unfold jE;simp
def Pq{s:Store}{id:Int}(h:¬0≤bX s id):∀v∈aY s,v.Id=id→v.adj ≠ -1:=by
 intro v hv hid hd
 have hall:s.ac7.any (hZ id)=true:=by
  unfold aY at hv
  obtain ⟨g,hg,hv⟩:=List.mem_flatten.1 hv
  exact List.any_eq_true.2 ⟨g,hg,List.any_eq_true.2 ⟨v,hv,vW.2 ⟨hid,hd⟩⟩⟩
 unfold bX at h
 rw [if_pos hall] at h
 omega
def EF{a b:aM}(h:gj a b=true)(hid:a.Id=b.Id):(a.adj ≠ -1∧a.adj≤b.ado)∨(b.adj ≠ -1∧b.adj≤a.ado):=by
 unfold gj at h
 simp only [hid,beq_self_eq_true,Bool.not_true,Bool.false_or,Bool.or_eq_true,aT,Bool.not_eq_true',beq_eq_false_iff_ne,decide_eq_true_eq] at h
 exact h
def Pr{a b:aM}(h:a.Id=b.Id→(a.adj ≠ -1∧a.adj≤b.ado)∨(b.adj ≠ -1∧b.adj≤a.ado)):gj a b=true:=by
 unfold gj
 by_cases hid:a.Id=b.Id
 ·have:=h hid
  simp only [hid,beq_self_eq_true,Bool.not_true,Bool.false_or,Bool.or_eq_true,aT,Bool.not_eq_true',beq_eq_false_iff_ne,decide_eq_true_eq]
  exact this
 ·rw [show (a.Id==b.Id)=false by rw [beq_eq_false_iff_ne];exact hid];rfl
def EG{n:Int}{v:aM}(h:en n v=true):bf ⟨v.Id,v.Values⟩=true∧0≤v.ado∧v.ado≤n∧(v.adj = -1∨(v.ado+1≤v.adj∧v.adj≤n)):=by
 unfold en at h
 simp only [aT,Bool.or_eq_true,aE,decide_eq_true_eq] at h
 exact ⟨h.1,h.2.1.1,h.2.1.2,h.2.2⟩
def Ps{n:Int}{v:aM}(h:bf ⟨v.Id,v.Values⟩=true)(h1:0≤v.ado∧v.ado≤n)(h2:v.adj = -1∨(v.ado+1≤v.adj∧v.adj≤n)):en n v=true:=by
 unfold en
 simp only [aT,Bool.or_eq_true,aE,decide_eq_true_eq]
 exact ⟨h,h1,h2⟩
def EH:∀{a b:aM},gj a b=true→gj b a=true:=fun {a b} h=>by rw [EA];exact h
structure Zl(s:Store)(u:adb):Prop where
 vs:∀v∈aY ⟨co s u,s.Now+1⟩,en (s.Now+1) v=true
 ap:(aY ⟨co s u,s.Now+1⟩).Pairwise fun a b=>gj a b=true
 no:∀v∈aY ⟨co s u,s.Now+1⟩,v.Id=u.Row.Id→v.adj ≠ -1
def Zm{s:Store}{u:adb}(h:bV s=true):Zl s u:=by
 have k:=lX.1 h
 by_cases hf:0≤bX s u.Row.Id
 ·obtain ⟨i,j,hi,hj,h1,h2,ha⟩:=mU hf
  obtain ⟨hid,hdd⟩:=vW.1 ha
  have e1:=Po hi hj
  have e2:=Pp (v:=ib (s.Now+1) s.ac7[i][j]) (n:=s.Now+1) hi hj
  have kv:=k.vs;have ka:=k.ap
  rw [e1] at kv ka
  rw [List.pairwise_append,List.pairwise_cons] at ka
  obtain ⟨ka1,⟨ka2,ka3⟩,ka4⟩:=ka
  have hv0:=EG (kv s.ac7[i][j] aF)
  have mem:∀v∈((s.ac7.take i).flatten++s.ac7[i].take j)++ib (s.Now+1) s.ac7[i][j]::(s.ac7[i].drop (j+1)++(s.ac7.drop (i+1)).flatten),v=ib (s.Now+1) s.ac7[i][j]∨v∈((s.ac7.take i).flatten++s.ac7[i].take j)∨v∈(s.ac7[i].drop (j+1)++(s.ac7.drop (i+1)).flatten):=by
   intro v hv
   rcases List.mem_append.1 hv with hv|hv
   ·exact .inr (.inl hv)
   ·rcases List.mem_cons.1 hv with hv|hv
    ·exact .inl hv
    ·exact .inr (.inr hv)
  have hk:∀w:aM,gj s.ac7[i][j] w=true→gj (ib (s.Now+1) s.ac7[i][j]) w=true:=by
   intro w hw
   refine Pr fun he=>?_
   have:=EF hw he
   rcases this with ⟨h3,_⟩|⟨h3,h4⟩
   ·exact absurd hdd h3
   ·exact .inr ⟨h3,h4⟩
  refine ⟨?_,?_,?_⟩
  ·rw [(lP hi hj h1 h2).1,e2]
   intro v hv
   rcases mem v hv with rfl|hv|hv
   ·exact Ps hv0.1 ⟨hv0.2.1,by show s.ac7[i][j].ado≤s.Now+1;omega⟩ (.inr ⟨by show s.ac7[i][j].ado+1≤s.Now+1;omega,Int.le_refl _⟩)
   ·exact ED (kv v (List.mem_append.2 (.inl hv)))
   ·exact ED (kv v (List.mem_append.2 (.inr (List.mem_cons_of_mem _ hv))))
  ·rw [(lP hi hj h1 h2).1,e2,List.pairwise_append,List.pairwise_cons]
   refine ⟨ka1,⟨fun w hw=>hk w (ka2 w hw),ka3⟩,fun a ha b hb=>?_⟩
   rcases List.mem_cons.1 hb with rfl|hb
   ·exact EH (hk a (EH (ka4 a ha _ List.mem_cons_self)))
   ·exact ka4 a ha b (List.mem_cons_of_mem _ hb)
  ·rw [(lP hi hj h1 h2).1,e2]
   intro v hv hvid
   rcases mem v hv with rfl|hv|hv
   ·show s.Now+1 ≠ -1
    have:=k.n0;omega
   ·have:=EF (ka4 v hv _ List.mem_cons_self) (by rw [hvid,hid])
    rcases this with ⟨h3,_⟩|⟨h3,_⟩
    ·exact h3
    ·exact absurd hdd h3
   ·have:=EF (ka2 v hv) (by rw [hvid,hid])
    rcases this with ⟨h3,_⟩|⟨h3,_⟩
    ·exact absurd hdd h3
    ·exact h3
 ·have e:=(lQ hf).1
  have e3:aY ⟨co s u,s.Now+1⟩=aY s:=by unfold aY;dsimp only;rw [e]
  have hn:=Pq hf
  refine ⟨?_,?_,?_⟩
  ·rw [e3];intro v hv;exact ED (k.vs v hv)
  ·rw [e3];exact k.ap
  ·rw [e3];exact hn
def Zn{u:adb}(h:ci u=true)(hk:u.Kind=3):0≤u.Field∧u.Field≤2∧0≤u.Value∧u.Value≤99∧0≤u.Row.Id∧u.Row.Id≤999:=by
 unfold ci at h
 rw [if_neg ab,if_neg ab,if_pos hk] at h
 simp only [lH,aT,aE,decide_eq_true_eq] at h
 omega
def Zo{u:adb}(h:ci u=true)(hk:u.Kind=1):bf u.Row=true:=by
 unfold ci at h
 rw [if_pos hk] at h
 simp only [aT] at h
 exact h.1
def Zp{u:adb}(h:ci u=true):u.Kind=1∨u.Kind=2∨u.Kind=3:=by
 unfold ci at h
 by_cases h1:u.Kind=1
 ·exact .inl h1
 ·by_cases h2:u.Kind=2
  ·exact .inr (.inl h2)
  ·by_cases h3:u.Kind=3
   ·exact .inr (.inr h3)
   ·rw [if_neg h1,if_neg h2,if_neg h3] at h;cases h
def EI{r:Row}:bf r=true↔(0≤r.Id∧r.Id≤999)∧r.Values.length=3∧∀x∈r.Values,0≤x∧x≤99:=by
 unfold bf ja
 simp only [aT,aE,decide_eq_true_eq,nk]
 constructor
 ·rintro ⟨h1,h2,h3⟩;exact ⟨h2,ab,h1⟩
 ·rintro ⟨h1,h2,h3⟩;exact ⟨h3,h1,ab⟩
def Zq{s:Store}{u:adb}(h:eD s u=true)(hk:¬u.Kind=2):bf ⟨u.Row.Id,ji s u⟩=true:=by
 obtain ⟨h1,h2,h3,h4,h5⟩:=pn h
 have k:=lX.1 h1
 rcases Zp h2 with k1|k2|k3
 ·have hr:=Zo h2 k1
  have hf:¬0≤bX s u.Row.Id:=fun hc=>(h4.1 hc) k1
  unfold ji
  rw [if_neg ab,(lQ hf).2]
  exact hr
 ·exact absurd k2 hk
 ·have hu:=Zn h2 k3
  have hf:0≤bX s u.Row.Id:=h4.2 ab
  obtain ⟨i,j,hi,hj,e1,e2,ha⟩:=mU hf
  have hv:=(EG (Dj h1 hi hj)).1
  rw [EI] at hv
  unfold ji
  rw [if_pos k3,(lP hi hj e1 e2).2,EI]
  refine ⟨⟨hu.2.2.2.2.1,hu.2.2.2.2.2⟩,by rw [List.length_set];exact hv.2.1,fun x hx=>?_⟩
  rcases List.mem_or_eq_of_mem_set hx with hx|rfl
  ·exact hv.2.2 x hx
  ·exact ⟨hu.2.2.1,hu.2.2.2.1⟩
def zm(s:Store)(u:adb)(h:bV s=true):bV (dw s u).1=true:=by
 cases ha:eD s u with
 | false=>rw [qN ha];exact h
 | true=>
  obtain ⟨h1,h2,h3,h4,h5⟩:=pn ha
  have k:=lX.1 h
  have hu:=Zm (u:=u) h
  have hlen:=nP s u
  have hsm:∀g∈co s u,g.length≤4:=by
   intro g hg
   obtain ⟨i,hi,rfl⟩:=List.mem_iff_getElem.1 hg
   have hi2:i < s.ac7.length:=ab
   rw [DB s u hi hi2];exact k.sm _ (List.getElem_mem hi2)
  by_cases hk:u.Kind=2
  ·rw [qP ha hk,lX]
   exact ⟨by dsimp only;rw [hlen];exact k.l1,by dsimp only;rw [hlen];exact k.l8,by dsimp only;have:=k.n0;omega,iQ,hsm,hu.vs,hu.ap⟩
  ·obtain ⟨r,hr,hrm,hr4⟩:=vq (h5.resolve_left hk)
   have hru:r < (co s u).length:=ab
   rw [vr ha hk hrm,lX]
   have hp:=EE (v:=iK s u) (n:=s.Now+1) hru
   have hnv:en (s.Now+1) (iK s u)=true:=Ps (Zq ha hk) ⟨by show 0≤s.Now+1;have:=k.n0;omega,Int.le_refl _⟩ (.inl rfl)
   refine ⟨?_,?_,by dsimp only;have:=k.n0;omega,iQ,?_,?_,?_⟩
   ·dsimp only;rw [po hru,List.length_set,hlen];exact k.l1
   ·dsimp only;rw [po hru,List.length_set,hlen];exact k.l8
   ·dsimp only
    rw [po hru]
    intro g hg
    rcases List.mem_or_eq_of_mem_set hg with hg|rfl
    ·exact hsm g hg
    ·have h6:=DB s u hru hr
     rw [aZ,h6];simp;omega
   ·intro v hv
    rcases List.mem_cons.1 (hp.mem_iff.1 hv) with rfl|hv
    ·exact hnv
    ·exact hu.vs v hv
   ·rw [hp.pairwise_iff (fun h=>EH h),List.pairwise_cons]
    refine ⟨fun w hw=>Pr fun he=>?_,hu.ap⟩
    have h6:=hu.no w hw he.symm
    have h7:=EG (hu.vs w hw)
    rcases h7.2.2.2 with h8|h8
    ·exact absurd h8 h6
    ·exact .inr ⟨h6,h8.2⟩
def Zr{n t:Int}{v:aM}(ha:v.adj = -1)(ht:t < n)(hn:n ≠ -1):eB (ib n v) t=eB v t:=by
 unfold eB ib
 dsimp only
 rw [ha,decide_eq_false hn,Bool.false_or,decide_eq_true ht]
 simp
def Zs{s:Store}{u:adb}(h:bV s=true){t:Int}(ht:t≤s.Now)(i:Nat):bD (dv (dw s u).1 i) t=bD (dv s i) t:=by
 cases ha:eD s u with
 | false=>rw [qN ha]
 | true=>
  obtain ⟨h1,h2,h3,h4,h5⟩:=pn ha
  have k:=lX.1 h
  have hup:bD (dv ⟨co s u,s.Now+1⟩ i) t=bD (dv s i) t:=by
   by_cases hf:0≤bX s u.Row.Id
   ·obtain ⟨i0,j,hi,hj,e1,e2,hal⟩:=mU hf
    rw [(lP hi hj e1 e2).1]
    obtain ⟨_,hdd⟩:=vW.1 hal
    unfold dv
    dsimp only
    by_cases hii:i0=i
    ·subst hii
     rw [nd (by rw [List.length_set];exact hi),List.getElem_set_self,nd hi,zl hj]
     have e3:s.ac7[i0]=s.ac7[i0].take j++s.ac7[i0][j]::s.ac7[i0].drop (j+1):=by rw [←List.drop_eq_getElem_cons hj,fh]
     conv=>rhs;rw [e3]
     have hvk:=Zr (n:=s.Now+1) (t:=t) hdd ab (by have:=k.n0;omega)
     unfold bD
     simp only [eY,List.filter_cons,hvk,bL]
     split<;>rfl
    ·rw [List.getD_eq_getElem?_getD,List.getElem?_set_ne hii,←List.getD_eq_getElem?_getD]
   ·have e:=(lQ hf).1
    unfold dv;dsimp only;rw [e]
  by_cases hk:u.Kind=2
  ·rw [qP ha hk];exact hup
  ·obtain ⟨r,hr,hrm,hr4⟩:=vq (h5.resolve_left hk)
   have hru:r < (co s u).length:=zQ
   rw [vr ha hk hrm,←hup]
   unfold dv
   dsimp only
   rw [po hru]
   by_cases hri:r=i
   ·subst hri
    rw [nd (by rw [List.length_set];exact hru),List.getElem_set_self,nd hru]
    unfold bD
    rw [eY]
    have:eB (iK s u) t=false:=by unfold eB iK;dsimp only;rw [decide_eq_false ab];rfl
    simp [this]
   ·rw [List.getD_eq_getElem?_getD,List.getElem?_set_ne hri,←List.getD_eq_getElem?_getD]
section
structure gB where
 b:List Int
 i:Nat
 h:Int
 hb:b.length≤9223372036854775807
def zo(h:Int):Int:=HB (Sp h 6364136223846793005) 1442695040888963407
def Pt(h:Int):Int:=HC (Sq (h.fdiv (2 ^ 33)) (h.fdiv (2 ^ 45))) 255
def EJ(c:gB):Int×gB:=if c.i < c.b.length then (HC (HB (Pt (zo c.h)) (IntKind.i64.wrap (c.b.getD c.i 0))) 255,⟨c.b,c.i+1,zo c.h,c.hb⟩) else (Pt (zo c.h),⟨c.b,c.i,zo c.h,c.hb⟩)
def ko(c:gB)(n:Int):Int×gB:=if n≤0 then (0,c) else ((EJ c).1.tmod n,(EJ c).2)
def Zt(c:gB)(l:List Int):Int×gB:=(l.getD (ko c l.length).1.toNat 0,(ko c l.length).2)
structure acV where
 id:Int
 l:List Row
 c:gB
section
variable{c:gB}{n w id:Int}{k:Nat}{l:List Int}
end
end
structure acW where
 l:List dt
 c:gB
@[reducible] def acX (w:Int) (c:gB):gB:=(ko c 2).2
@[reducible] def Zu (w:Int) (c:gB):Int:=(ko (ko c 2).2 w).1
@[reducible] def acY (w:Int) (c:gB):Int:=min 99 (Zu w c+(ko (ko (ko c 2).2 w).2 w).1)
@[reducible] def acZ (w:Int) (c:gB):gB:=(ko (ko (ko c 2).2 w).2 w).2
@[reducible] def ac0 (c:gB):Int×gB:=Zt (ko c 4).2 [3,6,100]
section
attribute [local irreducible] ko EJ
end
def Pu:Row:=⟨0,[]⟩
def Zv(a b:Row):Bool:=decide (a.Id < b.Id)
def EK(l:List Row):Bool:=eS Pu bf Zv l&&decide ((l.length:Int)≤32)
def Zw(r:Row):aM:=⟨r.Id,r.Values,0,-1⟩
def Pv(rows:List Row)(n i k:Nat):List aM:=(List.range k).map fun j=>Zw (rows.getD (i+j * n) Pu)
def Pw(len n i:Nat):Nat:=(len - i+(n - 1)) / n
def EL(rows:List Row)(n i:Nat):List aM:=Pv rows n i (Pw rows.length n i)
def zp(rows:List Row)(n k:Nat):List (List aM):=(List.range k).map (EL rows n)
def ob(rows:List Row)(n:Int):Bool:=(EK rows&&aE n 1 8)&&decide ((rows.length:Int)≤n * 4)
def ii(rows:List Row)(n:Int):Store×Bool:=if ob rows n then (⟨zp rows n.toNat n.toNat,0⟩,true) else (⟨[],0⟩,false)
def Px{rows:List Row}{n:Int}(h:ob rows n=false):ii rows n=(⟨[],0⟩,false):=if_neg eJ
def Py{rows:List Row}{n:Int}(h:ob rows n=true):ii rows n=(⟨zp rows n.toNat n.toNat,0⟩,true):=if_pos h
def Zx{rows:List Row}{n:Int}(h:ob rows n=true):EK rows=true∧(1≤n∧n≤8)∧(rows.length:Int)≤n * 4:=by
 unfold ob at h
 simp only [aT,aE,decide_eq_true_eq] at h
 exact ⟨h.1.1,h.1.2,h.2⟩
structure ac1 where
 s:Store
 c:gB
structure Zy(e:ar):Prop where
 so:bV e.Store=true
 c0:0≤e.adc
 c1:e.adc < e.Store.ac7.length
 od:oZ e.Order=true
 s0:0≤e.Steps
 s1:e.Steps≤100000
 a8:e.ac8.length≤8
 d1:e.Done.length≤1000
 l1:e.adl.length≤1000
 aa:∀a∈e.ac8,gn e.Store a=true
 pw:e.ac8.Pairwise fun a b=>a.ac9.Id < b.ac9.Id
 fs:∀f∈e.Done,jB e.Store.Now f=true
 cs:∀c∈e.adl,gk c=true
def fA{e:ar}:aP e=true↔Zy e:=by
 constructor
 ·intro h
  obtain ⟨h1,h2,h3,h4,h5,h6,h7,h8,h9,h10,h11,h12⟩:=kN h
  exact ⟨h1,h3,ab,h2,h8,h9,h5,h6,h7,h10,pj h,h11,h12⟩
 ·intro h
  have c0:=h.c0;have c1:=h.c1;have s0:=h.s0;have s1:=h.s1;have a8:=h.a8;have d1:=h.d1;have l1:=h.l1
  refine MY ?_ (Dw h.aa (h.pw.imp fun {a b} k=>by unfold nO;simpa using k)) (List.all_eq_true.2 h.fs) (List.all_eq_true.2 h.cs)
  unfold kd
  rw [h.so,h.od]
  simp only [aE,Bool.true_and,aT,decide_eq_true_eq]
  omega
structure Zz(n:Nat)(now:Int)(a:ac8):Prop where
 t0:0 < a.adi.length
 tp:a.adi.Pairwise fun x y=>x < y
 tr:∀x∈a.adi,0≤x∧x < n
 q:aQ a.ac9=true
 tm0:0≤a.Time
 tm1:a.Time≤now
 ag0:0≤a.Age
 ag1:a.Age≤100000
 sn0:0≤a.Sent
 sn1:a.Sent≤1000
 cp0:0≤a.Cap
 cp1:a.Cap≤32
 rk:∀r∈a.Rows,bf r=true
 rl:a.Rows.length≤1000
def ZA{l:List Int}{n:Int}(h:eS 0 (mQ n) mR l=true):l.Pairwise fun x y=>x < y:=by
 rw [List.pairwise_iff_getElem]
 have step:∀i (hi:i+1 < l.length),l[i] < l[i+1]:=by
  intro i hi
  have:=List.all_eq_true.1 h (i+1) (List.mem_range.2 hi)
  rw [oS,show i+1 - 1=i from rfl,iC hi,iC (show i < l.length by omega)] at this
  rcases this.2 with h0|h0
  ·omega
  ·unfold mR at h0;simpa using h0
 intro i j hi hj hij
 induction j with
 | zero=>omega
 | succ j ih=>
  by_cases he:i=j
  ·subst he;exact step i hj
  ·have h1:=ih ab ab
   have h2:=step j hj
   omega
def ij{s:Store}{a:ac8}:gn s a=true↔Zz s.ac7.length s.Now a:=by
 constructor
 ·intro h
  unfold gn ph fZ at h
  simp only [aT,aE,decide_eq_true_eq] at h
  obtain ⟨⟨h1,h2⟩,h3,h4,h5,h6,h7,h8,h9⟩:=h
  refine ⟨h2,ZA h1,fun x hx=>?_,h3,h4.1,h4.2,h5.1,h5.2,h6.1,h6.2,h7.1,h7.2,List.all_eq_true.1 h8,ab⟩
  obtain ⟨k,hk,rfl⟩:=List.mem_iff_getElem.1 hx
  have:=CZ h1 hk
  unfold mQ aE at this
  simp only [aT,decide_eq_true_eq] at this
  omega
 ·intro h
  have t0:=h.t0;have tm0:=h.tm0;have tm1:=h.tm1;have ag0:=h.ag0;have ag1:=h.ag1;have sn0:=h.sn0;have sn1:=h.sn1;have cp0:=h.cp0;have cp1:=h.cp1;have rl:=h.rl
  unfold gn ph fZ
  have e1:eS 0 (mQ s.ac7.length) mR a.adi=true:=Dw (fun x hx=>by have:=h.tr x hx;unfold mQ aE;simp only [aT,decide_eq_true_eq];omega) (h.tp.imp fun {a b} k=>by unfold mR;simpa using k)
  rw [e1,h.q,List.all_eq_true.2 h.rk]
  simp only [aE,Bool.true_and,aT,decide_eq_true_eq]
  omega
def EM{now:Int}{f:fJ}:jB now f=true↔aQ f.ac9=true∧(0≤f.Time∧f.Time≤now)∧(0≤f.Steps∧f.Steps≤100000)∧(∀r∈f.Rows,bf r=true)∧f.Rows.length≤1000:=by
 unfold jB fZ
 simp only [aT,aE,decide_eq_true_eq,nk]
 constructor
 ·rintro ⟨h1,h2,h3,h4,h5⟩;exact ⟨h1,h2,h3,h4,ab⟩
 ·rintro ⟨h1,h2,h3,h4,h5⟩;exact ⟨h1,h2,h3,h4,ab⟩
def Pz{q:ac9}(h:aQ q=true):(0≤q.Id∧q.Id≤23)∧0≤q.ade∧q.ade≤3:=by
 unfold aQ at h
 simp only [aT,aE,decide_eq_true_eq] at h
 omega
def EN{e:ar}(h:aP e=true){a b:ac8}(ha:a∈e.ac8)(hb:b∈e.ac8)(hid:a.ac9.Id=b.ac9.Id):a=b:=by
 obtain ⟨i,hi,rfl⟩:=List.mem_iff_getElem.1 ha
 obtain ⟨j,hj,rfl⟩:=List.mem_iff_getElem.1 hb
 have:=yG h hi hj hid
 subst this;rfl
def qX{l:List Int}{x:Int}:eR l x=true↔x∈l:=by unfold eR;simp
def ZB{e:ar}(h:aP e=true){a:ac8}(ha:a∈e.ac8):eR (parts e) a.ac9.Id=eC e a:=by
 rw [Bool.eq_iff_iff,qX,vo h]
 unfold jc
 rw [Ae]
 constructor
 ·rintro ⟨b,hb,hid⟩
  obtain ⟨hb,hp⟩:=List.mem_filter.1 hb
  rw [←EN h hb ha hid];exact hp
 ·intro hp;exact ⟨a,List.mem_filter.2 ⟨ha,hp⟩,rfl⟩
def br(e:ar)(a:ac8):ac8:=iG (e.Store.ac7.length:Int) (if eC e a then kO e a else a)
def EO{e:ar}(h:aP e=true):(ke e).ac8=(e.ac8.map (br e)).filter (fun a=>!cc a)∧(ke e).Done=e.Done++((e.ac8.map (br e)).filter cc).map hO:=by
 have hl:=yJ (e:=e) (k:=(parts e).length)
 have ht:(cj e (parts e).length).take e.ac8.length=cj e (parts e).length:=oo ab
 have hs:cj e (parts e).length=e.ac8.map (br e):=by
  unfold cj cQ
  rw [List.map_map,cC]
  refine List.map_congr_left fun a ha=>?_
  show iG _ (jD e (parts e) a)=br e a
  unfold jD br
  rw [ZB h ha]
 unfold ke Dn jf hP
 dsimp only
 rw [ht,hs]
 exact ⟨rfl,rfl⟩
def ZC{e:ar}(h:aP e=true)(a:ac8):∀r∈iF e a,bf r=true:=by
 intro r hr
 unfold iF at hr
 exact Nv h a.Time r (List.mem_filter.1 hr).1
def jI{e:ar}{a:ac8}:(br e a).ac9=a.ac9∧(br e a).Time=a.Time∧(br e a).Cap=a.Cap∧(br e a).Age=a.Age+1:=by
 unfold br iG kO
 split<;>exact ⟨rfl,rfl,rfl,rfl⟩
def EP{e:ar}{a:ac8}:(br e a).Rows=if eC e a then a.Rows++iF e a else a.Rows:=by
 unfold br iG kO
 split<;>rfl
def pC{e:ar}{a:ac8}:(br e a).adi=if eC e a then fl a.adi e.adc else a.adi:=by
 unfold br iG kO
 split<;>rfl
def EQ{e:ar}{a:ac8}:(br e a).Sent=if (a.Age+1).tmod (e.Store.ac7.length:Int)=0 then 0 else if eC e a then a.Sent+((iF e a).length:Int) else a.Sent:=by
 unfold br iG kO
 split<;>rfl
structure nf(N:Nat)(e:ar):Prop where
 ok:aP e=true
 ld:e.adl.length≤N
 dn:e.Done.length+e.ac8.length≤N
 ag:∀a∈e.ac8,a.Age≤N∧a.Sent≤4 * N∧a.Rows.length≤4 * N
structure fB(N:Nat)(e:ar):Prop where
 ok:aP e=true
 st:e.Steps≤N
 ld:e.adl.length≤N
 dn:e.Done.length+e.ac8.length≤N
 ag:∀a∈e.ac8,a.Age≤N∧a.Sent≤4 * N∧a.Rows.length≤4 * N
def fB.w{N:Nat}{e:ar}(h:fB N e):nf N e:=⟨h.ok,h.ld,h.dn,h.ag⟩
def fB.le{N M:Nat}{e:ar}(h:fB N e)(hM:N≤M):fB M e:=
 ⟨h.ok,by have:=h.st;omega,by have:=h.ld;omega,by have:=h.dn;omega,fun a ha=>by have:=h.ag a ha;omega⟩
def nf.le{N M:Nat}{e:ar}(h:nf N e)(hM:N≤M):nf M e:=
 ⟨h.ok,by have:=h.ld;omega,by have:=h.dn;omega,fun a ha=>by have:=h.ag a ha;omega⟩
def vX{N:Nat}{e:ar}(h:fB N e)(hN:N≤900):jg e=true:=by
 have h1:=h.st;have h2:=h.ld;have h3:=h.dn
 unfold jg
 rw [h.ok]
 simp only [Bool.true_and,aT,decide_eq_true_eq]
 omega
def ZD{e:ar}(h:aP e=true)(hp:0 < (parts e).length):gk (dV e (parts e).length)=true:=by
 have hk:=fA.1 h
 have hl:=Dp (e:=e) (Nat.le_refl (parts e).length)
 have hpl:=Dm (e:=e)
 have ha8:=hk.a8
 have hs8:=(lX.1 hk.so).l8
 have hc0:=hk.c0;have hc1:=hk.c1
 have hs4:=Dr h
 have hset:vc (parts e)=true:=by
  have:eS 0 (fun x=>aE x 0 23) (fun a b=>decide (a < b)) (parts e)=true:=Dw (fun x hx=>by
   rw [vo h] at hx
   obtain ⟨a,ha,rfl⟩:=List.mem_map.1 hx
   have:=Pz (ij.1 (hk.aa a (List.mem_filter.1 ha).1)).q
   unfold aE;simp only [aT,decide_eq_true_eq];omega) ((Do h).imp fun {a b} k=>by simpa using k)
  exact this
 unfold gk mP
 have e1:(dV e (parts e).length).Ids=parts e:=by unfold dV;rw [cC]
 have e2:(dV e (parts e).length).Segment=e.adc:=rfl
 have e3:(dV e (parts e).length).Base=((dk e).length:Int):=rfl
 have e4:pg (dV e (parts e).length) (dV e (parts e).length).Ids.length=true:=by
  unfold pg
  refine List.all_eq_true.2 fun k hk2=>?_
  have hk2:=List.mem_range.1 hk2
  rw [e1] at hk2
  unfold pf
  rw [e3]
  have t1:(dV e (parts e).length).adf.getD k 0=yD e (parts e)[k]:=by
   unfold dV;dsimp only;rw [cC,List.getD_eq_getElem?_getD,List.getElem?_map,List.getElem?_eq_getElem hk2];rfl
  have t2:(dV e (parts e).length).Rows.getD k 0=yE e (parts e)[k]:=by
   unfold dV;dsimp only;rw [cC,List.getD_eq_getElem?_getD,List.getElem?_map,List.getElem?_eq_getElem hk2];rfl
  obtain ⟨i,hi,hf,hid,hpp⟩:=Nk h hk2
  have ha:=Nl hi hf
  rw [t1,t2]
  unfold yD yE
  rw [ha]
  have h5:=Pz (ij.1 (hk.aa _ (List.getElem_mem hi))).q
  have h6:(iF e e.ac8[i]).length≤(dk e).length:=Nat.le_trans (jO _ _) (yI _ _)
  simp only [aE,aT,decide_eq_true_eq]
  omega
 rw [e4,e1,e2,e3,hset]
 simp only [aE,Bool.true_and,Bool.and_true,aT,decide_eq_true_eq]
 exact ⟨⟨⟨ab,ab⟩,ab,ab⟩,⟨ab,ab⟩,ab,ab⟩
def PA{e:ar}(h:aP e=true):aP (cF e)=true:=by
 have hk:=fA.1 h
 have hr:=ne (s:=e.Store) (fk e.ac8)
 rw [fA]
 unfold cF
 refine ⟨Zi _ hk.so,hk.c0,?_,hk.od,hk.s0,hk.s1,hk.a8,hk.d1,hk.l1,fun a ha=>?_,hk.pw,fun f hf=>?_,hk.cs⟩
 ·dsimp only;rw [hr.1];exact hk.c1
 ·dsimp only;rw [ij,hr.1,hr.2,←ij];exact hk.aa a ha
 ·dsimp only;rw [hr.2];exact hk.fs f hf
def nf.reclaim{N:Nat}{e:ar}(h:nf N e):nf N (cF e):=⟨PA h.ok,h.ld,h.dn,h.ag⟩
def fB.reclaim{N:Nat}{e:ar}(h:fB N e):fB N (cF e):=⟨PA h.ok,h.st,h.ld,h.dn,h.ag⟩
def vY{l:List Int}{x y:Int}:y∈fl l x↔y∈l∧y≠x:=by unfold fl;simp
def ZE{c n:Int}(h0:0≤c)(h1:c < n):(c+1).tmod n=if c+1=n then 0 else c+1:=by
 rw [Int.tmod_eq_emod_of_nonneg ab]
 split
 ·rename_i h;rw [h,Int.emod_self]
 ·exact Int.emod_eq_of_lt ab ab
def ZF{N:Nat}{e:ar}(h:nf N e)(hN:N≤249):nf (N+1) (bS e):=by
 cases hso:jg e with
 | false=>rw [Nj hso];exact h.le ab
 | true=>
 obtain ⟨_,hst,_,_⟩:=yF hso
 rw [tl hso]
 refine nf.reclaim ?_
 have hk:=fA.1 h.ok
 obtain ⟨ea,ed⟩:=EO h.ok
 have hb:=h.ag
 have hld:=h.ld;have hdn:=h.dn
 have c0:=hk.c0;have c1:=hk.c1
 have hcur:=ZE c0 c1
 have el:(ke e).adl=kP e (parts e).length:=rfl
 have hll:(ke e).adl.length≤e.adl.length+1:=by
  rw [el];unfold kP;split
  ·omega
  ·rw [aZ];simp
 have hrows:∀a∈e.ac8,(br e a).Rows.length≤4 * (N+1)∧∀r∈(br e a).Rows,bf r=true:=by
  intro a ha
  have h1:=hb a ha
  have h2:=Dv h.ok a
  have h3:=ij.1 (hk.aa a ha)
  rw [EP]
  split
  ·rw [aZ]
   refine ⟨ab,fun r hr=>?_⟩
   rcases List.mem_append.1 hr with hr|hr
   ·exact h3.rk r hr
   ·exact ZC h.ok a r hr
  ·exact ⟨ab,h3.rk⟩
 have hsent:∀a∈e.ac8,0≤(br e a).Sent∧(br e a).Sent≤4 * ((N:Int)+1):=by
  intro a ha
  have h1:=hb a ha
  have h2:=Dv h.ok a
  have h3:=ij.1 (hk.aa a ha)
  have h4:=h3.sn0
  rw [EQ]
  split
  ·omega
  ·split<;>omega
 have hsplit:((e.ac8.map (br e)).filter fun a=>!cc a).length+((e.ac8.map (br e)).filter cc).length=e.ac8.length:=by
  have:=Dt (e.ac8.map (br e));rw [aO] at this;exact this
 have mem:∀b,b∈(ke e).ac8→∃a∈e.ac8,b=br e a∧cc b=false:=by
  intro b hb2
  rw [ea] at hb2
  obtain ⟨hb2,he⟩:=List.mem_filter.1 hb2
  obtain ⟨a,ha,rfl⟩:=List.mem_map.1 hb2
  exact ⟨a,ha,rfl,by simpa using he⟩
 refine ⟨?_,ab,?_,?_⟩
 ·rw [fA]
  refine ⟨hk.so,?_,?_,hk.od,by show 0≤e.Steps+1;have:=hk.s0;omega,by show e.Steps+1≤100000;omega,?_,?_,ab,?_,?_,?_,?_⟩
  ·show 0≤(e.adc+1).tmod _;rw [hcur];split<;>omega
  ·show (e.adc+1).tmod (e.Store.ac7.length:Int) < (e.Store.ac7.length:Int);rw [hcur];split<;>omega
  ·rw [ea];have:=hk.a8;omega
  ·rw [ed,aZ,aO];omega
  ·intro b hb2
   obtain ⟨a,ha,rfl,he⟩:=mem b hb2
   have h3:=ij.1 (hk.aa a ha)
   have hq:=jI (e:=e) (a:=a)
   have h5:=hrows a ha;have h6:=hsent a ha;have h7:=hb a ha
   rw [ij]
   have ht:(br e a).adi.Sublist a.adi:=by
    rw [pC];split
    ·exact List.filter_sublist
    ·exact List.Sublist.refl _
   refine ⟨?_,h3.tp.sublist ht,fun x hx=>h3.tr x (ht.subset hx),by rw [hq.1];exact h3.q,by rw [hq.2.1];exact h3.tm0,by rw [hq.2.1];exact h3.tm1,by rw [hq.2.2.2];have:=h3.ag0;omega,by rw [hq.2.2.2];omega,h6.1,ab,by rw [hq.2.2.1];exact h3.cp0,by rw [hq.2.2.1];exact h3.cp1,h5.2,ab⟩
   unfold cc at he
   simp only [decide_eq_false_iff_not] at he
   omega
  ·rw [ea]
   refine List.Pairwise.filter _ ?_
   rw [List.pairwise_map]
   refine hk.pw.imp fun {a b} k=>?_
   rw [jI.1,jI.1];exact k
  ·rw [ed]
   intro f hf
   rcases List.mem_append.1 hf with hf|hf
   ·exact hk.fs f hf
   ·obtain ⟨b,hb2,rfl⟩:=List.mem_map.1 hf
    obtain ⟨hb2,_⟩:=List.mem_filter.1 hb2
    obtain ⟨a,ha,rfl⟩:=List.mem_map.1 hb2
    have h3:=ij.1 (hk.aa a ha)
    have hq:=jI (e:=e) (a:=a)
    have h5:=hrows a ha;have h7:=hb a ha
    rw [EM]
    unfold hO
    dsimp only
    rw [hq.1,hq.2.1,hq.2.2.2]
    have:=h3.ag0
    exact ⟨h3.q,⟨h3.tm0,h3.tm1⟩,⟨ab,ab⟩,h5.2,ab⟩
  ·rw [el]
   intro c hc
   unfold kP at hc
   split at hc
   ·exact hk.cs c hc
   ·rcases List.mem_append.1 hc with hc|hc
    ·exact hk.cs c hc
    ·rw [List.mem_singleton.1 hc]
     exact ZD h.ok ab
 ·rw [ea,ed,aZ,aO];omega
 ·intro b hb2
  obtain ⟨a,ha,rfl,he⟩:=mem b hb2
  have hq:=jI (e:=e) (a:=a)
  have h5:=hrows a ha;have h6:=hsent a ha;have h7:=hb a ha
  rw [hq.2.2.2]
  omega
def PB{N:Nat}{e:ar}(h:fB N e)(hN:N≤249):fB (N+1) (bS e):=by
 have k:=ZF h.w hN
 have hst:=h.st
 exact ⟨k.ok,by rw [tl (vX h ab)];show e.Steps+1≤_;omega,k.ld,k.dn,k.ag⟩
def ZG{N:Nat}{e:ar}(h:fB N e)(u:adb):fB N (dy e u).1:=by
 cases hu:aP e&&(dw e.Store u).2 with
 | false=>rw [yM hu];exact h
 | true=>
  rw [yN hu]
  refine fB.reclaim ?_
  have hk:=fA.1 h.ok
  have hs:=zm e.Store u hk.so
  have hlen:(dw e.Store u).1.ac7.length=e.Store.ac7.length∧e.Store.Now≤(dw e.Store u).1.Now:=by
   cases ha:eD e.Store u with
   | false=>rw [qN ha];exact ⟨rfl,Int.le_refl _⟩
   | true=>
    by_cases hk2:u.Kind=2
    ·rw [qP ha hk2];exact ⟨nP _ _,iQ⟩
    ·rw [qO ha];unfold eE;rw [if_neg hk2];unfold mV;dsimp only;rw [List.length_set,nP];exact ⟨rfl,ab⟩
  refine ⟨?_,h.st,h.ld,h.dn,h.ag⟩
  rw [fA]
  unfold kg
  refine ⟨hs,hk.c0,by dsimp only;rw [hlen.1];exact hk.c1,hk.od,hk.s0,hk.s1,hk.a8,hk.d1,hk.l1,fun a ha=>?_,hk.pw,fun f hf=>?_,hk.cs⟩
  ·have h3:=ij.1 (hk.aa a ha)
   dsimp only
   rw [ij,hlen.1]
   exact { h3 with tm1:=by have:=h3.tm1;omega }
  ·have:=EM.1 (hk.fs f hf)
   dsimp only
   rw [EM]
   exact ⟨this.1,⟨this.2.1.1,ab⟩,this.2.2⟩
def ZH{n:Nat}:∀x∈kQ n,0≤x∧x < n:=by
 intro x hx
 unfold kQ at hx
 obtain ⟨i,hi,rfl⟩:=List.mem_map.1 hx
 have:=List.mem_range.1 hi
 omega
def ZI{e:ar}{q:ac9}{l:Int}(h:aP e=true)(hq:aQ q=true)(hl:0≤l∧l≤32):gn e.Store (du e q l)=true:=by
 have hk:=fA.1 h
 have hs:=lX.1 hk.so
 have l1:=hs.l1
 rw [ij]
 unfold du
 refine ⟨by rw [yK];omega,?_,ZH,hq,hs.n0,Int.le_refl _,Int.le_refl 0,by show (0:Int)≤100000;decide,Int.le_refl 0,by show (0:Int)≤1000;decide,hl.1,hl.2,aF,aF⟩
 unfold kQ
 rw [List.pairwise_map]
 refine (List.pairwise_lt_range).imp fun {a b} k=>by omega
def ER{e:ar}{q:ac9}{l:Int}(h:aP e=true):(gO e q l).Perm (du e q l::e.ac8):=by
 have hc:=tn (fun a:ac8=>a.ac9.Id) q.Id (pj h)
 have e1:e.ac8.filter (hY q.Id)=e.ac8.take (eT e.ac8 q.Id):=hc
 unfold gO
 rw [e1]
 refine List.perm_middle.trans ?_
 rw [fh]
def ZJ{e:ar}{q:ac9}{l:Int}(h:aP e=true)(hf:fL e.ac8 q.Id < 0):(gO e q l).Pairwise fun a b=>a.ac9.Id < b.ac9.Id:=by
 have hp:=pj h
 have hc:=tn (fun a:ac8=>a.ac9.Id) q.Id hp
 have e1:e.ac8.filter (hY q.Id)=e.ac8.take (eT e.ac8 q.Id):=hc
 have hcut:=fun (k:Nat) (hk:k < e.ac8.length)=>Vu (x:=q.Id) h hk
 have hge:∀b∈e.ac8.drop (eT e.ac8 q.Id),q.Id < b.ac9.Id:=by
  intro b hb
  obtain ⟨j,hj,rfl⟩:=List.mem_iff_getElem.1 hb
  rw [lb] at hj
  rw [List.getElem_drop]
  have h1:=hcut (eT e.ac8 q.Id+j) ab
  have h2:=ND hf (show eT e.ac8 q.Id+j < e.ac8.length by omega)
  omega
 have hlt:∀b∈e.ac8.take (eT e.ac8 q.Id),b.ac9.Id < q.Id:=by
  intro b hb
  rw [←e1] at hb
  have:=(List.mem_filter.1 hb).2
  unfold hY at this;simpa using this
 unfold gO
 rw [e1,List.pairwise_append,List.pairwise_cons]
 refine ⟨hp.sublist (List.take_sublist _ _),⟨fun b hb=>hge b hb,hp.sublist (List.drop_sublist _ _)⟩,fun a ha b hb=>?_⟩
 have h1:=hlt a ha
 rcases List.mem_cons.1 hb with rfl|hb
 ·exact h1
 ·have:=hge b hb;omega
def PC{N:Nat}{e:ar}(h:fB N e)(hN:N≤900)(q:ac9)(l:Int):fB (N+1) (fe e q l).1:=by
 cases ha:iH e q l with
 | false=>rw [tm ha];exact h.le ab
 | true=>
  rw [mT ha]
  obtain ⟨h1,h2,h3,h4,h5⟩:=qL ha
  have hk:=fA.1 h1
  have hp:=ER (q:=q) (l:=l) h1
  have hl:=hp.length_eq
  rw [List.length_cons] at hl
  have hdn:=h.dn;have hst:=h.st;have hld:=h.ld
  have mem:∀a∈gO e q l,a=du e q l∨a∈e.ac8:=fun a ha=>List.mem_cons.1 (hp.mem_iff.1 ha)
  refine ⟨?_,iQ,iQ,iQ,fun a ha=>?_⟩
  ·rw [fA]
   refine ⟨hk.so,hk.c0,hk.c1,hk.od,hk.s0,hk.s1,iQ,hk.d1,hk.l1,fun a ha=>?_,by exact ZJ (e:=e) h1 h4,hk.fs,hk.cs⟩
   rcases mem a ha with rfl|ha
   ·exact ZI (e:=e) h1 h2 h3
   ·exact hk.aa a ha
  ·rcases mem a ha with rfl|ha
   ·unfold du;dsimp only;simp;omega
   ·have:=h.ag a ha;omega
def vZ:adb:=⟨0,⟨0,[]⟩,0,0⟩
def kW:ac9:=⟨0,0,[],[]⟩
inductive tP(s:Store):bR→Prop
 | adm (q:ac9) (l:Int) (h1:aQ q=true) (h2:0≤q.Id∧q.Id≤5) (h3:0≤l∧l≤2):tP s ⟨1,q,l,0,vZ,0⟩
 | can (i:Int) (h:0≤i∧i≤5):tP s ⟨2,kW,0,i,vZ,0⟩
 | stp (n:Int) (h:1≤n∧n≤3):tP s ⟨4,kW,0,0,vZ,n⟩
 | upd (u:adb):tP s ⟨3,kW,0,0,u,0⟩
def tP.steps{s:Store}{x:bR}(h:tP s x):0≤x.Steps∧x.Steps≤3:=by cases h<;>dsimp only<;>omega
structure ac2 where
 l:List bR
 c:gB
def ES(s:Store):ar:=⟨s,0,[0,1,2],[],[],[],0⟩
end Go.Proofs.YtmekkgdboplbjaaGreatDoor
