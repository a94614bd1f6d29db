/- Definitions and their laws. No condition. -/
import Derived.Test.YtmekkgdboplbjaaGreatDoorDR1
set_option linter.all false
namespace Go.Proofs.YtmekkgdboplbjaaGreatDoor
open Go Go.RowKit M
set_option maxRecDepth 10000
def fF(code:List Int)(i:Nat):Row:=⟨(i:Int),[(gC code (i:Int)).tmod 5,(gC code ((i:Int)+6)).tmod 5,(gC code ((i:Int)+12)).tmod 5]⟩
def kZ(code:List Int):ac9:=⟨3,0,[⟨(gC code 20).tmod 3,(gC code 21).tmod 3,2+(gC code 22).tmod 3⟩],[1]⟩
def rh{x n:Int}(h:0≤x)(hn:0 < n):0≤x.tmod n∧x.tmod n < n:=⟨Int.tmod_nonneg n h,Int.tmod_lt_of_pos x hn⟩
section
variable{code:List Int}
def abm(hc:∀x∈code,0≤x∧x≤255)(i:Nat):∀x∈(fF code i).Values,0≤x∧x < 5:=by
 intro x hx
 unfold fF at hx
 simp only [jp,List.not_mem_nil,or_false] at hx
 rcases hx with rfl|rfl|rfl
 ·exact rh (rf hc _ ab).1 ae
 ·exact rh (rf hc _ ab).1 ae
 ·exact rh (rf hc _ ab).1 ae
def abn(hc:∀x∈code,0≤x∧x≤255):∀k < 6,bf (fF code k)=true∧(fF code k).Id=k:=by
 intro k hk
 refine ⟨EI.2 ⟨?_,rfl,fun x hx=>?_⟩,rfl⟩
 ·show 0≤(k:Int)∧(k:Int)≤999;omega
 ·have:=abm hc k x hx;omega
def abo(hc:∀x∈code,0≤x∧x≤255):aQ (kZ code)=true:=by
 have h1:=rh (rf hc 20 ae).1 (show (0:Int) < 3 by decide)
 have h2:=rh (rf hc 21 ae).1 (show (0:Int) < 3 by decide)
 have h3:=rh (rf hc 22 ae).1 (show (0:Int) < 3 by decide)
 have hk:iD ⟨(gC code 20).tmod 3,(gC code 21).tmod 3,2+(gC code 22).tmod 3⟩=true:=by
  unfold iD aE
  simp only [aT,decide_eq_true_eq]
  omega
 have e:aQ (kZ code)=(true&&(iD ⟨(gC code 20).tmod 3,(gC code 21).tmod 3,2+(gC code 22).tmod 3⟩&&true&&true)):=by
  unfold aQ jA kc eS kZ
  simp [aE,hI]
  unfold lG
  simp
 rw [e,hk];rfl
/- texts without an end of line -/
def abp{c:UInt8}{ws:List am}{sep:am}(hs:c∉sep)(h:∀w∈ws,c∉w):c∉ee ws sep:=by
 induction ws using vm with
 | h0=>simp [Dl]
 | h1 ws y ih=>
  rw [pd]
  split
  ·exact h y aF
  ·simp only [cB,not_or]
   exact ⟨⟨ih (fun w hw=>h w (by simp [hw])),hs⟩,h y aF⟩
def abq(r:Row):(10:UInt8)∉dN r:=by
 unfold dN
 split
 ·simp only [cB,not_or]
  exact ⟨⟨de ae,ae⟩,tG ae ae⟩
 ·simp
def abr(q:ac9):(10:UInt8)∉cw q:=by
 unfold cw
 split
 ·refine abp ae fun w hw=>?_
  rcases List.mem_append.1 hw with hw|hw
  ·unfold eU at hw
   rcases List.mem_append.1 hw with hw|hw
   ·rcases List.mem_cons.1 hw with rfl|hw
    ·simp only [cB,not_or];exact ⟨ae,de ae⟩
    ·rw [List.mem_singleton] at hw;subst hw
     simp only [cB,not_or];exact ⟨ae,de ae⟩
   ·obtain ⟨c,_,hc⟩:=List.mem_flatMap.1 hw
    unfold gS at hc
    rcases List.mem_cons.1 hc with rfl|hc
    ·simp only [cB,not_or];exact ⟨ae,de ae⟩
    ·rw [List.mem_singleton] at hc;subst hc
     simp only [cB,not_or];exact ⟨⟨de ae,ae⟩,de ae⟩
  ·rcases List.mem_cons.1 hw with rfl|hw
   ·decide
   ·rw [List.mem_singleton] at hw;subst hw
    exact tG ae ae
 ·simp
def oh{a b:am}{c:UInt8}(ha:(10:UInt8)∉a)(hc:c≠10)(hb:(10:UInt8)∉b):(10:UInt8)∉a++c::b:=by
 simp only [cB,jp,not_or]
 exact ⟨ha,fun e=>hc e.symm,hb⟩
def abt{x:bR}(h:ca x=true):(10:UInt8)∉bP x:=by
 rcases tL h with ⟨q,n,h1,h2,h3,rfl,e⟩|⟨n,h2,h3,rfl,e⟩|⟨u,h1,rfl,e⟩|⟨n,h2,h3,rfl,e⟩
 ·rw [e];exact oh ae ae (oh (de ae) ae (abr q))
 ·rw [e];exact oh ae ae (de ae)
 ·rw [e]
  rcases qV h1 with ⟨r,h1,rfl,e2⟩|⟨n,h1,h2,rfl,e2⟩|⟨n,f,v,⟨h1,h2⟩,⟨h3,h4⟩,⟨h5,h6⟩,rfl,e2⟩<;>rw [e2]
  ·exact oh ae ae (abq r)
  ·exact oh ae ae (de ae)
  ·refine oh ae ae (oh (de ae) ae (oh ?_ ae (de ae)))
   intro hx
   rcases List.mem_cons.1 hx with hx|hx
   ·exact absurd hx ae
   ·exact de ae hx
 ·rw [e];exact oh ae ae (de ae)
section
variable{R:Nat→Row}{q:ac9}
def Fu(hR:∀k < 6,bf (R k)=true∧(R k).Id=k)(hq:aQ q=true):∀l∈dR R q,(10:UInt8)∉l∧l.length≤200:=by
 intro l hl
 unfold dR at hl
 rcases List.mem_cons.1 hl with rfl|hl
 ·exact ⟨ae,ae⟩
 ·rcases List.mem_append.1 hl with hl|hl
  ·obtain ⟨x,hx,rfl⟩:=List.mem_map.1 hl
   exact ⟨abt (Fr hR hq x hx),aaL x⟩
  ·rw [List.mem_singleton] at hl;subst hl
   exact ⟨ae,ae⟩
def abu(hR:∀k < 6,bf (R k)=true∧(R k).Id=k)(hq:aQ q=true):aw 10 (fQ (dR R q))=dR R q++[[]]:=aa0 fun l hl=>(Fu hR hq l hl).1
def abv{ls:List am}{m:Nat}(h:∀l∈ls,l.length≤m):(fQ ls).length≤ls.length * (m+1):=by
 induction ls with
 | nil=>simp [fQ]
 | cons l r ih=>
  have h1:=ih fun x hx=>h x fS
  have h2:=h l aF
  have e:fQ (l::r)=(l++[10])++fQ r:=wu
  have e2:(l::r).length * (m+1)=r.length * (m+1)+(m+1):=by rw [List.length_cons,Nat.succ_mul]
  rw [e,aZ,aZ,e2]
  simp;omega
def abw(hR:∀k < 6,bf (R k)=true∧(R k).Id=k)(hq:aQ q=true):(fQ (dR R q)).length≤2412:=by
 have:=abv fun l hl=>(Fu hR hq l hl).2
 rw [wg] at this
 exact this
def sI(R:Nat→Row)(k:Nat):am:=fQ (([116,97,98,108,101,32,51]:am)::(List.range k).map fun i=>bP (jL (R i)))
def abx{r:Row}(h:bf r=true):bP (jL r)=([105,110,115,101,114,116,32]:am)++dN r:=by
 have h1:ca (jL r)=true:=wc (zv h)
 unfold bP
 rw [if_pos h1,if_neg (by unfold jL;dsimp only;omega),if_neg (by unfold jL;dsimp only;omega),if_pos (show (jL r).Kind=3 from rfl)]
 unfold dO
 rw [if_pos (show ci (jL r).adb=true from zv h),if_pos (show (jL r).adb.Kind=1 from rfl)]
 rfl
def QB{k:Nat}(h:bf (R k)=true):sI R (k+1)=sI R k++([105,110,115,101,114,116,32]:am)++dN (R k)++[10]:=by
 unfold sI
 rw [List.range_succ,bL,←List.cons_append,List.map_singleton,Qp,abx h]
 simp [aW]
def Fv(hR:∀k < 6,bf (R k)=true∧(R k).Id=k):∀k,k≤6→(sI R k).length≤8+30 * k
 | 0,_=>by have:(sI R 0).length=8:=rfl;omega
 | k+1,hk=>by
  have ih:=Fv hR k ab
  rw [QB (hR k ab).1]
  have:=Fi (R k)
  simp only [aZ,List.length_cons,List.length_nil];omega
def tV{n:Int}(h:0≤n∧n < 10):itoa n=[UInt8.ofNat (48+n.toNat)]:=Qr h
def aby{q:ac9}(h:aQ q=true):bP (lZ q)=([97,100,109,105,116,32,48,32]:am)++cw q:=by
 unfold bP
 rw [if_pos (Fe h),if_pos (show (lZ q).Kind=1 from rfl)]
 show _++itoa 0++[32]++cw q=_
 rw [tV ab]
 rfl
def abz:bP kX=([115,101,116,32,49,32,102,48,32,52]:am):=by
 unfold bP
 rw [if_pos Qd,if_neg ae,if_neg ae,if_pos (show kX.Kind=3 from rfl)]
 unfold dO
 rw [if_pos ae,if_neg ae,if_neg ae]
 show _++itoa 1++_++itoa 0++_++itoa 4=_
 rw [tV ab,tV ab,tV ab]
 rfl
def abA:bP pE=([100,101,108,101,116,101,32,50]:am):=by
 unfold bP
 rw [if_pos Qe,if_neg ae,if_neg ae,if_pos (show pE.Kind=3 from rfl)]
 unfold dO
 rw [if_pos ae,if_neg ae,if_pos ae]
 show _++itoa 2=_
 rw [tV ab]
 rfl
def abB:bP tR=([115,116,101,112,32,51]:am):=by
 unfold bP
 rw [if_pos Fc,if_neg ae,if_neg ae,if_neg ae]
 show _++itoa 3=_
 rw [tV ab]
 rfl
def abC(hq:aQ q=true):sI R 6++([97,100,109,105,116,32,48,32]:am)++cw q++([10,115,101,116,32,49,32,102,48,32,52,10,100,101,108,101,116,101,32,50,10,115,116,101,112,32,51,10]:am)++(([114,101,115,117,108,116,32,51]:am)++[10])=fQ (dR R q):=by
 have e:dR R q=(([116,97,98,108,101,32,51]:am)::(List.range 6).map fun i=>bP (jL (R i)))++[bP (lZ q),bP kX,bP pE,bP tR,([114,101,115,117,108,116,32,51]:am)]:=by
  unfold dR fP
  rw [bL,List.map_map]
  simp [aW]
 rw [e,aaZ,aby hq,abz,abA,abB]
 unfold sI
 simp [fQ,aW]
end
/- the count -/
def abD{l:am}{k:Nat}(h:k < l.length):(l.take (k+1)).count 58=(l.take k).count 58+(if l[k].toNat=58 then 1 else 0):=by
 rw [cG h,List.count_append,List.count_singleton]
 congr 1
 have:(l[k]==58)=decide (l[k].toNat=58):=by
  rw [Bool.eq_iff_iff,beq_iff_eq,decide_eq_true_iff]
  constructor
  ·intro e;rw [e];rfl
  ·intro e;exact UInt8.toNat_inj.1 (by rw [e];rfl)
 rw [this]
 by_cases h:l[k].toNat=58<;>simp [h]
end
def abE{R:Nat→Row}{q:ac9}(hq:aQ q=true):sI R 6++([97,100,109,105,116,32,48,32]:am)++cw q++([10,115,101,116,32,49,32,102,48,32,52,10,100,101,108,101,116,101,32,50,10,115,116,101,112,32,51,10]:am)++([114,101,115,117,108,116,32,51,10]:am)=fQ (dR R q):=abC hq
def abF:fE (6+1)++([111,107,10,111,107,10,111,107,10,111,107,10]:am)=fE 11:=rfl
def abG{R:Nat→Row}{q:ac9}(hR:∀k < 6,bf (R k)=true∧(R k).Id=k)(hq:aQ q=true):∀k,k≤(dR R q).length→(dQ (dR R q) k).2.length≤200000:=by
 intro k hk
 rw [wg] at hk
 rcases k with _|k
 ·show ([]:am).length≤_;decide
 ·by_cases h:k≤10
  ·rw [rg hR hq k h]
   have:=wh (k+1)
   dsimp only;omega
  ·have hk:k=11:=by omega
   subst hk
   rw [wi zD,rg hR hq 10 (Nat.le_refl _)]
   unfold pI
   dsimp only
   rw [(we _).2.2]
   have h1:=wh (10+1)
   have h2:=abb (s:=[51]) (zy hR hq).2.1
   simp only [aZ,List.length_cons,List.length_nil];omega
def abH{R:Nat→Row}{q:ac9}(hR:∀k < 6,bf (R k)=true∧(R k).Id=k)(hq:aQ q=true):∀k,k≤(dR R q).length→bw (dQ (dR R q) k).1≤60000000:=by
 intro k hk
 rw [wg] at hk
 have h0:bw nh≤100:=ae
 have hs:∀j,j≤10→bw (cz R q j)≤60000000:=by
  intro j hj
  have:=(VO nh (fP R q) j (by rw [pF];exact hj) ab).1
  have e:cz R q j=(gQ nh (fP R q) j).1:=rfl
  rw [e];omega
 rcases k with _|k
 ·show bw pH≤_;decide
 ·by_cases h:k≤10
  ·rw [rg hR hq k h];exact hs k h
  ·have hk:k=11:=by omega
   subst hk
   rw [wi zD,rg hR hq 10 (Nat.le_refl _)]
   unfold pI
   dsimp only
   rw [(we _).2.1];exact hs 10 (Nat.le_refl _)
def abI{R:Nat→Row}{q:ac9}(hR:∀k < 6,bf (R k)=true∧(R k).Id=k)(hq:aQ q=true):∀l∈dR R q,l.length≤3000:=fun l hl=>by have:=(Fu hR hq l hl).2;omega
def abJ{f:fJ}{q:ac9}{L:List Row}(h1:aQ f.ac9=true)(h2:fZ f.Rows=true)(h3:f.Rows.length=(fC q L).length):(eG f++[10]).count 58=(jJ (fC q L)).length:=by
 rw [List.count_append,aba h1 h2,h3]
 exact ((qZ (lt:=ct ce) (fC q L)).length_eq).symm
def abK(code:List Int):eg ((List.range 6).map (fF code))≤1000:=by
 have h:∀l:List Nat,((l.map (fF code)).map gx).sum=3 * l.length:=by
  intro l
  induction l with
  | nil=>rfl
  | cons a l ih=>
   rw [List.map_cons,List.map_cons,List.sum_cons,ih]
   have:gx (fF code a)=3:=by unfold gx;simp only [fy,aX];rfl
   rw [this,List.length_cons];omega
 unfold eg
 rw [h]
 simp
end Go.Proofs.YtmekkgdboplbjaaGreatDoor
