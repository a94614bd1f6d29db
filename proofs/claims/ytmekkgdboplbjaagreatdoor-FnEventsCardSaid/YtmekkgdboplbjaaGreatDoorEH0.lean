/- What functions of the program compute. No condition. -/
import Derived.Test.YtmekkgdboplbjaaGreatDoorEG0
set_option linter.all false
namespace Go.Proofs.YtmekkgdboplbjaaGreatDoor
open Go Go.RowKit M PV
set_option maxRecDepth 10000
attribute [local irreducible] PV.Lcl PV.LclR RV.Lcl
attribute [local irreducible] aw hJ
def ard:eA Tryz.prog 25=some [(0,1),(1,1),(2,1),(3,1)]:=ao
def are:eA Tryz.prog 65=some [(0,1),(1,1),(2,1)]:=ao
def ai6{o:Fl}{c:aG}(hbo:∀es,(sl o es).Bor){id:Int}:ie Tryz.prog 166 176 (da o c) (da o (mj c id).2) [(false,[val (vI id)])] (aB [(true,[val (vI (mj c id).1.Id),val (vI (mj c id).1.ax8),sl aH ((mj c id).1.ax5.map bF),sl ai ((mj c id).1.Out.map ar)])]):=by
 refine iX (rs:=[(true,[val (vI (mj c id).1.Id),val (vI (mj c id).1.ax8),sl aH ((mj c id).1.ax5.map bF),sl ai ((mj c id).1.Out.map ar)])]) Tryz.func166 rfl (nl rfl) (nl rfl) ?_
 intro g_ h0 w0 Fz0
 have hp3:0 < (bL (aw c 4).2 [3,6,100]).1∧(bL (aw c 4).2 [3,6,100]).1≤100:=by have h_:=Rh (aw c 4).2 (l:=[3,6,100]) aj;simp at h_;show 0 < (bL _ _).1∧(bL _ _).1≤100;omega
 have hb1:=dW (tG c).c 3
 have hb2:=dY (tG c).c (n:=3) aj
 refine PK ?_
 refine aU ?_
 refine sO [(0,_),(1,_),(4,_),(5000,_)] [(0,(176,[sl o _,val _,val _])),(4,(25,bX))] ?_
 refine nH ?_
 refine jp ?_
 refine rA ?_ (x:=cy (qs:=[(false,[val _]),(false,[val _])]) (cs:=bX) aj nS ve ard ak ip rfl ak)
 refine Cf ?_
 refine aU ?_
 refine sO [(0,_),(1,_),(4,_),(5,_),(5000,_)] [(0,_),(4,_),(5,(25,bX))] ?_
 refine oC ?_
 refine zbc ?_
 refine eU ?_
 refine sS [0,1,4,5,6,5000] [0,4,5] ?_
 refine cl ?_
 refine sP [0,1,4,5,6,7,5000] [0,4,5] ?_
 refine sL [0,1,4,5,6,5000] [4] (fun k:Nat=>k≤3) (fun k:Nat=>[(7,RV.int (k:Int))]) (fun k:Nat=>[(0,(176,da o (jK (bL (aw c 4).2 [3,6,100]).1 ⟨[],(bL (aw c 4).2 [3,6,100]).2⟩ k).c)),(5,(25,[val (vI id),val (vI (aw c 4).1),sl aH ((jK (bL (aw c 4).2 [3,6,100]).1 ⟨[],(bL (aw c 4).2 [3,6,100]).2⟩ k).l.map bF),sl ai (([]:List Int).map ar)]))]) (fun k:Nat=>3 - k) 0 ab bp gp ?_
 rintro k hk
 have hcl:=Rj (w:=(bL (aw c 4).2 [3,6,100]).1) (s:=⟨[],(bL (aw c 4).2 [3,6,100]).2⟩) k
 have hb3:=dW (aw (jK (bL (aw c 4).2 [3,6,100]).1 ⟨[],(bL (aw c 4).2 [3,6,100]).2⟩ k).c 2).2 (bL (aw c 4).2 [3,6,100]).1
 have hb4:=dY (aw (jK (bL (aw c 4).2 [3,6,100]).1 ⟨[],(bL (aw c 4).2 [3,6,100]).2⟩ k).c 2).2 (n:=(bL (aw c 4).2 [3,6,100]).1) ab
 have hb5:=dW (aw (aw (jK (bL (aw c 4).2 [3,6,100]).1 ⟨[],(bL (aw c 4).2 [3,6,100]).2⟩ k).c 2).2 (bL (aw c 4).2 [3,6,100]).1).2 (bL (aw c 4).2 [3,6,100]).1
 have hb6:=dY (aw (aw (jK (bL (aw c 4).2 [3,6,100]).1 ⟨[],(bL (aw c 4).2 [3,6,100]).2⟩ k).c 2).2 (bL (aw c 4).2 [3,6,100]).1).2 (n:=(bL (aw c 4).2 [3,6,100]).1) ab
 simp only [List.length_nil,Nat.zero_add] at hcl
 refine IA ?_
 refine sc ?_ ?_<;>intro hba
 have hlt:k < 3:=ab
 refine eB ?_
 refine zc5 ?_
 refine zc6 ?_
 refine sc ?_ ?_<;>intro hbb
 have h1_:(aw (jK (bL (aw c 4).2 [3,6,100]).1 ⟨[],(bL (aw c 4).2 [3,6,100]).2⟩ k).c 2).1=0:=jA
 refine sS [0,1,4,5,6,7,5000] [0,4,5] ?_
 refine CJ ?_
 refine wx ?_
 refine sS [0,1,4,5,6,7,8,5000] [0,4,5] ?_
 refine rM ?_
 refine fL ?_
 refine zb6 ?_
 refine rA ?_ (x:=jF)
 refine rA ?_ (x:=LN aj (bi rfl) an)
 refine eU ?_
 refine sS [0,1,4,5,6,7,8,9,5000] [0,4,5] ?_
 refine zc6 ?_
 refine sc ?_ ?_<;>intro hbc
 have hcn:=aok (w:=(bL (aw c 4).2 [3,6,100]).1) (f:=(k:Int)) (s:=(jK (bL (aw c 4).2 [3,6,100]).1 ⟨[],(bL (aw c 4).2 [3,6,100]).2⟩ k)) h1_ sr
 refine sG [0,1,4,5,6,7,8,9,5000] [0,4,5] ?_
 refine rM ?_
 refine rS ?_
 exact XK
 have hcn:=aol (w:=(bL (aw c 4).2 [3,6,100]).1) (f:=(k:Int)) (s:=(jK (bL (aw c 4).2 [3,6,100]).1 ⟨[],(bL (aw c 4).2 [3,6,100]).2⟩ k)) h1_ sr
 refine ba ?_
 exact XK
 have hcn:=aom (w:=(bL (aw c 4).2 [3,6,100]).1) (f:=(k:Int)) (s:=(jK (bL (aw c 4).2 [3,6,100]).1 ⟨[],(bL (aw c 4).2 [3,6,100]).2⟩ k)) jA
 refine ba ?_
 refine sG [0,1,4,5,6,7,5000] [0,4,5] ?_
 exact XJ
 have hend:k=3:=ab
 have hq:tG c=(jK (bL (aw c 4).2 [3,6,100]).1 ⟨[],(bL (aw c 4).2 [3,6,100]).2⟩ k):=by rw [hend];rfl
 have hqn:=ahD c
 have hqb:aw (jK (bL (aw c 4).2 [3,6,100]).1 ⟨[],(bL (aw c 4).2 [3,6,100]).2⟩ k).c 3=kS c:=by rw [←hq];rfl
 have hqe:(aw (jK (bL (aw c 4).2 [3,6,100]).1 ⟨[],(bL (aw c 4).2 [3,6,100]).2⟩ k).c 3).1=(kS c).1:=by rw [hqb]
 refine bI ?_
 refine dC ?_
 refine zc5 ?_
 refine jp ?_
 refine wU ?_
 refine iJ ?_
 refine sP [0,1,4,5,6,7,10,5000] [0,4,5] ?_
 refine sL [0,1,4,5,6,7,5000] [4] (fun k2:Nat=>(k2:Int)≤1+(kS c).1) (fun k2:Nat=>[(10,RV.int (1+(kS c).1 - (k2:Int)))]) (fun k2:Nat=>[(0,(176,da o (kR 3 (kS c).2 k2).2)),(5,(25,[val (vI id),val (vI (aw c 4).1),sl aH ((tG c).l.map bF),sl ai ((kR 3 (kS c).2 k2).1.map ar)]))]) (fun k2:Nat=>(1+(kS c).1 - (k2:Int)).toNat) 0 ab nu (by exact aI (by show _=some (176,da o (kS c).2);rw [←hqb];rfl) (aI (by rw [hq];exact rfl) tI)) ?_
 rintro k2 hk2
 have hvl:((kR 3 (kS c).2 k2).1).length=k2:=DE
 refine zx ?_
 refine sc ?_ ?_<;>intro hbb
 have hlt2:(k2:Int) < 1+(kS c).1:=ab
 refine eB ?_
 refine zca ?_
 refine jp ?_
 refine rS ?_
 refine sG [0,1,4,5,6,7,10,11,5000] [0,4,5] ?_
 refine rA ?_ (x:=lF rr)
 refine wZ ?_
 refine rA ?_ (x:=lF rr)
 refine xj ?_
 refine sO [(0,_),(1,_),(4,_),(5,_),(6,_),(7,_),(10,_),(11,_),(5000,_)] [(0,_),(4,_),(5,(25,bX))] ?_
 refine aY ?_
 refine uD ?_
 refine rS ?_
 refine nx (k2+1) ab (e:=nu) (f:=Vh)
 have hend2:(1+(kS c).1).toNat=k2:=ab
 refine fq ?_
 refine zca ?_
 refine NF ?_
 refine cK ?_
 exact ⟨(by unfold mj DF;rw [hend2];exact rfl),rfl,(bh 4 (bh _ (aI ak (aI (by refine dh ?_;unfold mj DF;rw [hend2];exact rfl) (aI gO (aI (fun h=>nomatch h) tI))))))⟩
end Go.Proofs.YtmekkgdboplbjaaGreatDoor
