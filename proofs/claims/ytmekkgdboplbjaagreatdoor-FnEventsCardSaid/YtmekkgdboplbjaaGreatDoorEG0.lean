/- What functions of the program compute. No condition. -/
import Derived.Test.YtmekkgdboplbjaaGreatDoorED0
import Derived.Test.YtmekkgdboplbjaaGreatDoorEF0
set_option linter.all false
namespace Go.Proofs.YtmekkgdboplbjaaGreatDoor
open Go Go.RowKit M PV Tryz
set_option maxRecDepth 10000
attribute [local irreducible] PV.Lcl PV.LclR RV.Lcl
attribute [local irreducible] aw hJ
def aq8:eA prog 176=some [(0,1),(1,1),(2,1)]:=ao
def aq9:eA prog 27=some [(0,1),(1,1)]:=ao
def ai3:prog.underlying 3=some (.int .i64):=ao
def ai4:prog.underlying 5=some (.int .u8):=ao
def ara{code:List Int}(hb:code.length≤9223372036854775807)(hb2:code.length≤4611686018427387904):Mr prog 65 176 [(false,[sl .v (code.map oN)])] (da .v (aS code hb)):=by
 refine amU (rs:=2) func65 rfl rfl (nl rfl) (jn (aF.cons (bor_sl _) aF.nil) jm) lh ?_
 intro h0 w0 Fz0
 refine sj 0 fun hl0=>?_
 refine wW ?_
 refine dD ?_
 refine rA ?_ (x:=lN pV)
 refine rA ?_ (x:=jF)
 refine eU ?_
 refine wQ ?_
 refine sL [0,2] [] (fun k:Nat=>k≤code.length∧k≤4000) (fun k:Nat=>[(3,RV.int (Jd code k)),(4,RV.int (k:Int))]) (fun k:Nat=>[]) (fun k:Nat=>code.length - k) 0 ab gp an ?_
 rintro k ⟨hk,hk4⟩
 refine tb ?_
 refine rA ?_ (x:=lN pV)
 refine dQ ?_
 refine rM ?_
 refine cx 12 ?_ ?_<;>intro ga sga
 refine Cw ?_
 refine jq ?_
 refine sc ?_ ?_<;>intro hba
 have hlt:k < code.length:=ab
 have hl4:k < 4000:=ab
 refine bv ?_
 refine rg ?_
 refine rM ?_
 refine rA ?_ (x:=Xa aj an (bi rfl))
 refine pz ?_
 refine rA ?_ (x:=aZ aj pV an ak bE ak)
 refine rA ?_ (x:=lE [val _] ai1)
 refine rA ?_ (x:=uu ai4 ai3 rfl)
 refine rA ?_ (x:=Gi aj an an)
 refine rA ?_ (x:=Gi aj an (bi rfl))
 refine rA ?_ (x:=Mt aj an (bi rfl))
 refine rS ?_
 refine rg ?_
 refine cB ?_
 refine nx (k+1) ab (e:=(by exact aI (by exact cX (by rw [Jd,List.getD_eq_getElem?_getD,List.getElem?_eq_getElem hlt];rfl)) (aI jj tI)))
 exact XF
 refine rf ?_
 exact XF
def ai5{o:Fl}{c:aG}(hbo:∀es,(sl o es).Bor):ie prog 165 176 (da o c) (da o (hJ c).2) [] (aB [(false,[val (vI (hJ c).1)])]):=by
 refine iX (rs:=[(false,[val (vI (hJ c).1)])]) func165 rfl (nl rfl) (nl rfl) ?_
 intro g_ h0 w0 Fz0
 have hcb:=c.hb
 refine qY ?_
 refine sO [(0,_),(2,_),(5000,_)] [(0,(176,[sl o _,val _,val _]))] ?_
 refine oC ?_
 refine oA ?_
 refine rA ?_ (x:=lF JA)
 refine ff ?_
 refine rA ?_ (x:=Xa aj an (bi rfl))
 refine rA ?_ (x:=Gi aj an (bi rfl))
 refine xh ?_
 refine rA ?_ (x:=lF JA)
 refine mN ?_
 refine sO [(0,_),(2,_),(5000,_)] [(0,(176,[sl o _,val _,val _]))] ?_
 refine uK ?_
 refine dA 3 ?_ (x:=lF JA)
 refine dA 7 ?_ (x:=lD [val _] bb)
 refine dA 15 ?_ (x:=WW (m:=33) rfl aj)
 refine wG ?_
 refine dA 96 ?_ (x:=lF JA)
 refine dA 224 ?_ (x:=lD [val _] bb)
 refine dA 480 ?_ (x:=WW (m:=45) rfl aj)
 refine dA 1023 ?_ (x:=Xb aj an an)
 refine dA 2047 ?_ (x:=Mt aj an (bi rfl))
 refine dA 4095 ?_ (x:=sA)
 refine dC ?_
 refine sP [0,2,3,5000] [0] ?_
 refine uK ?_
 refine dA 3 ?_ (x:=lF Jz)
 refine dA 7 ?_ (x:=lD [val _] bb)
 refine pH ?_
 refine dA 16 ?_ (x:=pq aj)
 refine dA 48 ?_ (x:=lF aiV)
 refine dA 112 ?_ (x:=lD [sl .v _] RO)
 refine dA 240 ?_ (x:=lN pV)
 refine dA 511 ?_ (x:=yG)
 refine sc ?_ ?_<;>intro hba
 have hlt:c.i < c.b.length:=ab
 have hr:=aoe hlt
 have hge:c.b[c.i]=c.b.getD c.i 0:=by rw [List.getD_eq_getElem?_getD,List.getElem?_eq_getElem hlt];rfl
 refine aU ?_
 refine sP [0,2,3,5000] [0] ?_
 refine zk ?_
 refine Cr ?_
 refine dA 6 ?_ (x:=lF aiV)
 refine dA 14 ?_ (x:=lD [sl .v _] RO)
 refine wG ?_
 refine dA 96 ?_ (x:=lF Jz)
 refine dA 224 ?_ (x:=lD [val _] bb)
 refine dA 510 ?_ (x:=aZ (k:=c.i) aj pV an fU (by exact fX hlt (by rw [hge])) ak)
 refine dA 1022 ?_ (x:=lE [val _] ai1)
 refine dA 2046 ?_ (x:=uu ai4 ai3 rfl)
 refine dA 4095 ?_ (x:=Gi aj an an)
 refine dA 8191 ?_ (x:=Mt aj an (bi rfl))
 refine dA 16383 ?_ (x:=sA)
 refine sG [0,2,3,5000] [0] ?_
 refine CC ?_
 refine rA ?_ (x:=lF Jz)
 refine Qb ?_
 refine rA ?_ (x:=lF Jz)
 refine mN ?_
 refine sO [(0,_),(2,_),(3,_),(5000,_)] [(0,(176,[sl o _,val _,val _]))] ?_
 refine aY ?_
 exact XG
 have hr:=aof (c:=c) ab
 refine ba ?_
 refine sS [0,2,3,5000] [0] ?_
 exact XG
def RQ{o:Fl}{c:aG}(hbo:∀es,(sl o es).Bor){n:Int}(hn:n≤256):ie prog 77 176 (da o c) (da o (aw c n).2) [(false,[val (vI n)])] (aB [(false,[val (vI (aw c n).1)])]):=by
 refine iX (rs:=[(false,[val (vI (aw c n).1)])]) func77 rfl (nl rfl) (nl rfl) ?_
 intro g_ h0 w0 Fz0
 refine qY ?_
 refine aU ?_
 refine wE ?_
 refine rM ?_
 refine rA ?_ (x:=kf)
 refine sc ?_ ?_<;>intro hba
 have hr:=ahz (c:=c) hba
 refine sS [0,1,4,5000] [0] ?_
 refine rK ?_
 exact XH
 have hn0:0 < n:=ab
 have hr:=Rg (c:=c) hn0
 refine dp ?_
 refine sS [0,1,4,5000] [0] ?_
 refine rM ?_
 refine rA ?_ (x:=kf)
 refine sc ?_ ?_<;>intro hbb
 refine sS [0,1,4,5000] [0] ?_
 refine fL ?_
 refine zb0 ?_
 refine rM ?_
 refine IE ?_
 refine rS ?_
 exact XH
 omega
def xU{o:Fl}{c:aG}(hbo:∀es,(sl o es).Bor){l:List Int}(hl:0 < l.length)(hl2:l.length≤256):ie prog 152 176 (da o c) (da o (bL c l).2) [(false,[sl .v (l.map ar)])] (aB [(false,[val (vI (bL c l).1)])]):=by
 refine iX (rs:=[(false,[val (vI (bL c l).1)])]) func152 rfl (nl rfl) (nl rfl) ?_
 intro g_ h0 w0 Fz0
 refine sj 1 fun hl1=>?_
 have hg:=dW c (l.length:Int)
 have hg2:=dY c (n:=(l.length:Int)) ab
 refine qY ?_
 refine wE ?_
 refine PJ ?_
 refine mM ?_
 refine Da ?_
 refine rA ?_ (x:=aZ (k:=(aw c (l.length:Int)).1.toNat) aj cn an ab bE ak)
 refine rA ?_ (x:=lE [val _] bb)
 refine db ?_
 exact ⟨ak,rfl,(aI (by refine cX ?_;show _=l.getD _ 0;rw [List.getD_eq_getElem?_getD,List.getElem?_eq_getElem ab];rfl) tI)⟩
def RR{o:Fl}{c:aG}(hbo:∀es,(sl o es).Bor){n:Int}(hn:n≤256):ie prog 132 176 (da o c) (da o (aw c n).2) [(false,[val (vI n)])] (aB [(false,[val (.bool (decide ((aw c n).1=0)))])]):=by
 refine iX (rs:=[(false,[val (.bool (decide ((aw c n).1=0)))])]) func132 rfl (nl rfl) (nl rfl) ?_
 intro g_ h0 w0 Fz0
 refine qY ?_
 refine wE ?_
 refine fL ?_
 refine zb6 ?_
 refine oK ?_
 exact XI
def arb{o:Fl}{c:aG}(hbo:∀es,(sl o es).Bor){id:Int}:ie prog 235 176 (da o c) (da o (iQ c id).2) [(false,[val (vI id)])] (aB [(true,[val (vI (iQ c id).1.Id),sl ai ((iQ c id).1.Values.map ar)])]):=by
 refine iX (rs:=[(true,[val (vI (iQ c id).1.Id),sl ai ((iQ c id).1.Values.map ar)])]) func235 rfl (nl rfl) (nl rfl) ?_
 intro g_ h0 w0 Fz0
 have hp3:=aoh c
 refine sR ?_
 refine HJ ?_
 refine sO [(0,_),(1,_),(4,_),(5000,_)] [(0,(176,[sl o _,val _,val _])),(4,(27,ct))] ?_
 refine nH ?_
 refine rA ?_ (x:=cy (qs:=[(false,[val _])]) (cs:=ct) aj jJ mV aq9 ak bS rfl ak)
 refine yX ?_
 refine aU ?_
 refine sO [(0,_),(1,_),(4,_),(5,_),(5000,_)] [(0,_),(4,_),(5,(27,ct))] ?_
 refine oC ?_
 refine zbc ?_
 refine eU ?_
 refine sS [0,1,4,5,6,5000] [0,4,5] ?_
 refine cl ?_
 refine sP [0,1,4,5,6,7,5000] [0,4,5] ?_
 refine sL [0,1,4,5,6,5000] [4] (fun k:Nat=>k≤3) (fun k:Nat=>[(7,RV.int (k:Int))]) (fun k:Nat=>[(0,(176,da o (kR (bL c [3,6,100]).1 (bL c [3,6,100]).2 k).2)),(5,(27,[val (vI id),sl ai ((kR (bL c [3,6,100]).1 (bL c [3,6,100]).2 k).1.map ar)]))]) (fun k:Nat=>3 - k) 0 ab bp gp ?_
 rintro k hk
 have hvl:((kR (bL c [3,6,100]).1 (bL c [3,6,100]).2 k).1).length=k:=DE
 refine IA ?_
 refine sc ?_ ?_<;>intro hba
 have hlt:k < 3:=ab
 refine eB ?_
 refine zbg ?_
 refine oC ?_
 refine rM ?_
 refine wx ?_
 refine sG [0,1,4,5,6,7,8,5000] [0,4,5] ?_
 refine xi ?_
 refine wZ ?_
 refine xi ?_
 refine xj ?_
 refine sO [(0,_),(1,_),(4,_),(5,_),(6,_),(7,_),(8,_),(5000,_)] [(0,_),(4,_),(5,(27,ct))] ?_
 refine tj ?_
 refine nx (k+1) ab (e:=nu) (f:=Vh)
 have hend:k=3:=ab
 refine fq ?_
 refine zbg ?_
 refine aY ?_
 refine zbn ?_
 refine cK ?_
 exact ⟨(by subst hend;exact rfl),rfl,(bh 4 (bh _ (aI ak (aI (by refine dh ?_;subst hend;exact rfl) (aI ju (aI (fun h=>nomatch h) tI))))))⟩
def arc{o:Fl}{c:aG}(hbo:∀es,(sl o es).Bor){most:Int}(hm:0≤most∧most≤200):ie prog 167 176 (da o c) (da o (pW c most).2) [(false,[val (vI most)])] (aB [(false,[sl aL ((pW c most).1.map (cD ai))])]):=by
 refine iX (rs:=[(false,[sl aL ((pW c most).1.map (cD ai))])]) func167 rfl (nl rfl) (nl rfl) ?_
 intro g_ h0 w0 Fz0
 have ha:=dW c 3
 have ha2:=dY c (n:=3) aj
 have hb1:=dW (aw c 3).2 (most+1)
 have hb2:=dY (aw c 3).2 (n:=most+1) ab
 refine Pd ?_
 refine aU ?_
 refine wE ?_
 refine Hr ?_
 refine sS [0,1,4,5,5000] [0] ?_
 refine jp ?_
 refine eU ?_
 refine sS [0,1,4,5,6,5000] [0] ?_
 refine fL ?_
 refine lv ?_
 refine wx ?_
 refine iJ ?_
 refine sP [0,1,4,5,6,7,5000] [0] ?_
 refine sL [0,1,4,5000] [] (fun k:Nat=>(k:Int)≤(aw (aw c 3).2 (most+1)).1) (fun k:Nat=>[(5,RV.slc aL ((dw (aw c 3).1 (aw (aw c 3).2 (most+1)).2 k).l.map (cD ai))),(6,RV.int (dw (aw c 3).1 (aw (aw c 3).2 (most+1)).2 k).id),(7,RV.int ((aw (aw c 3).2 (most+1)).1 - (k:Int)))]) (fun k:Nat=>[(0,(176,da o (dw (aw c 3).1 (aw (aw c 3).2 (most+1)).2 k).c))]) (fun k:Nat=>((aw (aw c 3).2 (most+1)).1 - (k:Int)).toNat) 0 ab (by exact aI ak (aI ak (aI jj tI))) bp ?_
 rintro k hk
 have hid:=ahB (id:=(aw c 3).1) (c:=(aw (aw c 3).2 (most+1)).2) (k:=k) ab
 have hln:=Ri (id:=(aw c 3).1) (c:=(aw (aw c 3).2 (most+1)).2) (k:=k)
 have hb3:=dW (iQ (dw (aw c 3).1 (aw (aw c 3).2 (most+1)).2 k).c (dw (aw c 3).1 (aw (aw c 3).2 (most+1)).2 k).id).2 3
 have hb4:=dY (iQ (dw (aw c 3).1 (aw (aw c 3).2 (most+1)).2 k).c (dw (aw c 3).1 (aw (aw c 3).2 (most+1)).2 k).id).2 (n:=3) aj
 refine zx ?_
 refine sc ?_ ?_<;>intro hba
 have hlt:(k:Int) < (aw (aw c 3).2 (most+1)).1:=ab
 refine eB ?_
 refine OS ?_
 refine cb ?_
 refine CJ ?_
 refine zbx ?_
 refine BV ?_
 refine dJ ?_
 refine sG [0,1,4,5,6,7,5000] [0] ?_
 refine lv ?_
 refine jp ?_
 refine wU ?_
 refine sG [0,1,4,5,6,7,5000] [0] ?_
 refine uD ?_
 refine rS ?_
 refine nx (k+1) ab (e:=(by exact aI (by exact cz (by simp only [dw,bK];rfl)) (aI ak (aI jj tI))))
 have hend:(aw (aw c 3).2 (most+1)).1.toNat=k:=ab
 refine fq ?_
 refine OS ?_
 refine pD ?_
 exact ⟨(by show _=some (176,da o (dw (aw c 3).1 (aw (aw c 3).2 (most+1)).2 (aw (aw c 3).2 (most+1)).1.toNat).c);rw [hend];exact rfl),rfl,(aI (by refine cz ?_;show _=List.map _ (dw _ _ _).l;rw [hend]) tI)⟩
end Go.Proofs.YtmekkgdboplbjaaGreatDoor
