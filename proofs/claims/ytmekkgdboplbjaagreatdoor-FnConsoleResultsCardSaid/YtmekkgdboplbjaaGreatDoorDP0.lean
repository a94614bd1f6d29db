/- What functions of the program compute. No condition. -/
import Derived.Test.YtmekkgdboplbjaaGreatDoorDG0
import Derived.Test.YtmekkgdboplbjaaGreatDoorDO0
set_option linter.all false
namespace Go.Proofs.YtmekkgdboplbjaaGreatDoor
open Go Go.RowKit M PV Tryz
set_option maxRecDepth 10000
attribute [local irreducible] PV.Lcl PV.LclR RV.Lcl
def Xn:prog.underlying 3=some (.int .i64):=aq
def Ot:prog.underlying 5=some (.int .u8):=aq
def Xo:prog.underlying 9=some .string:=aq
def Xp:prog.underlying 37=some (.slice 5):=aq
def Ei:prog.globalNamed "internal/strconv.uint64pow10" = some 3:=aq
abbrev gl:ln:=Td prog 3 Ei 0 1 2
def Xq{n:Int}(hn:cq n):db prog gl 157 [(false,[val (vI n)])] (aJ [(false,[val (.string (B (itoa n)))])]):=SA (G:=gl) (fun h=>h.1.2) Tryz.strconv_Itoa hn
def Ej{xs:List am}{sep:am}(hx:xs.length≤140737488355328)(hl:(ee xs sep).length≤140737488355328):aS prog 72 [(false,[sl .v (xs.map nI)]),(false,[val (.string (B sep))])] (aJ [(false,[val (.string (B (ee xs sep)))])]):=SB (fun _=>rfl) Tryz.strings_Join_none Tryz.strings_Join hx hl
def Xr{n:Int}(hn:cq n):db prog gl 67 [(false,[val (vI n)])] (aJ [(false,[val (.string (B (itoa n)))])]):=by
 refine gq (rs:=[(false,[val (.string (B (itoa n)))])]) func67 rfl (nl rfl) (gV (aB.cons (bor_val _) aB.nil) iv) ?_
 intro h0 w0 Fz0
 have hn2:=hn
 unfold cq at hn2
 refine mx ?_
 refine sS [0,2,7000] [] ?_
 refine rM ?_
 refine rA ?_ (x:=gL [(false,[val _])] [(false,[val _])] Wg (hs:=by exact (Xq cR)))
 exact ut
def Xs{n:Int}(hn:cq n):aS prog 70 [(false,[val (vI n)])] (aJ [(false,[val (.string (B (itoa n)))])]):=by
 refine sF func70 fun h0 w0 Fz0=>?_
 have hn2:=hn
 unfold cq at hn2
 refine oI ?_
 refine rM ?_
 refine jw ?_
 refine sc ?_ ?_<;>intro hba
 have h0_:n=0:=hba
 refine kF ?_
 refine bG ?_
 exact (aI (by refine eb ?_;exact fK (by rw [h0_,Ui])) tI)
 have h0_:¬n=0:=hba
 refine bd ?_
 refine kF ?_
 refine rK ?_
 refine sS [0,2,3] [] ?_
 refine rM ?_
 refine fx ?_
 refine gu ?_
 refine fG ?_
 refine sP [0,2,3,4] [] ?_
 refine sL [2,4] [] (fun q:Int×am=>cq q.1∧nM n q.1 q.2) (fun q:Int×am=>[(0,RV.int q.1),(3,RV.sc (.string (B q.2)))]) (fun q:Int×am=>[]) (fun q:Int×am=>q.1.natAbs) (n,[]) (by exact ⟨hn,Ue h0_⟩) jm au ?_
 rintro q ⟨hi,hto⟩
 unfold cq at hi
 refine jU ?_
 refine rA ?_ (x:=lm)
 refine sc ?_ ?_<;>intro hbb
 have hq0:q.1≠0:=gU
 have hln:=MW hto hn
 have hmd:=Uf q.1
 have hdv:=tj q.1
 have hl1:(jv [48 + -(q.1.tmod 10)]).length=1:=rfl
 have hl2:(jv [48+q.1.tmod 10]).length=1:=rfl
 refine bd ?_
 refine fG ?_
 refine sh ?_
 refine CC ?_
 refine gu ?_
 refine sS [0,2,3,4,5] [] ?_
 refine rM ?_
 refine fx ?_
 refine sc ?_ ?_<;>intro hbc
 have hd_ : -(q.1.tmod 10)=((q.1.natAbs%10:Nat):Int):=ab
 refine sG [0,2,3,4,5] [] ?_
 refine rM ?_
 refine rA ?_ (x:=Sx)
 refine rS ?_
 exact ID
 have hd_:q.1.tmod 10=((q.1.natAbs%10:Nat):Int):=ab
 refine bd ?_
 exact ID
 have hq0:q.1=0:=gU
 have hend:=hto
 rw [hq0] at hend
 have hend:=Uh hend
 have hln:=MW hto hn
 refine qo ?_
 refine sh ?_
 refine sc ?_ ?_<;>intro hbc
 have hneg:n < 0:=md
 refine sh ?_
 refine oO ?_
 refine cW ?_
 exact (aI (by refine eb ?_;exact fK (by rw [yy hneg,hend];rfl)) tI)
 have hneg:¬n < 0:=md
 refine bd ?_
 refine sh ?_
 refine cW ?_
 exact (aI (by refine eb ?_;exact fK (by rw [pc hneg,hend])) tI)
def Ek{l:List Int}(hi:∀x∈l,cq x)(hb:l.length≤1048576):db prog gl 88 [(false,[sl .v (l.map ax)])] (aJ [(false,[val (.string (B (cJ l)))])]):=by
 refine gq (rs:=[(false,[val (.string (B (cJ l)))])]) func88 rfl (nl rfl) (gV (aB.cons (bor_sl _) aB.nil) iv) ?_
 intro h0 w0 Fz0
 refine sj 0 fun hl0=>?_
 refine mx ?_
 refine sS [0,2,7000] [] ?_
 refine Ln ?_
 refine aU ?_
 refine qy ?_
 refine sB ?_
 refine sP [0,2,3,7,8,9,7000] [] ?_
 refine sL [0,2,7,8,7000] [] (fun k:Nat=>k≤l.length) (fun k:Nat=>[(3,RV.slc (.own 9 1) (((l.take k).map itoa).map nI)),(9,RV.int (k:Int))]) (fun k:Nat=>[]) (fun k:Nat=>l.length - k) 0 ab rj au ?_
 rintro k hk
 refine bO ?_
 refine sc ?_ ?_<;>intro hba
 have hlt:k < l.length:=ab
 have hix:=hi l[k] (List.getElem_mem hlt)
 have hix2:=hix
 unfold cq at hix2
 have htl:(l.take k).length=k:=fR
 refine bA ?_
 refine sS [0,2,3,7,8,9,7000] [] ?_
 refine oL ?_
 refine sG [0,2,3,5,7,8,9,7000] [] ?_
 refine bW ?_
 refine rM ?_
 refine LV ?_
 refine rA ?_ (x:=dq (qs:=[(false,[val _])]) ae eo nW ae rfl rfl rfl rfl rfl aH eW rfl)
 refine LW ?_
 refine fY ?_
 refine sG [0,2,3,5,7,8,9,7000] [] ?_
 refine cf ?_
 refine nx (k+1) ab (e:=(by exact aI (by exact cU (by rw [sZ hlt,bL,bL];rfl)) (aI aj tI)))
 have hend:k=l.length:=ab
 subst hend
 rw [cC]
 have hll:=mO hi
 unfold cJ at hll
 refine bv ?_
 refine sS [0,2,3,7,8,9,7000] [] ?_
 refine fc ?_
 refine rA ?_ (x:=cL [(false,[sl _ _]),(false,[val _])] [(false,[sl .v _]),(false,[val _])] DO (hs:=by exact (Ej wq ab)))
 exact ut
def Ou{l:List Int}(hi:∀x∈l,cq x)(hb:l.length≤1048576):aS prog 92 [(false,[sl .v (l.map ax)])] (aJ [(false,[val (.string (B (cJ l)))])]):=by
 refine sF func92 fun h0 w0 Fz0=>?_
 refine sj 0 fun hl0=>?_
 refine mx ?_
 refine kF ?_
 refine gJ ?_
 refine sS [0,2,3] [] ?_
 refine iY ?_
 refine sP [0,2,3,4] [] ?_
 refine sL [0,2] [] (fun k:Nat=>k≤l.length) (fun k:Nat=>[(3,RV.sc (.string (B (cJ (l.take k))))),(4,RV.int (k:Int))]) (fun k:Nat=>[]) (fun k:Nat=>l.length - k) 0 ab rj au ?_
 rintro k hk
 refine jU ?_
 refine mu ?_
 refine fx ?_
 refine sc ?_ ?_<;>intro hba
 have hlt:k < l.length:=ab
 have hix:=hi l[k] (List.getElem_mem hlt)
 have hix2:=hix
 unfold cq at hix2
 have hil:=dj hix
 have htl:(l.take k).length=k:=fR
 have hll:=mO (l:=l.take k) (fun x hx=>hi x (List.mem_of_mem_take hx))
 have hsc:=Uj hlt
 refine sz ?_
 refine sh ?_
 refine rA ?_ (x:=fH)
 refine sc ?_ ?_<;>intro hbb
 have hk0:¬k=0:=ab
 refine sG [0,2,3,4] [] ?_
 refine rM ?_
 refine oO ?_
 refine rS ?_
 exact IE
 have hk0:k=0:=ab
 refine bd ?_
 exact IE
 have hend:k=l.length:=ab
 refine bv ?_
 refine sh ?_
 refine cW ?_
 exact (aI (by refine eb ?_;rw [hend,cC]) tI)
end Go.Proofs.YtmekkgdboplbjaaGreatDoor
