/- What functions of the program compute. No condition. -/
import Derived.Test.YtmekkgdboplbjaaGreatDoorEI0
import Derived.Test.YtmekkgdboplbjaaGreatDoorEQ0
import Derived.Test.YtmekkgdboplbjaaGreatDoorER0
set_option linter.all false
namespace Go.Proofs.YtmekkgdboplbjaaGreatDoor
open Go Go.RowKit M PV Tryz
set_option maxRecDepth 10000
attribute [local irreducible] PV.Lcl PV.LclR RV.Lcl
def ar4:prog.underlying 3=some (.int .i64):=ao
def ajo:prog.underlying 5=some (.int .u8):=ao
def ar5:prog.underlying 9=some .string:=ao
def ar6:prog.underlying 37=some (.slice 5):=ao
def Sc:prog.globalNamed "internal/strconv.uint64pow10" = some 3:=ao
abbrev gl:pu:=arQ prog 3 Sc 0 1 2
def ar7{n:Int}(hn:ee n):gu prog gl 157 [(false,[val (vI n)])] (aB [(false,[val (.string (B (itoa n)))])]):=am1 (G:=gl) (fun h=>h.1.2) Tryz.strconv_Itoa hn
def ajp{xs:List av}{sep:av}(hx:xs.length≤140737488355328)(hl:(ja xs sep).length≤140737488355328):aQ prog 72 [(false,[sl .v (xs.map mS)]),(false,[val (.string (B sep))])] (aB [(false,[val (.string (B (ja xs sep)))])]):=am2 (fun _=>rfl) Tryz.strings_Join_none Tryz.strings_Join hx hl
def ar8{n:Int}(hn:ee n):gu prog gl 67 [(false,[val (vI n)])] (aB [(false,[val (.string (B (itoa n)))])]):=by
 refine lX (rs:=[(false,[val (.string (B (itoa n)))])]) func67 rfl (nl rfl) (jn (aF.cons (bor_val _) aF.nil) jm) ?_
 intro h0 w0 Fz0
 have hn2:=hn
 unfold ee at hn2
 refine uL ?_
 refine sS [0,2,7000] [] ?_
 refine rM ?_
 refine rA ?_ (x:=gL [(false,[val _])] [(false,[val _])] apV (hs:=by exact (ar7 et)))
 refine rS ?_
 exact yK
def ar9{n:Int}(hn:ee n):aQ prog 70 [(false,[val (vI n)])] (aB [(false,[val (.string (B (itoa n)))])]):=by
 refine sF func70 fun h0 w0 Fz0=>?_
 have hn2:=hn
 unfold ee at hn2
 refine zi ?_
 refine zB ?_
 refine sc ?_ ?_<;>intro hba
 have h0_:n=0:=hba
 refine nJ ?_
 refine ca ?_
 exact (aI (by refine iL ?_;exact kT (by rw [h0_,aoO])) tI)
 have h0_:¬n=0:=hba
 refine ba ?_
 refine nJ ?_
 refine rK ?_
 refine sS [0,2,3] [] ?_
 refine uJ ?_
 refine eU ?_
 refine iJ ?_
 refine sP [0,2,3,4] [] ?_
 refine sL [2,4] [] (fun q:Int×av=>ee q.1∧tJ n q.1 q.2) (fun q:Int×av=>[(0,RV.int q.1),(3,RV.sc (.string (B q.2)))]) (fun q:Int×av=>[]) (fun q:Int×av=>q.1.natAbs) (n,[]) (by exact ⟨hn,aoK h0_⟩) gp an ?_
 rintro q ⟨hi,hto⟩
 unfold ee at hi
 refine cP ?_
 refine mQ ?_
 refine sc ?_ ?_<;>intro hbb
 have hq0:q.1≠0:=jA
 have hln:=ahR hto hn
 have hmd:=aoL q.1
 have hdv:=As q.1
 have hl1:(ii [48 + -(q.1.tmod 10)]).length=1:=rfl
 have hl2:(ii [48+q.1.tmod 10]).length=1:=rfl
 refine ba ?_
 refine iJ ?_
 refine uG ?_
 refine rA ?_ (x:=FZ aj an (bi rfl) ab)
 refine eU ?_
 refine sS [0,2,3,4,5] [] ?_
 refine uJ ?_
 refine sc ?_ ?_<;>intro hbc
 have hd_ : -(q.1.tmod 10)=((q.1.natAbs%10:Nat):Int):=ab
 refine sG [0,2,3,4,5] [] ?_
 refine rM ?_
 refine rA ?_ (x:=Mv)
 refine rS ?_
 exact YK
 have hd_:q.1.tmod 10=((q.1.natAbs%10:Nat):Int):=ab
 refine ba ?_
 exact YK
 have hq0:q.1=0:=jA
 have hend:=hto
 rw [hq0] at hend
 have hend:=aoN hend
 have hln:=ahR hto hn
 refine fq ?_
 refine uG ?_
 refine sc ?_ ?_<;>intro hbc
 have hneg:n < 0:=sr
 refine uG ?_
 refine zp ?_
 exact (aI (by refine iL ?_;exact kT (by rw [xF hneg,hend];rfl)) tI)
 have hneg:¬n < 0:=sr
 refine ba ?_
 refine uG ?_
 refine db ?_
 exact (aI (by refine iL ?_;exact kT (by rw [rx hneg,hend])) tI)
def ajq{l:List Int}(hi:∀x∈l,ee x)(hb:l.length≤1048576):gu prog gl 88 [(false,[sl .v (l.map ar)])] (aB [(false,[val (.string (B (eX l)))])]):=by
 refine lX (rs:=[(false,[val (.string (B (eX l)))])]) func88 rfl (nl rfl) (jn (aF.cons (bor_sl _) aF.nil) jm) ?_
 intro h0 w0 Fz0
 refine sj 0 fun hl0=>?_
 refine uL ?_
 refine sS [0,2,7000] [] ?_
 refine zl5 ?_
 refine oD ?_
 refine sS [0,2,3,7000] [] ?_
 refine zH ?_
 refine sP [0,2,3,7,8,9,7000] [] ?_
 refine sL [0,2,7,8,7000] [] (fun k:Nat=>k≤l.length) (fun k:Nat=>[(3,RV.slc un (((l.take k).map itoa).map mS)),(9,RV.int (k:Int))]) (fun k:Nat=>[]) (fun k:Nat=>l.length - k) 0 ab vV an ?_
 rintro k hk
 refine cY ?_
 refine sc ?_ ?_<;>intro hba
 have hlt:k < l.length:=ab
 have hix:=hi l[k] (List.getElem_mem hlt)
 have hix2:=hix
 unfold ee at hix2
 have htl:(l.take k).length=k:=fb
 refine bv ?_
 refine sS [0,2,3,7,8,9,7000] [] ?_
 refine xf ?_
 refine sG [0,2,3,5,7,8,9,7000] [] ?_
 refine wX ?_
 refine zl7 ?_
 refine NG ?_
 refine dJ ?_
 refine sG [0,2,3,5,7,8,9,7000] [] ?_
 refine dI ?_
 refine nx (k+1) ab (e:=(by exact aI (by exact cz (by rw [xz hlt,bK,bK];rfl)) (aI ak tI)))
 have hend:k=l.length:=ab
 subst hend
 rw [cJ]
 have hll:=vk hi
 unfold eX at hll
 refine bI ?_
 refine sS [0,2,3,7,8,9,7000] [] ?_
 refine dD ?_
 refine rA ?_ (x:=cL [(false,[sl _ _]),(false,[val _])] [(false,[sl .v _]),(false,[val _])] aiM (hs:=by exact (ajp Fr ab)))
 refine rS ?_
 exact yK
def ajr{l:List Int}(hi:∀x∈l,ee x)(hb:l.length≤1048576):aQ prog 92 [(false,[sl .v (l.map ar)])] (aB [(false,[val (.string (B (eX l)))])]):=by
 refine sF func92 fun h0 w0 Fz0=>?_
 refine sj 0 fun hl0=>?_
 refine wW ?_
 refine iv ?_
 refine wQ ?_
 refine sL [0,2] [] (fun k:Nat=>k≤l.length) (fun k:Nat=>[(3,RV.sc (.string (B (eX (l.take k))))),(4,RV.int (k:Int))]) (fun k:Nat=>[]) (fun k:Nat=>l.length - k) 0 ab vV an ?_
 rintro k hk
 refine oH ?_
 refine sc ?_ ?_<;>intro hba
 have hlt:k < l.length:=ab
 have hix:=hi l[k] (List.getElem_mem hlt)
 have hix2:=hix
 unfold ee at hix2
 have hil:=eH hix
 have htl:(l.take k).length=k:=fb
 have hll:=vk (l:=l.take k) (fun x hx=>hi x (List.mem_of_mem_take hx))
 have hsc:=aoP hlt
 refine eB ?_
 refine uG ?_
 refine tn ?_
 refine sc ?_ ?_<;>intro hbb
 have hk0:¬k=0:=ab
 refine rg ?_
 refine rM ?_
 refine Iy ?_
 exact YL
 have hk0:k=0:=ab
 refine ba ?_
 exact YL
 have hend:k=l.length:=ab
 refine bI ?_
 refine uG ?_
 refine db ?_
 exact (aI (by refine iL ?_;rw [hend,cJ]) tI)
end Go.Proofs.YtmekkgdboplbjaaGreatDoor
