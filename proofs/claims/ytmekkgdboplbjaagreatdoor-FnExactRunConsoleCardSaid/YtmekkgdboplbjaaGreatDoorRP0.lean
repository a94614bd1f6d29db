/- What functions of the program compute. No condition. -/
import Derived.Test.YtmekkgdboplbjaaGreatDoorRO0
import Derived.Test.YtmekkgdboplbjaaGreatDoorRM0
set_option linter.all false
namespace Go.Proofs.YtmekkgdboplbjaaGreatDoor
open Go Go.RowKit M PV Tryz
set_option maxRecDepth 10000
attribute [local irreducible] PV.Lcl PV.LclR RV.Lcl
variable{n:Int}
def av0:prog.underlying 3=some (.int .i64):=au
def amD:prog.underlying 5=some (.int .u8):=au
def av1:prog.underlying 9=some .string:=au
def av2:prog.underlying 37=some (.slice 5):=au
def TE:prog.globalNamed "internal/strconv.uint64pow10" = some 3:=au
abbrev gl:pW:=arh prog 3 TE 0 1 2
def av3(hn:dN n):et prog gl 157 [(false,[val (vI n)])] (aA [(false,[val (.string (B (itoa n)))])]):=aqM (G:=gl) (fun h=>h.1.2) Tryz.strconv_Itoa hn
def Bn{xs:List an}{sep:an}(hx:xs.length≤140737488355328)(hl:(cI xs sep).length≤140737488355328):aE prog 72 [(false,[sl .v (xs.map fm)]),(false,[val (.string (B sep))])] (aA [(false,[val (.string (B (cI xs sep)))])]):=aqN (fun _=>rfl) Tryz.strings_Join_none Tryz.strings_Join hx hl
def av4(hn:dN n):et prog gl 67 [(false,[val (vI n)])] (aA [(false,[val (.string (B (itoa n)))])]):=by
 refine im (rs:=[(false,[val (.string (B (itoa n)))])]) func67 rfl (nl rfl) (jI (aW.cons (bor_val _) aW.nil) kJ) ?_
 intro h0 w0 Fz0
 have hn2:=hn
 unfold dN at hn2
 refine Jw ?_
 refine rM ?_
 refine rA ?_ (x:=gL aM aM atB (hs:=by exact (av3 br)))
 exact Cr
def av5(hn:dN n):aE prog 70 [(false,[val (vI n)])] (aA [(false,[val (.string (B (itoa n)))])]):=by
 refine sF func70 fun h0 w0 Fz0=>?_
 have hn2:=hn
 unfold dN at hn2
 refine tC ?_
 refine vE ?_
 refine sc ?_ ?_<;>intro hba
 have h0_:n=0:=hba
 refine lI ?_
 refine cn ?_
 exact (aI (by refine eY ?_;exact gF (by rw [h0_,asy])) tI)
 have h0_:¬n=0:=hba
 refine aK ?_
 refine lI ?_
 refine rK ?_
 refine qk ?_
 refine DY ?_
 refine dr ?_
 refine jH ?_
 refine sP [0,2,3,4] [] ?_
 refine sL [2,4] [] (fun q:Int×an=>dN q.1∧ug n q.1 q.2) (fun q:Int×an=>[(0,RV.int q.1),(3,RV.sc (.string (B q.2)))]) (fun q:Int×an=>[]) (fun q:Int×an=>q.1.natAbs) (n,[]) (by exact ⟨hn,asu h0_⟩) ej ao ?_
 rintro q ⟨hi,hto⟩
 unfold dN at hi
 refine bI ?_
 refine nu ?_
 refine sc ?_ ?_<;>intro hbb
 have hq0:q.1≠0:=gy
 have hln:=alk hto hn
 have hmd:=asv q.1
 have hdv:=Be q.1
 have hl1:(nj [48 + -(q.1.tmod 10)]).length=1:=rfl
 have hl2:(nj [48+q.1.tmod 10]).length=1:=rfl
 refine aK ?_
 refine jH ?_
 refine xy ?_
 refine rA ?_ (x:=Np ak ao (bq rfl) ab)
 refine dr ?_
 refine sS [0,2,3,4,5] [] ?_
 refine DY ?_
 refine sc ?_ ?_<;>intro hbc
 have hd_ : -(q.1.tmod 10)=((q.1.natAbs%10:Nat):Int):=ab
 refine sG [0,2,3,4,5] [] ?_
 refine rM ?_
 refine rA ?_ (x:=NO)
 refine rS ?_
 exact zkx
 have hd_:q.1.tmod 10=((q.1.natAbs%10:Nat):Int):=ab
 refine aK ?_
 exact zkx
 have hq0:q.1=0:=gy
 have hend:=hto
 rw [hq0] at hend
 have hend:=asx hend
 have hln:=alk hto hn
 refine gk ?_
 refine xy ?_
 refine sc ?_ ?_<;>intro hbc
 have hneg:n < 0:=gx
 refine qm ?_
 refine rF ?_
 refine dI ?_
 exact (aI (by refine eY ?_;exact gF (by rw [wm hneg,hend];rfl)) tI)
 have hneg:¬n < 0:=gx
 refine aK ?_
 refine xy ?_
 refine dI ?_
 exact (aI (by refine eY ?_;exact gF (by rw [rZ hneg,hend])) tI)
def KL{l:List Int}(hi:∀x∈l,dN x)(hb:l.length≤1048576):et prog gl 88 [(false,[sl .v (l.map ar)])] (aA [(false,[val (.string (B (fc l)))])]):=by
 refine im (rs:=[(false,[val (.string (B (fc l)))])]) func88 rfl (nl rfl) (jI (aW.cons (bor_sl _) aW.nil) kJ) ?_
 intro h0 w0 Fz0
 refine sj 0 fun hl0=>?_
 refine Jw ?_
 refine Dh ?_
 refine tU ?_
 refine Av ?_
 refine sP [0,2,3,7,8,9,7000] [] ?_
 refine sL [0,2,7,8,7000] [] (fun k:Nat=>k≤l.length) (fun k:Nat=>[(3,RV.slc jG (((l.take k).map itoa).map fm)),(9,RV.int (k:Int))]) (fun k:Nat=>[]) (fun k:Nat=>l.length - k) 0 ab kd ao ?_
 rintro k hk
 refine bP ?_
 refine sc ?_ ?_<;>intro hba
 have hlt:k < l.length:=ab
 have hix:=hi l[k] (List.getElem_mem hlt)
 have hix2:=hix
 unfold dN at hix2
 have htl:(l.take k).length=k:=dh
 refine aY ?_
 refine sS [0,2,3,7,8,9,7000] [] ?_
 refine rI ?_
 refine sG [0,2,3,5,7,8,9,7000] [] ?_
 refine zl1 ?_
 refine As ?_
 refine sG [0,2,3,5,7,8,9,7000] [] ?_
 refine cc ?_
 refine nx (k+1) ab (e:=(by exact aI (by exact bC (by rw [wc hlt,bo,bo];rfl)) (aI aj tI)))
 have hend:k=l.length:=ab
 subst hend
 rw [bG]
 have hll:=px hi
 unfold fc at hll
 refine be ?_
 refine sS [0,2,3,7,8,9,7000] [] ?_
 refine cv ?_
 refine rA ?_ (x:=cL gJ gK Bh (hs:=by exact (Bn Gz ab)))
 exact Cr
def TF{l:List Int}(hi:∀x∈l,dN x)(hb:l.length≤1048576):aE prog 92 [(false,[sl .v (l.map ar)])] (aA [(false,[val (.string (B (fc l)))])]):=by
 refine sF func92 fun h0 w0 Fz0=>?_
 refine sj 0 fun hl0=>?_
 refine xD ?_
 refine dp ?_
 refine tF ?_
 refine sL [0,2] [] (fun k:Nat=>k≤l.length) (fun k:Nat=>[(3,RV.sc (.string (B (fc (l.take k))))),(4,RV.int (k:Int))]) (fun k:Nat=>[]) (fun k:Nat=>l.length - k) 0 ab kd ao ?_
 rintro k hk
 refine pj ?_
 refine sc ?_ ?_<;>intro hba
 have hlt:k < l.length:=ab
 have hix:=hi l[k] (List.getElem_mem hlt)
 have hix2:=hix
 unfold dN at hix2
 have hil:=bv hix
 have htl:(l.take k).length=k:=dh
 have hll:=px (l:=l.take k) (fun x hx=>hi x (List.mem_of_mem_take hx))
 have hsc:=asz hlt
 refine fT ?_
 refine xy ?_
 refine ov ?_
 refine sc ?_ ?_<;>intro hbb
 have hk0:¬k=0:=ab
 refine sG [0,2,3,4] [] ?_
 refine rF ?_
 refine rS ?_
 exact zl3
 have hk0:k=0:=ab
 refine aK ?_
 exact zl3
 have hend:k=l.length:=ab
 refine be ?_
 refine xy ?_
 refine dI ?_
 exact (aI (by refine eY ?_;rw [hend,bG]) tI)
variable{x:cw}{p1 p2 p3:Fl}{l:List cw}
def av6:aE prog 156 [(true,[val (vI x.Segment),val (vI x.Base),sl .v (x.Ids.map ar),sl .v (x.aDc.map ar),sl .v (x.Rows.map ar)])] (aA [(false,[val (.bool (du x))])]):=by
 refine sF func156 fun h0 w0 Fz0=>?_
 refine sn 0 2 fun hl0_2=>?_
 refine sn 0 3 fun hl0_3=>?_
 refine sn 0 4 fun hl0_4=>?_
 refine vk ?_
 refine rH ?_
 refine rA ?_ (x:=lF ur)
 refine qc ?_
 refine dr ?_
 refine Dv ?_
 refine zi3 ?_
 refine dq ?_
 refine cx 12 ?_ ?_<;>intro ga sga
 refine ko ?_
 refine rY 17 ?_
 refine vJ ?_
 refine rY 24 ?_
 exact HA
 refine fI ?_
 refine CU ?_
 refine nq ?_
 refine cx 17 ?_ ?_<;>intro gb sgb
 refine zt gb ?_
 refine hZ ?_
 refine rY 24 ?_
 exact HA
 refine rB gb ?_ (x:=lF qA)
 refine AG ?_
 refine rB gb ?_ (x:=lN bY)
 refine ir ?_
 refine rB gb ?_ (x:=kN)
 refine zY ?_
 refine cx 24 ?_ ?_<;>intro gc sgc
 refine vH ?_
 exact Cx
 refine rB gc ?_ (x:=lF ut)
 refine rB gc ?_ (x:=lD [sl .v _] bZ)
 refine rB gc ?_ (x:=lN bY)
 refine ow ?_
 refine rB gc ?_ (x:=kN)
 refine rA ?_ (x:=bF gc)
 refine sc ?_ ?_<;>intro hba
 exact Cx
 have hpr:oI x=true:=by
  unfold oI aF
  simp only [aR,decide_eq_true_eq]
  refine ⟨by first|assumption|simp_all,?_⟩
  first|omega|(simp only [aF,aR,decide_eq_true_eq,Bool.not_eq_true,Bool.not_eq_false] at *;omega)
 have hpl:=sb hpr
 refine cg ?_
 refine Dv ?_
 refine xG ?_
 refine sP [1,2,3,33,34] [1] ?_
 refine sL [1,3,33] [1] (fun k:Nat=>k≤x.Ids.length∧uh x k=true) (fun k:Nat=>[(34,RV.int (k:Int))]) (fun k:Nat=>[]) (fun k:Nat=>x.Ids.length - k) 0 fS bu ao ?_
 rintro k ⟨hk,ha⟩
 refine bP ?_
 refine sc ?_ ?_<;>intro hbb
 have hlt:k < x.Ids.length:=ab
 have htl:k < x.aDc.length:=ab
 have hrl:k < x.Rows.length:=ab
 refine aY ?_
 refine sT [1,3,33,34] [1] ?_
 refine rM ?_
 refine dr ?_
 refine sP [1,3,4,33,34] [1] ?_
 refine Ru ?_
 refine dA 1 ?_ (x:=lD [sl .v _] bZ)
 refine dt ?_
 refine zld ?_
 refine dA 31 ?_ (x:=cL cF cF rT (hs:=qV))
 refine dA 63 ?_ (x:=nT)
 refine dA 127 ?_ (x:=sM)
 refine dx 44 ?_ ?_<;>intro gd sgd
 refine dT 255 gd ?_
 refine dT 511 gd ?_
 refine dT 255 gd ?_
 refine dT 2047 gd ?_
 refine dT 4095 gd ?_
 refine dT 255 gd ?_
 refine dT 8447 gd ?_
 refine dT 32767 gd ?_
 refine dT 65535 gd ?_
 refine dA 131071 ?_ (x:=cd gd)
 refine fH ?_
 exact zle
 refine dB 255 gd ?_ (x:=lF ut)
 refine dB 511 gd ?_ (x:=lD [sl .v _] bZ)
 refine dB 255 gd ?_ (x:=sM)
 refine dB 2047 gd ?_ (x:=aS (k:=k) ak bY ao eb Mz aj)
 refine dB 4095 gd ?_ (x:=lE [val _] aV)
 refine dB 255 gd ?_ (x:=lF yp)
 refine dB 8447 gd ?_ (x:=lD [val _] aV)
 refine dB 32767 gd ?_ (x:=cL cF cF rT (hs:=qV))
 refine dB 65535 gd ?_ (x:=nT)
 refine dA 131071 ?_ (x:=bF gd)
 refine sc ?_ ?_<;>intro hbc
 exact zle
 have hyes:sa x k=true:=GD
 refine aK ?_
 refine sG [1,3,4,33,34] [1] ?_
 refine cc ?_
 exact zlf
 have hend:k=x.Ids.length:=ab
 rw [hend] at ha
 refine be ?_
 refine sT [1,3,33,34] [1] ?_
 refine rA ?_ (x:=lF Tx)
 refine xK ?_
 refine cx 59 ?_ ?_<;>intro gd sgd
 refine rB gd ?_ (x:=lF yp)
 refine PZ ?_
 refine rO ?_
 exact zlh
 refine vz ?_
 exact zlh
def amE:aE prog 160 [(true,[val (vI x.Segment),val (vI x.Base),sl .v (x.Ids.map ar),sl .v (x.aDc.map ar),sl .v (x.Rows.map ar)])] (aA [(false,[val (.bool (du x))])]):=by
 refine sF func160 fun h0 w0 Fz0=>?_
 refine sn 0 2 fun hl0_2=>?_
 refine sn 0 3 fun hl0_3=>?_
 refine sn 0 4 fun hl0_4=>?_
 refine vk ?_
 refine rH ?_
 refine rA ?_ (x:=lF ur)
 refine qc ?_
 refine dr ?_
 refine Dv ?_
 refine rL ?_
 refine rA ?_ (x:=cL cf cC SB (hs:=by exact TC))
 refine dq ?_
 refine cx 12 ?_ ?_<;>intro ga sga
 refine ko ?_
 refine rY 16 ?_
 refine lH ?_
 exact zlj
 refine fI ?_
 refine rB ga ?_ (x:=kL)
 refine nq ?_
 refine cx 16 ?_ ?_<;>intro gb sgb
 refine tx ?_
 exact zlj
 refine Rx ?_
 refine zY ?_
 refine cx 20 ?_ ?_<;>intro gc sgc
 refine xo ?_
 exact zlk
 refine rB gc ?_ (x:=lF qA)
 refine rB gc ?_ (x:=lD [sl .v _] bZ)
 refine rB gc ?_ (x:=lN bY)
 refine ow ?_
 refine rB gc ?_ (x:=kN)
 refine DU ?_
 refine cx 27 ?_ ?_<;>intro gd sgd
 refine vC ?_
 exact zln
 refine rB gd ?_ (x:=lF ut)
 refine rB gd ?_ (x:=lD [sl .v _] bZ)
 refine rB gd ?_ (x:=lN bY)
 refine rB gd ?_ (x:=sM)
 refine rB gd ?_ (x:=kN)
 refine tV ?_
 refine rM ?_
 refine cx 34 ?_ ?_<;>intro ge sge
 refine zt ge ?_
 refine Ar ?_
 refine rY 40 ?_
 exact HA
 refine rB ge ?_ (x:=lF Tx)
 refine zlq ?_
 refine rB ge ?_ (x:=nT)
 refine rA ?_ (x:=bF ge)
 refine rM ?_
 refine cx 40 ?_ ?_<;>intro gf sgf
 refine Jz ?_
 refine fH ?_
 exact Cx
 refine rB gf ?_ (x:=lF yp)
 refine rB gf ?_ (x:=lD [val _] aV)
 refine rB gf ?_ (x:=cL cF cF mC (hs:=md))
 refine rB gf ?_ (x:=nT)
 refine rA ?_ (x:=bF gf)
 refine sc ?_ ?_<;>intro hba
 exact Cx
 have hpr:oI x=true:=by
  unfold oI aF
  simp only [aR,decide_eq_true_eq]
  refine ⟨by first|assumption|simp_all,?_⟩
  first|omega|(simp only [aF,aR,decide_eq_true_eq,Bool.not_eq_true,Bool.not_eq_false] at *;omega)
 have hpl:=sb hpr
 have hsb:(aF x.Segment 0 7&&aF x.Base 0 4)=true:=cS
 refine cg ?_
 refine xx ?_
 refine sL [1,3] [1] (fun k:Nat=>k≤x.Ids.length∧uh x k=true) (fun k:Nat=>[(4,RV.int (k:Int))]) (fun k:Nat=>[]) (fun k:Nat=>x.Ids.length - k) 0 fS bu ao ?_
 rintro k ⟨hk,ha⟩
 refine bI ?_
 refine DY ?_
 refine sc ?_ ?_<;>intro hbb
 have hlt:k < x.Ids.length:=ab
 have htl:k < x.aDc.length:=ab
 have hrl:k < x.Rows.length:=ab
 refine fT ?_
 refine sQ [1,3,4] [1] ?_
 refine Ru ?_
 refine dA 1 ?_ (x:=lD [sl .v _] bZ)
 refine dt ?_
 refine zld ?_
 refine dA 31 ?_ (x:=cL cF cF mC (hs:=md))
 refine dA 63 ?_ (x:=nT)
 refine dA 127 ?_ (x:=sM)
 refine dx 58 ?_ ?_<;>intro gg sgg
 refine dT 255 gg ?_
 refine dT 511 gg ?_
 refine dT 255 gg ?_
 refine dT 2047 gg ?_
 refine dT 4095 gg ?_
 refine dT 255 gg ?_
 refine dT 8447 gg ?_
 refine dT 32767 gg ?_
 refine dT 65535 gg ?_
 refine dA 131071 ?_ (x:=cd gg)
 refine fH ?_
 exact zls
 refine dB 255 gg ?_ (x:=lF ut)
 refine dB 511 gg ?_ (x:=lD [sl .v _] bZ)
 refine dB 255 gg ?_ (x:=sM)
 refine dB 2047 gg ?_ (x:=aS (k:=k) ak bY ao eb Mz aj)
 refine dB 4095 gg ?_ (x:=lE [val _] aV)
 refine dB 255 gg ?_ (x:=lF yp)
 refine dB 8447 gg ?_ (x:=lD [val _] aV)
 refine dB 32767 gg ?_ (x:=cL cF cF mC (hs:=md))
 refine dB 65535 gg ?_ (x:=nT)
 refine dA 131071 ?_ (x:=bF gg)
 refine sc ?_ ?_<;>intro hbc
 exact zls
 have hyes:sa x k=true:=GD
 refine aK ?_
 refine sG [1,3,4] [1] ?_
 refine bO ?_
 exact zlf
 have hend:k=x.Ids.length:=ab
 rw [hend] at ha
 refine be ?_
 refine sT [1,3,4] [1] ?_
 refine cn ?_
 exact rb (by simp_all [du])
def av7:aE prog 180 [(true,[val (vI x.Segment),val (vI x.Base),sl .v (x.Ids.map ar),sl .v (x.aDc.map ar),sl .v (x.Rows.map ar)])] (aA [(false,[val (vI (sd x))])]):=by
 refine sF func180 fun h0 w0 Fz0=>?_
 refine sn 0 2 fun hl0_2=>?_
 refine sn 0 3 fun hl0_3=>?_
 refine sn 0 4 fun hl0_4=>?_
 refine vk ?_
 refine jd ?_
 refine PS ?_
 refine eZ ?_
 refine sc ?_ ?_<;>intro hba
 exact zlu
 have hok:du x=true:=cR
 obtain ⟨hp_,hb0,hb4,hrw⟩:=wo hok
 have hpl:=sb hp_
 refine DA ?_
 refine Ds ?_
 refine dr ?_
 refine mx ?_
 refine vS ?_
 refine xG ?_
 refine sP [1,2,3,12,13,14] [1] ?_
 refine sL [1,2,12,13] [1] (fun k:Nat=>k≤x.Rows.length) (fun k:Nat=>[(3,RV.int (x.Base+((List.range k).map (yj x)).sum)),(14,RV.int (k:Int))]) (fun k:Nat=>[]) (fun k:Nat=>x.Rows.length - k) 0 ab GA ao ?_
 rintro k hk
 refine bP ?_
 refine sc ?_ ?_<;>intro hbb
 have hlt:k < x.Rows.length:=ab
 have hsm:=yi (f:=yj x) (m:=4) (n:=x.Ids.length) (fun i hi=>hrw i hi) k ab
 have hr1:0≤x.Rows[k]∧x.Rows[k]≤4:=Xu
 refine aY ?_
 refine sT [1,2,3,12,13,14] [1] ?_
 refine rI ?_
 refine sG [1,2,3,5,12,13,14] [1] ?_
 refine rM ?_
 refine bO ?_
 refine sG [1,2,3,5,12,13,14] [1] ?_
 refine cc ?_
 exact zlx
 have hend:k=x.Rows.length:=ab
 refine be ?_
 refine sT [1,2,3,12,13,14] [1] ?_
 exact zly
def av8:aE prog 182 [(true,[val (vI x.Segment),val (vI x.Base),sl .v (x.Ids.map ar),sl .v (x.aDc.map ar),sl .v (x.Rows.map ar)])] (aA [(false,[val (vI (sd x))])]):=by
 refine sF func182 fun h0 w0 Fz0=>?_
 refine sn 0 2 fun hl0_2=>?_
 refine sn 0 3 fun hl0_3=>?_
 refine sn 0 4 fun hl0_4=>?_
 refine vk ?_
 refine jd ?_
 refine JM ?_
 refine zm0 ?_
 refine sc ?_ ?_<;>intro hba
 exact zlu
 have hok:du x=true:=cR
 obtain ⟨hp_,hb0,hb4,hrw⟩:=wo hok
 have hpl:=sb hp_
 refine DA ?_
 refine Ds ?_
 refine dr ?_
 refine xx ?_
 refine sL [1,2] [1] (fun k:Nat=>k≤x.Rows.length) (fun k:Nat=>[(3,RV.int (x.Base+((List.range k).map (yj x)).sum)),(4,RV.int (k:Int))]) (fun k:Nat=>[]) (fun k:Nat=>x.Rows.length - k) 0 ab GA ao ?_
 rintro k hk
 refine bI ?_
 refine vS ?_
 refine qc ?_
 refine dC ?_
 refine sc ?_ ?_<;>intro hbb
 have hlt:k < x.Rows.length:=ab
 have hsm:=yi (f:=yj x) (m:=4) (n:=x.Ids.length) (fun i hi=>hrw i hi) k ab
 have hr1:0≤x.Rows[k]∧x.Rows[k]≤4:=Xu
 refine aY ?_
 refine sH [1,2,3,4] [1] ?_
 refine rM ?_
 refine vS ?_
 refine Je ?_
 refine tu ?_
 refine vF ?_
 refine DF ?_
 exact zlx
 have hend:k=x.Rows.length:=ab
 refine DB ?_
 exact zly
def av9(hb:l.length≤1048576):aE prog 94 [(false,[sl .v (l.map (ba p1 p2 p3))])] (aA [(false,[val (vI (ui l))])]):=by
 refine sF func94 fun h0 w0 Fz0=>?_
 refine sj 0 fun hl0=>?_
 refine xD ?_
 refine dp ?_
 refine qk ?_
 refine IN ?_
 refine dm ?_
 refine sP [0,2,3,6,7,8] [] ?_
 refine sL [0,2,6,7] [] (fun k:Nat=>k≤l.length) (fun k:Nat=>[(3,RV.int (((l.take k).map sd).sum)),(8,RV.int (k:Int))]) (fun k:Nat=>[]) (fun k:Nat=>l.length - k) 0 ab kd ao ?_
 rintro k hk
 refine bP ?_
 refine sc ?_ ?_<;>intro hba
 have hlt:k < l.length:=ab
 have hsm:=EI (l.take k)
 rw [cj] at hsm
 unfold ui at hsm
 have hw1:=SI l[k]
 refine aY ?_
 refine sS [0,2,3,6,7,8] [] ?_
 refine xh ?_
 refine CY ?_
 refine sH [0,2,3,5,6,7,8] [5] ?_
 refine rM ?_
 refine JM ?_
 refine rA ?_ (x:=cL oh tj atL (hs:=by exact av7))
 refine vF ?_
 refine sG [0,2,3,5,6,7,8] [5] ?_
 refine cc ?_
 exact zm4
 have hend:k=l.length:=ab
 refine be ?_
 refine sS [0,2,3,6,7,8] [] ?_
 exact HB
def awa(hb:l.length≤1048576):aE prog 96 [(false,[sl .v (l.map (ba p1 p2 p3))])] (aA [(false,[val (vI (ui l))])]):=by
 refine sF func96 fun h0 w0 Fz0=>?_
 refine sj 0 fun hl0=>?_
 refine xD ?_
 refine dp ?_
 refine tF ?_
 refine sL [0,2] [] (fun k:Nat=>k≤l.length) (fun k:Nat=>[(3,RV.int (((l.take k).map sd).sum)),(4,RV.int (k:Int))]) (fun k:Nat=>[]) (fun k:Nat=>l.length - k) 0 ab kd ao ?_
 rintro k hk
 refine bI ?_
 refine IN ?_
 refine dC ?_
 refine sc ?_ ?_<;>intro hba
 have hlt:k < l.length:=ab
 have hsm:=EI (l.take k)
 rw [cj] at hsm
 unfold ui at hsm
 have hw1:=SI l[k]
 refine Jv ?_
 refine rM ?_
 refine iO ?_
 refine xh ?_
 refine rA ?_ (x:=cL oh tj atN (hs:=by exact av8))
 refine vF ?_
 refine DJ ?_
 exact zm4
 have hend:k=l.length:=ab
 refine be ?_
 refine qm ?_
 exact HB
def awb:aE prog 181 [(true,[val (vI x.Segment),val (vI x.Base),sl .v (x.Ids.map ar),sl .v (x.aDc.map ar),sl .v (x.Rows.map ar)])] (aA [(false,[sl ai ((ie x).map ar)])]):=by
 refine sF func181 fun h0 w0 Fz0=>?_
 refine sn 0 2 fun hl0_2=>?_
 refine sn 0 3 fun hl0_3=>?_
 refine sn 0 4 fun hl0_4=>?_
 refine vk ?_
 refine ID ?_
 refine jO ?_
 refine mx ?_
 refine PS ?_
 refine eZ ?_
 refine sc ?_ ?_<;>intro hba
 have hok:du x=false:=cR
 refine mx ?_
 refine jN ?_
 exact (aI (by refine bC ?_;unfold ie;rw [if_neg oU];rfl) tI)
 have hok:du x=true:=cR
 obtain ⟨hp_,hb0,hb4,hrw⟩:=wo hok
 have hpl:=sb hp_
 refine aK ?_
 refine Dv ?_
 refine qc ?_
 refine Jt ?_
 refine vS ?_
 refine xG ?_
 refine sP [1,2,3,4,17,18,19] [1] ?_
 refine sL [1,2,4,17,18] [1] (fun k:Nat=>k≤x.Rows.length) (fun k:Nat=>[(3,RV.slc ai (((List.range k).map (mG x)).map ar)),(19,RV.int (k:Int))]) (fun k:Nat=>[]) (fun k:Nat=>x.Rows.length - k) 0 ab kd ao ?_
 rintro k hk
 refine bP ?_
 refine sc ?_ ?_<;>intro hbb
 have hlt:k < x.Ids.length:=ab
 have hrl:k < x.Rows.length:=ab
 have hr1:0≤x.Rows[k]∧x.Rows[k]≤4:=Xv
 have hd1:=Int.tdiv_nonneg hb0 (by omega:(0:Int)≤x.Ids.length)
 have hd2:=Int.tdiv_le_self (x.Ids.length:Int) hb0
 have hsl:((List.range k).map (mG x)).length=k:=WD
 have hrg:(List.range k).length=k:=List.length_range
 refine aY ?_
 refine sT [1,2,3,4,17,18,19] [1] ?_
 refine rM ?_
 refine tu ?_
 refine oq ?_
 refine sS [1,2,3,4,5,6,17,18,19] [1] ?_
 refine rM ?_
 refine Ds ?_
 refine rM ?_
 refine rA ?_ (x:=NN)
 refine rA ?_ (x:=mq)
 refine dr ?_
 refine sS [1,2,3,4,5,6,7,17,18,19] [1] ?_
 refine rM ?_
 refine Ds ?_
 refine IE ?_
 refine dC ?_
 refine sc ?_ ?_<;>intro hbc
 have hc:=hbc
 refine sG [1,2,3,4,5,6,7,17,18,19] [1] ?_
 refine bO ?_
 exact zm9
 have hc:=hbc
 refine aK ?_
 exact zm9
 have hend:k=x.Ids.length:=ab
 refine be ?_
 refine sT [1,2,3,4,17,18,19] [1] ?_
 refine jN ?_
 exact (aI (by refine bC ?_;unfold ie;rw [if_pos hok,hend]) tI)
def awc:aE prog 183 [(true,[val (vI x.Segment),val (vI x.Base),sl .v (x.Ids.map ar),sl .v (x.aDc.map ar),sl .v (x.Rows.map ar)])] (aA [(false,[sl ai ((ie x).map ar)])]):=by
 refine sF func183 fun h0 w0 Fz0=>?_
 refine sn 0 2 fun hl0_2=>?_
 refine sn 0 3 fun hl0_3=>?_
 refine sn 0 4 fun hl0_4=>?_
 refine vk ?_
 refine ID ?_
 refine CM ?_
 refine Dv ?_
 refine qc ?_
 refine Jt ?_
 refine cm ?_
 refine sP [1,2,3,4,5] [1] ?_
 refine sL [1,2,4] [1] (fun k:Nat=>k≤x.Ids.length∧(0 < k→du x=true)) (fun k:Nat=>[(3,RV.slc ai (((List.range k).map (mG x)).map ar)),(5,RV.int (k:Int))]) (fun k:Nat=>[]) (fun k:Nat=>x.Ids.length - k) 0 uL kd ao ?_
 rintro k ⟨hk,ha⟩
 refine bI ?_
 refine rM ?_
 refine kQ ?_
 refine cx 14 ?_ ?_<;>intro ga sga
 refine rB ga ?_ (x:=lD zq pB)
 refine rB ga ?_ (x:=cL oh tj alU (hs:=by exact amE))
 refine iq ?_
 refine sc ?_ ?_<;>intro hba
 have hok:du x=true:=cS
 obtain ⟨hp_,hb0,hb4,hrw⟩:=wo hok
 have hpl:=sb hp_
 have hlt:k < x.Ids.length:=ab
 have hrl:k < x.Rows.length:=ab
 have hr1:0≤x.Rows[k]∧x.Rows[k]≤4:=Xv
 have hd1:=Int.tdiv_nonneg hb0 (by omega:(0:Int)≤x.Ids.length)
 have hd2:=Int.tdiv_le_self (x.Ids.length:Int) hb0
 have hsl:((List.range k).map (mG x)).length=k:=WD
 have hrg:(List.range k).length=k:=List.length_range
 refine fT ?_
 refine sQ [1,2,3,4,5] [1] ?_
 refine cJ ?_
 refine dA 0 ?_ (x:=lF yp)
 refine tQ ?_
 refine dt ?_
 refine dA 7 ?_ (x:=NN)
 refine dA 0 ?_ (x:=lF ut)
 refine dA 16 ?_ (x:=lD [sl .v _] bZ)
 refine dt ?_
 refine dA 112 ?_ (x:=aS (k:=k) ak bY ao eb (by exact eQ hrl rfl) aj)
 refine dA 240 ?_ (x:=lE [val _] aV)
 refine dA 511 ?_ (x:=mq)
 refine dA 1023 ?_ (x:=sA)
 refine bg ?_
 refine sS [1,2,3,4,5,6] [1] ?_
 refine rM ?_
 refine Ds ?_
 refine IE ?_
 refine dC ?_
 refine sc ?_ ?_<;>intro hbb
 have hc:=hbb
 refine sG [1,2,3,4,5,6] [1] ?_
 refine bO ?_
 exact zma
 have hc:=hbb
 refine aK ?_
 exact zma
 exact zmb
 refine nt ?_
 exact zmb
def awd{t:Int}(hb:l.length≤1048576):aE prog 95 [(false,[sl .v (l.map (ba p1 p2 p3))]),(false,[val (vI t)])] (aA [(false,[val (vI (qx l t))])]):=by
 refine sF func95 fun h0 w0 Fz0=>?_
 refine sj 0 fun hl0=>?_
 refine qh ?_
 refine mw ?_
 refine dp ?_
 refine sS [0,1,4,5] [] ?_
 refine IN ?_
 refine dm ?_
 refine sP [0,1,4,5,10,11,12] [] ?_
 refine sL [0,1,4,10,11] [] (fun k:Nat=>k≤l.length) (fun k:Nat=>[(5,RV.int (((l.take k).map (wq t)).sum)),(12,RV.int (k:Int))]) (fun k:Nat=>[]) (fun k:Nat=>l.length - k) 0 ab kd ao ?_
 rintro k hk
 refine bP ?_
 refine sc ?_ ?_<;>intro hba
 have hlt:k < l.length:=ab
 have hsm:=EJ (l.take k) t
 rw [cj] at hsm
 unfold qx at hsm
 have hsl:=(SJ l[k]).1
 refine aY ?_
 refine sS [0,1,4,5,10,11,12] [] ?_
 refine xh ?_
 refine CY ?_
 refine sT [0,1,4,5,7,10,11,12] [7] ?_
 refine JM ?_
 refine rA ?_ (x:=cL oh tj atM (hs:=by exact awb))
 refine rA ?_ (x:=lN bY)
 refine dm ?_
 refine sP [0,1,4,5,7,10,11,12,17,18,19] [7] ?_
 refine sL [0,1,4,7,10,11,12,17,18] [7] (fun k2:Nat=>k2≤(ie l[k]).length) (fun k2:Nat=>[(5,RV.int (((l.take k).map (wq t)).sum+((List.range k2).map (qw t l[k])).sum)),(19,RV.int (k2:Int))]) (fun k2:Nat=>[]) (fun k2:Nat=>(ie l[k]).length - k2) 0 ab GA ao ?_
 rintro k2 hk2
 refine bP ?_
 refine sc ?_ ?_<;>intro hbb
 have hlt2:k2 < (ie l[k]).length:=ab
 have hso:=SK hlt2
 rw [←dM hlt2] at hso
 have htl:=hso.2.2.1
 have hsm2:=yi (f:=qw t l[k]) (m:=9) (fun i hi=>SL hi) k2 hk2
 refine aY ?_
 refine sT [0,1,4,5,7,10,11,12,17,18,19] [7] ?_
 refine rM ?_
 refine In ?_
 refine oq ?_
 refine sS [0,1,4,5,7,8,9,10,11,12,17,18,19] [7] ?_
 refine rA ?_ (x:=lF qA)
 refine Je ?_
 refine In ?_
 refine vE ?_
 refine sc ?_ ?_<;>intro hbc
 have hc:=hbc
 refine sG [0,1,4,5,7,8,9,10,11,12,17,18,19] [7] ?_
 refine rM ?_
 refine bO ?_
 exact zmd
 have hc:=hbc
 refine aK ?_
 exact zmd
 have hend2:k2=(ie l[k]).length:=ab
 refine be ?_
 refine sH [0,1,4,5,7,10,11,12,17,18,19] [7] ?_
 refine cc ?_
 exact zme
 have hend:k=l.length:=ab
 refine be ?_
 refine sS [0,1,4,5,10,11,12] [] ?_
 exact HB
def awe{t:Int}(hb:l.length≤1048576):aE prog 97 [(false,[sl .v (l.map (ba p1 p2 p3))]),(false,[val (vI t)])] (aA [(false,[val (vI (qx l t))])]):=by
 refine sF func97 fun h0 w0 Fz0=>?_
 refine sj 0 fun hl0=>?_
 refine qh ?_
 refine mw ?_
 refine dp ?_
 refine DI ?_
 refine sP [0,1,4,5,6] [] ?_
 refine sL [0,1,4] [] (fun k:Nat=>k≤l.length) (fun k:Nat=>[(5,RV.int (((l.take k).map (wq t)).sum)),(6,RV.int (k:Int))]) (fun k:Nat=>[]) (fun k:Nat=>l.length - k) 0 ab kd ao ?_
 rintro k hk
 refine bI ?_
 refine IN ?_
 refine dC ?_
 refine sc ?_ ?_<;>intro hba
 have hlt:k < l.length:=ab
 have hsm:=EJ (l.take k) t
 rw [cj] at hsm
 unfold qx at hsm
 have hsl:=(SJ l[k]).1
 refine DD ?_
 refine iO ?_
 refine xh ?_
 refine rA ?_ (x:=cL oh tj atO (hs:=by exact awc))
 refine Rq ?_
 refine cm ?_
 refine sP [0,1,4,5,6,7,8] [] ?_
 refine sL [0,1,4,6,7] [] (fun k2:Nat=>k2≤(ie l[k]).length) (fun k2:Nat=>[(5,RV.int (((l.take k).map (wq t)).sum+((List.range k2).map (qw t l[k])).sum)),(8,RV.int (k2:Int))]) (fun k2:Nat=>[]) (fun k2:Nat=>(ie l[k]).length - k2) 0 ab GA ao ?_
 rintro k2 hk2
 refine pj ?_
 refine sc ?_ ?_<;>intro hbb
 have hlt2:k2 < (ie l[k]).length:=ab
 have hso:=SK hlt2
 rw [←dM hlt2] at hso
 have htl:=hso.2.2.1
 have hsm2:=yi (f:=qw t l[k]) (m:=9) (fun i hi=>SL hi) k2 hk2
 refine aY ?_
 refine sS [0,1,4,5,6,7,8] [] ?_
 refine iO ?_
 refine zmf ?_
 refine rA ?_ (x:=cr ak qA ay)
 refine rA ?_ (x:=lE [sl .v _] bZ)
 refine rM ?_
 refine In ?_
 refine vE ?_
 refine sc ?_ ?_<;>intro hbc
 have hc:=hbc
 refine xQ ?_
 refine rM ?_
 refine iO ?_
 refine In ?_
 refine vF ?_
 exact zmg
 have hc:=hbc
 refine aK ?_
 exact zmg
 have hend2:k2=(ie l[k]).length:=ab
 refine be ?_
 refine xQ ?_
 refine bO ?_
 exact zme
 have hend:k=l.length:=ab
 refine Jg ?_
 exact HB
variable{p1 p2 p7 p5 p6 p8 p9 p11 p12 p13 p14 p16 p17 p18:Fl}{e:av}
def amF{o:List Int}:aE prog 154 [(false,[sl .v (o.map ar)])] (aA [(false,[val (.bool (cb o))])]):=by
 refine sF func154 fun h0 w0 Fz0=>?_
 refine sj 0 fun hl0=>?_
 refine Aw ?_
 refine sL [0] [] (fun k:Nat=>k≤3∧yk o k=true) (fun k:Nat=>[(3,RV.int (k:Int))]) (fun k:Nat=>[]) (fun k:Nat=>3 - k) 0 fS bu ao ?_
 rintro k ⟨hk,ha⟩
 refine xB ?_
 refine sc ?_ ?_<;>intro hba
 have hlt:k < 3:=ab
 refine aY ?_
 refine sS [0,3] [] ?_
 refine zaq ?_
 refine eZ ?_
 refine sc ?_ ?_<;>intro hbb
 have hno:ce o (k:Int)=false:=gy
 refine DZ ?_
 exact rb ((asF hlt hno).symm)
 have hyes:ce o (k:Int)=true:=gy
 refine xz ?_
 refine bO ?_
 refine nx (k+1) (by exact ⟨ab,by rw [Kv,ha,hyes];rfl⟩) (e:=oa)
 have hend:k=3:=ab
 rw [hend] at ha
 refine xA ?_
 refine jv ?_
 refine mu ?_
 refine cP ?_
 exact rb (by rw [←alt,ha,Bool.true_and];first|rfl|(rw [decide_eq_decide];omega)|(rw [Bool.eq_iff_iff];simp;omega)|(rw [Bool.eq_iff_iff];simp))
def awf{s:Store}{a:aC6}:aE prog 155 [(true,[sl .v (s.aC5.map (aG p1 p2)),val (vI s.Now)]),(true,[val (vI a.aC7.Id),val (vI a.aC7.aDb),sl .v (a.aC7.aC8.map bM),sl .v (a.aC7.Out.map ar),val (vI a.Time),sl .v (a.aDf.map ar),val (vI a.Age),val (vI a.Sent),val (vI a.Cap),sl .v (a.Rows.map (ci p7))])] (aA [(false,[val (.bool (fV s a))])]):=by
 refine sF func155 fun h0 w0 Fz0=>?_
 refine sn 0 0 fun hl0_0=>?_
 refine sn 1 2 fun hl1_2=>?_
 refine sn 1 3 fun hl1_3=>?_
 refine sn 1 5 fun hl1_5=>?_
 refine sn 1 9 fun hl1_9=>?_
 refine mr ?_
 refine RG ?_
 refine dp ?_
 refine sT [2,3,4] [2,3] ?_
 refine DE ?_
 refine dm ?_
 refine sP [2,3,4,8,9,10] [2,3] ?_
 refine sL [2,3,8,9] [2,3] (fun k:Nat=>k≤a.aDf.length∧mA 0 (nE s.aC5.length) nF a.aDf k=true) (fun k:Nat=>[(10,RV.int (k:Int))]) (fun k:Nat=>[]) (fun k:Nat=>a.aDf.length - k) 0 fS bu ao ?_
 rintro k ⟨hk,ha⟩
 refine bP ?_
 refine sc ?_ ?_<;>intro hba
 have hlt:k < a.aDf.length:=ab
 have hgk:a.aDf.getD k 0=a.aDf[k]:=fy hlt
 have hgp:0 < k→a.aDf.getD (k - 1) 0=a.aDf[k - 1]:=fun h=>fy ab
 refine aY ?_
 refine sT [2,3,8,9,10] [2,3] ?_
 refine rM ?_
 refine tu ?_
 refine oq ?_
 refine sS [2,3,5,6,8,9,10] [2,3] ?_
 refine rM ?_
 refine tw ?_
 refine rA ?_ (x:=hP)
 refine zgu ?_
 refine cx 22 ?_ ?_<;>intro ga sga
 refine gY ?_
 exact zml
 refine fI ?_
 refine rB ga ?_ (x:=iN)
 refine fI ?_
 refine cx 25 ?_ ?_<;>intro gb sgb
 refine rB gb ?_ (x:=lF lS)
 refine AG ?_
 refine Ry ?_
 refine rB gb ?_ (x:=aS (k:=k - 1) ak bY ao ab bD aj)
 refine rB gb ?_ (x:=lE [val _] aV)
 refine ir ?_
 refine rB gb ?_ (x:=jc)
 refine rB ga ?_ (x:=cd gb)
 refine jQ ?_
 refine sc ?_ ?_<;>intro hbb
 exact zml
 exact zmm
 refine zf gb ?_
 refine rB ga ?_ (x:=bF gb)
 refine jQ ?_
 refine gB ?_
 exact zmm
 have hend:k=a.aDf.length:=ab
 have hall:eT 0 (nE s.aC5.length) nF a.aDf=true:=ue ha hend
 refine be ?_
 refine sT [2,3,8,9,10] [2,3] ?_
 refine DE ?_
 refine qf ?_
 refine cx 41 ?_ ?_<;>intro ga sga
 refine rB ga ?_ (x:=lF kx)
 refine zmn ?_
 refine rG ?_
 refine cx 46 ?_ ?_<;>intro gb sgb
 refine rB gb ?_ (x:=lF ww)
 refine ou ?_
 refine rB gb ?_ (x:=lF ky)
 refine PY ?_
 refine hZ ?_
 refine cx 53 ?_ ?_<;>intro gc sgc
 refine rB gc ?_ (x:=lF KG)
 refine PW ?_
 refine vD ?_
 refine cx 58 ?_ ?_<;>intro gd sgd
 refine rB gd ?_ (x:=lF uq)
 refine PZ ?_
 refine rO ?_
 refine rM ?_
 refine cx 63 ?_ ?_<;>intro ge sge
 refine rB ge ?_ (x:=lF Bi)
 refine rB ge ?_ (x:=lD [val _] aV)
 refine rB ge ?_ (x:=cL cF cF rT (hs:=qV))
 refine Ar ?_
 refine cx 68 ?_ ?_<;>intro gf sgf
 refine rB gf ?_ (x:=lF py)
 refine rB gf ?_ (x:=lD [sl .v _] iU)
 refine rB gf ?_ (x:=cL cf cC Tt (hs:=Ms))
 refine rA ?_ (x:=cd gf)
 exact Om
 refine zf gf ?_
 refine rA ?_ (x:=bF gf)
 exact Om
 refine Aj ?_
 exact zmr
 refine vz ?_
 exact zms
 refine kl ?_
 exact zmt
 refine hY ?_
 exact zmu
 refine ip ?_
 refine rN 46 ?_
 refine dz ?_
 exact zmu
def awg{l:List Int}{n:Int}(hn:0≤n∧n≤9223372036854775807):aE prog 231 [(false,[sl .v (l.map ar)]),(false,[val (vI n)])] (aA [(false,[val (.bool (nG l n))])]):=by
 refine sF func231 fun h0 w0 Fz0=>?_
 refine sj 0 fun hl0=>?_
 refine tE ?_
 refine cm ?_
 refine sP [0,1,4,5] [] ?_
 refine sL [0,1] [] (fun k:Nat=>k≤l.length∧mA 0 (nE n) nF l k=true) (fun k:Nat=>[(5,RV.int (k:Int))]) (fun k:Nat=>[]) (fun k:Nat=>l.length - k) 0 fS bu ao ?_
 rintro k ⟨hk,ha⟩
 refine pj ?_
 refine sc ?_ ?_<;>intro hba
 have hlt:k < l.length:=ab
 have hgk:l.getD k 0=l[k]:=fy hlt
 have hgp:0 < k→l.getD (k - 1) 0=l[k - 1]:=fun h=>fy ab
 refine JG ?_
 refine qg ?_
 refine Dd ?_
 refine dt ?_
 refine dA 16 ?_ (x:=hP)
 refine dA 63 ?_ (x:=cL cF cF mC (hs:=md))
 refine dA 127 ?_ (x:=nT)
 refine dA 255 ?_ (x:=sM)
 refine dx 20 ?_ ?_<;>intro ga sga
 refine dT 511 ga ?_
 refine dT 1023 ga ?_
 refine dT 2047 ga ?_
 refine dU 4095 ?_
 refine dU 4095 ?_
 refine dU 16383 ?_
 refine dU 32767 ?_
 refine dU 4095 ?_
 refine dU 4095 ?_
 refine dU 135167 ?_
 refine dU 462847 ?_
 refine dU 987135 ?_
 refine dU 2097151 ?_
 refine IX ?_
 refine fH ?_
 exact zmv
 refine vQ ?_
 refine dB 1023 ga ?_ (x:=iN)
 refine dB 2047 ga ?_ (x:=sM)
 refine dx 23 ?_ ?_<;>intro gb sgb
 refine dB 4095 gb ?_ (x:=vM false [sl .v _])
 refine dB 4095 gb ?_ (x:=sM)
 refine dB 16383 gb ?_ (x:=aS ak bY ao aj bD aj)
 refine dB 32767 gb ?_ (x:=lE [val _] aV)
 refine dB 4095 gb ?_ (x:=vM false [sl .v _])
 refine dB 4095 gb ?_ (x:=sM)
 refine dB 135167 gb ?_ (x:=hP)
 refine dB 462847 gb ?_ (x:=aS (k:=k - 1) ak bY ao ab bD aj)
 refine dB 987135 gb ?_ (x:=lE [val _] aV)
 refine QN ?_
 refine dA 8388607 ?_ (x:=bF ga)
 refine sc ?_ ?_<;>intro hbb
 exact zmv
 exact zmw
 refine dF 4095 gb ?_
 refine dF 4095 gb ?_
 refine dF 16383 gb ?_
 refine dF 32767 gb ?_
 refine dF 4095 gb ?_
 refine dF 4095 gb ?_
 refine dF 135167 gb ?_
 refine dF 462847 gb ?_
 refine dF 987135 gb ?_
 refine dF 2097151 gb ?_
 refine QU ?_
 refine gB ?_
 exact zmw
 have hend:k=l.length:=ab
 have hall:eT 0 (nE n) nF l=true:=ue ha hend
 refine DH ?_
 refine jv ?_
 refine ov ?_
 refine dI ?_
 exact rb (by first|(simp_all [nG];done)|(simp_all [nG];rfl)|(simp_all [nG];omega)|(simp_all [nG];intros;omega))
def awh{p23:Fl}{a:aC6}:aE prog 159 [(true,[sl .v (e.Store.aC5.map (aG p1 p2)),val (vI e.Store.Now),val (vI e.aDa),sl .v (e.Order.map ar),sl .v (e.aC6.map (aO p5 p6 p7 p8 p9)),sl .v (e.Done.map (bd p11 p12 p13 p14)),sl .v (e.aDi.map (ba p16 p17 p18)),val (vI e.Steps)]),(true,[val (vI a.aC7.Id),val (vI a.aC7.aDb),sl .v (a.aC7.aC8.map bM),sl .v (a.aC7.Out.map ar),val (vI a.Time),sl .v (a.aDf.map ar),val (vI a.Age),val (vI a.Sent),val (vI a.Cap),sl .v (a.Rows.map (ci p23))])] (aA [(false,[val (.bool (fV e.Store a))])]):=by
 refine sF func159 fun h0 w0 Fz0=>?_
 refine sn 0 0 fun hl0_0=>?_
 refine sn 0 3 fun hl0_3=>?_
 refine sn 0 4 fun hl0_4=>?_
 refine sn 0 5 fun hl0_5=>?_
 refine sn 0 6 fun hl0_6=>?_
 refine sn 1 2 fun hl1_2=>?_
 refine sn 1 3 fun hl1_3=>?_
 refine sn 1 5 fun hl1_5=>?_
 refine sn 1 9 fun hl1_9=>?_
 refine io ?_
 refine RG ?_
 refine Ai ?_
 refine tW ?_
 refine CZ ?_
 refine rM ?_
 refine cx 8 ?_ ?_<;>intro ga sga
 refine rB ga ?_ (x:=lF ww)
 refine QV ?_
 refine rB ga ?_ (x:=lF ky)
 refine Jb ?_
 refine rM ?_
 refine cx 16 ?_ ?_<;>intro gb sgb
 refine rB gb ?_ (x:=lF lS)
 refine AG ?_
 refine rB gb ?_ (x:=lF uu)
 refine rB gb ?_ (x:=lF mH)
 refine rB gb ?_ (x:=lD [sl .v _] mK)
 refine rB gb ?_ (x:=lN gG)
 refine rB gb ?_ (x:=cL gJ gK aua (hs:=by exact (awg ab)))
 refine hZ ?_
 refine cx 25 ?_ ?_<;>intro gc sgc
 refine rB gc ?_ (x:=lF KG)
 refine zfd ?_
 refine vD ?_
 refine cx 30 ?_ ?_<;>intro gd sgd
 refine rB gd ?_ (x:=lF uq)
 refine Qa ?_
 refine rO ?_
 refine rM ?_
 refine cx 35 ?_ ?_<;>intro ge sge
 refine rB ge ?_ (x:=lF Bi)
 refine zlq ?_
 refine Ar ?_
 refine cx 40 ?_ ?_<;>intro gf sgf
 refine rB gf ?_ (x:=lF py)
 refine rB gf ?_ (x:=lD [sl .v _] iU)
 refine rB gf ?_ (x:=cL cf cC Tu (hs:=by exact TA))
 refine rA ?_ (x:=cd gf)
 exact On
 refine zf gf ?_
 refine rA ?_ (x:=bF gf)
 exact On
 refine Aj ?_
 exact zn3
 refine vz ?_
 exact zn4
 refine kl ?_
 exact zn5
 refine hY ?_
 exact zn6
 refine ip ?_
 refine rN 16 ?_
 refine dz ?_
 exact zn6
def TG(hb:aZ e≤68719476736):aE prog 66 [(true,[sl .v (e.Store.aC5.map (aG p1 p2)),val (vI e.Store.Now),val (vI e.aDa),sl .v (e.Order.map ar),sl .v (e.aC6.map (aO p5 p6 p7 p8 p9)),sl .v (e.Done.map (bd p11 p12 p13 p14)),sl .v (e.aDi.map (ba p16 p17 p18)),val (vI e.Steps)])] (aA [(false,[val (.bool (aU e))])]):=by
 refine sF func66 fun h0 w0 Fz0=>?_
 refine sn 0 0 fun hl0_0=>?_
 refine sn 0 3 fun hl0_3=>?_
 refine sn 0 4 fun hl0_4=>?_
 refine sn 0 5 fun hl0_5=>?_
 refine sn 0 6 fun hl0_6=>?_
 have hbu:=hb
 simp only [aZ] at hbu
 refine io ?_
 refine jd ?_
 refine zV ?_
 refine zn8 ?_
 refine cx 13 ?_ ?_<;>intro ga sga
 refine ko ?_
 refine rY 24 ?_
 refine vJ ?_
 refine rY 30 ?_
 exact HC
 refine rB ga ?_ (x:=lF mI)
 refine QV ?_
 refine Dp ?_
 refine IU ?_
 refine CU ?_
 refine nq ?_
 refine cx 24 ?_ ?_<;>intro gb sgb
 refine zt gb ?_
 refine hZ ?_
 refine rY 30 ?_
 exact HC
 refine rB gb ?_ (x:=lF EO)
 refine AG ?_
 refine rB gb ?_ (x:=cL cf cC alT (hs:=by exact amF))
 refine Ao ?_
 refine cx 30 ?_ ?_<;>intro gc sgc
 refine vH ?_
 exact Cy
 refine rB gc ?_ (x:=lF sh)
 refine PW ?_
 refine rB gc ?_ (x:=nT)
 refine rA ?_ (x:=bF gc)
 refine sc ?_ ?_<;>intro hba
 exact Cy
 have hp1:(cy e.Store&&(aF e.aDa 0 (e.Store.aC5.length - 1)&&(cb e.Order&&aF e.Steps 0 100000)))=true:=Gu
 refine tG ?_
 refine Di ?_
 refine qf ?_
 refine cx 40 ?_ ?_<;>intro gd sgd
 refine vC ?_
 refine rM ?_
 refine rY 46 ?_
 refine kS ?_
 exact Oo
 refine rB gd ?_ (x:=lF oL)
 refine rB gd ?_ (x:=lD [sl .v _] nL)
 refine rB gd ?_ (x:=lN mJ)
 refine rB gd ?_ (x:=iN)
 refine tV ?_
 refine rM ?_
 refine cx 46 ?_ ?_<;>intro ge sge
 refine zt ge ?_
 refine rA ?_ (x:=cd ge)
 refine fH ?_
 exact Oo
 refine rB ge ?_ (x:=lF nI)
 refine rB ge ?_ (x:=lD [sl .v _] nM)
 refine rB ge ?_ (x:=lN lU)
 refine rB ge ?_ (x:=iN)
 refine rA ?_ (x:=bF ge)
 refine sc ?_ ?_<;>intro hbb
 exact Oo
 have hpr:lO e=true:=XH
 refine tG ?_
 refine tJ ?_
 refine sP [1,2,53,54,55] [1] ?_
 refine sL [1,53,54] [1] (fun k:Nat=>k≤e.aC6.length∧mA jS (fV e.Store) oJ e.aC6 k=true) (fun k:Nat=>[(55,RV.int (k:Int))]) (fun k:Nat=>[]) (fun k:Nat=>e.aC6.length - k) 0 fS bu ao ?_
 rintro k ⟨hk,ha⟩
 refine bP ?_
 refine sc ?_ ?_<;>intro hbc
 have hlt:k < e.aC6.length:=ab
 have hgk:e.aC6.getD k jS=e.aC6[k]:=fy hlt
 have hgp:0 < k→e.aC6.getD (k - 1) jS=e.aC6[k - 1]:=fun h=>fy ab
 refine aY ?_
 refine sT [1,53,54,55] [1] ?_
 refine rM ?_
 refine Pv ?_
 refine Eg ?_
 refine zni ?_
 refine bg ?_
 refine sU [1,3,4,53,54,55] [1] [4] ?_
 refine cJ ?_
 refine QK ?_
 refine znk ?_
 refine dA 7 ?_ (x:=cL [(true,jM),(true,ki)] [(true,rr),(true,vd)] atz (hs:=by exact awf))
 refine dA 15 ?_ (x:=nT)
 refine dA 31 ?_ (x:=sM)
 refine dx 65 ?_ ?_<;>intro gf sgf
 refine dT 63 gf ?_
 refine dT 127 gf ?_
 refine dT 255 gf ?_
 refine dU 511 ?_
 refine dU 1023 ?_
 refine dU 511 ?_
 refine dU 2559 ?_
 refine dU 8191 ?_
 refine dU 16383 ?_
 refine dU 32767 ?_
 refine dU 65535 ?_
 refine dU 511 ?_
 refine dU 131583 ?_
 refine dU 393727 ?_
 refine dU 1048575 ?_
 refine dT 2097151 gf ?_
 refine dA 4194303 ?_ (x:=cd gf)
 refine fH ?_
 exact znl
 refine dB 63 gf ?_ (x:=sM)
 refine dB 127 gf ?_ (x:=iN)
 refine dB 255 gf ?_ (x:=sM)
 refine dx 68 ?_ ?_<;>intro gg sgg
 refine dB 511 gg ?_ (x:=lF gP)
 refine dB 1023 gg ?_ (x:=lD [sl .v _] fe)
 refine dB 511 gg ?_ (x:=sM)
 refine dB 2559 gg ?_ (x:=hP)
 refine dB 8191 gg ?_ (x:=aS (k:=k - 1) ak cY ao ab bD aj)
 refine dB 16383 gg ?_ (x:=cr ak kx ay)
 refine dB 32767 gg ?_ (x:=cr ak jf ay)
 refine dB 65535 gg ?_ (x:=lE [val _] aV)
 refine dB 511 gg ?_ (x:=lF kx)
 refine dB 131583 gg ?_ (x:=lF jf)
 refine dB 393727 gg ?_ (x:=lD [val _] aV)
 refine dB 1048575 gg ?_ (x:=jc)
 refine dB 2097151 gf ?_ (x:=cd gg)
 refine dA 4194303 ?_ (x:=bF gf)
 refine sc ?_ ?_<;>intro hbd
 exact znl
 exact znm
 refine dF 511 gg ?_
 refine dF 1023 gg ?_
 refine dF 511 gg ?_
 refine dF 2559 gg ?_
 refine dF 8191 gg ?_
 refine dF 16383 gg ?_
 refine dF 32767 gg ?_
 refine dF 65535 gg ?_
 refine dF 511 gg ?_
 refine dF 131583 gg ?_
 refine dF 393727 gg ?_
 refine dF 1048575 gg ?_
 refine dB 2097151 gf ?_ (x:=bF gg)
 refine dA 4194303 ?_ (x:=bF gf)
 refine gB ?_
 exact znm
 have hend:k=e.aC6.length:=ab
 have hall:eT jS (fV e.Store) oJ e.aC6=true:=ue ha hend
 refine gk ?_
 refine sT [1,53,54,55] [1] ?_
 refine Ah ?_
 refine dm ?_
 refine sP [1,53,54,55,85,86,87] [1] ?_
 refine sL [1,53,54,55,85,86] [1] (fun k:Nat=>k≤e.Done.length∧(List.take k e.Done).all (kX e.Store.Now)=true) (fun k:Nat=>[(87,RV.int (k:Int))]) (fun k:Nat=>[]) (fun k:Nat=>e.Done.length - k) 0 fS bu ao ?_
 rintro k ⟨hk,ha⟩
 refine bP ?_
 refine sc ?_ ?_<;>intro hbd
 have hlt:k < e.Done.length:=ab
 refine aY ?_
 refine sT [1,53,54,55,85,86,87] [1] ?_
 refine Ih ?_
 refine CV ?_
 refine sV [1,6,53,54,55,85,86,87] [1] [6] ?_
 refine rA ?_ (x:=lF pz)
 refine zJ ?_
 refine dq ?_
 refine cx 95 ?_ ?_<;>intro gf sgf
 refine Jz ?_
 refine rM ?_
 refine rY 104 ?_
 refine lH ?_
 exact znq
 refine rB gf ?_ (x:=lF ami)
 refine rB gf ?_ (x:=lD [val _] aV)
 refine rB gf ?_ (x:=lF uu)
 refine rB gf ?_ (x:=lF ky)
 refine rB gf ?_ (x:=lD [val _] aV)
 refine rB gf ?_ (x:=cL cF cF rT (hs:=qV))
 refine rB gf ?_ (x:=nT)
 refine rA ?_ (x:=bF gf)
 refine rM ?_
 refine cx 104 ?_ ?_<;>intro gg sgg
 refine zt gg ?_
 refine rA ?_ (x:=cd gg)
 exact znq
 refine rB gg ?_ (x:=lF amj)
 refine rB gg ?_ (x:=lD [val _] aV)
 refine rB gg ?_ (x:=cL cF cF rT (hs:=qV))
 refine rB gg ?_ (x:=nT)
 refine rA ?_ (x:=bF gg)
 refine rM ?_
 refine cx 110 ?_ ?_<;>intro gh sgh
 refine zt gh ?_
 refine rA ?_ (x:=cd gh)
 refine fH ?_
 exact Oq
 refine rB gh ?_ (x:=lF pA)
 refine rB gh ?_ (x:=lD [sl .v _] iU)
 refine rB gh ?_ (x:=cL cf cC Tt (hs:=Ms))
 refine rB gh ?_ (x:=nT)
 refine rA ?_ (x:=bF gh)
 refine sc ?_ ?_<;>intro hbe
 exact Oq
 have hyes:(kX e.Store.Now) e.Done[k]=true:=Gs
 refine aK ?_
 refine sG [1,6,53,54,55,85,86,87] [1,6] ?_
 exact Cs
 have hfa:e.Done.all (kX e.Store.Now)=true:=mz Xp
 refine gk ?_
 refine sT [1,53,54,55,85,86,87] [1] ?_
 refine Jx ?_
 refine dm ?_
 refine sP [1,53,54,55,85,86,87,118,119,120] [1] ?_
 refine sL [1,53,54,55,85,86,87,118,119] [1] (fun k:Nat=>k≤e.aDi.length∧(List.take k e.aDi).all du=true) (fun k:Nat=>[(120,RV.int (k:Int))]) (fun k:Nat=>[]) (fun k:Nat=>e.aDi.length - k) 0 fS bu ao ?_
 rintro k ⟨hk,ha⟩
 refine bP ?_
 refine sc ?_ ?_<;>intro hbe
 have hlt:k < e.aDi.length:=ab
 refine aY ?_
 refine sT [1,53,54,55,85,86,87,118,119,120] [1] ?_
 refine xh ?_
 refine CY ?_
 refine sV [1,8,53,54,55,85,86,87,118,119,120] [1] [8] ?_
 refine PS ?_
 refine eZ ?_
 refine sc ?_ ?_<;>intro hbf
 have hno:du e.aDi[k]=false:=GC
 have hbad2:=alr (po hlt hno)
 refine sS [1,8,53,54,55,85,86,87,118,119,120] [1,8] ?_
 exact zA
 have hyes:du e.aDi[k]=true:=GC
 refine aK ?_
 refine sG [1,8,53,54,55,85,86,87,118,119,120] [1,8] ?_
 exact Cs
 have hla:e.aDi.all du=true:=mz Xm
 refine be ?_
 refine sT [1,53,54,55,85,86,87,118,119,120] [1] ?_
 exact znu
def TH(hb:aZ e≤68719476736):aE prog 69 [(true,[sl .v (e.Store.aC5.map (aG p1 p2)),val (vI e.Store.Now),val (vI e.aDa),sl .v (e.Order.map ar),sl .v (e.aC6.map (aO p5 p6 p7 p8 p9)),sl .v (e.Done.map (bd p11 p12 p13 p14)),sl .v (e.aDi.map (ba p16 p17 p18)),val (vI e.Steps)])] (aA [(false,[val (.bool (aU e))])]):=by
 refine sF func69 fun h0 w0 Fz0=>?_
 refine sn 0 0 fun hl0_0=>?_
 refine sn 0 3 fun hl0_3=>?_
 refine sn 0 4 fun hl0_4=>?_
 refine sn 0 5 fun hl0_5=>?_
 refine sn 0 6 fun hl0_6=>?_
 have hbu:=hb
 simp only [aZ] at hbu
 refine io ?_
 refine jd ?_
 refine zV ?_
 refine znv ?_
 refine dq ?_
 refine cx 11 ?_ ?_<;>intro ga sga
 refine ko ?_
 refine rY 22 ?_
 refine lH ?_
 exact znw
 refine rB ga ?_ (x:=lF mI)
 refine QV ?_
 refine Dp ?_
 refine IU ?_
 refine PB ?_
 refine nq ?_
 refine cx 22 ?_ ?_<;>intro gb sgb
 refine tx ?_
 exact znw
 refine rB gb ?_ (x:=lF EO)
 refine AG ?_
 refine zny ?_
 refine Ao ?_
 refine cx 28 ?_ ?_<;>intro gc sgc
 refine xo ?_
 exact znz
 refine rB gc ?_ (x:=lF gP)
 refine rB gc ?_ (x:=lD [sl .v _] fe)
 refine rB gc ?_ (x:=lN cY)
 refine xq ?_
 refine rM ?_
 refine cx 34 ?_ ?_<;>intro gd sgd
 refine vC ?_
 exact zo1
 refine rB gd ?_ (x:=lF sh)
 refine Qa ?_
 refine rB gd ?_ (x:=nT)
 refine tV ?_
 refine rM ?_
 refine cx 40 ?_ ?_<;>intro ge sge
 refine zt ge ?_
 refine Ar ?_
 refine rY 46 ?_
 exact HC
 refine rB ge ?_ (x:=lF oL)
 refine rB ge ?_ (x:=lD [sl .v _] nL)
 refine rB ge ?_ (x:=lN mJ)
 refine rB ge ?_ (x:=iN)
 refine rA ?_ (x:=bF ge)
 refine rM ?_
 refine cx 46 ?_ ?_<;>intro gf sgf
 refine Jz ?_
 refine fH ?_
 exact Cy
 refine rB gf ?_ (x:=lF nI)
 refine rB gf ?_ (x:=lD [sl .v _] nM)
 refine rB gf ?_ (x:=lN lU)
 refine rB gf ?_ (x:=iN)
 refine rA ?_ (x:=bF gf)
 refine sc ?_ ?_<;>intro hba
 exact Cy
 have hpr:lO e=true:=by first|(simp_all [lO];done)|(simp_all [lO];omega)
 refine tG ?_
 refine Ak ?_
 refine sL [1] [1] (fun k:Nat=>k≤e.aC6.length∧mA jS (fV e.Store) oJ e.aC6 k=true) (fun k:Nat=>[(3,RV.int (k:Int))]) (fun k:Nat=>[]) (fun k:Nat=>e.aC6.length - k) 0 fS bu ao ?_
 rintro k ⟨hk,ha⟩
 refine bI ?_
 refine Ap ?_
 refine sc ?_ ?_<;>intro hbb
 have hlt:k < e.aC6.length:=ab
 have hgk:e.aC6.getD k jS=e.aC6[k]:=fy hlt
 have hgp:0 < k→e.aC6.getD (k - 1) jS=e.aC6[k - 1]:=fun h=>fy ab
 refine fT ?_
 refine sQ [1,3] [1] ?_
 refine tv ?_
 refine QF ?_
 refine dt ?_
 refine dA 14 ?_ (x:=aS ak cY ao aj bD aj)
 refine dA 30 ?_ (x:=lE vd nJ)
 refine dA 63 ?_ (x:=cL [(true,dV),(true,ki)] [(true,lB),(true,vd)] atC (hs:=by exact awh))
 refine dA 127 ?_ (x:=nT)
 refine dA 255 ?_ (x:=sM)
 refine dx 67 ?_ ?_<;>intro gg sgg
 refine dT 511 gg ?_
 refine dT 1023 gg ?_
 refine dT 2047 gg ?_
 refine Eb ?_
 refine dU 4095 ?_
 refine dU 32767 ?_
 refine dU 65535 ?_
 refine dU 131071 ?_
 refine dU 262143 ?_
 refine dU 4095 ?_
 refine dU 528383 ?_
 refine dU 4095 ?_
 refine dU 2101247 ?_
 refine dU 7868415 ?_
 refine dU 16257023 ?_
 refine dU 33034239 ?_
 refine dU 66588671 ?_
 refine dU 134217727 ?_
 refine dT 268435455 gg ?_
 refine dA 536870911 ?_ (x:=cd gg)
 refine fH ?_
 exact zo5
 refine dB 511 gg ?_ (x:=sM)
 refine dB 1023 gg ?_ (x:=iN)
 refine dB 2047 gg ?_ (x:=sM)
 refine dx 70 ?_ ?_<;>intro gh sgh
 refine dB 4095 gh ?_ (x:=lF gP)
 refine dB 8191 gh ?_ (x:=lD [sl .v _] fe)
 refine dB 4095 gh ?_ (x:=sM)
 refine dB 32767 gh ?_ (x:=aS ak cY ao aj bD aj)
 refine dB 65535 gh ?_ (x:=cr ak kx ay)
 refine dB 131071 gh ?_ (x:=cr ak jf ay)
 refine dB 262143 gh ?_ (x:=lE [val _] aV)
 refine dB 4095 gh ?_ (x:=lF gP)
 refine dB 528383 gh ?_ (x:=lD [sl .v _] fe)
 refine dB 4095 gh ?_ (x:=sM)
 refine dB 2101247 gh ?_ (x:=hP)
 refine dB 7868415 gh ?_ (x:=aS (k:=k - 1) ak cY ao ab bD aj)
 refine dB 16257023 gh ?_ (x:=cr ak kx ay)
 refine dB 33034239 gh ?_ (x:=cr ak jf ay)
 refine dB 66588671 gh ?_ (x:=lE [val _] aV)
 refine dB 134217727 gh ?_ (x:=mp)
 refine dB 268435455 gg ?_ (x:=cd gh)
 refine dA 536870911 ?_ (x:=bF gg)
 refine sc ?_ ?_<;>intro hbc
 exact zo5
 exact zo6
 refine dF 4095 gh ?_
 refine dF 8191 gh ?_
 refine dF 4095 gh ?_
 refine dF 32767 gh ?_
 refine dF 65535 gh ?_
 refine dF 131071 gh ?_
 refine dF 262143 gh ?_
 refine dF 4095 gh ?_
 refine dF 528383 gh ?_
 refine dF 4095 gh ?_
 refine dF 2101247 gh ?_
 refine dF 7868415 gh ?_
 refine dF 16257023 gh ?_
 refine dF 33034239 gh ?_
 refine dF 66588671 gh ?_
 refine dF 134217727 gh ?_
 refine dB 268435455 gg ?_ (x:=bF gh)
 refine dA 536870911 ?_ (x:=bF gg)
 refine gB ?_
 exact zo6
 have hend:k=e.aC6.length:=ab
 have hall:eT jS (fV e.Store) oJ e.aC6=true:=ue ha hend
 refine gk ?_
 refine sT [1,3] [1] ?_
 refine cm ?_
 refine sP [1,3,4] [1] ?_
 refine sL [1,3] [1] (fun k:Nat=>k≤e.Done.length∧(List.take k e.Done).all (kX e.Store.Now)=true) (fun k:Nat=>[(4,RV.int (k:Int))]) (fun k:Nat=>[]) (fun k:Nat=>e.Done.length - k) 0 fS bu ao ?_
 rintro k ⟨hk,ha⟩
 refine bI ?_
 refine Ah ?_
 refine dC ?_
 refine sc ?_ ?_<;>intro hbc
 have hlt:k < e.Done.length:=ab
 refine aY ?_
 refine sT [1,3,4] [1] ?_
 refine zQ ?_
 refine rM ?_
 refine Ih ?_
 refine CV ?_
 refine sV [1,3,4,5] [1] [5] ?_
 refine rA ?_ (x:=lF pz)
 refine CZ ?_
 refine dq ?_
 refine cx 105 ?_ ?_<;>intro gg sgg
 refine zt gg ?_
 refine rA ?_ (x:=cd gg)
 refine rM ?_
 refine rY 114 ?_
 refine lH ?_
 exact zo8
 refine rB gg ?_ (x:=lF ami)
 refine rB gg ?_ (x:=lD [val _] aV)
 refine rB gg ?_ (x:=lF uu)
 refine rB gg ?_ (x:=lF ky)
 refine rB gg ?_ (x:=lD [val _] aV)
 refine zo9 ?_
 refine rB gg ?_ (x:=nT)
 refine rA ?_ (x:=bF gg)
 refine rM ?_
 refine cx 114 ?_ ?_<;>intro gh sgh
 refine zt gh ?_
 refine rA ?_ (x:=cd gh)
 exact zo8
 refine rB gh ?_ (x:=lF amj)
 refine rB gh ?_ (x:=lD [val _] aV)
 refine rB gh ?_ (x:=cL cF cF mC (hs:=md))
 refine rB gh ?_ (x:=nT)
 refine rA ?_ (x:=bF gh)
 refine rM ?_
 refine cx 120 ?_ ?_<;>intro gi sgi
 refine zt gi ?_
 refine rA ?_ (x:=cd gi)
 refine fH ?_
 exact Ot
 refine rB gi ?_ (x:=lF pA)
 refine rB gi ?_ (x:=lD [sl .v _] iU)
 refine rB gi ?_ (x:=cL cf cC Tu (hs:=by exact TA))
 refine rB gi ?_ (x:=nT)
 refine rA ?_ (x:=bF gi)
 refine sc ?_ ?_<;>intro hbd
 exact Ot
 have hyes:(kX e.Store.Now) e.Done[k]=true:=Gs
 refine aK ?_
 refine sG [1,3,4,5] [1,5] ?_
 exact xf
 have hfa:e.Done.all (kX e.Store.Now)=true:=mz Xp
 refine gk ?_
 refine sT [1,3,4] [1] ?_
 refine cm ?_
 refine sP [1,3,4,6] [1] ?_
 refine sL [1,3,4] [1] (fun k:Nat=>k≤e.aDi.length∧(List.take k e.aDi).all du=true) (fun k:Nat=>[(6,RV.int (k:Int))]) (fun k:Nat=>[]) (fun k:Nat=>e.aDi.length - k) 0 fS bu ao ?_
 rintro k ⟨hk,ha⟩
 refine bI ?_
 refine Jx ?_
 refine dC ?_
 refine sc ?_ ?_<;>intro hbd
 have hlt:k < e.aDi.length:=ab
 refine aY ?_
 refine sT [1,3,4,6] [1] ?_
 refine Qt ?_
 refine rM ?_
 refine xh ?_
 refine zm0 ?_
 refine sc ?_ ?_<;>intro hbe
 have hno:du e.aDi[k]=false:=sI
 have hbad2:=alr (po hlt hno)
 refine sS [1,3,4,6] [1] ?_
 exact zA
 have hyes:du e.aDi[k]=true:=sI
 refine aK ?_
 refine sG [1,3,4,6] [1] ?_
 exact xf
 have hla:e.aDi.all du=true:=mz Xm
 refine be ?_
 refine sT [1,3,4,6] [1] ?_
 exact znu
variable{p1 p2 p5 p6 p7 p8 p9 p11 p12 p13 p14 p16 p17 p18:Fl}{e:av}
def awz{p4:Fl}{a:aC6}:aE prog 68 [(true,[val (vI a.aC7.Id),val (vI a.aC7.aDb),sl .v (a.aC7.aC8.map bM),sl .v (a.aC7.Out.map ar),val (vI a.Time),sl .v (a.aDf.map ar),val (vI a.Age),val (vI a.Sent),val (vI a.Cap),sl .v (a.Rows.map (ci p4))])] (aA [(false,[val (.bool (kY a))])]):=by
 refine sF func68 fun h0 w0 Fz0=>?_
 refine sn 0 2 fun hl0_2=>?_
 refine sn 0 3 fun hl0_3=>?_
 refine sn 0 5 fun hl0_5=>?_
 refine sn 0 9 fun hl0_9=>?_
 refine zp3 ?_
 refine rH ?_
 refine rA ?_ (x:=lF Bi)
 refine eJ ?_
 refine iC ?_
 refine cx 6 ?_ ?_<;>intro ga sga
 refine Ia ?_
 exact zqe
 refine rB ga ?_ (x:=lF Bi)
 refine lJ ?_
 refine rB ga ?_ (x:=lF uq)
 refine lJ ?_
 refine rB ga ?_ (x:=iN)
 refine jQ ?_
 exact zqe
def amO{i:Int}(hb:aZ e≤68719476736):aE prog 21 [(true,[sl .v (e.Store.aC5.map (aG p1 p2)),val (vI e.Store.Now),val (vI e.aDa),sl .v (e.Order.map ar),sl .v (e.aC6.map (aO p5 p6 p7 p8 p9)),sl .v (e.Done.map (bd p11 p12 p13 p14)),sl .v (e.aDi.map (ba p16 p17 p18)),val (vI e.Steps)]),(false,[val (vI i)])] (aA [(false,[val (.bool (yl e i))])]):=by
 refine sF func21 fun h0 w0 Fz0=>?_
 refine sn 0 0 fun hl0_0=>?_
 refine sn 0 3 fun hl0_3=>?_
 refine sn 0 4 fun hl0_4=>?_
 refine sn 0 5 fun hl0_5=>?_
 refine sn 0 6 fun hl0_6=>?_
 refine io ?_
 refine DM ?_
 refine zF ?_
 refine dq ?_
 refine cx 9 ?_ ?_<;>intro ga sga
 refine gY ?_
 exact zqh
 refine fI ?_
 refine rB ga ?_ (x:=lF gP)
 refine rB ga ?_ (x:=lD [sl .v _] fe)
 refine rB ga ?_ (x:=lN cY)
 refine rB ga ?_ (x:=hP)
 refine JA ?_
 refine sc ?_ ?_<;>intro hba
 exact zqh
 have hok:aU e=true∧aF i 0 (e.aC6.length - 1)=true:=Gu
 have hin:=hok.2
 simp only [aF,aR,decide_eq_true_eq] at hin
 have hil:i.toNat < e.aC6.length:=ab
 have hgd:=dM (d:=jS) hil
 refine aK ?_
 refine sS [1,2,4] [2] ?_
 refine ry ?_
 refine rM ?_
 refine rA ?_ (x:=aS (k:=i.toNat) ak cY ao MK (by exact eQ hil rfl) aj)
 refine zqi ?_
 refine Pu ?_
 refine sV [1,2,4,5] [2] [5] ?_
 refine rA ?_ (x:=lF Bi)
 refine eJ ?_
 refine iC ?_
 refine cx 26 ?_ ?_<;>intro gb sgb
 refine tx ?_
 exact zqk
 refine rB gb ?_ (x:=lF uq)
 refine ou ?_
 refine rB gb ?_ (x:=lF Bi)
 refine ou ?_
 refine rB gb ?_ (x:=xc)
 refine ql ?_
 exact zqk
def awA(hb:aZ e≤68719476736):et prog gl 16 [(true,[sl .v (e.Store.aC5.map (aG p1 p2)),val (vI e.Store.Now),val (vI e.aDa),sl .v (e.Order.map ar),sl .v (e.aC6.map (aO p5 p6 p7 p8 p9)),sl .v (e.Done.map (bd p11 p12 p13 p14)),sl .v (e.aDi.map (ba p16 p17 p18)),val (vI e.Steps)])] (aA [(false,[sl jG ((eg e).map fm)])]):=by
 refine im (rs:=[(false,[sl jG ((eg e).map fm)])]) func16 rfl (nl rfl) aQ ?_
 intro h0 w0 Fz0
 refine sn 0 0 fun hl0_0=>?_
 refine sn 0 3 fun hl0_3=>?_
 refine sn 0 4 fun hl0_4=>?_
 refine sn 0 5 fun hl0_5=>?_
 refine sn 0 6 fun hl0_6=>?_
 have hbu:=hb
 simp only [aZ,fk] at hbu
 refine zql ?_
 refine sT [1,2,7000] [1] ?_
 refine Dh ?_
 refine AJ ?_
 refine Ea ?_
 refine sc ?_ ?_<;>intro hba
 have hok:aU e=false:=cR
 refine AJ ?_
 refine jN ?_
 exact (aI (by refine bC ?_;rw [alz hok];rfl) tI)
 have hok:aU e=true:=cR
 refine cg ?_
 refine AJ ?_
 refine tJ ?_
 refine sP [1,2,3,13,14,15,7000] [1] ?_
 refine sL [1,2,13,14,7000] [1] (fun k:Nat=>k≤e.aC6.length) (fun k:Nat=>[(3,RV.slc jG (((e.aC6.take k).map lP).map fm)),(15,RV.int (k:Int))]) (fun k:Nat=>[]) (fun k:Nat=>e.aC6.length - k) 0 ab ej ao ?_
 rintro k hk
 refine bP ?_
 refine sc ?_ ?_<;>intro hbb
 have hlt:k < e.aC6.length:=ab
 have hwm:=dK (f:=dW) hlt
 have hwa:dW e.aC6[k]=eS e.aC6[k].aC7+e.aC6[k].aDf.length+iQ e.aC6[k].Rows:=yU
 have hef:=gu hok
 have hac:=SV (hef.2.2.2.2.2.2.2.2.2.1 _ (List.getElem_mem hlt))
 have hsf:=iE hef.1
 have hi0:(itoa e.aC6[k].aC7.Id).length≤21:=bv br
 have hi1:(itoa e.aC6[k].Time).length≤21:=bv br
 have hi2:(itoa (e.aC6[k].aDf.length:Int)).length≤21:=bv br
 have hi3:(itoa (e.aC6[k].Rows.length:Int)).length≤21:=bv br
 have htk:(e.aC6.take k).length=k:=dh
 refine aY ?_
 refine sT [1,2,3,13,14,15,7000] [1] ?_
 refine AA ?_
 refine bg ?_
 refine sU [1,2,3,5,13,14,15,7000] [1] [5] ?_
 refine cJ ?_
 refine dA 0 ?_ (x:=lF kx)
 refine dA 1 ?_ (x:=lF jf)
 refine dA 3 ?_ (x:=lD [val _] aV)
 refine zqo ?_
 refine dA 0 ?_ (x:=lF ww)
 refine dA 32 ?_ (x:=lD [val _] aV)
 refine dA 111 ?_ (x:=gL aM aM jV (hs:=jE))
 refine IR ?_
 refine dA 0 ?_ (x:=lF lS)
 refine dA 1024 ?_ (x:=lD [sl .v _] bZ)
 refine dA 3072 ?_ (x:=lN bY)
 refine dA 7407 ?_ (x:=gL aM aM jV (hs:=jE))
 refine Rb ?_
 refine dA 0 ?_ (x:=lF py)
 refine dA 65536 ?_ (x:=lD [sl .v _] iU)
 refine dA 196608 ?_ (x:=lN iu)
 refine dA 474351 ?_ (x:=gL aM aM jV (hs:=jE))
 refine dA 1048575 ?_ (x:=cZ)
 refine dA 2097151 ?_ (x:=sA)
 refine bg ?_
 refine sS [1,2,3,5,6,13,14,15,7000] [1,5] ?_
 refine zqr ?_
 refine eZ ?_
 refine sc ?_ ?_<;>intro hbc
 have haw:kY e.aC6[k]=false:=Xy
 have hla:=aly haw
 refine sG [1,2,3,5,6,13,14,15,7000] [1,5] ?_
 refine rF ?_
 refine rS ?_
 exact zqs
 have haw:kY e.aC6[k]=true:=Xy
 have hla:=alx haw
 refine aK ?_
 exact zqs
 have hend:k=e.aC6.length:=ab
 refine be ?_
 refine sT [1,2,3,13,14,15,7000] [1] ?_
 refine jN ?_
 exact (aI (by refine bC ?_;rw [EL hok,hend,bG]) tI)
def awB(hb:aZ e≤68719476736):aE prog 17 [(true,[sl .v (e.Store.aC5.map (aG p1 p2)),val (vI e.Store.Now),val (vI e.aDa),sl .v (e.Order.map ar),sl .v (e.aC6.map (aO p5 p6 p7 p8 p9)),sl .v (e.Done.map (bd p11 p12 p13 p14)),sl .v (e.aDi.map (ba p16 p17 p18)),val (vI e.Steps)])] (aA [(false,[sl jG ((eg e).map fm)])]):=by
 refine sF func17 fun h0 w0 Fz0=>?_
 refine sn 0 0 fun hl0_0=>?_
 refine sn 0 3 fun hl0_3=>?_
 refine sn 0 4 fun hl0_4=>?_
 refine sn 0 5 fun hl0_5=>?_
 refine sn 0 6 fun hl0_6=>?_
 have hbu:=hb
 simp only [aZ,fk] at hbu
 refine zql ?_
 refine sT [1,2] [1] ?_
 refine Dh ?_
 refine xx ?_
 refine sL [1,2] [1] (fun k:Nat=>k≤e.aC6.length∧(0 < k→aU e=true)) (fun k:Nat=>[(3,RV.slc jG (((e.aC6.take k).map lP).map fm)),(4,RV.int (k:Int))]) (fun k:Nat=>[]) (fun k:Nat=>e.aC6.length - k) 0 uL ej ao ?_
 rintro k ⟨hk,ha⟩
 refine bI ?_
 refine Di ?_
 refine kQ ?_
 refine cx 13 ?_ ?_<;>intro ga sga
 refine zqt ?_
 refine iq ?_
 refine sc ?_ ?_<;>intro hba
 have hok:aU e=true:=cS
 have hlt:k < e.aC6.length:=me
 have haw0:=alu hok hlt
 have hwm:=dK (f:=dW) hlt
 have hwa:dW e.aC6[k]=eS e.aC6[k].aC7+e.aC6[k].aDf.length+iQ e.aC6[k].Rows:=yU
 have hef:=gu hok
 have hac:=SV (hef.2.2.2.2.2.2.2.2.2.1 _ (List.getElem_mem hlt))
 have hsf:=iE hef.1
 have hi0:(itoa e.aC6[k].aC7.Id).length≤21:=bv br
 have hi1:(itoa e.aC6[k].Time).length≤21:=bv br
 have hi2:(itoa (e.aC6[k].aDf.length:Int)).length≤21:=bv br
 have hi3:(itoa (e.aC6[k].Rows.length:Int)).length≤21:=bv br
 have htk:(e.aC6.take k).length=k:=dh
 refine aY ?_
 refine sT [1,2,3,4] [1] ?_
 refine ry ?_
 refine rM ?_
 refine AA ?_
 refine bg ?_
 refine sU [1,2,3,4,5] [1] [5] ?_
 refine cJ ?_
 refine dA 0 ?_ (x:=lF kx)
 refine dA 1 ?_ (x:=lF jf)
 refine dA 3 ?_ (x:=lD [val _] aV)
 refine zqu ?_
 refine dA 0 ?_ (x:=lF ww)
 refine dA 32 ?_ (x:=lD [val _] aV)
 refine dA 111 ?_ (x:=cL aM aM iG (hs:=iw))
 refine IR ?_
 refine dA 0 ?_ (x:=lF lS)
 refine dA 1024 ?_ (x:=lD [sl .v _] bZ)
 refine dA 3072 ?_ (x:=lN bY)
 refine dA 7407 ?_ (x:=cL aM aM iG (hs:=iw))
 refine Rb ?_
 refine dA 0 ?_ (x:=lF py)
 refine dA 65536 ?_ (x:=lD [sl .v _] iU)
 refine dA 196608 ?_ (x:=lN iu)
 refine dA 474351 ?_ (x:=cL aM aM iG (hs:=iw))
 refine dA 1048575 ?_ (x:=cZ)
 refine dA 2097151 ?_ (x:=sA)
 refine bg ?_
 refine sS [1,2,3,4,5,6] [1,5] ?_
 refine Dk ?_
 refine rA ?_ (x:=cL lz kK alZ (hs:=by exact (amO ab)))
 refine eZ ?_
 refine sc ?_ ?_<;>intro hbb
 have haw:kY e.aC6[k]=false:=Xz
 have hla:=aly haw
 refine sG [1,2,3,4,5,6] [1,5] ?_
 refine rF ?_
 refine rS ?_
 exact zqw
 have haw:kY e.aC6[k]=true:=Xz
 have hla:=alx haw
 refine aK ?_
 exact zqw
 exact zqx
 refine nt ?_
 exact zqx
end Go.Proofs.YtmekkgdboplbjaaGreatDoor
