/- What functions of the program compute. No condition. -/
import Derived.Test.YtmekkgdboplbjaaGreatDoorDD0
import Derived.Test.YtmekkgdboplbjaaGreatDoorDF0
set_option linter.all false
namespace Go.Proofs.YtmekkgdboplbjaaGreatDoor
open Go Go.RowKit M PV Tryz
set_option maxRecDepth 10000
attribute [local irreducible] PV.Lcl PV.LclR RV.Lcl
def WX{n:Int}{l:Int}{h:Int}:aS prog 74 [(false,[val (vI n)]),(false,[val (vI l)]),(false,[val (vI h)])] (aJ [(false,[val (.bool (aE n l h))])]):=by
 refine sF func74 fun h0 w0 Fz0=>?_
 exact HZ
def Ec{n:Int}{l:Int}{h:Int}:aS prog 75 [(false,[val (vI n)]),(false,[val (vI l)]),(false,[val (vI h)])] (aJ [(false,[val (.bool (aE n l h))])]):=by
 refine sF func75 fun h0 w0 Fz0=>?_
 exact HZ
def Ed{n:Int}:aS prog 176 [(false,[val (vI n)])] (aJ [(false,[val (.bool (aE n 0 2))])]):=by
 refine sF func176 fun h0 w0 Fz0=>?_
 refine mx ?_
 refine kF ?_
 refine Ld ?_
 exact AG
def Oj{xs:List Int}{x:Int}:aS prog 227 [(false,[sl .v (xs.map ax)]),(false,[val (vI x)])] (aJ [(false,[val (.bool (eR xs x))])]):=by
 refine sF func227 fun h0 w0 Fz0=>?_
 refine sj 0 fun hl0=>?_
 refine uQ ?_
 refine sB ?_
 refine sP [0,1,4,7,8,9] [] ?_
 refine sL [0,1,7,8] [] (fun k:Nat=>k≤xs.length∧(xs.take k).any (fun y=>y==x)=false) (fun k:Nat=>[(9,RV.int (k:Int))]) (fun k:Nat=>[]) (fun k:Nat=>xs.length - k) 0 kt cb au ?_
 rintro k ⟨hk,ha⟩
 refine bO ?_
 refine sc ?_ ?_<;>intro hba
 have hlt:k < xs.length:=ab
 refine bA ?_
 refine sS [0,1,7,8,9] [] ?_
 refine oL ?_
 refine sS [0,1,6,7,8,9] [] ?_
 refine fv ?_
 refine jw ?_
 refine sc ?_ ?_<;>intro hbb
 refine sS [0,1,6,7,8,9] [] ?_
 refine bG ?_
 exact rb ((qA (P:=fun y=>y==x) hlt (by simpa using ‹_=x›)).symm)
 refine bd ?_
 refine sG [0,1,6,7,8,9] [] ?_
 refine cf ?_
 refine nx (k+1) (by exact ⟨ab,sW ha ‹_› (by simpa using ‹¬_›)⟩)
 refine bv ?_
 refine sS [0,1,7,8,9] [] ?_
 refine bG ?_
 exact rb (by exact (MD (by rw [show xs.length=k by omega];exact ha)).symm)
def WY{x:List Int}(hb:x.length≤68719476736):aS prog 172 [(false,[sl .v (x.map ax)])] (aJ [(false,[sl ak (x.map ax)])]):=by
 refine sF func172 fun h0 w0 Fz0=>?_
 refine sj 0 fun hl0=>?_
 refine BY ?_
 refine kF ?_
 refine LP ?_
 refine fc ?_
 refine rA ?_ (x:=ue ae ej nL rfl rfl ae wm Gc ck ck)
 refine fY ?_
 exact AH
def Ee{x:Row}:aS prog 170 [(true,[val (vI x.Id),sl .v (x.Values.map ax)])] (aJ [(false,[val (.bool (bf x))])]):=by
 refine sF func170 fun h0 w0 Fz0=>?_
 refine sn 0 1 fun hl0_1=>?_
 refine qg ?_
 refine oG ?_
 refine rA ?_ (x:=lF lI)
 refine sC ?_
 refine sP [1,2,6,7,8] [1] ?_
 refine sL [1,6,7] [1] (fun k:Nat=>k≤x.Values.length∧(x.Values.take k).all ja=true) (fun k:Nat=>[(8,RV.int (k:Int))]) (fun k:Nat=>[]) (fun k:Nat=>x.Values.length - k) 0 kt cb au ?_
 rintro k ⟨hk,ha⟩
 refine bO ?_
 refine sc ?_ ?_<;>intro hba
 have hlt:k < x.Values.length:=ab
 refine bA ?_
 refine sT [1,6,7,8] [1] ?_
 refine oL ?_
 refine sS [1,4,6,7,8] [1] ?_
 refine Ld ?_
 refine fw ?_
 refine sc ?_ ?_<;>intro hbb
 have hno:ja x.Values[k]=false:=wt
 refine sS [1,4,6,7,8] [1] ?_
 exact Ia
 have hyes:ja x.Values[k]=true:=wt
 refine bd ?_
 refine sG [1,4,6,7,8] [1] ?_
 exact ur
 have hall:x.Values.all ja=true:=kH Gs
 refine bv ?_
 refine sT [1,6,7,8] [1] ?_
 refine rA ?_ (x:=lF mM)
 refine qt ?_
 refine cx 19 (fun ga sga=>?_) (fun ga sga=>?_)
 exact Ic
 refine iA ?_
 exact AJ
def Ok{x:Row}:aS prog 98 [(true,[val (vI x.Id),sl .v (x.Values.map ax)])] (aJ [(false,[val (.bool (bf x))])]):=by
 refine sF func98 fun h0 w0 Fz0=>?_
 refine sn 0 1 fun hl0_1=>?_
 refine qg ?_
 refine oG ?_
 refine iY ?_
 refine sP [1,2,3] [1] ?_
 refine sL [1] [1] (fun k:Nat=>k≤x.Values.length∧(x.Values.take k).all ja=true) (fun k:Nat=>[(3,RV.int (k:Int))]) (fun k:Nat=>[]) (fun k:Nat=>x.Values.length - k) 0 kt cb au ?_
 rintro k ⟨hk,ha⟩
 refine jU ?_
 refine rA ?_ (x:=lF lI)
 refine qi ?_
 refine fx ?_
 refine sc ?_ ?_<;>intro hba
 have hlt:k < x.Values.length:=ab
 refine bA ?_
 refine sT [1,3] [1] ?_
 refine xO ?_
 refine rM ?_
 refine qd ?_
 refine La ?_
 refine sc ?_ ?_<;>intro hbb
 have hno:ja x.Values[k]=false:=wt
 refine sS [1,3] [1] ?_
 exact Ia
 have hyes:ja x.Values[k]=true:=wt
 refine bd ?_
 refine sG [1,3] [1] ?_
 exact AK
 have hall:x.Values.all ja=true:=kH Gs
 refine bv ?_
 refine sT [1,3] [1] ?_
 refine nD ?_
 refine BF ?_
 refine cx 21 (fun ga sga=>?_) (fun ga sga=>?_)
 exact Ic
 refine iA ?_
 exact AJ
def WZ{p1:Fl}{x:List Row}:aS prog 177 [(false,[sl .v (x.map (cg p1))])] (aJ [(false,[val (.bool (x.all bf))])]):=by
 refine sF func177 fun h0 w0 Fz0=>?_
 refine sj 0 fun hl0=>?_
 refine oI ?_
 refine nC ?_
 refine dM ?_
 refine sP [0,2,5,6,7] [] ?_
 refine sL [0,5,6] [] (fun k:Nat=>k≤x.length∧(x.take k).all bf=true) (fun k:Nat=>[(7,RV.int (k:Int))]) (fun k:Nat=>[]) (fun k:Nat=>x.length - k) 0 kt cb au ?_
 rintro k ⟨hk,ha⟩
 refine bO ?_
 refine sc ?_ ?_<;>intro hba
 have hlt:k < x.length:=ab
 refine bA ?_
 refine sS [0,5,6,7] [] ?_
 refine uB ?_
 refine uA ?_
 refine sT [0,4,5,6,7] [4] ?_
 refine xG ?_
 refine fw ?_
 refine sc ?_ ?_<;>intro hbb
 have hno:bf x[k]=false:=by simpa [] using hbb
 refine sS [0,4,5,6,7] [4] ?_
 refine bG ?_
 exact rb (by simp [id,mC (P:=bf) hlt hno])
 have hyes:bf x[k]=true:=by simpa [] using hbb
 refine bd ?_
 refine sG [0,4,5,6,7] [4] ?_
 exact ur
 have hall:x.all bf=true:=kH zX
 refine bv ?_
 refine sS [0,5,6,7] [] ?_
 refine bG ?_
 exact rb (by simp [id,hall, *])
def Xa{p1:Fl}{x:List Row}:aS prog 87 [(false,[sl .v (x.map (cg p1))])] (aJ [(false,[val (.bool (fZ x))])]):=by
 refine sF func87 fun h0 w0 Fz0=>?_
 refine sj 0 fun hl0=>?_
 refine mx ?_
 refine kF ?_
 refine nC ?_
 refine rA ?_ (x:=nq)
 refine rM ?_
 refine cx 6 (fun ga sga=>?_) (fun ga sga=>?_)
 refine Lu ?_
 refine jx ?_
 exact Ie
 refine iA ?_
 exact Ie
def Xb{x:Row}(hb:gx x≤68719476736):aS prog 283 [(true,[val (vI x.Id),sl .v (x.Values.map ax)])] (aJ [(true,[val (vI x.Id),sl ak (x.Values.map ax)])]):=by
 refine sF func283 fun h0 w0 Fz0=>?_
 refine sn 0 1 fun hl0_1=>?_
 have hbu:=hb
 simp only [gx,fy,aX] at hbu
 refine qg ?_
 refine Ci ?_
 refine ql ?_
 refine dA 0 ?_ (x:=lF mM)
 refine uU ?_
 refine dA 0 ?_ (x:=lF lI)
 refine Lo ?_
 refine dA 31 ?_ (x:=dZ (qs:=[(false,[val _]),(false,[sl _ _])]) (cs:=cO) ae lK qF MR aj mc rfl aj)
 exact Ig
def Ol{x:Row}(hb:gx x≤68719476736):aS prog 102 [(true,[val (vI x.Id),sl .v (x.Values.map ax)])] (aJ [(true,[val (vI x.Id),sl ak (x.Values.map ax)])]):=by
 refine sF func102 fun h0 w0 Fz0=>?_
 refine sn 0 1 fun hl0_1=>?_
 have hbu:=hb
 simp only [gx,fy,aX] at hbu
 refine qg ?_
 refine Ci ?_
 refine ql ?_
 refine dA 0 ?_ (x:=lF mM)
 refine uU ?_
 refine dA 0 ?_ (x:=dq (qs:=[]) ae ej nL ae rfl rfl rfl rfl rfl aH au rfl)
 refine dA 0 ?_ (x:=lF lI)
 refine dA 8 ?_ (x:=lD [sl .v _] ek)
 refine dA 28 ?_ (x:=ue ae ej nL rfl rfl ae wm Gc ck ck)
 refine dA 63 ?_ (x:=dZ (qs:=[(false,[val _]),(false,[sl _ _])]) (cs:=cO) ae lK qF MR aj mc rfl aj)
 refine dA 127 ?_ (x:=bZ (ag:=true) (vs:=cO) gM au aj aH)
 exact If
def Om{p1:Fl}{x:List Row}(hb:eg x≤68719476736):aS prog 246 [(false,[sl .v (x.map (cg p1))])] (aJ [(false,[sl bc (x.map (cg ak))])]):=by
 refine sF func246 fun h0 w0 Fz0=>?_
 refine sj 0 fun hl0=>?_
 have hbu:=hb
 simp only [eg] at hbu
 refine sR ?_
 refine LM ?_
 refine uC ?_
 refine aU ?_
 refine sS [0,2,3] [] ?_
 refine nC ?_
 refine dM ?_
 refine sP [0,2,3,7,8,9] [] ?_
 refine sL [0,2,7,8] [] (fun k:Nat=>k≤x.length) (fun k:Nat=>[(3,RV.slc bc ((x.take k).map (cg ak))),(9,RV.int (k:Int))]) (fun k:Nat=>[]) (fun k:Nat=>x.length - k) 0 ab rj au ?_
 rintro k hk
 refine bO ?_
 refine sc ?_ ?_<;>intro hba
 have hlt:k < x.length:=ab
 have hwm:=gw (f:=gx) hlt
 have htl:(x.take k).length=k:=fR
 refine bA ?_
 refine sS [0,2,3,7,8,9] [] ?_
 refine uB ?_
 refine uA ?_
 refine sH [0,2,3,5,7,8,9] [5] ?_
 refine bW ?_
 refine qw ?_
 refine rA ?_ (x:=cL [(true,cO)] [(true,dK)] TT (hs:=by exact Xb ab))
 refine uS ?_
 refine sG [0,2,3,5,7,8,9] [5] ?_
 refine cf ?_
 refine nx (k+1) ab (e:=(by exact aI (by exact cU (by rw [sZ hlt,bL];rfl)) (aI aj tI)))
 have hend:k=x.length:=ab
 refine bv ?_
 refine sS [0,2,3,7,8,9] [] ?_
 exact xi
end Go.Proofs.YtmekkgdboplbjaaGreatDoor
