/- What functions of the program compute. No condition. -/
import Derived.Test.YtmekkgdboplbjaaGreatDoorED0
import Derived.Test.YtmekkgdboplbjaaGreatDoorEF0
set_option linter.all false
namespace Go.Proofs.YtmekkgdboplbjaaGreatDoor
open Go Go.RowKit M PV Tryz
set_option maxRecDepth 10000
attribute [local irreducible] PV.Lcl PV.LclR RV.Lcl
def arf{n:Int}{l:Int}{h:Int}:aQ prog 74 [(false,[val (vI n)]),(false,[val (vI l)]),(false,[val (vI h)])] (aB [(false,[val (.bool (aK n l h))])]):=by
 refine sF func74 fun h0 w0 Fz0=>?_
 exact XL
def arh{n:Int}{l:Int}{h:Int}:aQ prog 75 [(false,[val (vI n)]),(false,[val (vI l)]),(false,[val (vI h)])] (aB [(false,[val (.bool (aK n l h))])]):=by
 refine sF func75 fun h0 w0 Fz0=>?_
 exact XL
def RS{n:Int}:aQ prog 176 [(false,[val (vI n)])] (aB [(false,[val (.bool (aK n 0 2))])]):=by
 refine sF func176 fun h0 w0 Fz0=>?_
 refine wW ?_
 refine zcd ?_
 exact MA
def ari{xs:List Int}{x:Int}:aQ prog 230 [(false,[sl .v (xs.map ar)]),(false,[val (vI x)])] (aB [(false,[val (.bool (cv xs x))])]):=by
 refine sF func230 fun h0 w0 Fz0=>?_
 refine sj 0 fun hl0=>?_
 refine ti ?_
 refine cl ?_
 refine sP [0,1,4,5] [] ?_
 refine sL [0,1] [] (fun k:Nat=>k≤xs.length∧(xs.take k).any (fun y=>y==x)=false) (fun k:Nat=>[(5,RV.int (k:Int))]) (fun k:Nat=>[]) (fun k:Nat=>xs.length - k) 0 iG bp an ?_
 rintro k ⟨hk,ha⟩
 refine oH ?_
 refine sc ?_ ?_<;>intro hba
 have hlt:k < xs.length:=ab
 refine bv ?_
 refine sS [0,1,5] [] ?_
 refine xb ?_
 refine zB ?_
 refine sc ?_ ?_<;>intro hbb
 refine sS [0,1,5] [] ?_
 exact XM
 refine zo ?_
 refine cB ?_
 exact XN
 refine Ir ?_
 exact XO
def ai7{xs:List Int}{x:Int}:aQ prog 227 [(false,[sl .v (xs.map ar)]),(false,[val (vI x)])] (aB [(false,[val (.bool (cv xs x))])]):=by
 refine sF func227 fun h0 w0 Fz0=>?_
 refine sj 0 fun hl0=>?_
 refine ti ?_
 refine zH ?_
 refine sP [0,1,4,7,8,9] [] ?_
 refine sL [0,1,7,8] [] (fun k:Nat=>k≤xs.length∧(xs.take k).any (fun y=>y==x)=false) (fun k:Nat=>[(9,RV.int (k:Int))]) (fun k:Nat=>[]) (fun k:Nat=>xs.length - k) 0 iG bp an ?_
 rintro k ⟨hk,ha⟩
 refine cY ?_
 refine sc ?_ ?_<;>intro hba
 have hlt:k < xs.length:=ab
 refine bv ?_
 refine sS [0,1,7,8,9] [] ?_
 refine xf ?_
 refine sS [0,1,6,7,8,9] [] ?_
 refine fB ?_
 refine oK ?_
 refine sc ?_ ?_<;>intro hbb
 refine sS [0,1,6,7,8,9] [] ?_
 exact XM
 refine ba ?_
 refine sG [0,1,6,7,8,9] [] ?_
 refine dI ?_
 exact XN
 refine bI ?_
 refine sS [0,1,7,8,9] [] ?_
 exact XO
def arj{x:List Int}(hb:x.length≤68719476736):aQ prog 172 [(false,[sl .v (x.map ar)])] (aB [(false,[sl ai (x.map ar)])]):=by
 refine sF func172 fun h0 w0 Fz0=>?_
 refine sj 0 fun hl0=>?_
 refine sY ?_
 refine nJ ?_
 refine zcv ?_
 refine dJ ?_
 exact yK
def RT{x:Row}:aQ prog 170 [(true,[val (vI x.Id),sl .v (x.Values.map ar)])] (aB [(false,[val (.bool (bM x))])]):=by
 refine sF func170 fun h0 w0 Fz0=>?_
 refine sn 0 1 fun hl0_1=>?_
 refine wz ?_
 refine ma ?_
 refine xi ?_
 refine wy ?_
 refine fK ?_
 refine sP [1,2,6,7,8] [1] ?_
 refine sL [1,6,7] [1] (fun k:Nat=>k≤x.Values.length∧(x.Values.take k).all me=true) (fun k:Nat=>[(8,RV.int (k:Int))]) (fun k:Nat=>[]) (fun k:Nat=>x.Values.length - k) 0 iG bp an ?_
 rintro k ⟨hk,ha⟩
 refine cY ?_
 refine sc ?_ ?_<;>intro hba
 have hlt:k < x.Values.length:=ab
 refine bv ?_
 refine sT [1,6,7,8] [1] ?_
 refine xf ?_
 refine sS [1,4,6,7,8] [1] ?_
 refine zcd ?_
 refine gx ?_
 refine sc ?_ ?_<;>intro hbb
 have hno:me x.Values[k]=false:=EN
 refine sS [1,4,6,7,8] [1] ?_
 exact XP
 have hyes:me x.Values[k]=true:=EN
 refine ba ?_
 refine sG [1,4,6,7,8] [1] ?_
 exact BE
 have hall:x.Values.all me=true:=mc Vx
 refine bI ?_
 refine sT [1,6,7,8] [1] ?_
 refine rA ?_ (x:=lF mU)
 refine xg ?_
 refine cx 19 ?_ ?_<;>intro ga sga
 exact XR
 refine mO ?_
 exact MB
def RU{x:Row}:aQ prog 98 [(true,[val (vI x.Id),sl .v (x.Values.map ar)])] (aB [(false,[val (.bool (bM x))])]):=by
 refine sF func98 fun h0 w0 Fz0=>?_
 refine sn 0 1 fun hl0_1=>?_
 refine wz ?_
 refine ma ?_
 refine CM ?_
 refine sL [1] [1] (fun k:Nat=>k≤x.Values.length∧(x.Values.take k).all me=true) (fun k:Nat=>[(3,RV.int (k:Int))]) (fun k:Nat=>[]) (fun k:Nat=>x.Values.length - k) 0 iG bp an ?_
 rintro k ⟨hk,ha⟩
 refine cP ?_
 refine xi ?_
 refine wy ?_
 refine dQ ?_
 refine sc ?_ ?_<;>intro hba
 have hlt:k < x.Values.length:=ab
 refine bv ?_
 refine sT [1,3] [1] ?_
 refine xi ?_
 refine uO ?_
 refine rM ?_
 refine yQ ?_
 refine zdc ?_
 refine sc ?_ ?_<;>intro hbb
 have hno:me x.Values[k]=false:=EN
 refine sS [1,3] [1] ?_
 exact XP
 have hyes:me x.Values[k]=true:=EN
 refine CN ?_
 exact wo
 have hall:x.Values.all me=true:=mc Vx
 refine Iv ?_
 refine rA ?_ (x:=lF mU)
 refine Cc ?_
 refine rM ?_
 refine cx 21 ?_ ?_<;>intro ga sga
 exact XR
 refine mO ?_
 exact MB
def ark{p1:Fl}{x:List Row}:aQ prog 177 [(false,[sl .v (x.map (cD p1))])] (aB [(false,[val (.bool (x.all bM))])]):=by
 refine sF func177 fun h0 w0 Fz0=>?_
 refine sj 0 fun hl0=>?_
 refine zi ?_
 refine uy ?_
 refine fK ?_
 refine sP [0,2,5,6,7] [] ?_
 refine sL [0,5,6] [] (fun k:Nat=>k≤x.length∧(x.take k).all bM=true) (fun k:Nat=>[(7,RV.int (k:Int))]) (fun k:Nat=>[]) (fun k:Nat=>x.length - k) 0 iG bp an ?_
 rintro k ⟨hk,ha⟩
 refine cY ?_
 refine sc ?_ ?_<;>intro hba
 have hlt:k < x.length:=ab
 refine bv ?_
 refine sS [0,5,6,7] [] ?_
 refine Hq ?_
 refine yX ?_
 refine sT [0,4,5,6,7] [4] ?_
 refine Ht ?_
 refine gx ?_
 refine sc ?_ ?_<;>intro hbb
 have hno:bM x[k]=false:=ES
 refine sS [0,4,5,6,7] [4] ?_
 refine ca ?_
 exact rb (by simp [id,oM (P:=bM) hlt hno])
 have hyes:bM x[k]=true:=ES
 refine ba ?_
 refine sG [0,4,5,6,7] [4] ?_
 exact BE
 have hall:x.all bM=true:=mc Fo
 refine bI ?_
 refine sS [0,5,6,7] [] ?_
 refine ca ?_
 exact rb (by simp [id,hall, *])
def ai8{p1:Fl}{x:List Row}:aQ prog 87 [(false,[sl .v (x.map (cD p1))])] (aB [(false,[val (.bool (pQ x))])]):=by
 refine sF func87 fun h0 w0 Fz0=>?_
 refine sj 0 fun hl0=>?_
 refine wW ?_
 refine uy ?_
 refine rA ?_ (x:=kf)
 refine rM ?_
 refine cx 6 ?_ ?_<;>intro ga sga
 refine zR ?_
 refine rB ga ?_ (x:=cL [(false,[sl _ _])] [(false,[sl .v _])] an3 (hs:=by exact ark))
 refine jq ?_
 exact XS
 refine mO ?_
 exact XS
def ai9{p1:Fl}{x:List Row}:aQ prog 91 [(false,[sl .v (x.map (cD p1))])] (aB [(false,[val (.bool (pQ x))])]):=by
 refine sF func91 fun h0 w0 Fz0=>?_
 refine sj 0 fun hl0=>?_
 refine zI ?_
 refine sL [0] [] (fun k:Nat=>k≤x.length∧(x.take k).all bM=true) (fun k:Nat=>[(3,RV.int (k:Int))]) (fun k:Nat=>[]) (fun k:Nat=>x.length - k) 0 iG bp an ?_
 rintro k ⟨hk,ha⟩
 refine cP ?_
 refine CP ?_
 refine sc ?_ ?_<;>intro hba
 have hlt:k < x.length:=ab
 refine bv ?_
 refine sS [0,3] [] ?_
 refine pz ?_
 refine Hq ?_
 refine zdq ?_
 refine gx ?_
 refine sc ?_ ?_<;>intro hbb
 have hno:bM x[k]=false:=ES
 refine zC ?_
 exact rb (by simp [pQ,oM (P:=bM) hlt hno])
 have hyes:bM x[k]=true:=ES
 refine wR ?_
 exact wo
 have hall:x.all bM=true:=mc Fo
 refine wS ?_
 refine uy ?_
 refine rA ?_ (x:=kf)
 refine db ?_
 exact rb (by simp [pQ,hall, *])
def arl{x:Row}(hb:jr x≤68719476736):aQ prog 283 [(true,[val (vI x.Id),sl .v (x.Values.map ar)])] (aB [(true,[val (vI x.Id),sl ai (x.Values.map ar)])]):=by
 refine sF func283 fun h0 w0 Fz0=>?_
 refine sn 0 1 fun hl0_1=>?_
 have hbu:=hb
 simp only [jr,gj,bo] at hbu
 refine wz ?_
 refine HJ ?_
 refine Hz ?_
 refine dA 0 ?_ (x:=lF mU)
 refine xk ?_
 refine zS ?_
 refine zdx ?_
 refine dA 31 ?_ (x:=cy (qs:=[(false,[val _]),(false,[sl _ _])]) (cs:=ct) aj jJ mV ahw ak ip rfl ak)
 exact XU
def aja{x:Row}(hb:jr x≤68719476736):aQ prog 102 [(true,[val (vI x.Id),sl .v (x.Values.map ar)])] (aB [(true,[val (vI x.Id),sl ai (x.Values.map ar)])]):=by
 refine sF func102 fun h0 w0 Fz0=>?_
 refine sn 0 1 fun hl0_1=>?_
 have hbu:=hb
 simp only [jr,gj,bo] at hbu
 refine wz ?_
 refine HJ ?_
 refine Hz ?_
 refine dA 0 ?_ (x:=lF mU)
 refine xk ?_
 refine tm ?_
 refine zS ?_
 refine dA 8 ?_ (x:=lD [sl .v _] cW)
 refine dA 28 ?_ (x:=lU aj cn iP rfl rfl aj oo sk bq bq)
 refine dA 63 ?_ (x:=cy (qs:=[(false,[val _]),(false,[sl _ _])]) (cs:=ct) aj jJ mV ahw ak ip rfl ak)
 refine dA 127 ?_ (x:=bV (ag:=true) (vs:=ct) ju an ak az)
 exact XT
def ajb{p1:Fl}{x:List Row}(hb:iN x≤68719476736):aQ prog 246 [(false,[sl .v (x.map (cD p1))])] (aB [(false,[sl aL (x.map (cD ai))])]):=by
 refine sF func246 fun h0 w0 Fz0=>?_
 refine sj 0 fun hl0=>?_
 have hbu:=hb
 simp only [iN] at hbu
 refine Pd ?_
 refine nJ ?_
 refine Hr ?_
 refine aU ?_
 refine sS [0,2,3] [] ?_
 refine uy ?_
 refine fK ?_
 refine sP [0,2,3,7,8,9] [] ?_
 refine sL [0,2,7,8] [] (fun k:Nat=>k≤x.length) (fun k:Nat=>[(3,RV.slc aL ((x.take k).map (cD ai))),(9,RV.int (k:Int))]) (fun k:Nat=>[]) (fun k:Nat=>x.length - k) 0 ab vV an ?_
 rintro k hk
 refine cY ?_
 refine sc ?_ ?_<;>intro hba
 have hlt:k < x.length:=ab
 have hwm:=fg (f:=jr) hlt
 have htl:(x.take k).length=k:=fb
 refine bv ?_
 refine sS [0,2,3,7,8,9] [] ?_
 refine Hq ?_
 refine yX ?_
 refine sH [0,2,3,5,7,8,9] [5] ?_
 refine cb ?_
 refine zT ?_
 refine rA ?_ (x:=cL [(true,ct)] [(true,fJ)] aoa (hs:=by exact arl ab))
 refine BV ?_
 refine dJ ?_
 refine sG [0,2,3,5,7,8,9] [5] ?_
 refine dI ?_
 exact XV
 have hend:k=x.length:=ab
 refine bI ?_
 refine sS [0,2,3,7,8,9] [] ?_
 exact BF
def arm{p1:Fl}{x:List Row}(hb:iN x≤68719476736):aQ prog 287 [(false,[sl .v (x.map (cD p1))])] (aB [(false,[sl aL (x.map (cD ai))])]):=by
 refine sF func287 fun h0 w0 Fz0=>?_
 refine sj 0 fun hl0=>?_
 have hbu:=hb
 simp only [iN] at hbu
 refine Pd ?_
 refine nJ ?_
 refine Hr ?_
 refine aU ?_
 refine wQ ?_
 refine sL [0,2] [] (fun k:Nat=>k≤x.length) (fun k:Nat=>[(3,RV.slc aL ((x.take k).map (cD ai))),(4,RV.int (k:Int))]) (fun k:Nat=>[]) (fun k:Nat=>x.length - k) 0 ab vV an ?_
 rintro k hk
 refine cP ?_
 refine CP ?_
 refine sc ?_ ?_<;>intro hba
 have hlt:k < x.length:=ab
 have hwm:=fg (f:=jr) hlt
 have htl:(x.take k).length=k:=fb
 refine bv ?_
 refine rg ?_
 refine cb ?_
 refine pz ?_
 refine Hq ?_
 refine rA ?_ (x:=cL [(true,ct)] [(true,fJ)] aht (hs:=by exact aja ab))
 refine BV ?_
 refine dJ ?_
 refine rg ?_
 exact MC
 exact MD
end Go.Proofs.YtmekkgdboplbjaaGreatDoor
