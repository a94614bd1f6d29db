/- What functions of the program compute. No condition. -/
import Derived.Test.YtmekkgdboplbjaaGreatDoorDL0
import Derived.Test.YtmekkgdboplbjaaGreatDoorDR1
set_option linter.all false
namespace Go.Proofs.YtmekkgdboplbjaaGreatDoor
open Go Go.RowKit M PV Tryz
set_option maxRecDepth 10000
attribute [local irreducible] PV.Lcl PV.LclR RV.Lcl
def abY{x:List Int}{y:List Int}:aS prog 245 [(false,[sl .v (x.map ax)]),(false,[sl .v (y.map ax)])] (aJ [(false,[val (.bool (decide (dI x y < 0)))])]):=by
 refine sF func245 fun h0 w0 Fz0=>?_
 refine sj 0 fun hl0=>?_
 refine sj 1 fun hl1=>?_
 refine uQ ?_
 refine iY ?_
 refine sP [0,1,4,5] [] ?_
 refine sL [0,1] [] (fun k:Nat=>k≤x.length∧(k≤y.length∧dI x y=dI (x.drop k) (y.drop k))) (fun k:Nat=>[(5,RV.int (k:Int))]) (fun k:Nat=>[]) (fun k:Nat=>x.length - k) 0 (by exact ⟨ab,⟨Nat.zero_le _,rfl⟩⟩) cb au ?_
 rintro k ⟨hk,ha⟩
 refine jU ?_
 refine mu ?_
 refine sx ?_
 refine cx 10 (fun ga sga=>?_) (fun ga sga=>?_)
 refine gv ?_
 refine rB ga ?_ (x:=vM false [sl .v _])
 refine rB ga ?_ (x:=lN ej)
 refine rB ga ?_ (x:=uo)
 refine jx ?_
 refine sc ?_ ?_<;>intro hba
 have hlt:k < x.length:=ab
 have hy2:k+1≤y.length:=ab
 refine sz ?_
 refine sP [0,1,5] [] ?_
 refine dr ?_
 refine nE ?_
 refine BI ?_
 refine nE ?_
 refine BG ?_
 refine dA 255 ?_ (x:=lm)
 refine sc ?_ ?_<;>intro hbb
 have hne:¬ra x[k] y[k]=0:=fun h_=>hbb (aai h_)
 have hrr:=ha.2.trans (aah hlt ab hne)
 refine aU ?_
 refine sP [0,1,5] [] ?_
 refine dr ?_
 refine nE ?_
 refine BI ?_
 refine nE ?_
 refine BG ?_
 refine dA 255 ?_ (x:=uo)
 refine dA 511 ?_ (x:=sA)
 refine cv ?_
 exact rb (by rw [hrr];unfold ra eH;rw [decide_eq_decide];repeat' split;all_goals omega)
 have hst:dI (x.drop k) (y.drop k)=dI (x.drop (k+1)) (y.drop (k+1)):=aag hlt ab gU
 refine bd ?_
 refine sG [0,1,5] [] ?_
 refine jV ?_
 refine nx (k+1) (by exact ⟨ab,⟨hy2,ha.2.trans hst⟩⟩)
 exact JT
 refine iA ?_
 refine fW ?_
 exact JT
def abZ{x:Row}{y:Row}:aS prog 189 [(true,[val (vI x.Id),sl .v (x.Values.map ax)]),(true,[val (vI y.Id),sl .v (y.Values.map ax)])] (aJ [(false,[val (.bool (ct ce x y))])]):=by
 refine sF func189 fun h0 w0 Fz0=>?_
 refine sn 0 1 fun hl0_1=>?_
 refine sn 1 1 fun hl1_1=>?_
 refine LK ?_
 refine xY ?_
 refine nD ?_
 refine nD ?_
 refine rA ?_ (x:=lm)
 refine sc ?_ ?_<;>intro hba
 refine sS [2,3,4] [2,3] ?_
 refine nD ?_
 refine nD ?_
 refine fx ?_
 exact JU
 refine bd ?_
 refine sS [2,3,4] [2,3] ?_
 refine xO ?_
 refine xO ?_
 refine rA ?_ (x:=cL [(false,[sl _ _]),(false,[sl _ _])] [(false,[sl .v _]),(false,[sl .v _])] Wt (hs:=by exact abY))
 exact JU
def ab0{p1:Fl}{x:List Row}(hb:eg x≤68719476736):aS prog 103 [(false,[sl .v (x.map (cg p1))])] (aJ [(false,[sl bc ((cZ (ct ce) x).map (cg .v))])]):=by
 refine sF func103 fun h0 w0 Fz0=>?_
 refine sj 0 fun hl0=>?_
 have hbl:x.length≤eg x:=Nat.le_add_right _ _
 have hbu:=hb
 simp only [eg] at hbu
 refine sR ?_
 refine LM ?_
 refine uC ?_
 refine aU ?_
 refine sS [0,2,3] [] ?_
 refine iY ?_
 refine sP [0,2,3,4] [] ?_
 refine sL [0,2] [] (fun i:Nat=>i≤x.length) (fun i:Nat=>[(3,RV.slc bc (((cZ (ct ce) (x.take i))).map (cg .v))),(4,RV.int (i:Int))]) (fun i:Nat=>[]) (fun i:Nat=>x.length - i) 0 ab jm au ?_
 rintro i hk
 have hll:(cZ (ct ce) (x.take i)).length=i:=by rw [aab,cu];omega
 refine jU ?_
 refine nC ?_
 refine fx ?_
 refine sc ?_ ?_<;>intro hba
 have hlt:i < x.length:=ab
 have hwm:=gw (f:=gx) hlt
 refine bA ?_
 refine sS [0,2,3,4] [] ?_
 refine nC ?_
 refine gu ?_
 refine fG ?_
 refine sP [0,2,3,4,5] [] ?_
 refine sL [0,2,3,4] [] (fun j:Nat=>j≤i∧∀t:Nat,j≤t→(h:t < (cZ (ct ce) (x.take i)).length)→(ct ce) x[i] (cZ (ct ce) (x.take i))[t]=true) (fun j:Nat=>[(5,RV.int (j:Int))]) (fun j:Nat=>[]) (fun j:Nat=>j) i (by exact ⟨Nat.le_refl _,fun t h1 h2=>by omega⟩) (by exact aI (by exact fU (by first|rfl|(rw [aO];omega)|omega)) tI) au ?_
 rintro j ⟨hj,haj⟩
 refine eO ?_
 refine dr ?_
 refine jy ?_
 refine dA 1 ?_ (x:=fH)
 refine dA 3 ?_ (x:=sM)
 refine dx 18 (fun ga sga=>?_) (fun ga sga=>?_)
 refine dB 7 ga ?_ (x:=vM false [sl .v _])
 refine dB 7 ga ?_ (x:=sM)
 refine dB 31 ga ?_ (x:=bT ae jb au aj dW aj)
 refine dB 63 ga ?_ (x:=lE dK gM)
 refine dB 7 ga ?_ (x:=vM false [sl .v _])
 refine dB 7 ga ?_ (x:=sM)
 refine dB 263 ga ?_ (x:=nr)
 refine dB 903 ga ?_ (x:=bT (k:=j - 1) ae jb au ab dW aj)
 refine dB 1927 ga ?_ (x:=lE dK gM)
 refine dB 4095 ga ?_ (x:=cL [(true,cO),(true,cO)] [(true,dK),(true,dK)] Wk (hs:=by exact abZ))
 refine dA 8191 ?_ (x:=bF ga)
 refine sc ?_ ?_<;>intro hbb
 have hj1:1≤j:=ab
 have hlt2:(ct ce) x[i] ((cZ (ct ce) (x.take i))[j - 1]'(ab))=true:=(show (ct ce) x[i] ((cZ (ct ce) (x.take i))[j - 1]'(ab))=true by simpa using hbb)
 refine bd ?_
 refine fG ?_
 refine sG [0,2,3,4,5] [] ?_
 refine rM ?_
 refine mz ?_
 refine rS ?_
 refine nx (j - 1) (by exact ⟨ab,fun t h1 h2=>by by_cases e:t=j - 1;(· subst e;exact hlt2);(· exact haj t ab h2)⟩) (e:=oj)
 have htj:((cZ (ct ce) (x.take i)).take j).length=j:=fR
 have hdj:((cZ (ct ce) (x.take i)).drop j).length=i - j:=pL
 have hst:j=0∨∀h:j - 1 < (cZ (ct ce) (x.take i)).length,(ct ce) x[i] (cZ (ct ce) (x.take i))[j - 1]=false:=by first|exact .inl ab|(by_cases h0:j=0;exact .inl h0;right;intro _;exact (show (ct ce) x[i] (cZ (ct ce) (x.take i))[j - 1]=false by simpa using hbb))
 exact JV
 refine dF 7 ga ?_
 refine dF 7 ga ?_
 refine dF 31 ga ?_
 refine dF 63 ga ?_
 refine dF 7 ga ?_
 refine dF 7 ga ?_
 refine dF 263 ga ?_
 refine dF 903 ga ?_
 refine dF 1927 ga ?_
 refine dF 4095 ga ?_
 refine dA 8191 ?_ (x:=aK ga)
 refine fW ?_
 have htj:((cZ (ct ce) (x.take i)).take j).length=j:=fR
 have hdj:((cZ (ct ce) (x.take i)).drop j).length=i - j:=pL
 have hst:j=0∨∀h:j - 1 < (cZ (ct ce) (x.take i)).length,(ct ce) x[i] (cZ (ct ce) (x.take i))[j - 1]=false:=by first|exact .inl ab|(by_cases h0:j=0;exact .inl h0;right;intro _;exact (show (ct ce) x[i] (cZ (ct ce) (x.take i))[j - 1]=false by simpa using hb_))
 exact JV
 have hend:i=x.length:=ab
 refine bv ?_
 refine sS [0,2,3,4] [] ?_
 exact xi
end Go.Proofs.YtmekkgdboplbjaaGreatDoor
