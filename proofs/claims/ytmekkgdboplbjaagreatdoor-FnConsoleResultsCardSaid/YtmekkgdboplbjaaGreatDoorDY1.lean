/- What functions of the program compute. No condition. -/
import Derived.Test.YtmekkgdboplbjaaGreatDoorDT1
import Derived.Test.YtmekkgdboplbjaaGreatDoorDU1
import Derived.Test.YtmekkgdboplbjaaGreatDoorDV1
import Derived.Test.YtmekkgdboplbjaaGreatDoorDX1
set_option linter.all false
namespace Go.Proofs.YtmekkgdboplbjaaGreatDoor
open Go Go.RowKit M PV Tryz
set_option maxRecDepth 10000
attribute [local irreducible] PV.Lcl PV.LclR RV.Lcl
set_option maxHeartbeats 8000000
def ab2:eL prog 25=some [(0,1),(1,1),(2,1),(3,1)]:=aq
def ab3:eL prog 27=some [(0,1),(1,1)]:=aq
def ab4:eL prog 65=some [(0,1),(1,1),(2,1)]:=aq
def wj:prog.underlying 9=some .string:=aq
def ab5{b:Bool}:aS prog 35 [(false,[val (.bool b)])] (aJ [(false,[val (vI (if b then 1 else 0))])]):=by
 refine sF func35 fun h0 w0 Fz0=>?_
 refine oI ?_
 refine rM ?_
 refine sc ?_ ?_<;>intro hba
 exact JX
 refine bd ?_
 exact JX
def ab6{code:List Int}(hcode:∀x∈code,0≤x∧x≤255):db prog gl 5 [(false,[sl .v (code.map va)])] (aJ [(false,[val (.bool true)])]):=by
 refine gq (rs:=[(false,[val (.bool true)])]) func5 rfl (nl rfl) (gV (aB.cons (bor_sl _) aB.nil) iv) ?_
 intro h0 w0 Fz0
 refine sj 0 fun hl0=>?_
 refine sR ?_
 refine gJ ?_
 refine sS [0,2,7000] [] ?_
 refine fc ?_
 refine rA ?_ (x:=cL [(false,[sl _ _])] [(false,[sl .v _])] Wa (hs:=by exact abX))
 refine sc ?_ ?_<;>intro hba
 refine sS [0,2,7000] [] ?_
 refine rK ?_
 exact AH
 have hm22:=rh (x:=gC code 22) (n:=3) (rf hcode 22 ae).1 ae
 have hbig:code.length≤1048576:=by have hh:=hba;simp at hh;omega
 have hRo:=abn hcode
 have hqo:=abo hcode
 have hls:=abu hRo hqo
 have hcok:=aa6 hRo hqo
 have hcl:=abI hRo hqo
 have hct:=abG hRo hqo
 have hcw:=abH hRo hqo
 have hlsz:=abw hRo hqo
 have hlnn:=wg (fF code) (kZ code)
 have hfq:=Qn (kZ code)
 have hs6:=Fv hRo 6 (Nat.le_refl _)
 obtain ⟨f,hf1,hf2,hf3,hf4⟩:=aa5 hRo hqo rfl
 have hgot:(dQ (dR (fF code) (kZ code)) (dR (fF code) (kZ code)).length).2=fE 11++(eG f++[10]):=by rw [hlnn,hf1]
 have hZl:(eG f++[10]).length≤200000:=by have h_:=hct _ (Nat.le_refl _);rw [hgot,aZ] at h_;omega
 have ho11:=wh 11
 have ho7:=wh (6+1)
 have hgl0:(fE 11++(eG f++[10])).length=(fE 11).length+(eG f++[10]).length:=aZ
 have hwr:eg ((List.range 6).map (fF code))≤1000:=abK code
 have hca:=abJ (q:=kZ code) (by rw [hf2];exact hqo) hf3 hf4
 refine bd ?_
 refine sS [0,2,7000] [] ?_
 refine rK ?_
 refine qy ?_
 refine rK ?_
 refine sS [0,2,3,4,7000] [] ?_
 refine uC ?_
 refine aU ?_
 refine sS [0,2,3,4,5,7000] [] ?_
 refine iY ?_
 refine sP [0,2,3,4,5,6,7000] [] ?_
 refine sL [0,2,7000] [] (fun k:Nat=>k≤6) (fun k:Nat=>[(3,RV.sc (.string (B (sI (fF code) k)))),(4,RV.sc (.string (B (fE (k+1))))),(5,RV.slc bc (((List.range k).map (fF code)).map (cg .v))),(6,RV.int (k:Int))]) (fun k:Nat=>[]) (fun k:Nat=>6 - k) 0 ab (by exact aI aj (aI aj (aI aj (aI aj tI)))) au ?_
 rintro k hk
 have hsl:=Fv hRo k hk
 have hol:=wh (k+1)
 have hrl:((List.range k).map (fF code)).length=k:=aF
 have hfr:=Fi (fF code k)
 have hrk:(List.range k).length=k:=List.length_range
 refine jU ?_
 refine fx ?_
 refine sc ?_ ?_<;>intro hbb
 have hlt:k < 6:=ab
 have hRk:=(hRo k hlt).1
 refine bA ?_
 refine sS [0,2,3,4,5,6,7000] [] ?_
 refine rM ?_
 refine iz ?_
 refine xy ?_
 refine iz ?_
 refine iZ ?_
 refine xy ?_
 refine iz ?_
 refine iZ ?_
 refine xy ?_
 refine rA ?_ (x:=dq (qs:=[(false,[val _]),(false,[val _]),(false,[val _])]) ae ej nL ae rfl rfl rfl rfl rfl aH tY rfl)
 refine rA ?_ (x:=dZ (qs:=[(false,[val _]),(false,[sl _ _])]) (cs:=cO) ae lK qF ab3 aj mc rfl aj)
 refine uA ?_
 refine aU ?_
 refine sQ [0,2,3,4,5,6,7,7000] [7] ?_
 refine xg (d:=7) [val (vI (fF code k).Id),sl .v ((fF code k).Values.map ax)] aj (by exact (aD (aA.cons (Uw rfl) aA.nil))) zI ?_
 refine sH [0,2,3,4,5,6,7,7000] [7] ?_
 refine bW ?_
 refine qw ?_
 refine uS ?_
 refine sS [0,2,3,4,5,6,7,7000] [7] ?_
 refine rY ?_
 refine qw ?_
 refine rA ?_ (x:=cL [(true,cO)] [(true,dK)] WD (hs:=by exact (ZM (r:=fF code k))))
 refine LD ?_
 refine sG [0,2,3,4,5,6,7,7000] [7] ?_
 refine rY ?_
 refine rS ?_
 refine sG [0,2,3,4,5,6,7,7000] [7] ?_
 refine jV ?_
 refine nx (k+1) ab (e:=(by exact aI (by exact congrArg (fun z=>some (RV.sc (.string (B z)))) (QB hRk).symm) (aI (by exact congrArg (fun z=>some (RV.sc (.string (B z)))) (Ft _).symm) (aI (by exact cU (by rw [List.range_succ,bL,bL];rfl)) (aI mb tI)))))
 have hend:k=6:=ab
 subst hend
 refine bv ?_
 refine sS [0,2,3,4,5,6,7000] [] ?_
 refine Cy ?_
 refine Cy ?_
 refine Cy ?_
 refine iZ ?_
 refine rA ?_ (x:=dZ (qs:=[(false,[val _]),(false,[val _]),(false,[val _])]) (cs:=gH) ae oW yw ab4 aj tY rfl aj)
 refine Mw ?_
 refine rA ?_ (x:=dq (qs:=[(false,[val _])]) ae ej nL ae rfl rfl rfl rfl rfl aH (by exact (aI (bI rfl) tI)) rfl)
 refine rA ?_ (x:=dZ (qs:=[(false,[val _]),(false,[sl _ _]),(false,[sl _ _])]) (cs:=cD) ae qD qE ab2 aj (by exact (aI (bI rfl) (aI au (aI au tI)))) rfl aj)
 refine KX ?_
 refine sT [0,2,3,4,5,6,8,7000] [8] ?_
 refine rY ?_
 refine qx ?_
 refine rA ?_ (x:=cL [(true,cD)] [(true,cI)] WE (hs:=by exact (ZP (q:=kZ code))))
 refine LD ?_
 refine sS [0,2,3,4,5,6,8,7000] [8] ?_
 refine rY ?_
 refine rS ?_
 refine sS [0,2,3,4,5,6,8,7000] [8] ?_
 refine rY ?_
 refine rA ?_ (x:=gL [(false,[val _])] [(false,[val _])] WF (hs:=by exact (by rw [abE (R:=(fF code)) hqo];exact abT (s:=fQ (dR (fF code) (kZ code))) (ls:=(dR (fF code) (kZ code))) ab hls ab hcok hcl hct hcw)))
 refine oM ?_
 refine sP [0,2,3,4,5,6,8,9,7000] [8] ?_
 refine xf (s:=9) aj ((congrArg (fun z=>RV.sc (.string (B z))) hgot)) ?_
 refine sP [0,2,3,4,5,6,8,9,7000] [8] ?_
 refine xf (s:=4) aj ((congrArg (fun z=>RV.sc (.string (B z))) abF)) ?_
 refine sG [0,2,3,4,5,6,8,9,7000] [8] ?_
 refine Cq ?_
 refine Cq ?_
 refine sx ?_
 refine cx 78 (fun ga sga=>?_) (fun ga sga=>?_)
 exact absurd ga (by rw [hgl0];simp;try omega)
 refine gv ?_
 refine gv ?_
 refine rB ga ?_ (x:=wY wj)
 refine rB ga ?_ (x:=Tp (fE 11).length wj (u:=(fE 11)) jo zZ (by rw [List.drop_zero,List.take_left]))
 refine sq ?_
 refine sc ?_ ?_<;>intro hbc
 exact absurd hbc aF
 refine bd ?_
 refine sS [0,2,3,4,5,6,8,9,7000] [8] ?_
 refine gJ ?_
 refine sS [0,2,3,4,5,6,8,9,10,7000] [8] ?_
 refine Cq ?_
 refine rS ?_
 refine fG ?_
 refine sP [0,2,3,4,5,6,8,9,10,11,7000] [8] ?_
 refine sL [0,2,3,4,5,6,8,9,7000] [8] (fun k:Nat=>k≤(eG f++[10]).length) (fun k:Nat=>[(10,RV.int ((((eG f++[10]).take k).count 58:Nat):Int)),(11,RV.int (((fE 11).length:Int)+(k:Int)))]) (fun k:Nat=>[]) (fun k:Nat=>(eG f++[10]).length - k) 0 ab (by exact aI aj (aI mb tI)) au ?_
 rintro k hk
 have hcn:=List.count_le_length (a:=(58:UInt8)) (l:=(eG f++[10]).take k)
 rw [cu] at hcn
 refine sa ?_
 refine fv ?_
 refine rA ?_ (x:=wY wj)
 refine fx ?_
 refine sc ?_ ?_<;>intro hbd
 have hlt:k < (eG f++[10]).length:=ab
 have hgl:(fE 11).length+k < (fE 11++(eG f++[10])).length:=ab
 have hgz:(fE 11++(eG f++[10]))[(fE 11).length+k]'hgl=(eG f++[10])[k]:=by rw [List.getElem_append_right ab];congr 1;omega
 refine bA ?_
 refine sH [0,2,3,4,5,6,8,9,10,11,7000] [8] ?_
 refine fv ?_
 refine rM ?_
 refine rA ?_ (x:=Tq ((fE 11).length+k) hgl wj ab)
 refine rA ?_ (x:=Si)
 refine rA ?_ (x:=cL [(false,[val _])] [(false,[val _])] WG (hs:=by exact ab5))
 refine iZ ?_
 refine rS ?_
 refine sG [0,2,3,4,5,6,8,9,10,11,7000] [8] ?_
 refine jV ?_
 refine nx (k+1) ab (e:=(by exact aI (by exact fU (by rw [abD hlt,←hgz];by_cases hc_:((fE 11++(eG f++[10]))[(fE 11).length+k]'hgl).toNat=58<;>first|(simp [hc_];done)|(simp [hc_];split<;>split<;>first|rfl|omega))) (aI mb tI)))
 have hend:k=(eG f++[10]).length:=ab
 subst hend
 rw [cC]
 refine bv ?_
 refine sT [0,2,3,4,5,6,8,9,10,11,7000] [8] ?_
 refine rM ?_
 refine qx ?_
 refine fc ?_
 refine rA ?_ (x:=cL [(true,cD),(false,[sl _ _])] [(true,cI),(false,[sl .v _])] WH (hs:=by exact (ab1 (q:=kZ code) (l:=((List.range 6).map (fF code))) ab)))
 refine rA ?_ (x:=lN jb)
 refine oC ?_
 refine cv ?_
 exact rb (by first|(rw [hca];simp;done)|(simp [hca];done))
end Go.Proofs.YtmekkgdboplbjaaGreatDoor
