/- What functions of the program compute. No condition. -/
import Derived.Test.YtmekkgdboplbjaaGreatDoorEQ1
set_option linter.all false
namespace Go.Proofs.YtmekkgdboplbjaaGreatDoor
open Go Go.RowKit M PV Tryz
set_option maxRecDepth 10000
attribute [local irreducible] PV.Lcl PV.LclR RV.Lcl
def TU:eA prog 27=some [(0,1),(1,1)]:=ao
def awH:prog.underlying 3=some (.int .i64):=ao
def awI:prog.underlying 5=some (.int .u8):=ao
def pg:prog.underlying 9=some .string:=ao
def TV{s:av}(hl:s.length≤1048576):gu prog gl 55 [(false,[val (.string (B s))])] (aB [(false,[val (vI (eL s))]),(false,[val (.bool (gV s))])]):=by
 refine lX (rs:=[(false,[val (vI (eL s))]),(false,[val (.bool (gV s))])]) func55 rfl (nl rfl) (jn (aF.cons (bor_val _) aF.nil) jm) ?_
 intro h0 w0 Fz0
 have hai:=ald s
 unfold ee at hai
 have hil:=eH (ald s)
 refine uL ?_
 refine rK ?_
 refine sS [0,2,3,7000] [] ?_
 refine rM ?_
 refine rA ?_ (x:=gL [(false,[val _])] [(false,[val _])] apM (hs:=by exact (awG ab)))
 refine cb ?_
 refine pN ?_
 refine rA ?_ (x:=uo (cs:=[PV.err _]) (qs:=[PV.err _]) aj ak ug (by exact (aF.cons (bor_err _) aF.nil)))
 refine rS ?_
 refine rA ?_ (x:=lS (r':=RV.sv false [PV.err _]) (.inr rfl) aj Ux)
 refine aU ?_
 refine sS [0,2,3,4,5,7000] [] ?_
 refine rA ?_ (x:=lS (r':=RV.sv false [PV.err _]) (.inl rfl) aj Ux)
 refine rA ?_ (x:=arZ Tryz.underlying160)
 refine rM ?_
 refine cx 13 ?_ ?_<;>intro ga sga
 refine jH ?_
 refine au.cases (s:=19) rfl (fun g2=>?_) (fun g2=>nomatch g2)
 refine oI ?_
 refine au.cases (s:=23) rfl (fun g3=>?_) (fun g3=>nomatch g3)
 refine oF ?_
 refine cH ?_
 exact GI
 refine gN ?_
 refine rB ga ?_ (x:=gL [(false,[val _])] [(false,[val _])] rD (hs:=qE))
 refine gN ?_
 refine rB ga ?_ (x:=qT)
 refine ly ?_
 refine cx 19 ?_ ?_<;>intro gb sgb
 refine nG ?_
 refine au.cases (s:=23) rfl (fun g6=>?_) (fun g6=>nomatch g6)
 refine th ?_
 refine cH ?_
 exact GI
 refine kh ?_
 refine rB gb ?_ (x:=yG)
 refine sW ?_
 refine cx 23 ?_ ?_<;>intro gc sgc
 refine xe ?_
 exact GI
 refine nL ?_
 refine wI ?_
 refine sc ?_ ?_<;>intro hba
 exact GI
 have hys:jV s=some (kw s):=avF gE gE gE
 refine ba ?_
 refine sS [0,2,3,4,5,7000] [] ?_
 exact zzl
def awJ{s:av}(hl:s.length≤1048576):aQ prog 135 [(false,[val (.string (B s))])] (aB [(false,[val (vI (eL s))]),(false,[val (.bool (gV s))])]):=by
 refine sF func135 fun h0 w0 Fz0=>?_
 refine uL ?_
 refine rK ?_
 refine sS [0,2,3] [] ?_
 refine rK ?_
 refine sS [0,2,3,4] [] ?_
 refine iv ?_
 refine sS [0,2,3,4,5] [] ?_
 refine cl ?_
 refine sP [0,2,3,4,5,6] [] ?_
 refine sL [0,2,3] [] (fun k:Nat=>k≤s.length∧k≤11) (fun k:Nat=>[(4,RV.int ((fR (s.take k)).1:Int)),(5,RV.int ((fR (s.take k)).2:Int)),(6,RV.int (k:Int))]) (fun k:Nat=>[]) (fun k:Nat=>s.length - k) 0 (by exact ⟨ab,ab⟩) ui an ?_
 rintro k ⟨hk,ha⟩
 refine cP ?_
 refine rM ?_
 refine rA ?_ (x:=pt pg)
 refine dQ ?_
 refine rM ?_
 refine cx 11 ?_ ?_<;>intro ga sga
 refine Cw ?_
 refine jq ?_
 refine sc ?_ ?_<;>intro hba
 have hlt:k < s.length:=uk
 have hk11:k < 11:=uk
 refine bv ?_
 refine sS [0,2,3,4,5,6] [] ?_
 refine fB ?_
 refine rA ?_ (x:=sX hlt pg)
 refine rA ?_ (x:=amN)
 refine rM ?_
 refine cx 21 ?_ ?_<;>intro gb sgb
 refine kh ?_
 refine kh ?_
 refine rB gb ?_ (x:=sX hlt pg)
 refine rB gb ?_ (x:=amM)
 refine kO ?_
 refine sc ?_ ?_<;>intro hbb
 have hb256:=s[k].toNat_lt
 have hsn:=ale hlt
 have hbg:=Kq s k ab
 have hdg:48≤s[k].toNat∧s[k].toNat≤57:=kc
 rw [if_pos (Em.2 hdg)] at hsn
 refine HB ?_
 refine rA ?_ (x:=Wd aj an (bi rfl) et)
 refine fB ?_
 refine rA ?_ (x:=sX hlt pg)
 refine rA ?_ (x:=ar1 ab)
 refine rA ?_ (x:=uu awI awH Vb)
 refine wU ?_
 refine sG [0,2,3,4,5,6] [] ?_
 refine cB ?_
 exact zzn
 exact zzo
 refine oE ?_
 refine gv ?_
 exact zzo
 have hend:=alf (s:=s) (k:=k) kc ab
 rw [hend]
 have hb11:=Kq s 11 ab
 refine fq ?_
 refine HB ?_
 refine rA ?_ (x:=pt pg)
 refine uC ?_
 refine cx 40 ?_ ?_<;>intro gb sgb
 have h0:0 < s.length:=Fq
 have sgb:=gb
 try simp only [qq] at sgb
 refine kh ?_
 refine rB gb ?_ (x:=Sa h0 pg)
 refine rB gb ?_ (x:=Mo)
 refine kO ?_
 refine sc ?_ ?_<;>intro hbb
 have hng:s.head?=some 45:=(Er h0).2 (by have:=hbb;(try simp at this);show s[0].toNat=45;omega)
 have hnv:=alg hng
 refine sG [0,2,3,4,5,6] [] ?_
 refine rM ?_
 refine rA ?_ (x:=Mv)
 refine eU ?_
 refine zO ?_
 refine cx 49 ?_ ?_<;>intro gc sgc
 refine pF ?_
 refine au.cases (s:=54) rfl (fun g9=>?_) (fun g9=>nomatch g9)
 refine It ?_
 exact wv
 exact zzr
 have hng:¬s.head?=some 45:=by first|exact TI h0|(rw [Er h0];have:=hbb;(try simp at this);show ¬s[0].toNat=45;omega)
 have hnv:=Kr hng
 refine dp ?_
 refine zO ?_
 refine cx 49 ?_ ?_<;>intro gc sgc
 refine pF ?_
 refine au.cases (s:=54) rfl (fun g15=>?_) (fun g15=>nomatch g15)
 refine In ?_
 exact wv
 exact zzr
 have h0:¬0 < s.length:=UT
 have sgb:=gb
 try simp only [qq] at sgb
 refine oE ?_
 refine gv ?_
 have hng:¬s.head?=some 45:=Vd
 have hnv:=Kr hng
 refine dp ?_
 refine zO ?_
 refine cx 49 ?_ ?_<;>intro gc sgc
 refine pF ?_
 refine au.cases (s:=54) rfl (fun g22=>?_) (fun g22=>nomatch g22)
 refine zt g22 ?_
 refine rA ?_ (x:=bj g22)
 exact wv
 exact Ng
 refine rf ?_
 have hend:=alf (s:=s) (k:=k) kc ab
 rw [hend]
 have hb11:=Kq s 11 ab
 refine fq ?_
 refine HB ?_
 refine rA ?_ (x:=pt pg)
 refine uC ?_
 refine cx 40 ?_ ?_<;>intro gb sgb
 have h0:0 < s.length:=Fq
 have sgb:=gb
 try simp only [qq] at sgb
 refine kh ?_
 refine rB gb ?_ (x:=Sa h0 pg)
 refine rB gb ?_ (x:=Mo)
 refine kO ?_
 refine sc ?_ ?_<;>intro hba
 have hng:s.head?=some 45:=(Er h0).2 (by have:=hba;(try simp at this);show s[0].toNat=45;omega)
 have hnv:=alg hng
 refine sG [0,2,3,4,5,6] [] ?_
 refine rM ?_
 refine rA ?_ (x:=Mv)
 refine eU ?_
 refine zO ?_
 refine cx 49 ?_ ?_<;>intro gc sgc
 refine pF ?_
 refine au.cases (s:=54) rfl (fun g31=>?_) (fun g31=>nomatch g31)
 refine zt g31 ?_
 refine rA ?_ (x:=bj g31)
 exact wv
 exact Ng
 have hng:¬s.head?=some 45:=by first|exact TI h0|(rw [Er h0];have:=hba;(try simp at this);show ¬s[0].toNat=45;omega)
 have hnv:=Kr hng
 refine dp ?_
 refine zO ?_
 refine cx 49 ?_ ?_<;>intro gc sgc
 refine pF ?_
 refine au.cases (s:=54) rfl (fun g37=>?_) (fun g37=>nomatch g37)
 refine zt g37 ?_
 refine rA ?_ (x:=bj g37)
 exact wv
 exact Ng
 have h0:¬0 < s.length:=UT
 have sgb:=gb
 try simp only [qq] at sgb
 refine oE ?_
 refine gv ?_
 have hng:¬s.head?=some 45:=Vd
 have hnv:=Kr hng
 refine dp ?_
 refine zO ?_
 refine cx 49 ?_ ?_<;>intro gc sgc
 refine pF ?_
 refine au.cases (s:=54) rfl (fun g44=>?_) (fun g44=>nomatch g44)
 refine zt g44 ?_
 refine rA ?_ (x:=bj g44)
 exact wv
 refine PP ?_
 refine wI ?_
 refine rM ?_
 refine cx 54 ?_ ?_<;>intro gd sgd
 exact Nd
 refine OK ?_
 refine HD ?_
 refine sc ?_ ?_<;>intro hba
 exact GJ
 exact Nf
def TW{s:av}(hl:s.length≤1048576):aQ prog 52 [(false,[val (.string (B s))])] (aB [(false,[val (vI (er s))])]):=by
 refine sF func52 fun h0 w0 Fz0=>?_
 refine wW ?_
 refine rM ?_
 refine rA ?_ (x:=cL [(false,[val _])] [(false,[val _])] apK (hs:=by exact (awJ ab)))
 refine wH ?_
 refine rS ?_
 refine eU ?_
 refine uG ?_
 refine gx ?_
 refine sc ?_ ?_<;>intro hba
 have his:gV s=false:=gn
 refine sS [0,2,3,4] [] ?_
 refine ca ?_
 exact (aI (by refine cX ?_;exact (avI his).symm) tI)
 have his:gV s=true:=gn
 refine ba ?_
 refine uG ?_
 refine db ?_
 exact (aI (by refine cX ?_;exact (avJ his).symm) tI)
def TX{s:av}{b:Int}(hl:s.length≤1048576)(hu0:0≤b)(hu1:b≤255):aQ prog 50 [(false,[val (.string (B s))]),(false,[val (.int .u8 b)])] (aB [(false,[sl un ((aq (u8 b) s).map mS)])]):=by
 refine sF func50 fun h0 w0 Fz0=>?_
 refine sR ?_
 refine rA ?_ (x:=nw (.inr rfl) aj (pk (t:=9) (e:=1)))
 refine pK ?_
 refine zl5 ?_
 refine dJ ?_
 refine sS [0,1,4,5] [] ?_
 refine iv ?_
 refine xn ?_
 refine cl ?_
 refine sP [0,1,4,5,6,7] [] ?_
 refine sL [0,1,4] [] (fun k:Nat=>k≤s.length) (fun k:Nat=>[(5,RV.slc un ((aq (u8 b) (s.take k)).dropLast.map mS)),(6,RV.sc (.string (B ((aq (u8 b) (s.take k)).getLastD [])))),(7,RV.int (k:Int))]) (fun k:Nat=>[]) (fun k:Nat=>s.length - k) 0 ab ui an ?_
 rintro k hk
 have hdl:=sf (u8 b) (s.take k)
 have hll:=avQ (c:=u8 b) (s.take k)
 have htl:(s.take k).length=k:=fb
 have hdd:(aq (u8 b) (s.take k)).dropLast.length=(aq (u8 b) (s.take k)).length - 1:=List.length_dropLast
 refine cP ?_
 refine rM ?_
 refine rA ?_ (x:=pt pg)
 refine dQ ?_
 refine sc ?_ ?_<;>intro hba
 have hlt:k < s.length:=ab
 refine bv ?_
 refine sS [0,1,4,5,6,7] [] ?_
 refine fB ?_
 refine rA ?_ (x:=sX hlt pg)
 refine rM ?_
 refine rA ?_ (x:=Mo)
 refine sc ?_ ?_<;>intro hbb
 have hsy:=avO (c:=u8 b) hlt ((TH hu0 hu1).1 jA)
 refine sS [0,1,4,5,6,7] [] ?_
 refine wX ?_
 refine NG ?_
 refine dJ ?_
 refine sG [0,1,4,5,6,7] [] ?_
 refine rK ?_
 exact zzz
 have hsn:=avP (c:=u8 b) hlt (fun e=>absurd ((TH hu0 hu1).2 e) jA)
 refine sG [0,1,4,5,6,7] [] ?_
 refine fB ?_
 refine rM ?_
 refine lv ?_
 refine rA ?_ (x:=sS2 k (k+1) pg (u:=[s[k]'hlt]) ab ab ab ab (by rw [cU hlt,List.drop_append_of_le_length fb,List.drop_eq_nil_of_le fb];rfl))
 refine Iy ?_
 exact zzz
 have hend:k=s.length:=ab
 subst hend
 rw [cJ]
 rw [cJ] at hdl hll hdd htl
 refine bI ?_
 refine sS [0,1,4,5,6,7] [] ?_
 refine wX ?_
 refine NG ?_
 refine dJ ?_
 refine cK ?_
 exact (aI (by refine cz ?_;rw [show (aq (u8 b) s).map mS=((aq (u8 b) s).dropLast++[(aq (u8 b) s).getLastD []]).map mS by rw [←TK],bK];rfl) tI)
def awK{s:av}(hl:s.length≤1048576):aQ prog 50 [(false,[val (.string (B s))]),(false,[val (.int .u8 32)])] (aB [(false,[sl un ((aq 32 s).map mS)])]):=TX hl (b:=32) aj aj
def awL{s:av}(hl:s.length≤1048576):aQ prog 50 [(false,[val (.string (B s))]),(false,[val (.int .u8 44)])] (aB [(false,[sl un ((aq 44 s).map mS)])]):=TX hl (b:=44) aj aj
def awM{s:av}(hl:s.length≤1048576):aQ prog 50 [(false,[val (.string (B s))]),(false,[val (.int .u8 58)])] (aB [(false,[sl un ((aq 58 s).map mS)])]):=TX hl (b:=58) aj aj
def awN{s:av}(hl:s.length≤1048576):gu prog gl 140 [(false,[val (.string (B s))])] (aB [(false,[sl ai ((ub s).map ar)]),(false,[val (.bool (qv s))])]):=by
 refine lX (rs:=[(false,[sl ai ((ub s).map ar)]),(false,[val (.bool (qv s))])]) func140 rfl (nl rfl) (jn (aF.cons (bor_val _) aF.nil) jm) ?_
 intro h0 w0 Fz0
 have hsl:=sf 44 s
 refine sY ?_
 refine rK ?_
 refine sS [0,2,3,7000] [] ?_
 refine re ?_
 refine sS [0,2,3,4,7000] [] ?_
 refine rM ?_
 refine rA ?_ (x:=gL [(false,[val _]),(false,[val _])] [(false,[val _]),(false,[val _])] aiU (hs:=by exact (als 44 ab)))
 refine rA ?_ (x:=lN eR)
 refine fK ?_
 refine sP [0,2,3,4,11,12,13,7000] [] ?_
 refine sL [0,11,12,7000] [] (fun k:Nat=>k≤(aq 44 s).length∧((aq 44 s).take k).all gV=true) (fun k:Nat=>[(4,RV.slc ai ((((aq 44 s).take k).map eL).map ar)),(13,RV.int (k:Int))]) (fun k:Nat=>[]) (fun k:Nat=>(aq 44 s).length - k) 0 (by exact ⟨ab,anx⟩) gp an ?_
 rintro k ⟨hk,ha⟩
 refine cY ?_
 refine sc ?_ ?_<;>intro hba
 have hlt:k < (aq 44 s).length:=ab
 have hwl:=yf (List.getElem_mem hlt)
 have htl:((aq 44 s).take k).length=k:=fb
 refine bv ?_
 refine sS [0,4,11,12,13,7000] [] ?_
 refine rA ?_ (x:=aZ aj eR an ak bE ak)
 refine pO ?_
 refine rS ?_
 refine sS [0,4,6,11,12,13,7000] [] ?_
 refine oJ ?_
 refine rS ?_
 refine eU ?_
 refine sS [0,4,6,7,8,11,12,13,7000] [] ?_
 refine rM ?_
 refine gx ?_
 refine sc ?_ ?_<;>intro hbb
 have hnn:gV (aq 44 s)[k]=false:=jA
 have hno:=avS hlt hnn
 refine sS [0,4,6,7,8,11,12,13,7000] [] ?_
 refine IK ?_
 refine ca ?_
 exact (aI (by refine cz ?_;rw [avT hno];exact rfl) (aI (by refine eG ?_;exact hno.symm) tI))
 have hnm:gV (aq 44 s)[k]=true:=jA
 refine ba ?_
 refine sG [0,4,6,7,8,11,12,13,7000] [] ?_
 refine wX ?_
 refine rc ?_
 refine sG [0,4,6,7,8,11,12,13,7000] [] ?_
 refine dI ?_
 refine nx (k+1) (by exact ⟨ab,IV ha hlt hnm⟩) (e:=(by exact aI (by exact cz (by rw [Dt hlt,bK];rfl)) (aI ak tI)))
 have hend:k=(aq 44 s).length:=ab
 have hok:qv s=true:=mc (by rw [←hend];exact ha)
 refine bI ?_
 refine sS [0,4,11,12,13,7000] [] ?_
 refine cb ?_
 refine dJ ?_
 refine ca ?_
 exact (aI (by refine cz ?_;rw [avU hok,hend,cJ]) (aI (by refine eG ?_;exact hok.symm) tI))
def awO{s:av}(hl:s.length≤1048576):gu prog gl 220 [(false,[val (.string (B s))])] (aB [(true,[val (vI ((iU s).getD pf).Id),sl ai (((iU s).getD pf).Values.map ar)]),(false,[val (.bool (iU s).isSome)])]):=by
 refine lX (rs:=[(true,[val (vI ((iU s).getD pf).Id),sl ai (((iU s).getD pf).Values.map ar)]),(false,[val (.bool (iU s).isSome)])]) func220 rfl (nl rfl) (jn (aF.cons (bor_val _) aF.nil) jm) ?_
 intro h0 w0 Fz0
 have hca:=AU s [58]
 have hcz:=AV s [58]
 have hfl:=Eh (oh s)
 refine sR ?_
 refine Dj ?_
 refine Ig ?_
 refine rM ?_
 refine rA ?_ (x:=gL [(false,[val _]),(false,[val _])] [(false,[val _]),(false,[val _])] RI (hs:=by exact (TT (sep:=[58]) ab)))
 refine cb ?_
 refine zQ ?_
 refine rS ?_
 refine sS [0,2,3,4,5,6,7000] [2] ?_
 refine oJ ?_
 refine td ?_
 refine sS [0,2,3,4,5,6,7,8,7000] [2] ?_
 refine rM ?_
 refine Za4 ?_
 refine Za5 ?_
 refine dJ ?_
 refine rS ?_
 refine sS [0,2,3,4,5,6,7,8,9,10,7000] [2] ?_
 refine rM ?_
 refine cb ?_
 refine rA ?_ (x:=cy (qs:=[(false,[val _]),(false,[sl _ _])]) (cs:=ct) aj jJ mV TU ak ip rfl ak)
 refine yX ?_
 refine dC ?_
 refine sO [(0,_),(2,_),(3,_),(4,_),(5,_),(6,_),(7,_),(8,_),(10,_),(11,_),(7000,_)] [(2,_),(11,(27,ct))] ?_
 refine nH ?_
 refine fp ?_
 refine cx 33 ?_ ?_<;>intro ga sga
 refine jH ?_
 refine au.cases (s:=37) rfl (fun g2=>?_) (fun g2=>nomatch g2)
 refine oI ?_
 refine au.cases (s:=42) rfl (fun g3=>?_) (fun g3=>nomatch g3)
 refine oF ?_
 refine cH ?_
 exact GK
 refine gN ?_
 refine CS ?_
 refine cx 37 ?_ ?_<;>intro gb sgb
 refine nG ?_
 refine au.cases (s:=42) rfl (fun g6=>?_) (fun g6=>nomatch g6)
 refine th ?_
 refine cH ?_
 exact GK
 refine rB gb ?_ (x:=lD fJ ju)
 refine rB gb ?_ (x:=cL [(true,ct)] [(true,fJ)] QZ (hs:=by exact (RT (x:=oh s))))
 refine wT ?_
 refine cx 42 ?_ ?_<;>intro gc sgc
 refine xe ?_
 exact GK
 refine rB gc ?_ (x:=lD fJ ju)
 refine rB gc ?_ (x:=gL [(true,ct)] [(true,fJ)] aiO (hs:=by exact (alt (r:=oh s))))
 refine nL ?_
 refine Qa ?_
 refine sc ?_ ?_<;>intro hba
 exact GK
 have hys:=ave (s:=s) dO dO
 refine ba ?_
 refine sS [0,2,3,4,5,6,7,8,10,11,7000] [2,11] ?_
 exact Ni
def awP{s:av}(hl:s.length≤1048576):aQ prog 136 [(false,[val (.string (B s))])] (aB [(true,[val (vI ((iU s).getD pf).Id),sl ai (((iU s).getD pf).Values.map ar)]),(false,[val (.bool (iU s).isSome)])]):=by
 refine sF func136 fun h0 w0 Fz0=>?_
 have hsl:=sf 58 s
 have h0w:0 < (aq 58 s).length:=ab
 have hw0:=yf (List.getElem_mem h0w)
 have hfl:=Eh (lL s)
 refine sR ?_
 refine Dj ?_
 refine rK ?_
 refine sT [0,2,3] [2] ?_
 refine rM ?_
 refine rA ?_ (x:=cL [(false,[val _]),(false,[val _])] [(false,[val _]),(false,[val _])] RH (hs:=by exact (awM ab)))
 refine dJ ?_
 refine sS [0,2,3,4] [2] ?_
 refine dD ?_
 refine rA ?_ (x:=aZ (k:=0) aj eR (bi rfl) fU (by exact fX h0w rfl) ak)
 refine pO ?_
 refine QH ?_
 refine rA ?_ (x:=cy (qs:=[(false,[val _])]) (cs:=ct) aj jJ mV TU ak bS rfl ak)
 refine yX ?_
 refine dC ?_
 refine sO [(0,_),(2,_),(3,_),(4,_),(5,_)] [(2,_),(5,(27,ct))] ?_
 refine aY ?_
 refine qW ?_
 refine oK ?_
 refine sc ?_ ?_<;>intro hba
 have hl2:(aq 58 s).length=2:=VL
 have h1w:1 < (aq 58 s).length:=ab
 have hw1:=yf (List.getElem_mem h1w)
 have hvl:=sf 44 (aq 58 s)[1]
 have hrs:lL s=⟨er (aq 58 s)[0],AP (aq 58 s)[1]⟩:=by unfold lL;rw [if_pos hl2,Ks h0w,Ks h1w]
 refine uU ?_
 refine dD ?_
 refine rA ?_ (x:=aZ (k:=1) aj eR (bi rfl) fU (by exact fX h1w rfl) ak)
 refine pO ?_
 refine Zac ?_
 refine dJ ?_
 refine sS [0,2,3,4,5,6] [2,5] ?_
 refine cl ?_
 refine sP [0,2,3,4,5,6,7] [2,5] ?_
 refine sL [0,2,3,4,5,6] [2] (fun k:Nat=>k≤(aq 44 (aq 58 s)[1]).length) (fun k:Nat=>[(7,RV.int (k:Int))]) (fun k:Nat=>[(5,(27,[val (vI (er (aq 58 s)[0])),sl ai ((((aq 44 (aq 58 s)[1]).take k).map er).map ar)]))]) (fun k:Nat=>(aq 44 (aq 58 s)[1]).length - k) 0 ab bp bp ?_
 rintro k hk
 refine cP ?_
 refine qW ?_
 refine dQ ?_
 refine sc ?_ ?_<;>intro hbb
 have hlt:k < (aq 44 (aq 58 s)[1]).length:=ab
 have hwk:=yf (List.getElem_mem hlt)
 have htl:((aq 44 (aq 58 s)[1]).take k).length=k:=fb
 refine bv ?_
 refine sQ [0,2,3,4,5,6,7] [2,5] ?_
 refine cC ?_
 refine zS ?_
 refine Zad ?_
 refine Zae ?_
 refine Zaf ?_
 refine dA 511 ?_ (x:=lF va)
 refine Qv ?_
 refine sO [(0,_),(2,_),(3,_),(4,_),(5,_),(6,_),(7,_)] [(2,_),(5,(27,ct))] ?_
 exact Zag
 have hend:k=(aq 44 (aq 58 s)[1]).length:=ab
 subst hend
 rw [cJ]
 refine bI ?_
 refine dC ?_
 refine sQ [0,2,3,4,5,6,7] [2,5] ?_
 refine Zah ?_
 refine sG [0,2,3,4,5,6,7] [2,5] ?_
 refine pC ?_
 refine cx 40 ?_ ?_<;>intro ga sga
 refine mb ?_
 exact Zaj
 refine Zak ?_
 refine zw ?_
 refine sc ?_ ?_<;>intro hbc
 exact Zaj
 have hys:=akX (s:=s) gE gE
 refine ba ?_
 refine sS [0,2,3,4,5,6,7] [2,5] ?_
 exact Ni
 have hl2:¬(aq 58 s).length=2:=VL
 have hrs:lL s=⟨er (aq 58 s)[0],[]⟩:=by unfold lL;rw [if_neg hl2,Ks h0w]
 refine dp ?_
 refine HX ?_
 refine Zah ?_
 refine zj ?_
 refine cx 40 ?_ ?_<;>intro ga sga
 refine mb ?_
 exact Zao
 refine Zak ?_
 refine zw ?_
 refine sc ?_ ?_<;>intro hbb
 exact Zao
 have hys:=akX (s:=s) gE gE
 refine Qp ?_
 exact Ni
end Go.Proofs.YtmekkgdboplbjaaGreatDoor
