/- What functions of the program compute. No condition. -/
import Derived.Test.YtmekkgdboplbjaaGreatDoorRX1
import Derived.Test.YtmekkgdboplbjaaGreatDoorRY1
set_option linter.all false
namespace Go.Proofs.YtmekkgdboplbjaaGreatDoor
open Go Go.RowKit M PV Tryz
set_option maxRecDepth 10000
attribute [local irreducible] PV.Lcl PV.LclR RV.Lcl
set_option maxHeartbeats 8000000
attribute [local irreducible] fP
variable{p1 p2 p5 p6 p7 p8 p9 p11 p12 p13 p14 p16 p17 p18:Fl}{e:av}{ws:List an}
def aBU:Hs prog 46 4=some (5,43):=au
def aBV:er prog 46=some [(0,2),(2,1),(3,1),(4,1),(5,1),(6,1),(7,1)]:=au
def aBW:er prog 56=some [(0,4),(4,1),(5,1),(6,1)]:=au
def aBX:prog.underlying 9=some .string:=au
def aBY{id:Int}(hb:aZ e≤68718000000):aE prog 260 [(true,[sl .v (e.Store.aC5.map (aG p1 p2)),val (vI e.Store.Now),val (vI e.aDa),sl .v (e.Order.map ar),sl .v (e.aC6.map (aO p5 p6 p7 p8 p9)),sl .v (e.Done.map (bd p11 p12 p13 p14)),sl .v (e.aDi.map (ba p16 p17 p18)),val (vI e.Steps)]),(false,[val (vI id)])] (aA [(true,[val (vI (fD e id).1.aC7.Id),val (vI (fD e id).1.aC7.aDb),sl .v ((fD e id).1.aC7.aC8.map bM),sl .v ((fD e id).1.aC7.Out.map ar),val (vI (fD e id).1.Time),val (vI (fD e id).1.Steps),sl .v ((fD e id).1.Rows.map (ci .v))]),(false,[val (.bool (fD e id).2)])]):=by
 refine sF func260 fun h0 w0 Fz0=>?_
 refine sn 0 0 fun hl0_0=>?_
 refine sn 0 3 fun hl0_3=>?_
 refine sn 0 4 fun hl0_4=>?_
 refine sn 0 5 fun hl0_5=>?_
 refine sn 0 6 fun hl0_6=>?_
 have hbu:=hb
 simp only [aZ,fk,gN,go] at hbu
 refine io ?_
 refine JN ?_
 refine dp ?_
 refine sT [1,2,4,5] [2,4] ?_
 refine Ah ?_
 refine rA ?_ (x:=hP)
 refine rS ?_
 refine jH ?_
 refine sP [1,2,4,5,6] [2,4] ?_
 refine sL [1,2,4] [2,4] (fun k:Nat=>k≤e.Done.length∧((∀f∈e.Done.drop (e.Done.length - k),f.aC7.Id≠id)∧(0 < k→aU e=true))) (fun k:Nat=>[(6,RV.int ((e.Done.length:Int) - 1 - (k:Int)))]) (fun k:Nat=>[]) (fun k:Nat=>e.Done.length - k) 0 (by exact ⟨ab,aP,fun h_=>absurd h_ (Nat.lt_irrefl 0)⟩) oa ao ?_
 rintro k ⟨hk,ha,hz⟩
 refine bI ?_
 refine rA ?_ (x:=jc)
 refine rM ?_
 refine cx 13 ?_ ?_<;>intro ga sga
 refine JX ?_
 refine rB ga ?_ (x:=cL fi fu EN (hs:=by exact (TH (e:=e) ab)))
 refine iq ?_
 refine sc ?_ ?_<;>intro hba
 have hok:aU e=true:=cS
 have hlt:k < e.Done.length:=me
 have hwm:=dK (f:=nw) (show e.Done.length - 1 - k < e.Done.length by omega)
 refine aY ?_
 refine sT [1,2,4,6] [2,4] ?_
 refine zQ ?_
 refine PR ?_
 refine rA ?_ (x:=cr ak pz ay)
 refine zS ?_
 refine vE ?_
 refine sc ?_ ?_<;>intro hbb
 have hr:=aou hlt hok ha yV
 refine sS [1,2,4,6] [2,4] ?_
 refine je ?_
 refine rA ?_ (x:=cL fi fu Th (hs:=by exact (aE.view (ag:=true) (az.cons (PV.to_map (fun _=>(az.cons (PV.to_map (fun _=>(aB (az.cons (PV.to_map (fun _=>(aB az.nil))) (aB (aB az.nil)))))) az.nil))) (aB (aB (az.cons (PV.to_map (fun _=>(aB az.nil))) (az.cons (PV.to_map (fun _=>(aB (aB (az.cons (PV.to_map (fun _=>(aB (aB (aB az.nil))))) (az.cons (PV.to_map (fun _=>(aB az.nil))) (aB (az.cons (PV.to_map (fun _=>(aB az.nil))) (aB (aB (aB (az.cons (PV.to_map (fun _=>(aB (az.cons (PV.to_map (fun _=>(aB az.nil))) az.nil)))) az.nil)))))))))))) (az.cons (PV.to_map (fun _=>(aB (aB (az.cons (PV.to_map (fun _=>(aB (aB (aB az.nil))))) (az.cons (PV.to_map (fun _=>(aB az.nil))) (aB (aB (az.cons (PV.to_map (fun _=>(aB (az.cons (PV.to_map (fun _=>(aB az.nil))) az.nil)))) az.nil))))))))) (az.cons (PV.to_map (fun _=>(aB (aB (az.cons (PV.to_map (fun _=>(aB az.nil))) (az.cons (PV.to_map (fun _=>(aB az.nil))) (az.cons (PV.to_map (fun _=>(aB az.nil))) az.nil))))))) (aB az.nil)))))))) aQ ((TI (e:=e) ab)))))
 refine rA ?_ (x:=ZQ (ag:=false) (qs:=[sl _ _]) ak aBU nL (fun _=>rfl) ay aj)
 refine Zhe ?_
 exact Ph
 have hno:¬e.Done[e.Done.length - 1 - k].aC7.Id=id:=yV
 refine aK ?_
 refine sG [1,2,4,6] [2,4] ?_
 refine xC ?_
 refine rS ?_
 refine nx (k+1) (by exact ⟨ab,aox hlt ha hno,fun _=>hok⟩) (e:=oa)
 exact Zj0
 refine nt ?_
 exact Zj0
def aBZ(h0w:0 < ws.length)(hw:∀j,(ws.getD j []).length≤1048576)(hwl:ws.length≤1048577):aE prog 211 [(false,[sl .v (ws.map fm)])] (aA [(false,[sl .v ((jo ws).map ar)]),(false,[val (.bool (nZ ws))])]):=by
 refine sF func211 fun h0 w0 Fz0=>?_
 refine sj 0 fun hl0=>?_
 refine pi ?_
 refine rK ?_
 refine qk ?_
 refine jO ?_
 refine qm ?_
 refine cm ?_
 refine sP [0,2,3,4,5] [] ?_
 refine sL [0,2,3] [] (fun k:Nat=>k≤(ws.drop 1).length) (fun k:Nat=>[(4,RV.slc ai ((((ws.drop 1).take k).map bT).map ar)),(5,RV.int (1+(k:Int)))]) (fun k:Nat=>[]) (fun k:Nat=>(ws.drop 1).length - k) 0 ab (by exact aI aj (aI na tI)) ao ?_
 rintro k hk
 have hdl:(ws.drop 1).length=ws.length - 1:=lp
 have htl:((ws.drop 1).take k).length=k:=dh
 refine bI ?_
 refine Aq ?_
 refine sc ?_ ?_<;>intro hba
 have hlt:k < (ws.drop 1).length:=ab
 have h1k:1+k < ws.length:=ab
 have hgk:(ws.drop 1)[k]=ws.getD (1+k) []:=by rw [List.getElem_drop,yE h1k]
 refine aY ?_
 refine sG [0,2,3,4,5] [] ?_
 refine bL ?_
 refine iO ?_
 refine rA ?_ (x:=aS (k:=1+k) ak dc ao ab (by exact eQ h1k (by rw [←yE h1k])) aj)
 refine pn ?_
 refine rA ?_ (x:=cL aM aM up (hs:=by exact (FH (hw (1+k)))))
 refine oo ?_
 refine sG [0,2,3,4,5] [] ?_
 refine bO ?_
 refine nx (k+1) ab (e:=(by exact aI (by exact bC (by rw [ny hlt,bo,hgk];rfl)) (aI na tI)))
 have hend:k=(ws.drop 1).length:=ab
 subst hend
 rw [bG]
 refine gk ?_
 refine sP [0,2,3,4,5] [] ?_
 refine xd (s:=4) [sl .v (((ws.drop 1).map bT).map ar)] aj (by exact (az.cons (PV.to_map (fun _=>(aB az.nil))) az.nil)) fp ?_
 refine sG [0,2,3,4,5] [] ?_
 refine cv ?_
 refine nn ?_
 refine iC ?_
 refine cx 25 ?_ ?_<;>intro ga sga
 refine Dc ?_
 refine rB ga ?_ (x:=lE [val _] jA)
 refine rB ga ?_ (x:=ve)
 refine rG ?_
 refine cx 31 ?_ ?_<;>intro gb sgb
 refine pm ?_
 refine rB gb ?_ (x:=cL cf cC Tc (hs:=by exact (TD (o:=jo ws))))
 refine jP ?_
 exact Pm
 refine hY ?_
 exact Pm
 refine ip ?_
 refine rN 31 ?_
 refine dz ?_
 exact Pm
def aB0(hb:aZ e≤70000000)(hi:dw e)(h0w:0 < ws.length)(hw:∀j,(ws.getD j []).length≤1048576)(hwl:ws.length≤1048577)(hw1:ws.length=1):aE prog 215 [(true,[sl .v (e.Store.aC5.map (aG p1 p2)),val (vI e.Store.Now),val (vI e.aDa),sl .v (e.Order.map ar),sl .v (e.aC6.map (aO p5 p6 p7 p8 p9)),sl .v (e.Done.map (bd p11 p12 p13 p14)),sl .v (e.aDi.map (ba p16 p17 p18)),val (vI e.Steps)]),(false,[sl .v (ws.map fm)])] (aA [(false,[val (.string (B (mb e ws)))])]):=by
 refine sF func215 fun h0 w0 Fz0=>?_
 refine sn 0 0 fun hl0_0=>?_
 refine sn 0 3 fun hl0_3=>?_
 refine sn 0 4 fun hl0_4=>?_
 refine sn 0 5 fun hl0_5=>?_
 refine sn 0 6 fun hl0_6=>?_
 refine sj 1 fun hl1=>?_
 have hll1:=(fO.1 hi.ok).l1
 have hbu:=hb
 simp only [aZ,fk,gN,go] at hbu
 have hnM:=UC (ws.getD 1 [])
 refine io ?_
 refine DT ?_
 refine dp ?_
 refine Il ?_
 refine jw ?_
 refine sc ?_ ?_<;>intro hba
 exact Pn
 refine aY ?_
 refine nr ?_
 refine cx 22 ?_ ?_<;>intro ga sga
 refine Dc ?_
 refine JB ?_
 refine rS ?_
 refine sc ?_ ?_<;>intro hbb
 have hc1:(ws.length=1∧ws.getD 0 []=([101,110,103,105,110,101]:an)):=kF
 have hr:=aBo (e:=e) hc1
 refine Zj5 ?_
 refine rA ?_ (x:=cL fi fu atS (hs:=by exact (awL (e:=e) ab)))
 exact CK
 have hc1:¬(ws.length=1∧ws.getD 0 []=([101,110,103,105,110,101]:an)):=kF
 refine nr ?_
 refine cx 34 ?_ ?_<;>intro gb sgb
 refine Qh ?_
 refine QZ ?_
 refine DX ?_
 refine sc ?_ ?_<;>intro hbc
 have hc2:(ws.length=1∧ws.getD 0 []=([99,104,97,114,103,101,115]:an)):=kF
 have hr:=aBp (e:=e) hc2
 refine wa ?_
 refine Qt ?_
 refine rA ?_ (x:=cL cf cC auH (hs:=by exact (aAL (l:=e.aDi) ab)))
 exact CK
 have hc2:¬(ws.length=1∧ws.getD 0 []=([99,104,97,114,103,101,115]:an)):=kF
 refine nr ?_
 refine cx 47 ?_ ?_<;>intro gc sgc
 refine Ik ?_
 refine JC ?_
 refine rS ?_
 refine sc ?_ ?_<;>intro hbd
 have hc3:(ws.length=1∧ws.getD 0 []=([97,99,116,105,118,101]:an)):=kF
 have hr0:=aBq (e:=e) hc3
 have hae:=aBa e
 have hal:=alA e
 have ha8:=(fO.1 hi.ok).a8
 refine Zj5 ?_
 refine rA ?_ (x:=cL fi fu atF (hs:=by exact (awB (e:=e) ab)))
 refine dJ ?_
 refine sS [1,2,4,5,6] [2] ?_
 refine dp ?_
 refine sS [1,2,4,5,6,7] [2] ?_
 refine cm ?_
 refine sP [1,2,4,5,6,7,8] [2] ?_
 refine sL [1,2,4,5,6] [2] (fun k:Nat=>k≤(eg e).length) (fun k:Nat=>[(7,RV.sc (.string (B (cI ((eg e).take k) [59,32])))),(8,RV.int (k:Int))]) (fun k:Nat=>[]) (fun k:Nat=>(eg e).length - k) 0 ab ej ao ?_
 rintro k hk
 have hjl:=aBv hi k
 refine bI ?_
 refine Aq ?_
 refine sc ?_ ?_<;>intro hbe
 have hlt:k < (eg e).length:=ab
 have hll:=aBw hi hlt
 refine fT ?_
 refine sT [1,2,4,5,6,7,8] [2] ?_
 refine rM ?_
 refine ov ?_
 refine sc ?_ ?_<;>intro hbf
 have hk0:¬k=0:=ab
 refine sG [1,2,4,5,6,7,8] [2] ?_
 refine rM ?_
 refine Qy ?_
 exact Zj8
 have hk0:k=0:=ab
 refine aK ?_
 exact Zj8
 have hend:k=(eg e).length:=ab
 rw [hend,bG] at hjl
 refine gk ?_
 refine sT [1,2,4,5,6,7,8] [2] ?_
 refine JD ?_
 refine sc ?_ ?_<;>intro hbf
 have he_:cI (eg e) [59,32]=[]:=Wr
 rw [if_pos he_] at hae
 have hr:=hr0.trans hae.symm
 refine sS [1,2,4,5,6,7,8] [2] ?_
 refine rK ?_
 exact HT
 have he_:¬cI (eg e) [59,32]=[]:=Wr
 rw [if_neg he_] at hae
 have hr:=hr0.trans hae.symm
 refine aK ?_
 refine sS [1,2,4,5,6,7,8] [2] ?_
 refine rM ?_
 exact CK
 exact Zja
 exact Po
 exact Pp
 exact Pq
def aB1(hb:aZ e≤70000000)(hi:dw e)(h0w:0 < ws.length)(hw:∀j,(ws.getD j []).length≤1048576)(hwl:ws.length≤1048577)(hw2:ws.length=2):aE prog 215 [(true,[sl .v (e.Store.aC5.map (aG p1 p2)),val (vI e.Store.Now),val (vI e.aDa),sl .v (e.Order.map ar),sl .v (e.aC6.map (aO p5 p6 p7 p8 p9)),sl .v (e.Done.map (bd p11 p12 p13 p14)),sl .v (e.aDi.map (ba p16 p17 p18)),val (vI e.Steps)]),(false,[sl .v (ws.map fm)])] (aA [(false,[val (.string (B (mb e ws)))])]):=by
 refine sF func215 fun h0 w0 Fz0=>?_
 refine sn 0 0 fun hl0_0=>?_
 refine sn 0 3 fun hl0_3=>?_
 refine sn 0 4 fun hl0_4=>?_
 refine sn 0 5 fun hl0_5=>?_
 refine sn 0 6 fun hl0_6=>?_
 refine sj 1 fun hl1=>?_
 have hll1:=(fO.1 hi.ok).l1
 have hbu:=hb
 simp only [aZ,fk,gN,go] at hbu
 have hnM:=UC (ws.getD 1 [])
 refine io ?_
 refine DT ?_
 refine dp ?_
 refine Il ?_
 refine jw ?_
 refine sc ?_ ?_<;>intro hba
 have h1w:1 < ws.length:=ab
 refine sG [1,2,4,5] [2] ?_
 refine vp ?_
 refine rA ?_ (x:=cL aM aM up (hs:=by exact (FH (hw 1))))
 refine dr ?_
 refine jH ?_
 refine nr ?_
 refine cx 22 ?_ ?_<;>intro ga sga
 exact Pq
 refine lG ?_
 refine qe ?_
 have hc1:¬(ws.length=1∧ws.getD 0 []=([101,110,103,105,110,101]:an)):=kF
 refine nr ?_
 refine cx 34 ?_ ?_<;>intro gb sgb
 exact Pp
 refine AB ?_
 have hc2:¬(ws.length=1∧ws.getD 0 []=([99,104,97,114,103,101,115]:an)):=kF
 refine nr ?_
 refine cx 47 ?_ ?_<;>intro gc sgc
 exact Po
 refine AC ?_
 have hc3:¬(ws.length=1∧ws.getD 0 []=([97,99,116,105,118,101]:an)):=kF
 refine nr ?_
 refine cx 78 ?_ ?_<;>intro gd sgd
 refine rB gd ?_ (x:=vM false [sl .v _])
 refine rB gd ?_ (x:=aS (k:=0) ak dc (bq rfl) eb sE aj)
 refine rB gd ?_ (x:=lE [val _] jA)
 refine rB gd ?_ (x:=ve)
 refine rO ?_
 refine rM ?_
 refine cx 84 ?_ ?_<;>intro ge sge
 refine rB ge ?_ (x:=sM)
 refine rB ge ?_ (x:=jc)
 refine rA ?_ (x:=cd ge)
 refine rS ?_
 refine sc ?_ ?_<;>intro hbb
 have hc7:(ws.length=2∧ws.getD 0 []=([114,101,115,117,108,116]:an)∧0≤bT (ws.getD 1 [])):=kF
 have hr0:=aBr (e:=e) hc7
 refine wa ?_
 refine Dk ?_
 refine rA ?_ (x:=cL lz kK aus (hs:=by exact (aBY (e:=e) (id:=bT (ws.getD 1 [])) ab)))
 refine bL ?_
 refine rA ?_ (x:=rp (cs:=vb) ak aj aQ)
 refine Zhs ?_
 refine dr ?_
 refine sV [1,2,4,5,9,10] [2] [9] ?_
 refine qi ?_
 refine sc ?_ ?_<;>intro hbc
 have hr:=hr0.trans (if_neg gx)
 refine sS [1,2,4,5,9,10] [2,9] ?_
 refine rK ?_
 exact HT
 have hr:=hr0.trans (if_pos gx)
 refine aK ?_
 refine sS [1,2,4,5,9,10] [2,9] ?_
 refine rA ?_ (x:=lD vc ux)
 refine rA ?_ (x:=cL zm Hf auv (hs:=by exact (aAG (x:=(fD e (bT (ws.getD 1 []))).1))))
 exact CK
 have hc7:¬(ws.length=2∧ws.getD 0 []=([114,101,115,117,108,116]:an)∧0≤bT (ws.getD 1 [])):=kF
 refine nr ?_
 refine cx 102 ?_ ?_<;>intro gf sgf
 refine Zje ?_
 refine rB gf ?_ (x:=lE [val _] jA)
 refine rB gf ?_ (x:=ve)
 refine rA ?_ (x:=cd gf)
 refine rM ?_
 refine cx 108 ?_ ?_<;>intro gg sgg
 refine rB gg ?_ (x:=sM)
 refine rB gg ?_ (x:=lF uu)
 refine rB gg ?_ (x:=lF mH)
 refine rB gg ?_ (x:=lD [sl .v _] mK)
 refine rB gg ?_ (x:=lN gG)
 refine Zjf ?_
 refine rA ?_ (x:=cd gg)
 refine rS ?_
 refine sc ?_ ?_<;>intro hbc
 exact Zjg
 exact HU
 exact Zji
 exact Zjj
 refine Aj ?_
 refine qe ?_
 have hc7:¬(ws.length=2∧ws.getD 0 []=([114,101,115,117,108,116]:an)∧0≤bT (ws.getD 1 [])):=kF
 refine nr ?_
 refine cx 102 ?_ ?_<;>intro gf sgf
 refine Zje ?_
 refine rB gf ?_ (x:=lE [val _] jA)
 refine rB gf ?_ (x:=ve)
 refine rA ?_ (x:=cd gf)
 refine rM ?_
 refine cx 108 ?_ ?_<;>intro gg sgg
 refine rB gg ?_ (x:=sM)
 refine rB gg ?_ (x:=lF uu)
 refine rB gg ?_ (x:=lF mH)
 refine rB gg ?_ (x:=lD [sl .v _] mK)
 refine rB gg ?_ (x:=lN gG)
 refine Zjf ?_
 refine rA ?_ (x:=cd gg)
 refine rS ?_
 refine sc ?_ ?_<;>intro hbb
 exact Zjg
 exact HU
 exact Zji
 exact Zjj
 exact Zjk
 exact Pn
def aB2(hb:aZ e≤70000000)(hi:dw e)(h0w:0 < ws.length)(hw:∀j,(ws.getD j []).length≤1048576)(hwl:ws.length≤1048577)(hn1:¬ws.length=1)(hn2:¬ws.length=2):aE prog 215 [(true,[sl .v (e.Store.aC5.map (aG p1 p2)),val (vI e.Store.Now),val (vI e.aDa),sl .v (e.Order.map ar),sl .v (e.aC6.map (aO p5 p6 p7 p8 p9)),sl .v (e.Done.map (bd p11 p12 p13 p14)),sl .v (e.aDi.map (ba p16 p17 p18)),val (vI e.Steps)]),(false,[sl .v (ws.map fm)])] (aA [(false,[val (.string (B (mb e ws)))])]):=by
 refine sF func215 fun h0 w0 Fz0=>?_
 refine sn 0 0 fun hl0_0=>?_
 refine sn 0 3 fun hl0_3=>?_
 refine sn 0 4 fun hl0_4=>?_
 refine sn 0 5 fun hl0_5=>?_
 refine sn 0 6 fun hl0_6=>?_
 refine sj 1 fun hl1=>?_
 have hll1:=(fO.1 hi.ok).l1
 have hbu:=hb
 simp only [aZ,fk,gN,go] at hbu
 have hnM:=UC (ws.getD 1 [])
 refine io ?_
 refine DT ?_
 refine dp ?_
 refine Il ?_
 refine jw ?_
 refine sc ?_ ?_<;>intro hba
 exact Pn
 refine aY ?_
 refine nr ?_
 refine cx 22 ?_ ?_<;>intro ga sga
 exact Pq
 refine lG ?_
 refine qe ?_
 have hc1:¬(ws.length=1∧ws.getD 0 []=([101,110,103,105,110,101]:an)):=kF
 refine nr ?_
 refine cx 34 ?_ ?_<;>intro gb sgb
 exact Pp
 refine AB ?_
 have hc2:¬(ws.length=1∧ws.getD 0 []=([99,104,97,114,103,101,115]:an)):=kF
 refine nr ?_
 refine cx 47 ?_ ?_<;>intro gc sgc
 exact Po
 refine AC ?_
 exact Zja
def aB3(hb:aZ e≤70000000)(hi:dw e)(h0w:0 < ws.length)(hw:∀j,(ws.getD j []).length≤1048576)(hwl:ws.length≤1048577):aE prog 215 [(true,[sl .v (e.Store.aC5.map (aG p1 p2)),val (vI e.Store.Now),val (vI e.aDa),sl .v (e.Order.map ar),sl .v (e.aC6.map (aO p5 p6 p7 p8 p9)),sl .v (e.Done.map (bd p11 p12 p13 p14)),sl .v (e.aDi.map (ba p16 p17 p18)),val (vI e.Steps)]),(false,[sl .v (ws.map fm)])] (aA [(false,[val (.string (B (mb e ws)))])]):=by
 by_cases h1:ws.length=1
 exact aB0 hb hi h0w hw hwl h1
 by_cases h2:ws.length=2
 exact aB1 hb hi h0w hw hwl h2
 exact aB2 hb hi h0w hw hwl h1 h2
def aB4{has:Bool}{l:an}(hb:aZ e≤70000000)(hci:CI e)(hh:has=decide (0 < e.Store.aC5.length))(hl:l.length≤1048575):aE prog 130 [(true,[sl .v (e.Store.aC5.map (aG .v .v)),val (vI e.Store.Now),val (vI e.aDa),sl .v (e.Order.map ar),sl .v (e.aC6.map (aO .v .v .v .v .v)),sl .v (e.Done.map (bd .v .v .v .v)),sl .v (e.aDi.map (ba .v .v .v)),val (vI e.Steps)]),(false,[val (.bool has)]),(false,[val (.string (B l))])] (aA [(true,[sl .v ((cV e l).1.Store.aC5.map (aG .v .v)),val (vI (cV e l).1.Store.Now),val (vI (cV e l).1.aDa),sl .v ((cV e l).1.Order.map ar),sl .v ((cV e l).1.aC6.map (aO .v .v .v .v .v)),sl .v ((cV e l).1.Done.map (bd .v .v .v .v)),sl .v ((cV e l).1.aDi.map (ba .v .v .v)),val (vI (cV e l).1.Steps)]),(false,[val (.bool (decide (0 < (cV e l).1.Store.aC5.length)))]),(false,[val (.string (B (cV e l).2))])]):=by
 refine sF func130 fun h0 w0 Fz0=>?_
 refine sn 0 0 fun hl0_0=>?_
 refine sn 0 3 fun hl0_3=>?_
 refine sn 0 4 fun hl0_4=>?_
 refine sn 0 5 fun hl0_5=>?_
 refine sn 0 6 fun hl0_6=>?_
 have hsl:=nU 32 l
 have h0w:0 < (aq 32 l).length:=ab
 have hwd0:=ij 32 l 0
 have hwd1:=ij 32 l 1
 refine np ?_
 refine rK ?_
 refine rK ?_
 refine sT [1,2,3,6,7,8] [3,6] ?_
 refine It ?_
 refine iP ?_
 refine yc ?_
 refine nn ?_
 refine iC ?_
 refine cx 29 ?_ ?_<;>intro ga sga
 refine Dc ?_
 refine JB ?_
 refine sc ?_ ?_<;>intro hba
 have htb:((aq 32 l).getD 0 []=[116,97,98,108,101]∧(aq 32 l).length=2):=eO
 have hit:=aoR htb
 have h1w:1 < (aq 32 l).length:=ab
 have hr0:=aoS (e:=e) hit
 refine yc ?_
 refine RO ?_
 refine vp ?_
 refine JR ?_
 refine rA ?_ (x:=cL gJ gK atW (hs:=by exact (aBS (p1:=.v) (rows:=[]) (n:=bT ((aq 32 l).getD 1 [])))))
 refine At ?_
 refine zD ?_
 refine dr ?_
 refine sV [1,2,3,6,7,8,9,10,11] [3,6] [10] ?_
 refine rM ?_
 refine sc ?_ ?_<;>intro hbb
 have hns:(ik [] (bJ ((aq 32 l).getD 1 []))).2=true:=by rw [←LN];simpa using hbb
 have hr:=hr0.trans (aoV hns)
 rw [←LN] at hr
 have hg:0 < (cV e l).1.Store.aC5.length:=by rw [hr];exact (VE (apg _ hns)).seg
 refine sS [1,2,3,6,7,8,9,10,11] [3,6,10] ?_
 refine AQ ?_
 refine rA ?_ (x:=cL tk lA atY (hs:=by exact (aBT (s:=(ik [] (bT ((aq 32 l).getD 1 []))).1) (apg _ hns))))
 refine xL ?_
 refine sV [1,2,3,6,7,8,9,10,11,12,13] [3,6,10] [12] ?_
 refine ph ?_
 refine rK ?_
 exact Zjm
 have hns:(ik [] (bJ ((aq 32 l).getD 1 []))).2=false:=by rw [←LN];simpa using hbb
 have hr:=hr0.trans (aoW hns)
 refine aK ?_
 refine sS [1,2,3,6,7,8,9,10,11] [3,6,10] ?_
 exact Pr
 have htb:¬((aq 32 l).getD 0 []=[116,97,98,108,101]∧(aq 32 l).length=2):=eO
 have hit:=LP htb
 refine cg ?_
 refine yc ?_
 refine qi ?_
 refine sc ?_ ?_<;>intro hbb
 have hsz:e.Store.aC5.length=0:=by have hx_:has=false:=gy;rw [hh] at hx_;have:=of_decide_eq_false hx_;omega
 exact Zjo
 have hsg:0 < e.Store.aC5.length:=by have hx_:has=true:=gy;rw [hh] at hx_;exact of_decide_eq_true hx_
 have hi:=hci.of hsg
 have hg:0 < (cV e l).1.Store.aC5.length:=(VG hi l).seg
 refine aK ?_
 refine yc ?_
 refine rM ?_
 refine Zjp ?_
 refine HX ?_
 refine Ie ?_
 refine dr ?_
 refine sV [1,2,3,6,7,8,9,14,15] [3,6] [14] ?_
 refine rM ?_
 refine sc ?_ ?_<;>intro hbc
 have hpe:(bE l).isSome=true:=gx
 have hxw:=Lx l
 refine Kc ?_
 refine Ig ?_
 refine Zjr ?_
 refine vi ?_
 refine tt ?_
 refine dr ?_
 refine sV [1,2,3,6,7,8,9,14,15,16,17] [3,6,14] [16] ?_
 refine rM ?_
 refine sc ?_ ?_<;>intro hbd
 have hr:=VM hit hsg hpe oX
 exact Zjs
 have hr:=aoU hit hsg hpe oX
 exact Zjt
 have hpe:(bE l).isSome=false:=gx
 have hr0:=LQ hit hsg hpe
 refine aK ?_
 refine Kc ?_
 refine Zju ?_
 refine bL ?_
 refine Zjv ?_
 refine ox ?_
 refine dr ?_
 refine Qo ?_
 refine sc ?_ ?_<;>intro hbd
 have hoc:nZ (aq 32 l)=true:=oX
 exact Zjx
 have hoc:nZ (aq 32 l)=false:=oX
 refine cg ?_
 refine Jy ?_
 refine sc ?_ ?_<;>intro hbe
 have hlf:=(wJ (w:=([102,105,110,105,115,104]:an)) ak).1 sI
 exact Zjz
 have hnf:¬((aq 32 l).length=1∧(aq 32 l).getD 0 []=([102,105,110,105,115,104]:an)):=fun h_=>absurd ((wJ ak).2 h_) sI
 refine cg ?_
 refine Jy ?_
 refine sc ?_ ?_<;>intro hbf
 have hla:=(wJ (w:=([97,100,97,112,116]:an)) ak).1 GC
 exact Zk0
 have hna:¬((aq 32 l).length=1∧(aq 32 l).getD 0 []=([97,100,97,112,116]:an)):=fun h_=>absurd ((wJ ak).2 h_) GC
 exact Zk1
 refine nt ?_
 have htb:¬((aq 32 l).getD 0 []=[116,97,98,108,101]∧(aq 32 l).length=2):=eO
 have hit:=LP htb
 refine cg ?_
 refine yc ?_
 refine qi ?_
 refine sc ?_ ?_<;>intro hba
 have hsz:e.Store.aC5.length=0:=by have hx_:has=false:=cR;rw [hh] at hx_;have:=of_decide_eq_false hx_;omega
 exact Zjo
 have hsg:0 < e.Store.aC5.length:=by have hx_:has=true:=cR;rw [hh] at hx_;exact of_decide_eq_true hx_
 have hi:=hci.of hsg
 have hg:0 < (cV e l).1.Store.aC5.length:=(VG hi l).seg
 refine aK ?_
 refine yc ?_
 refine rM ?_
 refine Zjp ?_
 refine HX ?_
 refine Ie ?_
 refine dr ?_
 refine sV [1,2,3,6,7,8,9,14,15] [3,6] [14] ?_
 refine rM ?_
 refine sc ?_ ?_<;>intro hbb
 have hpe:(bE l).isSome=true:=gy
 have hxw:=Lx l
 refine Kc ?_
 refine Ig ?_
 refine Zjr ?_
 refine vi ?_
 refine tt ?_
 refine dr ?_
 refine sV [1,2,3,6,7,8,9,14,15,16,17] [3,6,14] [16] ?_
 refine rM ?_
 refine sc ?_ ?_<;>intro hbc
 have hr:=VM hit hsg hpe gx
 exact Zjs
 have hr:=aoU hit hsg hpe gx
 exact Zjt
 have hpe:(bE l).isSome=false:=gy
 have hr0:=LQ hit hsg hpe
 refine aK ?_
 refine Kc ?_
 refine Zju ?_
 refine bL ?_
 refine Zjv ?_
 refine ox ?_
 refine dr ?_
 refine Qo ?_
 refine sc ?_ ?_<;>intro hbc
 have hoc:nZ (aq 32 l)=true:=gx
 exact Zjx
 have hoc:nZ (aq 32 l)=false:=gx
 refine cg ?_
 refine Jy ?_
 refine sc ?_ ?_<;>intro hbd
 have hlf:=(wJ (w:=([102,105,110,105,115,104]:an)) ak).1 oX
 exact Zjz
 have hnf:¬((aq 32 l).length=1∧(aq 32 l).getD 0 []=([102,105,110,105,115,104]:an)):=fun h_=>absurd ((wJ ak).2 h_) oX
 refine cg ?_
 refine Jy ?_
 refine sc ?_ ?_<;>intro hbe
 have hla:=(wJ (w:=([97,100,97,112,116]:an)) ak).1 sI
 exact Zk0
 have hna:¬((aq 32 l).length=1∧(aq 32 l).getD 0 []=([97,100,97,112,116]:an)):=fun h_=>absurd ((wJ ak).2 h_) sI
 exact Zk1
def aB5{s:an}(hl:s.length≤1048576)(hw:aq 10 s=ws):aE prog 50 [(false,[val (.string (B s))]),(false,[val (.int .u8 10)])] (aA [(false,[sl jG (ws.map fm)])]):=by
 subst hw;exact aBH hl
def aB6{s:an}(hl:s.length≤1048576):aE prog 47 [(false,[val (.string (B s))])] (aA [(false,[val (.string (B (FK s)))])]):=by
 refine sF func47 fun h0 w0 Fz0=>?_
 obtain ⟨ws,hws⟩:∃ws,aq 10 s=ws:=⟨_,rfl⟩
 have hsl:=nU 10 s
 rw [hws] at hsl
 have hlw:ws.length - 1 < ws.length:=ab
 refine tC ?_
 refine rM ?_
 refine rA ?_ (x:=pg aBX)
 refine ov ?_
 refine sc ?_ ?_<;>intro hba
 have hr:=VP (s:=s) (.inl ab)
 refine lI ?_
 exact zC
 have h30:s.length≤3000:=ab
 refine aK ?_
 refine lI ?_
 refine rM ?_
 refine rA ?_ (x:=cL dl dl KE (hs:=by exact (aB5 ab hws)))
 refine iP ?_
 refine qk ?_
 refine JH ?_
 refine Zis ?_
 refine vZ ?_
 refine sc ?_ ?_<;>intro hbb
 have hll:ws.getLastD []=[]:=by rw [LS hlw];simpa using hbb
 obtain ⟨ls,hls⟩:∃ls,ws.dropLast=ls:=⟨_,rfl⟩
 have hle:mY s=ls:=by rw [apb Gc,hws,hls]
 have hln:ls.length=ws.length - 1:=WG
 refine sG [0,2,3] [] ?_
 refine JH ?_
 refine Zit ?_
 exact Zk2
 have hll:¬ws.getLastD []=[]:=by rw [LS hlw];simpa using hbb
 have hle:mY s=ws:=by rw [apc Gc,hws]
 obtain ⟨ls,rfl⟩:∃ls,ls=ws:=⟨_,rfl⟩
 refine aK ?_
 exact Zk2
end Go.Proofs.YtmekkgdboplbjaaGreatDoor
