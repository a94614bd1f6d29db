/- What functions of the program compute. No condition. -/
import Derived.Test.YtmekkgdboplbjaaGreatDoorEX1
import Derived.Test.YtmekkgdboplbjaaGreatDoorEY1
import Derived.Test.YtmekkgdboplbjaaGreatDoorEZ1
set_option linter.all false
namespace Go.Proofs.YtmekkgdboplbjaaGreatDoor
open Go Go.RowKit M PV Tryz
set_option maxRecDepth 10000
attribute [local irreducible] PV.Lcl PV.LclR RV.Lcl
set_option maxHeartbeats 8000000
attribute [local irreducible] aw hJ
def Ev:prog.underlying 4=some .bool:=ao
def axd{b:Bool}:aQ prog 35 [(false,[val (.bool b)])] (aB [(false,[val (vI (if b then 1 else 0))])]):=by
 refine sF func35 fun h0 w0 Fz0=>?_
 refine zi ?_
 refine rM ?_
 refine sc ?_ ?_<;>intro hba
 exact Zfv
 refine ba ?_
 exact Zfv
def axe{code:List Int}:gu prog gl 6 [(false,[sl .v (code.map oN)])] (aB [(false,[val (.bool true)])]):=by
 refine lX (rs:=[(false,[val (.bool true)])]) func6 rfl (nl rfl) (jn (aF.cons (bor_sl _) aF.nil) jm) ?_
 intro h0 w0 Fz0
 refine sj 0 fun hl0=>?_
 refine qY ?_
 refine sS [0,2,7000] [] ?_
 refine dD ?_
 refine rA ?_ (x:=cL [(false,[sl _ _])] [(false,[sl .v _])] apN (hs:=by exact axc))
 refine sc ?_ ?_<;>intro hba
 refine sS [0,2,7000] [] ?_
 refine rK ?_
 exact yK
 have hbig:code.length≤1048576:=by have hh:=hba;simp at hh;omega
 have hb:code.length≤9223372036854775807:=ab
 have hb2:code.length≤4611686018427387904:=ab
 have hwe:=akC (aS code hb)
 have hwx:=awA (aS code hb)
 have hfx:=TM (bT (bD (aS code hb)).c (bD (aS code hb)).s).1
 have hpl:=aws (aS code hb)
 have hre:=awt (bT (bD (aS code hb)).c (bD (aS code hb)).s).1
 have hlw:=awB (aS code hb)
 have hll:=alr (aS code hb)
 have hwu_:=hlw
 simp only [IW] at hwu_
 have hfp:dE (bT (bD (aS code hb)).c (bD (aS code hb)).s).1=true→eo ((cr (eo (bT (bD (aS code hb)).c (bD (aS code hb)).s).1)).getD dN)=eo (bT (bD (aS code hb)).c (bD (aS code hb)).s).1:=fun h_=>by rw [ala h_];rfl
 have hpt:(cr (si (aS code hb))).isSome=true→eo ((cr (si (aS code hb))).getD dN)=(si (aS code hb)):=fun h_=>by cases e_:cr (si (aS code hb)) with|none=>rw [e_] at h_;cases h_|some x_=>exact (avC e_).2
 refine ba ?_
 refine sS [0,2,7000] [] ?_
 refine dD ?_
 refine rA ?_ (x:=cL [(false,[sl _ _])] [(false,[sl .v _])] aqN (hs:=by exact (aw2 ab ab)))
 refine yR ?_
 refine sT [0,2,3,7000] [3] ?_
 refine Dk ?_
 refine rA ?_ (x:=gL [(true,cS)] [(true,ej)] DM (hs:=EP))
 refine rS ?_
 refine sS [0,2,3,4,7000] [3] ?_
 refine rM ?_
 refine OR ?_
 refine BS ?_
 refine yR ?_
 refine rS ?_
 refine dC ?_
 refine sO [(0,_),(2,_),(3,_),(4,_),(5,_),(6,_),(7000,_)] [(3,_),(5,(31,cS))] ?_
 refine zk ?_
 refine dA 0 ?_ (x:=lD ej iA)
 refine dA 2 ?_ (x:=cL [(true,cS)] [(true,ej)] DN (hs:=by exact TY))
 refine dA 7 ?_ (x:=qT)
 refine dA 15 ?_ (x:=sM)
 refine dx 36 ?_ ?_<;>intro ga sga
 exact absurd ga vO
 refine dB 31 ga ?_ (x:=sM)
 refine dB 31 ga ?_ (x:=lD ej iA)
 refine dB 95 ga ?_ (x:=cL [(true,cS)] [(true,ej)] Jy (hs:=EU))
 refine dB 255 ga ?_ (x:=FS aj Ev an an)
 refine dA 511 ?_ (x:=aR ga)
 refine dA 1023 ?_ (x:=sM)
 refine dx 42 ?_ ?_<;>intro gb sgb
 exact absurd gb vO
 refine dB 2047 gb ?_ (x:=sM)
 refine dB 4095 gb ?_ (x:=sM)
 refine dx 44 ?_ ?_<;>intro gc sgc
 refine dB 8191 gc ?_ (x:=lD ej iA)
 refine dB 16383 gc ?_ (x:=gL [(true,cS)] [(true,ej)] DM (hs:=EP))
 refine dB 8191 gc ?_ (x:=sM)
 refine dB 65535 gc ?_ (x:=qT)
 refine dB 131071 gb ?_ (x:=bj gc)
 refine dA 262143 ?_ (x:=aR gb)
 refine dA 524287 ?_ (x:=sM)
 refine dx 51 ?_ ?_<;>intro gd sgd
 exact Zfz
 refine Zg0 ?_
 refine dB 2097151 gd ?_ (x:=cL [(true,cS)] [(true,ej)] DO (hs:=ET))
 refine Zg0 ?_
 refine dB 8388607 gd ?_ (x:=cL [(true,cS)] [(true,ej)] Jy (hs:=EU))
 refine dB 16777215 gd ?_ (x:=FS aj Ev an an)
 refine dA 33554431 ?_ (x:=aR gd)
 refine sc ?_ ?_<;>intro hbb
 exact Zg1
 refine ba ?_
 refine sS [0,2,3,4,5,6,7000] [3,5] ?_
 refine Zg2 ?_
 refine cb ?_
 refine Zg3 ?_
 refine lu ?_
 refine Zg4 ?_
 refine Pa ?_
 refine Zg5 ?_
 refine cb ?_
 refine BR ?_
 refine lu ?_
 refine Zg6 ?_
 refine NC ?_
 refine lu ?_
 refine Zg7 ?_
 refine aY ?_
 refine iv ?_
 refine sS [0,2,3,4,5,6,7,8,9,10,11,12,7000] [3,5,7,9,11] ?_
 refine cl ?_
 refine Zg8 ?_
 rintro k hk
 have heb:=SZ (bR (aS code hb)).1 (fx (aS code hb)) k ab ab
 refine tb ?_
 refine rA ?_ (x:=lN rI)
 refine dQ ?_
 refine sc ?_ ?_<;>intro hbc
 have hlt:k < (fx (aS code hb)).length:=ab
 have hwm:=fg (f:=ki) hlt
 refine Zg9 ?_
 refine Zga ?_
 refine Zgb ?_
 refine Zgc ?_
 refine qO (G:=2000) (qs:=[(true,aW),(true,cS)]) (as_:=[(true,cO),(true,ej)]) aj RG oi ip Uf UY ao ao fun uss hU0=>?_
 obtain ⟨us0,r0,rfl,hl0,hR0,hU1⟩:=eO.cons hU0
 obtain ⟨u8_0_0,u8_0_1,u8_0_2,u8_0_3,u8_0_4,u8_0_5,u8_0_6,u8_0_7,rfl⟩:=tv hl0
 obtain rfl:=fz hR0 (j:=1) rfl rfl
 obtain rfl:=fz hR0 (j:=2) rfl rfl
 obtain rfl:=fz hR0 (j:=7) rfl rfl
 obtain ⟨us1,r1,rfl,hl1,hR1,hU2⟩:=eO.cons hU1
 obtain ⟨u8_1_0,rfl⟩:=pP hl1
 exact Zgd
 have hend:k=(fx (aS code hb)).length:=ab
 have hru:nk (bR (aS code hb)).1 (fx (aS code hb))=dM (bR (aS code hb)).1 (fx (aS code hb)) k:=Vi
 refine Zge ?_
 refine Zgf ?_
 refine Zgg ?_
 refine rM ?_
 refine OR ?_
 refine BS ?_
 refine yR ?_
 refine eU ?_
 refine Zgh ?_
 refine rM ?_
 refine Zgi ?_
 refine BS ?_
 refine yR ?_
 refine eU ?_
 refine Zgj ?_
 refine fB ?_
 refine iw ?_
 refine cx 105 ?_ ?_<;>intro ge sge
 refine rB ge ?_ (x:=lD cO dj)
 refine rB ge ?_ (x:=lD cO dj)
 refine rB ge ?_ (x:=cL [(true,aW),(true,aW)] [(true,cO),(true,cO)] aiJ (hs:=by exact alD))
 refine nF ?_
 refine cx 110 ?_ ?_<;>intro gf sgf
 refine rB gf ?_ (x:=sM)
 refine rB gf ?_ (x:=sM)
 refine rB gf ?_ (x:=LS aj Ev an an)
 refine tq ?_
 refine rM ?_
 refine cx 115 ?_ ?_<;>intro gg sgg
 refine rB gg ?_ (x:=sM)
 refine rB gg ?_ (x:=nT)
 refine rB gg ?_ (x:=sM)
 refine cx 118 ?_ ?_<;>intro gh sgh
 refine zt gh ?_
 refine rB gg ?_ (x:=bj gh)
 refine rA ?_ (x:=bj gg)
 exact GS
 refine rB gh ?_ (x:=lD ej iA)
 refine rB gh ?_ (x:=gL [(true,cS)] [(true,ej)] DM (hs:=EP))
 refine rB gh ?_ (x:=sM)
 refine rB gh ?_ (x:=qS)
 refine rB gg ?_ (x:=aR gh)
 refine rA ?_ (x:=bj gg)
 exact GS
 exact absurd gg vO
 exact Zgl
 exact Zgm
 refine dF 8191 gc ?_
 refine dF 16383 gc ?_
 refine dF 8191 gc ?_
 refine dF 65535 gc ?_
 refine dB 131071 gb ?_ (x:=aR gc)
 refine dA 262143 ?_ (x:=aR gb)
 refine dA 524287 ?_ (x:=sM)
 refine bO.cases (s:=51) rfl (fun g13=>nomatch g13) (fun g13=>?_)
 refine Zgn ?_
 refine dB 2097151 g13 ?_ (x:=cL [(true,cS)] [(true,ej)] DO (hs:=ET))
 refine Zgn ?_
 refine dB 8388607 g13 ?_ (x:=cL [(true,cS)] [(true,ej)] Jy (hs:=EU))
 refine dB 16777215 g13 ?_ (x:=FS aj Ev an an)
 refine dA 33554431 ?_ (x:=aR g13)
 refine sc ?_ ?_<;>intro hbb
 exact Zg1
 refine ba ?_
 refine sS [0,2,3,4,5,6,7000] [3,5] ?_
 refine Zg2 ?_
 refine cb ?_
 refine Zg3 ?_
 refine lu ?_
 refine Zg4 ?_
 refine Pa ?_
 refine Zg5 ?_
 refine cb ?_
 refine BR ?_
 refine lu ?_
 refine Zg6 ?_
 refine NC ?_
 refine lu ?_
 refine Zg7 ?_
 refine aY ?_
 refine iv ?_
 refine sS [0,2,3,4,5,6,7,8,9,10,11,12,7000] [3,5,7,9,11] ?_
 refine cl ?_
 refine Zg8 ?_
 rintro k hk
 have heb:=SZ (bR (aS code hb)).1 (fx (aS code hb)) k ab ab
 refine tb ?_
 refine rA ?_ (x:=lN rI)
 refine dQ ?_
 refine sc ?_ ?_<;>intro hbc
 have hlt:k < (fx (aS code hb)).length:=ab
 have hwm:=fg (f:=ki) hlt
 refine Zg9 ?_
 refine Zga ?_
 refine Zgb ?_
 refine Zgc ?_
 refine qO (G:=2000) (qs:=[(true,aW),(true,cS)]) (as_:=[(true,cO),(true,ej)]) aj RG oi ip Uf UY ao ao fun uss hU0=>?_
 obtain ⟨us0,r0,rfl,hl0,hR0,hU1⟩:=eO.cons hU0
 obtain ⟨u16_0_0,u16_0_1,u16_0_2,u16_0_3,u16_0_4,u16_0_5,u16_0_6,u16_0_7,rfl⟩:=tv hl0
 obtain rfl:=fz hR0 (j:=1) rfl rfl
 obtain rfl:=fz hR0 (j:=2) rfl rfl
 obtain rfl:=fz hR0 (j:=7) rfl rfl
 obtain ⟨us1,r1,rfl,hl1,hR1,hU2⟩:=eO.cons hU1
 obtain ⟨u16_1_0,rfl⟩:=pP hl1
 exact Zgd
 have hend:k=(fx (aS code hb)).length:=ab
 have hru:nk (bR (aS code hb)).1 (fx (aS code hb))=dM (bR (aS code hb)).1 (fx (aS code hb)) k:=Vi
 refine Zge ?_
 refine Zgf ?_
 refine Zgg ?_
 refine rM ?_
 refine OR ?_
 refine BS ?_
 refine yR ?_
 refine eU ?_
 refine Zgh ?_
 refine rM ?_
 refine Zgi ?_
 refine BS ?_
 refine yR ?_
 refine eU ?_
 refine Zgj ?_
 refine fB ?_
 refine iw ?_
 refine cx 105 ?_ ?_<;>intro gd sgd
 refine rB gd ?_ (x:=lD cO dj)
 refine rB gd ?_ (x:=lD cO dj)
 refine rB gd ?_ (x:=cL [(true,aW),(true,aW)] [(true,cO),(true,cO)] aiJ (hs:=by exact alD))
 refine pA ?_
 refine cx 110 ?_ ?_<;>intro ge sge
 refine rB ge ?_ (x:=sM)
 refine rB ge ?_ (x:=sM)
 refine rB ge ?_ (x:=LS aj Ev an an)
 refine nF ?_
 refine cx 115 ?_ ?_<;>intro gf sgf
 refine rB gf ?_ (x:=sM)
 refine rB gf ?_ (x:=nT)
 refine rB gf ?_ (x:=sM)
 refine cx 118 ?_ ?_<;>intro gg sgg
 refine zt gg ?_
 refine rB gf ?_ (x:=bj gg)
 refine tq ?_
 exact GS
 refine rB gg ?_ (x:=lD ej iA)
 refine rB gg ?_ (x:=gL [(true,cS)] [(true,ej)] DM (hs:=EP))
 refine rB gg ?_ (x:=sM)
 refine rB gg ?_ (x:=qS)
 refine rB gf ?_ (x:=aR gg)
 refine tq ?_
 exact GS
 exact Zgl
 exact Zgm
 exact Zfz
end Go.Proofs.YtmekkgdboplbjaaGreatDoor
