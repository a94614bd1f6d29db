/- Facts about the program. No condition. -/
import Derived.Test.YtmekkgdboplbjaaGreatDoorEE0
set_option linter.all false
namespace Go.Proofs.YtmekkgdboplbjaaGreatDoor
open Go Go.RowKit M PV Tryz
set_option maxRecDepth 10000
def apv:aE prog 10=true:=ao
def apw:aE prog 104=true:=ao
def Rz:aE prog 105=true:=ao
def ain:aE prog 106=true:=ao
def aio:aE prog 107=true:=ao
def apx:aE prog 114=true:=ao
def aip:aE prog 115=true:=ao
def apy:aE prog 116=true:=ao
def apz:aE prog 117=true:=ao
def apA:aE prog 118=true:=ao
def apB:aE prog 119=true:=ao
def apC:aE prog 120=true:=ao
def aiq:aE prog 121=true:=ao
def apD:aE prog 122=true:=ao
def apE:aE prog 123=true:=ao
def apF:aE prog 124=true:=ao
def apG:aE prog 126=true:=ao
def apH:aE prog 127=true:=ao
def air:aE prog 128=true:=ao
def apI:aE prog 129=true:=ao
def RA:aE prog 132=true:=ao
def Jv:aE prog 133=true:=ao
def apJ:aE prog 134=true:=ao
def apK:aE prog 135=true:=ao
def apL:aE prog 136=true:=ao
def apM:aE prog 138=true:=ao
def Jw:aE prog 139=true:=ao
def apN:aE prog 14=true:=ao
def apO:aE prog 140=true:=ao
def apP:aE prog 141=true:=ao
def apQ:aE prog 151=true:=ao
def vo:aE prog 152=true:=ao
def apR:aE prog 153=true:=ao
def apS:aE prog 154=true:=ao
def apT:aE prog 155=true:=ao
def apU:aE prog 156=true:=ao
def apV:aE prog 157=true:=ao
def apW:aE prog 158=true:=ao
def apX:aE prog 159=true:=ao
def apY:aE prog 160=true:=ao
def apZ:aE prog 164=true:=ao
def ais:aE prog 165=true:=ao
def ait:aE prog 166=true:=ao
def ap0:aE prog 167=true:=ao
def ap1:aE prog 171=true:=ao
def ap2:aE prog 173=true:=ao
def ap3:aE prog 174=true:=ao
def aiu:aE prog 193=true:=ao
def aiv:aE prog 194=true:=ao
def ap4:aE prog 195=true:=ao
def ap5:aE prog 196=true:=ao
def ap6:aE prog 197=true:=ao
def aiw:aE prog 198=true:=ao
def aix:aE prog 199=true:=ao
def RB:aE prog 200=true:=ao
def ap7:aE prog 201=true:=ao
def ap8:aE prog 202=true:=ao
def ap9:aE prog 203=true:=ao
def aiy:aE prog 204=true:=ao
def RC:aE prog 205=true:=ao
def aqa:aE prog 206=true:=ao
def aqb:aE prog 207=true:=ao
def aqc:aE prog 209=true:=ao
def aqd:aE prog 21=true:=ao
def aqe:aE prog 219=true:=ao
def aqf:aE prog 220=true:=ao
def aiz:aE prog 222=true:=ao
def aiA:aE prog 223=true:=ao
def aiB:aE prog 224=true:=ao
def aqg:aE prog 225=true:=ao
def aqh:aE prog 226=true:=ao
def aqi:aE prog 231=true:=ao
def aqj:aE prog 235=true:=ao
def aiC:aE prog 236=true:=ao
def aiD:aE prog 246=true:=ao
def aqk:aE prog 247=true:=ao
def aql:aE prog 248=true:=ao
def aqm:aE prog 249=true:=ao
def aqn:aE prog 250=true:=ao
def aqo:aE prog 251=true:=ao
def aqp:aE prog 252=true:=ao
def aqq:aE prog 253=true:=ao
def RD:aE prog 254=true:=ao
def aqr:aE prog 255=true:=ao
def aqs:aE prog 256=true:=ao
def aiE:aE prog 257=true:=ao
def Jx:aE prog 271=true:=ao
def aiF:aE prog 272=true:=ao
def RE:aE prog 273=true:=ao
def aqt:aE prog 274=true:=ao
def aqu:aE prog 284=true:=ao
def aqv:aE prog 286=true:=ao
def aqw:aE prog 287=true:=ao
def aqx:aE prog 288=true:=ao
def aqy:aE prog 297=true:=ao
def aqz:aE prog 298=true:=ao
def aqA:aE prog 299=true:=ao
def aqB:aE prog 307=true:=ao
def aqC:aE prog 308=true:=ao
def aiG:aE prog 313=true:=ao
def aqD:aE prog 314=true:=ao
def aqE:aE prog 315=true:=ao
def aiH:aE prog 32=true:=ao
def RF:aE prog 324=true:=ao
def aqF:aE prog 325=true:=ao
def aqG:aE prog 326=true:=ao
def aqH:aE prog 328=true:=ao
def aqI:aE prog 329=true:=ao
def aiI:aE prog 33=true:=ao
def aqJ:aE prog 330=true:=ao
def aqK:aE prog 338=true:=ao
def aqL:aE prog 342=true:=ao
def aqM:aE prog 35=true:=ao
def aqN:aE prog 37=true:=ao
def DM:aE prog 38=true:=ao
def DN:aE prog 39=true:=ao
def Jy:aE prog 40=true:=ao
def DO:aE prog 41=true:=ao
def aqO:aE prog 42=true:=ao
def aqP:aE prog 43=true:=ao
def RG:aE prog 44=true:=ao
def aqQ:aE prog 45=true:=ao
def aiJ:aE prog 46=true:=ao
def RH:aE prog 50=true:=ao
def aqR:aE prog 51=true:=ao
def xN:aE prog 52=true:=ao
def aqS:aE prog 53=true:=ao
def RI:aE prog 54=true:=ao
def RJ:aE prog 55=true:=ao
def aqT:aE prog 56=true:=ao
def aqU:aE prog 57=true:=ao
def aqV:aE prog 64=true:=ao
def aqW:aE prog 65=true:=ao
def aiK:aE prog 66=true:=ao
def rD:aE prog 67=true:=ao
def aqX:aE prog 68=true:=ao
def RK:aE prog 69=true:=ao
def rE:aE prog 70=true:=ao
def aiL:aE prog 71=true:=ao
def aiM:aE prog 72=true:=ao
def vp:aE prog 77=true:=ao
def aiN:aE prog 81=true:=ao
def aiO:aE prog 82=true:=ao
def aqY:aE prog 83=true:=ao
def aiP:aE prog 85=true:=ao
def aiQ:aE prog 87=true:=ao
def aiR:aE prog 88=true:=ao
def c_9:aE prog 9=true:=ao
def aiS:aE prog 91=true:=ao
def aiT:aE prog 92=true:=ao
def aiU:aE prog 99=true:=ao
def nb:cd prog 102 0=some 0:=ao
def vq:cd prog 102 1=some 4:=ao
def tT:cd prog 102 2=some 5:=ao
def Ay:cd prog 102 3=some 6:=ao
def qb:cd prog 102 4=some 7:=ao
def Az:cd prog 102 5=some 8:=ao
def tU:cd prog 102 6=some 9:=ao
def xO:cd prog 116 0=some 0:=ao
def oU:cd prog 116 1=some 1:=ao
def nc:cd prog 116 2=some 2:=ao
def ku:cd prog 116 3=some 3:=ao
def DP:cd prog 149 0=some 0:=ao
def xP:cd prog 149 1=some 1:=ao
def rF:cd prog 149 2=some 2:=ao
def tV:cd prog 149 3=some 3:=ao
def qc:cd prog 149 4=some 4:=ao
def aiV:cd prog 176 0=some 0:=ao
def Jz:cd prog 176 1=some 1:=ao
def JA:cd prog 176 2=some 2:=ao
def aq0:cd prog 260 0=some 0:=ao
def RL:cd prog 260 1=some 1:=ao
def aq1:cd prog 307 0=some 0:=ao
def aiW:cd prog 307 1=some 1:=ao
def aiX:cd prog 307 2=some 2:=ao
def rG:cd prog 41 0=some 0:=ao
def lG:cd prog 41 1=some 1:=ao
def nd:cd prog 46 0=some 0:=ao
def oV:cd prog 46 1=some 2:=ao
def AA:cd prog 46 2=some 3:=ao
def hP:cd prog 46 3=some 4:=ao
def qd:cd prog 46 4=some 5:=ao
def lH:cd prog 46 5=some 6:=ao
def ne:cd prog 46 6=some 7:=ao
def vr:cd prog 56 0=some 0:=ao
def aiY:cd prog 56 1=some 4:=ao
def aiZ:cd prog 56 2=some 5:=ao
def AB:cd prog 56 3=some 6:=ao
def dq:fy prog 114=some (116,4,48):=ao
def ai0:fy prog 223=some (23,1,24):=ao
def qe:fy prog 257=some (25,4,64):=ao
def RM:fy prog 258=some (298,1,24):=ao
def rH:fy prog 298=some (307,3,40):=ao
def gB:fy prog 39=some (114,1,24):=ao
def cQ:fy prog 42=some (102,10,144):=ao
def nf:fy prog 43=some (56,7,104):=ao
def jR:fy prog 44=some (149,5,88):=ao
def eR:fy prog 48=some (9,1,16):=ao
def rI:fy prog 73=some (31,13,152):=ao
def lI:dg prog 102=some (true,10):=ao
def jS:dg prog 114=some (false,1):=ao
def mn:dg prog 116=some (true,4):=ao
def nW:dg prog 149=some (true,5):=ao
def aq2:dg prog 257=some (false,1):=ao
def RN:dg prog 258=some (false,1):=ao
def DQ:dg prog 260=some (true,2):=ao
def aq3:dg prog 298=some (false,1):=ao
def iA:dg prog 31=some (true,13):=ao
def RO:dg prog 37=some (false,1):=ao
def mo:dg prog 39=some (false,1):=ao
def hR:dg prog 41=some (true,2):=ao
def fi:dg prog 42=some (false,1):=ao
def qf:dg prog 43=some (false,1):=ao
def lJ:dg prog 44=some (false,1):=ao
def dj:dg prog 46=some (true,8):=ao
def ai1:dg prog 5=some (false,1):=ao
def nX:dg prog 54=some (false,1):=ao
def DR:dg prog 56=some (true,7):=ao
def ng:dg prog 9=some (false,1):=ao
def mp:fI prog 102=some (.agg #[.int .i64 0,.int .i64 0,.slice none 0 0,.slice none 0 0,.int .i64 0,.slice none 0 0,.int .i64 0,.int .i64 0,.int .i64 0,.slice none 0 0]):=ao
def JB:fI prog 114=some (.slice none 0 0):=ao
def iT:fI prog 116=some (.agg #[.int .i64 0,.slice none 0 0,.int .i64 0,.int .i64 0]):=ao
def mq:fI prog 149=some (.agg #[.int .i64 0,.int .i64 0,.slice none 0 0,.slice none 0 0,.slice none 0 0]):=ao
def aq4:fI prog 176=some (.agg #[.slice none 0 0,.int .i64 0,.int .i64 0]):=ao
def aq5:fI prog 23=some (.slice none 0 0):=ao
def JC:fI prog 260=some (.agg #[.slice none 0 0,.slice none 0 0]):=ao
def ai2:fI prog 298=some (.slice none 0 0):=ao
def JD:fI prog 307=some (.agg #[.int .i64 0,.int .i64 0,.slice none 0 0]):=ao
def qg:fI prog 31=some (.agg #[.int .i64 0,.int .i64 0,.int .i64 0,.slice none 0 0,.slice none 0 0,.int .i64 0,.int .i64 0,.int .i64 0,.int .i64 0,.slice none 0 0,.int .i64 0,.int .i64 0,.int .i64 0]):=ao
def DS:fI prog 41=some (.agg #[.slice none 0 0,.int .i64 0]):=ao
def xQ:fI prog 46=some (.agg #[.slice none 0 0,.int .i64 0,.int .i64 0,.slice none 0 0,.slice none 0 0,.slice none 0 0,.slice none 0 0,.int .i64 0]):=ao
def DT:fI prog 5=some (.int .u8 0):=ao
def rJ:fI prog 56=some (.agg #[.int .i64 0,.int .i64 0,.slice none 0 0,.slice none 0 0,.int .i64 0,.int .i64 0,.slice none 0 0]):=ao
def vt:fI prog 9=some (.string (B [])):=ao
def RP{Fz:aA}{w:World}:aP [val (.int .i64 0),val (.int .i64 0),sl aH [],sl ai [],val (.int .i64 0),sl ai [],val (.int .i64 0),val (.int .i64 0),val (.int .i64 0),sl aL []] Fz w (Value.cells (.agg #[.int .i64 0,.int .i64 0,.slice none 0 0,.slice none 0 0,.int .i64 0,.slice none 0 0,.int .i64 0,.int .i64 0,.int .i64 0,.slice none 0 0])).toList []:=dt rfl (dt rfl (gt (gt (dt rfl (gt (dt rfl (dt rfl (dt rfl (gt (mG))))))))))
def xR{Fz:aA}{w:World}:aP [val (.int .i64 0),sl ai [],val (.int .i64 0),val (.int .i64 0)] Fz w (Value.cells (.agg #[.int .i64 0,.slice none 0 0,.int .i64 0,.int .i64 0])).toList []:=dt rfl (gt (dt rfl (dt rfl (mG))))
def xS{Fz:aA}{w:World}:aP [val (.int .i64 0),val (.int .i64 0),sl ai [],sl ai [],sl ai []] Fz w (Value.cells (.agg #[.int .i64 0,.int .i64 0,.slice none 0 0,.slice none 0 0,.slice none 0 0])).toList []:=dt rfl (dt rfl (gt (gt (gt (mG)))))
def aq6{Fz:aA}{w:World}:aP [sl (.own 5 1) [],val (.int .i64 0),val (.int .i64 0)] Fz w (Value.cells (.agg #[.slice none 0 0,.int .i64 0,.int .i64 0])).toList []:=gt (dt rfl (dt rfl (mG)))
def JE{Fz:aA}{w:World}:aP [sl wc [],sl (.own 298 1) []] Fz w (Value.cells (.agg #[.slice none 0 0,.slice none 0 0])).toList []:=gt (gt (mG))
def aq7{Fz:aA}{w:World}:aP [val (.int .i64 0),val (.int .i64 0),sl ai []] Fz w (Value.cells (.agg #[.int .i64 0,.int .i64 0,.slice none 0 0])).toList []:=dt rfl (dt rfl (gt (mG)))
def vu{Fz:aA}{w:World}:aP [val (.int .i64 0),val (.int .i64 0),val (.int .i64 0),sl aH [],sl ai [],val (.int .i64 0),val (.int .i64 0),val (.int .i64 0),val (.int .i64 0),sl ai [],val (.int .i64 0),val (.int .i64 0),val (.int .i64 0)] Fz w (Value.cells (.agg #[.int .i64 0,.int .i64 0,.int .i64 0,.slice none 0 0,.slice none 0 0,.int .i64 0,.int .i64 0,.int .i64 0,.int .i64 0,.slice none 0 0,.int .i64 0,.int .i64 0,.int .i64 0])).toList []:=dt rfl (dt rfl (dt rfl (gt (gt (dt rfl (dt rfl (dt rfl (dt rfl (gt (dt rfl (dt rfl (dt rfl (mG)))))))))))))
def DU{Fz:aA}{w:World}:aP [sl bH [],val (.int .i64 0)] Fz w (Value.cells (.agg #[.slice none 0 0,.int .i64 0])).toList []:=gt (dt rfl (mG))
def xT{Fz:aA}{w:World}:aP [sl bH [],val (.int .i64 0),val (.int .i64 0),sl ai [],sl cm [],sl cf [],sl ck [],val (.int .i64 0)] Fz w (Value.cells (.agg #[.slice none 0 0,.int .i64 0,.int .i64 0,.slice none 0 0,.slice none 0 0,.slice none 0 0,.slice none 0 0,.int .i64 0])).toList []:=gt (dt rfl (dt rfl (gt (gt (gt (gt (dt rfl (mG))))))))
def JF{Fz:aA}{w:World}:aP [val (.int .i64 0),val (.int .i64 0),sl aH [],sl ai [],val (.int .i64 0),val (.int .i64 0),sl aL []] Fz w (Value.cells (.agg #[.int .i64 0,.int .i64 0,.slice none 0 0,.slice none 0 0,.int .i64 0,.int .i64 0,.slice none 0 0])).toList []:=dt rfl (dt rfl (gt (gt (dt rfl (dt rfl (gt (mG)))))))
end Go.Proofs.YtmekkgdboplbjaaGreatDoor
