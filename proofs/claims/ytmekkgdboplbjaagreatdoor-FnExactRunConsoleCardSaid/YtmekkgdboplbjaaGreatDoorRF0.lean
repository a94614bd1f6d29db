/- Facts about the program. No condition. -/
import Derived.Test.YtmekkgdboplbjaaGreatDoorRE0
set_option linter.all false
namespace Go.Proofs.YtmekkgdboplbjaaGreatDoor
open Go Go.RowKit M PV Tryz
set_option maxRecDepth 10000
variable{Fz:aD}{w:World}
def atm:aC prog 10=true:=au
def atn:aC prog 100=true:=au
def Tb:aC prog 105=true:=au
def alQ:aC prog 106=true:=au
def alR:aC prog 107=true:=au
def alS:aC prog 115=true:=au
def ato:aC prog 116=true:=au
def atp:aC prog 117=true:=au
def atq:aC prog 118=true:=au
def atr:aC prog 119=true:=au
def ats:aC prog 130=true:=au
def KC:aC prog 133=true:=au
def att:aC prog 134=true:=au
def atu:aC prog 135=true:=au
def atv:aC prog 136=true:=au
def atw:aC prog 138=true:=au
def KD:aC prog 139=true:=au
def atx:aC prog 140=true:=au
def aty:aC prog 141=true:=au
def alT:aC prog 154=true:=au
def atz:aC prog 155=true:=au
def atA:aC prog 156=true:=au
def atB:aC prog 157=true:=au
def Tc:aC prog 158=true:=au
def atC:aC prog 159=true:=au
def atD:aC prog 16=true:=au
def alU:aC prog 160=true:=au
def atE:aC prog 164=true:=au
def atF:aC prog 17=true:=au
def atG:aC prog 171=true:=au
def atH:aC prog 173=true:=au
def atJ:aC prog 174=true:=au
def atK:aC prog 18=true:=au
def atL:aC prog 180=true:=au
def atM:aC prog 181=true:=au
def atN:aC prog 182=true:=au
def atO:aC prog 183=true:=au
def atP:aC prog 185=true:=au
def atQ:aC prog 186=true:=au
def atR:aC prog 187=true:=au
def alV:aC prog 188=true:=au
def atS:aC prog 19=true:=au
def alW:aC prog 194=true:=au
def atT:aC prog 195=true:=au
def alX:aC prog 196=true:=au
def atU:aC prog 197=true:=au
def Td:aC prog 198=true:=au
def Te:aC prog 199=true:=au
def Tf:aC prog 200=true:=au
def atV:aC prog 201=true:=au
def alY:aC prog 202=true:=au
def atW:aC prog 203=true:=au
def atX:aC prog 204=true:=au
def atY:aC prog 209=true:=au
def alZ:aC prog 21=true:=au
def atZ:aC prog 210=true:=au
def at0:aC prog 211=true:=au
def al0:aC prog 212=true:=au
def at1:aC prog 213=true:=au
def at2:aC prog 214=true:=au
def at3:aC prog 215=true:=au
def at4:aC prog 219=true:=au
def at5:aC prog 220=true:=au
def at6:aC prog 222=true:=au
def at7:aC prog 223=true:=au
def at8:aC prog 224=true:=au
def al1:aC prog 225=true:=au
def at9:aC prog 226=true:=au
def aua:aC prog 231=true:=au
def al2:aC prog 236=true:=au
def aub:aC prog 240=true:=au
def auc:aC prog 241=true:=au
def aud:aC prog 242=true:=au
def aue:aC prog 243=true:=au
def auf:aC prog 244=true:=au
def al3:aC prog 246=true:=au
def aug:aC prog 247=true:=au
def auh:aC prog 248=true:=au
def al4:aC prog 249=true:=au
def aui:aC prog 25=true:=au
def auj:aC prog 250=true:=au
def auk:aC prog 251=true:=au
def aul:aC prog 252=true:=au
def aum:aC prog 253=true:=au
def Tg:aC prog 254=true:=au
def aun:aC prog 255=true:=au
def auo:aC prog 256=true:=au
def Th:aC prog 257=true:=au
def aup:aC prog 258=true:=au
def auq:aC prog 259=true:=au
def aur:aC prog 26=true:=au
def aus:aC prog 260=true:=au
def aut:aC prog 27=true:=au
def EM:aC prog 271=true:=au
def al5:aC prog 272=true:=au
def Ti:aC prog 273=true:=au
def auu:aC prog 274=true:=au
def auv:aC prog 28=true:=au
def auw:aC prog 281=true:=au
def aux:aC prog 284=true:=au
def auy:aC prog 286=true:=au
def auz:aC prog 287=true:=au
def auA:aC prog 288=true:=au
def auB:aC prog 289=true:=au
def auC:aC prog 29=true:=au
def auD:aC prog 290=true:=au
def auE:aC prog 297=true:=au
def auF:aC prog 298=true:=au
def auG:aC prog 299=true:=au
def auH:aC prog 30=true:=au
def auI:aC prog 305=true:=au
def auJ:aC prog 306=true:=au
def auK:aC prog 307=true:=au
def auL:aC prog 308=true:=au
def auM:aC prog 309=true:=au
def auN:aC prog 310=true:=au
def al6:aC prog 313=true:=au
def al7:aC prog 314=true:=au
def auO:aC prog 315=true:=au
def Tj:aC prog 32=true:=au
def auP:aC prog 321=true:=au
def auQ:aC prog 322=true:=au
def al8:aC prog 323=true:=au
def Tk:aC prog 324=true:=au
def auR:aC prog 325=true:=au
def al9:aC prog 326=true:=au
def auS:aC prog 327=true:=au
def auT:aC prog 328=true:=au
def auU:aC prog 329=true:=au
def ama:aC prog 33=true:=au
def auV:aC prog 330=true:=au
def amb:aC prog 333=true:=au
def auW:aC prog 334=true:=au
def amc:aC prog 335=true:=au
def auX:aC prog 336=true:=au
def auY:aC prog 337=true:=au
def auZ:aC prog 338=true:=au
def au0:aC prog 339=true:=au
def au1:aC prog 34=true:=au
def au2:aC prog 340=true:=au
def au3:aC prog 341=true:=au
def au4:aC prog 342=true:=au
def au5:aC prog 38=true:=au
def Tl:aC prog 39=true:=au
def amd:aC prog 40=true:=au
def Tm:aC prog 41=true:=au
def au6:aC prog 44=true:=au
def au7:aC prog 47=true:=au
def KE:aC prog 50=true:=au
def au8:aC prog 51=true:=au
def up:aC prog 52=true:=au
def au9:aC prog 53=true:=au
def Tn:aC prog 54=true:=au
def Tp:aC prog 55=true:=au
def ava:aC prog 56=true:=au
def avb:aC prog 57=true:=au
def Tq:aC prog 66=true:=au
def jV:aC prog 67=true:=au
def avc:aC prog 68=true:=au
def EN:aC prog 69=true:=au
def iG:aC prog 70=true:=au
def Tr:aC prog 71=true:=au
def Bh:aC prog 72=true:=au
def avd:aC prog 73=true:=au
def ame:aC prog 81=true:=au
def Ts:aC prog 82=true:=au
def amf:aC prog 83=true:=au
def ave:aC prog 84=true:=au
def amg:aC prog 85=true:=au
def Tt:aC prog 87=true:=au
def KF:aC prog 88=true:=au
def avf:aC prog 89=true:=au
def c_9:aC prog 9=true:=au
def Tu:aC prog 91=true:=au
def Tv:aC prog 92=true:=au
def avh:aC prog 93=true:=au
def avi:aC prog 94=true:=au
def avj:aC prog 95=true:=au
def avk:aC prog 96=true:=au
def avl:aC prog 97=true:=au
def Tw:aC prog 99=true:=au
def kx:cq prog 102 0=some 0:=au
def ww:cq prog 102 1=some 4:=au
def lS:cq prog 102 2=some 5:=au
def KG:cq prog 102 3=some 6:=au
def uq:cq prog 102 4=some 7:=au
def Bi:cq prog 102 5=some 8:=au
def py:cq prog 102 6=some 9:=au
def yo:cq prog 116 0=some 0:=au
def qz:cq prog 116 1=some 1:=au
def nH:cq prog 116 2=some 2:=au
def la:cq prog 116 3=some 3:=au
def Tx:cq prog 149 0=some 0:=au
def yp:cq prog 149 1=some 1:=au
def ur:cq prog 149 2=some 2:=au
def qA:cq prog 149 3=some 3:=au
def ut:cq prog 149 4=some 4:=au
def amh:cq prog 260 0=some 0:=au
def Bj:cq prog 260 1=some 1:=au
def Bk:cq prog 307 0=some 0:=au
def yq:cq prog 307 1=some 1:=au
def yr:cq prog 307 2=some 2:=au
def mH:cq prog 41 0=some 0:=au
def ky:cq prog 41 1=some 1:=au
def uu:cq prog 46 0=some 0:=au
def mI:cq prog 46 1=some 2:=au
def EO:cq prog 46 2=some 3:=au
def gP:cq prog 46 3=some 4:=au
def oL:cq prog 46 4=some 5:=au
def nI:cq prog 46 5=some 6:=au
def sh:cq prog 46 6=some 7:=au
def pz:cq prog 56 0=some 0:=au
def ami:cq prog 56 1=some 4:=au
def amj:cq prog 56 2=some 5:=au
def pA:cq prog 56 3=some 6:=au
def fz:fF prog 114=some (116,4,48):=au
def Bl:fF prog 223=some (23,1,24):=au
def lT:fF prog 257=some (25,4,64):=au
def uv:fF prog 258=some (298,1,24):=au
def kz:fF prog 298=some (307,3,40):=au
def gG:fF prog 39=some (114,1,24):=au
def cY:fF prog 42=some (102,10,144):=au
def mJ:fF prog 43=some (56,7,104):=au
def lU:fF prog 44=some (149,5,88):=au
def dc:fF prog 48=some (9,1,16):=au
def nJ:dk prog 102=some (true,10):=au
def nK:dk prog 114=some (false,1):=au
def lV:dk prog 116=some (true,4):=au
def pB:dk prog 149=some (true,5):=au
def amk:dk prog 257=some (false,1):=au
def Bm:dk prog 258=some (false,1):=au
def uw:dk prog 260=some (true,2):=au
def KH:dk prog 298=some (false,1):=au
def aml:dk prog 307=some (true,3):=au
def si:dk prog 31=some (true,13):=au
def mK:dk prog 39=some (false,1):=au
def iH:dk prog 41=some (true,2):=au
def fe:dk prog 42=some (false,1):=au
def nL:dk prog 43=some (false,1):=au
def nM:dk prog 44=some (false,1):=au
def dg:dk prog 46=some (true,8):=au
def iU:dk prog 54=some (false,1):=au
def ux:dk prog 56=some (true,7):=au
def jA:dk prog 9=some (false,1):=au
def mL:fE prog 102=some (.agg #[.int .i64 0,.int .i64 0,.slice none 0 0,.slice none 0 0,.int .i64 0,.slice none 0 0,.int .i64 0,.int .i64 0,.int .i64 0,.slice none 0 0]):=au
def EP:fE prog 114=some (.slice none 0 0):=au
def iV:fE prog 116=some (.agg #[.int .i64 0,.slice none 0 0,.int .i64 0,.int .i64 0]):=au
def mM:fE prog 149=some (.agg #[.int .i64 0,.int .i64 0,.slice none 0 0,.slice none 0 0,.slice none 0 0]):=au
def avm:fE prog 23=some (.slice none 0 0):=au
def EQ:fE prog 260=some (.agg #[.slice none 0 0,.slice none 0 0]):=au
def amm:fE prog 298=some (.slice none 0 0):=au
def yt:fE prog 307=some (.agg #[.int .i64 0,.int .i64 0,.slice none 0 0]):=au
def ER:fE prog 31=some (.agg #[.int .i64 0,.int .i64 0,.int .i64 0,.slice none 0 0,.slice none 0 0,.int .i64 0,.int .i64 0,.int .i64 0,.int .i64 0,.slice none 0 0,.int .i64 0,.int .i64 0,.int .i64 0]):=au
def ES:fE prog 41=some (.agg #[.slice none 0 0,.int .i64 0]):=au
def sk:fE prog 46=some (.agg #[.slice none 0 0,.int .i64 0,.int .i64 0,.slice none 0 0,.slice none 0 0,.slice none 0 0,.slice none 0 0,.int .i64 0]):=au
def z_5:fE prog 5=some (.int .u8 0):=au
def qB:fE prog 56=some (.agg #[.int .i64 0,.int .i64 0,.slice none 0 0,.slice none 0 0,.int .i64 0,.int .i64 0,.slice none 0 0]):=au
def qC:fE prog 9=some (.string (B [])):=au
def Ty:aN [val (.int .i64 0),val (.int .i64 0),sl aH [],sl ai [],val (.int .i64 0),sl ai [],val (.int .i64 0),val (.int .i64 0),val (.int .i64 0),sl aJ []] Fz w (Value.cells (.agg #[.int .i64 0,.int .i64 0,.slice none 0 0,.slice none 0 0,.int .i64 0,.slice none 0 0,.int .i64 0,.int .i64 0,.int .i64 0,.slice none 0 0])).toList []:=dR rfl (dR rfl (gA (gA (dR rfl (gA (dR rfl (dR rfl (dR rfl (gA (ne))))))))))
def avo:aN [sl bc []] Fz w (Value.cells (.slice none 0 0)).toList []:=gA (ne)
def yu:aN [val (.int .i64 0),sl ai [],val (.int .i64 0),val (.int .i64 0)] Fz w (Value.cells (.agg #[.int .i64 0,.slice none 0 0,.int .i64 0,.int .i64 0])).toList []:=dR rfl (gA (dR rfl (dR rfl (ne))))
def yv:aN [val (.int .i64 0),val (.int .i64 0),sl ai [],sl ai [],sl ai []] Fz w (Value.cells (.agg #[.int .i64 0,.int .i64 0,.slice none 0 0,.slice none 0 0,.slice none 0 0])).toList []:=dR rfl (dR rfl (gA (gA (gA (ne)))))
def ET:aN [sl nd [],sl wT []] Fz w (Value.cells (.agg #[.slice none 0 0,.slice none 0 0])).toList []:=gA (gA (ne))
def KI:aN [val (.int .i64 0),val (.int .i64 0),sl ai []] Fz w (Value.cells (.agg #[.int .i64 0,.int .i64 0,.slice none 0 0])).toList []:=dR rfl (dR rfl (gA (ne)))
def EU:aN [val (.int .i64 0),val (.int .i64 0),val (.int .i64 0),sl aH [],sl ai [],val (.int .i64 0),val (.int .i64 0),val (.int .i64 0),val (.int .i64 0),sl ai [],val (.int .i64 0),val (.int .i64 0),val (.int .i64 0)] Fz w (Value.cells (.agg #[.int .i64 0,.int .i64 0,.int .i64 0,.slice none 0 0,.slice none 0 0,.int .i64 0,.int .i64 0,.int .i64 0,.int .i64 0,.slice none 0 0,.int .i64 0,.int .i64 0,.int .i64 0])).toList []:=dR rfl (dR rfl (dR rfl (gA (gA (dR rfl (dR rfl (dR rfl (dR rfl (gA (dR rfl (dR rfl (dR rfl (ne)))))))))))))
def EV:aN [sl bH [],val (.int .i64 0)] Fz w (Value.cells (.agg #[.slice none 0 0,.int .i64 0])).toList []:=gA (dR rfl (ne))
def sq:aN [sl bH [],val (.int .i64 0),val (.int .i64 0),sl ai [],sl ct [],sl ck [],sl cl [],val (.int .i64 0)] Fz w (Value.cells (.agg #[.slice none 0 0,.int .i64 0,.int .i64 0,.slice none 0 0,.slice none 0 0,.slice none 0 0,.slice none 0 0,.int .i64 0])).toList []:=gA (dR rfl (dR rfl (gA (gA (gA (gA (dR rfl (ne))))))))
def EW:aN [val (.int .i64 0),val (.int .i64 0),sl aH [],sl ai [],val (.int .i64 0),val (.int .i64 0),sl aJ []] Fz w (Value.cells (.agg #[.int .i64 0,.int .i64 0,.slice none 0 0,.slice none 0 0,.int .i64 0,.int .i64 0,.slice none 0 0])).toList []:=dR rfl (dR rfl (gA (gA (dR rfl (dR rfl (gA (ne)))))))
end Go.Proofs.YtmekkgdboplbjaaGreatDoor
