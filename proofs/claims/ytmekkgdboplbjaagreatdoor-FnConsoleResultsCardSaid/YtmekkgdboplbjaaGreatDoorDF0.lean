/- Facts about the program. No condition. -/
import Derived.Test.YtmekkgdboplbjaaGreatDoorDE0
set_option linter.all false
namespace Go.Proofs.YtmekkgdboplbjaaGreatDoor
open Go Go.RowKit M PV Tryz
set_option maxRecDepth 10000
def VR:aL prog 10=true:=aq
def VS:aL prog 100=true:=aq
def VT:aL prog 101=true:=aq
def VU:aL prog 103=true:=aq
def DJ:aL prog 105=true:=aq
def NT:aL prog 106=true:=aq
def NU:aL prog 115=true:=aq
def VV:aL prog 116=true:=aq
def VW:aL prog 117=true:=aq
def VX:aL prog 118=true:=aq
def VY:aL prog 119=true:=aq
def VZ:aL prog 138=true:=aq
def yQ:aL prog 139=true:=aq
def Wa:aL prog 14=true:=aq
def Wb:aL prog 140=true:=aq
def Wc:aL prog 141=true:=aq
def Wd:aL prog 154=true:=aq
def We:aL prog 155=true:=aq
def Wf:aL prog 156=true:=aq
def Wg:aL prog 157=true:=aq
def Wh:aL prog 171=true:=aq
def Wi:aL prog 185=true:=aq
def Wj:aL prog 187=true:=aq
def Wk:aL prog 189=true:=aq
def NV:aL prog 194=true:=aq
def Wl:aL prog 195=true:=aq
def NW:aL prog 196=true:=aq
def Wm:aL prog 197=true:=aq
def NX:aL prog 198=true:=aq
def NY:aL prog 199=true:=aq
def DK:aL prog 200=true:=aq
def Wn:aL prog 201=true:=aq
def Wo:aL prog 202=true:=aq
def Wp:aL prog 219=true:=aq
def Wq:aL prog 220=true:=aq
def NZ:aL prog 236=true:=aq
def Wr:aL prog 240=true:=aq
def Ws:aL prog 244=true:=aq
def Wt:aL prog 245=true:=aq
def Oa:aL prog 246=true:=aq
def Wu:aL prog 247=true:=aq
def Wv:aL prog 248=true:=aq
def Ww:aL prog 249=true:=aq
def Wx:aL prog 250=true:=aq
def Wy:aL prog 251=true:=aq
def Wz:aL prog 252=true:=aq
def WA:aL prog 27=true:=aq
def WB:aL prog 284=true:=aq
def WC:aL prog 31=true:=aq
def WD:aL prog 32=true:=aq
def WE:aL prog 33=true:=aq
def WF:aL prog 34=true:=aq
def WG:aL prog 35=true:=aq
def WH:aL prog 36=true:=aq
def WI:aL prog 38=true:=aq
def DL:aL prog 41=true:=aq
def WJ:aL prog 44=true:=aq
def DM:aL prog 54=true:=aq
def DN:aL prog 55=true:=aq
def WK:aL prog 56=true:=aq
def WL:aL prog 57=true:=aq
def Ob:aL prog 66=true:=aq
def mY:aL prog 67=true:=aq
def WM:aL prog 68=true:=aq
def tq:aL prog 70=true:=aq
def Oc:aL prog 71=true:=aq
def DO:aL prog 72=true:=aq
def Od:aL prog 81=true:=aq
def Oe:aL prog 82=true:=aq
def WN:aL prog 83=true:=aq
def WO:aL prog 84=true:=aq
def DP:aL prog 87=true:=aq
def DQ:aL prog 88=true:=aq
def WP:aL prog 89=true:=aq
def Of:aL prog 92=true:=aq
def DR:aL prog 99=true:=aq
def lS:bM prog 102 0=some 0:=aq
def Og:bM prog 102 1=some 4:=aq
def vv:bM prog 102 2=some 5:=aq
def DS:bM prog 102 3=some 6:=aq
def vw:bM prog 102 4=some 7:=aq
def DT:bM prog 102 5=some 8:=aq
def vz:bM prog 102 6=some 9:=aq
def DU:bM prog 116 0=some 0:=aq
def DV:bM prog 116 1=some 1:=aq
def tt:bM prog 116 2=some 2:=aq
def pp:bM prog 116 3=some 3:=aq
def WQ:bM prog 149 0=some 0:=aq
def Oh:bM prog 149 1=some 1:=aq
def pq:bM prog 149 2=some 2:=aq
def tu:bM prog 149 3=some 3:=aq
def tv:bM prog 149 4=some 4:=aq
def nQ:bM prog 41 0=some 0:=aq
def kS:bM prog 41 1=some 1:=aq
def tw:bM prog 46 0=some 0:=aq
def vC:bM prog 46 1=some 2:=aq
def Oi:bM prog 46 2=some 3:=aq
def kh:bM prog 46 3=some 4:=aq
def qR:bM prog 46 4=some 5:=aq
def pt:bM prog 46 5=some 6:=aq
def vD:bM prog 46 6=some 7:=aq
def tx:bM prog 56 0=some 0:=aq
def WR:bM prog 56 1=some 4:=aq
def WS:bM prog 56 2=some 5:=aq
def vE:bM prog 56 3=some 6:=aq
def iM:dY prog 114=some (116,4,48):=aq
def iN:dY prog 39=some (114,1,24):=aq
def gR:dY prog 42=some (102,10,144):=aq
def lT:dY prog 43=some (56,7,104):=aq
def nR:dY prog 44=some (149,5,88):=aq
def eo:dY prog 48=some (9,1,16):=aq
def kT:cl prog 102=some (true,10):=aq
def nS:cl prog 114=some (false,1):=aq
def pu:cl prog 116=some (true,4):=aq
def qS:cl prog 149=some (true,5):=aq
def tz:cl prog 31=some (true,13):=aq
def WT:cl prog 37=some (false,1):=aq
def nU:cl prog 39=some (false,1):=aq
def gy:cl prog 41=some (true,2):=aq
def ki:cl prog 42=some (false,1):=aq
def qT:cl prog 43=some (false,1):=aq
def pv:cl prog 44=some (false,1):=aq
def dl:cl prog 46=some (true,8):=aq
def WU:cl prog 5=some (false,1):=aq
def mZ:cl prog 54=some (false,1):=aq
def px:cl prog 56=some (true,7):=aq
def DW:cl prog 9=some (false,1):=aq
def na:dX prog 102=some (.agg #[.int .i64 0,.int .i64 0,.slice none 0 0,.slice none 0 0,.int .i64 0,.slice none 0 0,.int .i64 0,.int .i64 0,.int .i64 0,.slice none 0 0]):=aq
def DX:dX prog 114=some (.slice none 0 0):=aq
def kj:dX prog 116=some (.agg #[.int .i64 0,.slice none 0 0,.int .i64 0,.int .i64 0]):=aq
def qU:dX prog 149=some (.agg #[.int .i64 0,.int .i64 0,.slice none 0 0,.slice none 0 0,.slice none 0 0]):=aq
def DY:dX prog 31=some (.agg #[.int .i64 0,.int .i64 0,.int .i64 0,.slice none 0 0,.slice none 0 0,.int .i64 0,.int .i64 0,.int .i64 0,.int .i64 0,.slice none 0 0,.int .i64 0,.int .i64 0,.int .i64 0]):=aq
def tB:dX prog 41=some (.agg #[.slice none 0 0,.int .i64 0]):=aq
def vF:dX prog 46=some (.agg #[.slice none 0 0,.int .i64 0,.int .i64 0,.slice none 0 0,.slice none 0 0,.slice none 0 0,.slice none 0 0,.int .i64 0]):=aq
def WV:dX prog 5=some (.int .u8 0):=aq
def nV:dX prog 56=some (.agg #[.int .i64 0,.int .i64 0,.slice none 0 0,.slice none 0 0,.int .i64 0,.int .i64 0,.slice none 0 0]):=aq
def nW:dX prog 9=some (.string (B [])):=aq
def DZ{Fz:ay}{w:World}:aC [val (.int .i64 0),val (.int .i64 0),sl bb [],sl ak [],val (.int .i64 0),sl ak [],val (.int .i64 0),val (.int .i64 0),val (.int .i64 0),sl bc []] Fz w (Value.cells (.agg #[.int .i64 0,.int .i64 0,.slice none 0 0,.slice none 0 0,.int .i64 0,.slice none 0 0,.int .i64 0,.int .i64 0,.int .i64 0,.slice none 0 0])).toList []:=cr rfl (cr rfl (eM (eM (cr rfl (eM (cr rfl (cr rfl (cr rfl (eM (kz))))))))))
def WW{Fz:ay}{w:World}:aC [sl bJ []] Fz w (Value.cells (.slice none 0 0)).toList []:=eM (kz)
def vG{Fz:ay}{w:World}:aC [val (.int .i64 0),sl ak [],val (.int .i64 0),val (.int .i64 0)] Fz w (Value.cells (.agg #[.int .i64 0,.slice none 0 0,.int .i64 0,.int .i64 0])).toList []:=cr rfl (eM (cr rfl (cr rfl (kz))))
def Ea{Fz:ay}{w:World}:aC [val (.int .i64 0),val (.int .i64 0),sl ak [],sl ak [],sl ak []] Fz w (Value.cells (.agg #[.int .i64 0,.int .i64 0,.slice none 0 0,.slice none 0 0,.slice none 0 0])).toList []:=cr rfl (cr rfl (eM (eM (eM (kz)))))
def Eb{Fz:ay}{w:World}:aC [val (.int .i64 0),val (.int .i64 0),val (.int .i64 0),sl bb [],sl ak [],val (.int .i64 0),val (.int .i64 0),val (.int .i64 0),val (.int .i64 0),sl ak [],val (.int .i64 0),val (.int .i64 0),val (.int .i64 0)] Fz w (Value.cells (.agg #[.int .i64 0,.int .i64 0,.int .i64 0,.slice none 0 0,.slice none 0 0,.int .i64 0,.int .i64 0,.int .i64 0,.int .i64 0,.slice none 0 0,.int .i64 0,.int .i64 0,.int .i64 0])).toList []:=cr rfl (cr rfl (cr rfl (eM (eM (cr rfl (cr rfl (cr rfl (cr rfl (eM (cr rfl (cr rfl (cr rfl (kz)))))))))))))
def tC{Fz:ay}{w:World}:aC [sl dg [],val (.int .i64 0)] Fz w (Value.cells (.agg #[.slice none 0 0,.int .i64 0])).toList []:=eM (cr rfl (kz))
def vH{Fz:ay}{w:World}:aC [sl dg [],val (.int .i64 0),val (.int .i64 0),sl ak [],sl fq [],sl ft [],sl fu [],val (.int .i64 0)] Fz w (Value.cells (.agg #[.slice none 0 0,.int .i64 0,.int .i64 0,.slice none 0 0,.slice none 0 0,.slice none 0 0,.slice none 0 0,.int .i64 0])).toList []:=eM (cr rfl (cr rfl (eM (eM (eM (eM (cr rfl (kz))))))))
def vJ{Fz:ay}{w:World}:aC [val (.int .i64 0),val (.int .i64 0),sl bb [],sl ak [],val (.int .i64 0),val (.int .i64 0),sl bc []] Fz w (Value.cells (.agg #[.int .i64 0,.int .i64 0,.slice none 0 0,.slice none 0 0,.int .i64 0,.int .i64 0,.slice none 0 0])).toList []:=cr rfl (cr rfl (eM (eM (cr rfl (cr rfl (eM (kz)))))))
end Go.Proofs.YtmekkgdboplbjaaGreatDoor
