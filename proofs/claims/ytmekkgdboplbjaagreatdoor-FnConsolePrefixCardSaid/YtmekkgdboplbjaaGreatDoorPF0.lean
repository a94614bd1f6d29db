/- Facts about the program. No condition. -/
import Derived.Test.YtmekkgdboplbjaaGreatDoorPE0
set_option linter.all false
namespace Go.Proofs.YtmekkgdboplbjaaGreatDoor
open Go Go.RowKit M PV Tryz
set_option maxRecDepth 10000
variable{Fz:aC}{w:World}
def ax7:aB prog 10=true:=ao
def ax8:aB prog 100=true:=ao
def Xf:aB prog 105=true:=ao
def ap8:aB prog 106=true:=ao
def ap9:aB prog 107=true:=ao
def aqa:aB prog 115=true:=ao
def ax9:aB prog 116=true:=ao
def aya:aB prog 117=true:=ao
def ayb:aB prog 118=true:=ao
def ayc:aB prog 119=true:=ao
def ayd:aB prog 121=true:=ao
def aye:aB prog 122=true:=ao
def Xg:aB prog 123=true:=ao
def ayf:aB prog 130=true:=ao
def ayg:aB prog 131=true:=ao
def Xh:aB prog 132=true:=ao
def NC:aB prog 133=true:=ao
def ayh:aB prog 134=true:=ao
def ayi:aB prog 135=true:=ao
def ayj:aB prog 136=true:=ao
def ayk:aB prog 138=true:=ao
def ND:aB prog 139=true:=ao
def ayl:aB prog 14=true:=ao
def aym:aB prog 140=true:=ao
def ayn:aB prog 141=true:=ao
def aqb:aB prog 152=true:=ao
def aqc:aB prog 154=true:=ao
def ayo:aB prog 155=true:=ao
def ayp:aB prog 156=true:=ao
def ayq:aB prog 157=true:=ao
def Xi:aB prog 158=true:=ao
def ayr:aB prog 159=true:=ao
def ays:aB prog 16=true:=ao
def aqd:aB prog 160=true:=ao
def ayt:aB prog 164=true:=ao
def aqe:aB prog 165=true:=ao
def ayu:aB prog 166=true:=ao
def ayv:aB prog 167=true:=ao
def ayw:aB prog 17=true:=ao
def ayx:aB prog 171=true:=ao
def ayy:aB prog 173=true:=ao
def ayz:aB prog 174=true:=ao
def ayA:aB prog 18=true:=ao
def ayB:aB prog 180=true:=ao
def ayC:aB prog 181=true:=ao
def ayD:aB prog 182=true:=ao
def ayE:aB prog 183=true:=ao
def ayF:aB prog 185=true:=ao
def ayG:aB prog 186=true:=ao
def ayH:aB prog 187=true:=ao
def aqf:aB prog 188=true:=ao
def ayI:aB prog 19=true:=ao
def ayJ:aB prog 193=true:=ao
def aqg:aB prog 194=true:=ao
def ayK:aB prog 195=true:=ao
def aqh:aB prog 196=true:=ao
def ayL:aB prog 197=true:=ao
def Xj:aB prog 198=true:=ao
def Xk:aB prog 199=true:=ao
def Xl:aB prog 200=true:=ao
def ayM:aB prog 201=true:=ao
def aqi:aB prog 202=true:=ao
def aqj:aB prog 203=true:=ao
def aqk:aB prog 204=true:=ao
def aql:aB prog 205=true:=ao
def ayN:aB prog 209=true:=ao
def aqm:aB prog 21=true:=ao
def ayO:aB prog 210=true:=ao
def ayP:aB prog 211=true:=ao
def aqn:aB prog 212=true:=ao
def ayQ:aB prog 213=true:=ao
def ayR:aB prog 214=true:=ao
def ayS:aB prog 215=true:=ao
def ayT:aB prog 219=true:=ao
def ayU:aB prog 220=true:=ao
def ayV:aB prog 222=true:=ao
def ayW:aB prog 223=true:=ao
def ayX:aB prog 224=true:=ao
def aqo:aB prog 225=true:=ao
def ayY:aB prog 226=true:=ao
def ayZ:aB prog 231=true:=ao
def ay0:aB prog 235=true:=ao
def aqp:aB prog 236=true:=ao
def ay1:aB prog 240=true:=ao
def ay2:aB prog 241=true:=ao
def ay3:aB prog 242=true:=ao
def ay4:aB prog 243=true:=ao
def ay5:aB prog 244=true:=ao
def aqq:aB prog 246=true:=ao
def ay6:aB prog 247=true:=ao
def ay7:aB prog 248=true:=ao
def aqr:aB prog 249=true:=ao
def ay8:aB prog 25=true:=ao
def ay9:aB prog 250=true:=ao
def aza:aB prog 251=true:=ao
def azb:aB prog 252=true:=ao
def azc:aB prog 253=true:=ao
def Xm:aB prog 254=true:=ao
def azd:aB prog 255=true:=ao
def aze:aB prog 256=true:=ao
def Xn:aB prog 257=true:=ao
def azf:aB prog 258=true:=ao
def azg:aB prog 259=true:=ao
def azh:aB prog 26=true:=ao
def azi:aB prog 260=true:=ao
def azj:aB prog 27=true:=ao
def Hs:aB prog 271=true:=ao
def aqs:aB prog 272=true:=ao
def Xo:aB prog 273=true:=ao
def azk:aB prog 274=true:=ao
def azl:aB prog 28=true:=ao
def azm:aB prog 281=true:=ao
def azn:aB prog 284=true:=ao
def azo:aB prog 286=true:=ao
def azp:aB prog 287=true:=ao
def azq:aB prog 288=true:=ao
def azr:aB prog 289=true:=ao
def azs:aB prog 29=true:=ao
def azt:aB prog 290=true:=ao
def azu:aB prog 297=true:=ao
def azv:aB prog 298=true:=ao
def azw:aB prog 299=true:=ao
def azx:aB prog 30=true:=ao
def azy:aB prog 305=true:=ao
def azz:aB prog 306=true:=ao
def azA:aB prog 307=true:=ao
def azB:aB prog 308=true:=ao
def azC:aB prog 309=true:=ao
def azD:aB prog 31=true:=ao
def azE:aB prog 310=true:=ao
def aqt:aB prog 313=true:=ao
def aqu:aB prog 314=true:=ao
def azF:aB prog 315=true:=ao
def Xp:aB prog 32=true:=ao
def azG:aB prog 321=true:=ao
def azH:aB prog 322=true:=ao
def aqv:aB prog 323=true:=ao
def Xq:aB prog 324=true:=ao
def azI:aB prog 325=true:=ao
def aqw:aB prog 326=true:=ao
def azJ:aB prog 327=true:=ao
def azK:aB prog 328=true:=ao
def azL:aB prog 329=true:=ao
def aqx:aB prog 33=true:=ao
def azM:aB prog 330=true:=ao
def aqy:aB prog 333=true:=ao
def azN:aB prog 334=true:=ao
def aqz:aB prog 335=true:=ao
def azO:aB prog 336=true:=ao
def azP:aB prog 337=true:=ao
def azQ:aB prog 338=true:=ao
def azR:aB prog 339=true:=ao
def aqA:aB prog 34=true:=ao
def azS:aB prog 340=true:=ao
def azT:aB prog 341=true:=ao
def azU:aB prog 342=true:=ao
def azV:aB prog 38=true:=ao
def NE:aB prog 39=true:=ao
def aqB:aB prog 40=true:=ao
def Xr:aB prog 41=true:=ao
def azW:aB prog 44=true:=ao
def azX:aB prog 47=true:=ao
def azY:aB prog 48=true:=ao
def azZ:aB prog 49=true:=ao
def NF:aB prog 50=true:=ao
def az0:aB prog 51=true:=ao
def wh:aB prog 52=true:=ao
def az1:aB prog 53=true:=ao
def Xs:aB prog 54=true:=ao
def Xt:aB prog 55=true:=ao
def az2:aB prog 56=true:=ao
def az3:aB prog 57=true:=ao
def az4:aB prog 65=true:=ao
def Xu:aB prog 66=true:=ao
def kY:aB prog 67=true:=ao
def az5:aB prog 68=true:=ao
def Ht:aB prog 69=true:=ao
def jo:aB prog 70=true:=ao
def Xv:aB prog 71=true:=ao
def Dm:aB prog 72=true:=ao
def az6:aB prog 73=true:=ao
def Hu:aB prog 77=true:=ao
def aqC:aB prog 81=true:=ao
def Xw:aB prog 82=true:=ao
def aqD:aB prog 83=true:=ao
def az7:aB prog 84=true:=ao
def aqE:aB prog 85=true:=ao
def Xx:aB prog 87=true:=ao
def NG:aB prog 88=true:=ao
def az8:aB prog 89=true:=ao
def c_9:aB prog 9=true:=ao
def Xy:aB prog 91=true:=ao
def Xz:aB prog 92=true:=ao
def aAa:aB prog 93=true:=ao
def aAb:aB prog 94=true:=ao
def aAc:aB prog 95=true:=ao
def aAd:aB prog 96=true:=ao
def aAe:aB prog 97=true:=ao
def XA:aB prog 99=true:=ao
def lJ:co prog 102 0=some 0:=ao
def yr:co prog 102 1=some 4:=ao
def nf:co prog 102 2=some 5:=ao
def NH:co prog 102 3=some 6:=ao
def wi:co prog 102 4=some 7:=ao
def Dn:co prog 102 5=some 8:=ao
def qM:co prog 102 6=some 9:=ao
def Ar:co prog 116 0=some 0:=ao
def sa:co prog 116 1=some 1:=ao
def oO:co prog 116 2=some 2:=ao
def mq:co prog 116 3=some 3:=ao
def XB:co prog 149 0=some 0:=ao
def As:co prog 149 1=some 1:=ao
def wj:co prog 149 2=some 2:=ao
def sb:co prog 149 3=some 3:=ao
def wk:co prog 149 4=some 4:=ao
def aqF:co prog 176 0=some 0:=ao
def NI:co prog 176 1=some 1:=ao
def NJ:co prog 176 2=some 2:=ao
def aqG:co prog 260 0=some 0:=ao
def Do:co prog 260 1=some 1:=ao
def Dp:co prog 307 0=some 0:=ao
def At:co prog 307 1=some 1:=ao
def Au:co prog 307 2=some 2:=ao
def nQ:co prog 41 0=some 0:=ao
def lK:co prog 41 1=some 1:=ao
def wl:co prog 46 0=some 0:=ao
def nR:co prog 46 1=some 2:=ao
def Hv:co prog 46 2=some 3:=ao
def ik:co prog 46 3=some 4:=ao
def pX:co prog 46 4=some 5:=ao
def oP:co prog 46 5=some 6:=ao
def uf:co prog 46 6=some 7:=ao
def qN:co prog 56 0=some 0:=ao
def aqH:co prog 56 1=some 4:=ao
def aqI:co prog 56 2=some 5:=ao
def qO:co prog 56 3=some 6:=ao
def fO:gu prog 114=some (116,4,48):=ao
def Dq:gu prog 223=some (23,1,24):=ao
def mr:gu prog 257=some (25,4,64):=ao
def wm:gu prog 258=some (298,1,24):=ao
def ky:gu prog 298=some (307,3,40):=ao
def hY:gu prog 39=some (114,1,24):=ao
def dj:gu prog 42=some (102,10,144):=ao
def nS:gu prog 43=some (56,7,104):=ao
def ng:gu prog 44=some (149,5,88):=ao
def dc:gu prog 48=some (9,1,16):=ao
def oQ:dr prog 102=some (true,10):=ao
def oR:dr prog 114=some (false,1):=ao
def nh:dr prog 116=some (true,4):=ao
def qP:dr prog 149=some (true,5):=ao
def aqJ:dr prog 257=some (false,1):=ao
def Dr:dr prog 258=some (false,1):=ao
def wn:dr prog 260=some (true,2):=ao
def NK:dr prog 298=some (false,1):=ao
def aqK:dr prog 307=some (true,3):=ao
def qQ:dr prog 31=some (true,13):=ao
def XC:dr prog 37=some (false,1):=ao
def nU:dr prog 39=some (false,1):=ao
def iv:dr prog 41=some (true,2):=ao
def fE:dr prog 42=some (false,1):=ao
def oS:dr prog 43=some (false,1):=ao
def oT:dr prog 44=some (false,1):=ao
def du:dr prog 46=some (true,8):=ao
def XD:dr prog 5=some (false,1):=ao
def jE:dr prog 54=some (false,1):=ao
def wo:dr prog 56=some (true,7):=ao
def kZ:dr prog 9=some (false,1):=ao
def nV:fU prog 102=some (.agg #[.int .i64 0,.int .i64 0,.slice none 0 0,.slice none 0 0,.int .i64 0,.slice none 0 0,.int .i64 0,.int .i64 0,.int .i64 0,.slice none 0 0]):=ao
def Hw:fU prog 114=some (.slice none 0 0):=ao
def jF:fU prog 116=some (.agg #[.int .i64 0,.slice none 0 0,.int .i64 0,.int .i64 0]):=ao
def nW:fU prog 149=some (.agg #[.int .i64 0,.int .i64 0,.slice none 0 0,.slice none 0 0,.slice none 0 0]):=ao
def aAf:fU prog 176=some (.agg #[.slice none 0 0,.int .i64 0,.int .i64 0]):=ao
def aAg:fU prog 23=some (.slice none 0 0):=ao
def Hx:fU prog 260=some (.agg #[.slice none 0 0,.slice none 0 0]):=ao
def aqL:fU prog 298=some (.slice none 0 0):=ao
def Av:fU prog 307=some (.agg #[.int .i64 0,.int .i64 0,.slice none 0 0]):=ao
def yt:fU prog 31=some (.agg #[.int .i64 0,.int .i64 0,.int .i64 0,.slice none 0 0,.slice none 0 0,.int .i64 0,.int .i64 0,.int .i64 0,.int .i64 0,.slice none 0 0,.int .i64 0,.int .i64 0,.int .i64 0]):=ao
def Aw:fU prog 41=some (.agg #[.slice none 0 0,.int .i64 0]):=ao
def ug:fU prog 46=some (.agg #[.slice none 0 0,.int .i64 0,.int .i64 0,.slice none 0 0,.slice none 0 0,.slice none 0 0,.slice none 0 0,.int .i64 0]):=ao
def XE:fU prog 5=some (.int .u8 0):=ao
def sd:fU prog 56=some (.agg #[.int .i64 0,.int .i64 0,.slice none 0 0,.slice none 0 0,.int .i64 0,.int .i64 0,.slice none 0 0]):=ao
def oU:fU prog 9=some (.string (B [])):=ao
def XF:aN [val (.int .i64 0),val (.int .i64 0),sl aG [],sl aj [],val (.int .i64 0),sl aj [],val (.int .i64 0),val (.int .i64 0),val (.int .i64 0),sl aK []] Fz w (Value.cells (.agg #[.int .i64 0,.int .i64 0,.slice none 0 0,.slice none 0 0,.int .i64 0,.slice none 0 0,.int .i64 0,.int .i64 0,.int .i64 0,.slice none 0 0])).toList []:=dV rfl (dV rfl (gR (gR (dV rfl (gR (dV rfl (dV rfl (dV rfl (gR (nB))))))))))
def aAh:aN [sl ba []] Fz w (Value.cells (.slice none 0 0)).toList []:=gR (nB)
def Ax:aN [val (.int .i64 0),sl aj [],val (.int .i64 0),val (.int .i64 0)] Fz w (Value.cells (.agg #[.int .i64 0,.slice none 0 0,.int .i64 0,.int .i64 0])).toList []:=dV rfl (gR (dV rfl (dV rfl (nB))))
def Ay:aN [val (.int .i64 0),val (.int .i64 0),sl aj [],sl aj [],sl aj []] Fz w (Value.cells (.agg #[.int .i64 0,.int .i64 0,.slice none 0 0,.slice none 0 0,.slice none 0 0])).toList []:=dV rfl (dV rfl (gR (gR (gR (nB)))))
def aAi:aN [sl (.own 5 1) [],val (.int .i64 0),val (.int .i64 0)] Fz w (Value.cells (.agg #[.slice none 0 0,.int .i64 0,.int .i64 0])).toList []:=gR (dV rfl (dV rfl (nB)))
def Hy:aN [sl oo [],sl yW []] Fz w (Value.cells (.agg #[.slice none 0 0,.slice none 0 0])).toList []:=gR (gR (nB))
def NL:aN [val (.int .i64 0),val (.int .i64 0),sl aj []] Fz w (Value.cells (.agg #[.int .i64 0,.int .i64 0,.slice none 0 0])).toList []:=dV rfl (dV rfl (gR (nB)))
def yu:aN [val (.int .i64 0),val (.int .i64 0),val (.int .i64 0),sl aG [],sl aj [],val (.int .i64 0),val (.int .i64 0),val (.int .i64 0),val (.int .i64 0),sl aj [],val (.int .i64 0),val (.int .i64 0),val (.int .i64 0)] Fz w (Value.cells (.agg #[.int .i64 0,.int .i64 0,.int .i64 0,.slice none 0 0,.slice none 0 0,.int .i64 0,.int .i64 0,.int .i64 0,.int .i64 0,.slice none 0 0,.int .i64 0,.int .i64 0,.int .i64 0])).toList []:=dV rfl (dV rfl (dV rfl (gR (gR (dV rfl (dV rfl (dV rfl (dV rfl (gR (dV rfl (dV rfl (dV rfl (nB)))))))))))))
def Az:aN [sl bI [],val (.int .i64 0)] Fz w (Value.cells (.agg #[.slice none 0 0,.int .i64 0])).toList []:=gR (dV rfl (nB))
def uh:aN [sl bI [],val (.int .i64 0),val (.int .i64 0),sl aj [],sl cG [],sl cw [],sl cD [],val (.int .i64 0)] Fz w (Value.cells (.agg #[.slice none 0 0,.int .i64 0,.int .i64 0,.slice none 0 0,.slice none 0 0,.slice none 0 0,.slice none 0 0,.int .i64 0])).toList []:=gR (dV rfl (dV rfl (gR (gR (gR (gR (dV rfl (nB))))))))
def Hz:aN [val (.int .i64 0),val (.int .i64 0),sl aG [],sl aj [],val (.int .i64 0),val (.int .i64 0),sl aK []] Fz w (Value.cells (.agg #[.int .i64 0,.int .i64 0,.slice none 0 0,.slice none 0 0,.int .i64 0,.int .i64 0,.slice none 0 0])).toList []:=dV rfl (dV rfl (gR (gR (dV rfl (dV rfl (gR (nB)))))))
end Go.Proofs.YtmekkgdboplbjaaGreatDoor
