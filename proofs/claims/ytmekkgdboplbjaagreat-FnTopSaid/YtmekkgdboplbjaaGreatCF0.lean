/- Facts about the program. No condition. -/
import Derived.Test.YtmekkgdboplbjaaGreatCE0
set_option linter.all false
namespace Go.Proofs.YtmekkgdboplbjaaGreat
open Go Go.RowKit M PV Tryz
set_option maxRecDepth 10000
def XS : aH prog 10 = true := by kernel_rfl
def XT : aH prog 100 = true := by kernel_rfl
def Rq : aH prog 102 = true := by kernel_rfl
def XU : aH prog 103 = true := by kernel_rfl
def XV : aH prog 104 = true := by kernel_rfl
def XW : aH prog 105 = true := by kernel_rfl
def XX : aH prog 106 = true := by kernel_rfl
def XY : aH prog 12 = true := by kernel_rfl
def Ab : aH prog 14 = true := by kernel_rfl
def Rr : aH prog 142 = true := by kernel_rfl
def Rs : aH prog 143 = true := by kernel_rfl
def XZ : aH prog 145 = true := by kernel_rfl
def Ya : aH prog 146 = true := by kernel_rfl
def Yb : aH prog 147 = true := by kernel_rfl
def Yc : aH prog 148 = true := by kernel_rfl
def Rt : aH prog 149 = true := by kernel_rfl
def Yd : aH prog 150 = true := by kernel_rfl
def Ye : aH prog 151 = true := by kernel_rfl
def Yf : aH prog 152 = true := by kernel_rfl
def ES : aH prog 153 = true := by kernel_rfl
def Yg : aH prog 154 = true := by kernel_rfl
def ET : aH prog 155 = true := by kernel_rfl
def Ac : aH prog 156 = true := by kernel_rfl
def Yh : aH prog 157 = true := by kernel_rfl
def Yi : aH prog 158 = true := by kernel_rfl
def Yj : aH prog 159 = true := by kernel_rfl
def Yk : aH prog 161 = true := by kernel_rfl
def Yl : aH prog 162 = true := by kernel_rfl
def Ym : aH prog 163 = true := by kernel_rfl
def wF : aH prog 169 = true := by kernel_rfl
def Yn : aH prog 171 = true := by kernel_rfl
def Yo : aH prog 176 = true := by kernel_rfl
def Ad : aH prog 177 = true := by kernel_rfl
def Yp : aH prog 178 = true := by kernel_rfl
def Yq : aH prog 180 = true := by kernel_rfl
def Yr : aH prog 182 = true := by kernel_rfl
def Ys : aH prog 183 = true := by kernel_rfl
def Ru : aH prog 184 = true := by kernel_rfl
def Rv : aH prog 185 = true := by kernel_rfl
def Yt : aH prog 186 = true := by kernel_rfl
def Rw : aH prog 190 = true := by kernel_rfl
def Yu : aH prog 191 = true := by kernel_rfl
def EU : aH prog 195 = true := by kernel_rfl
def EV : aH prog 196 = true := by kernel_rfl
def Yv : aH prog 197 = true := by kernel_rfl
def Yw : aH prog 198 = true := by kernel_rfl
def Yx : aH prog 22 = true := by kernel_rfl
def Rx : aH prog 227 = true := by kernel_rfl
def Yy : aH prog 228 = true := by kernel_rfl
def EW : aH prog 229 = true := by kernel_rfl
def Yz : aH prog 23 = true := by kernel_rfl
def YA : aH prog 230 = true := by kernel_rfl
def YB : aH prog 231 = true := by kernel_rfl
def YC : aH prog 232 = true := by kernel_rfl
def YD : aH prog 233 = true := by kernel_rfl
def YE : aH prog 234 = true := by kernel_rfl
def YF : aH prog 235 = true := by kernel_rfl
def Ry : aH prog 236 = true := by kernel_rfl
def YG : aH prog 24 = true := by kernel_rfl
def YH : aH prog 243 = true := by kernel_rfl
def EX : aH prog 244 = true := by kernel_rfl
def YI : aH prog 245 = true := by kernel_rfl
def YJ : aH prog 246 = true := by kernel_rfl
def YK : aH prog 248 = true := by kernel_rfl
def YL : aH prog 249 = true := by kernel_rfl
def YM : aH prog 25 = true := by kernel_rfl
def YN : aH prog 250 = true := by kernel_rfl
def YO : aH prog 251 = true := by kernel_rfl
def Rz : aH prog 252 = true := by kernel_rfl
def YP : aH prog 253 = true := by kernel_rfl
def YQ : aH prog 254 = true := by kernel_rfl
def YR : aH prog 258 = true := by kernel_rfl
def YS : aH prog 259 = true := by kernel_rfl
def YT : aH prog 26 = true := by kernel_rfl
def EY : aH prog 27 = true := by kernel_rfl
def YU : aH prog 271 = true := by kernel_rfl
def RA : aH prog 272 = true := by kernel_rfl
def YV : aH prog 273 = true := by kernel_rfl
def YW : aH prog 274 = true := by kernel_rfl
def YX : aH prog 279 = true := by kernel_rfl
def RB : aH prog 28 = true := by kernel_rfl
def YY : aH prog 283 = true := by kernel_rfl
def RC : aH prog 29 = true := by kernel_rfl
def YZ : aH prog 30 = true := by kernel_rfl
def Za : aH prog 31 = true := by kernel_rfl
def Zb : aH prog 32 = true := by kernel_rfl
def RD : aH prog 33 = true := by kernel_rfl
def Zc : aH prog 34 = true := by kernel_rfl
def Zd : aH prog 35 = true := by kernel_rfl
def Ze : aH prog 36 = true := by kernel_rfl
def RE : aH prog 53 = true := by kernel_rfl
def Zf : aH prog 54 = true := by kernel_rfl
def Zg : aH prog 55 = true := by kernel_rfl
def Zh : aH prog 57 = true := by kernel_rfl
def RF : aH prog 58 = true := by kernel_rfl
def Zi : aH prog 59 = true := by kernel_rfl
def RG : aH prog 60 = true := by kernel_rfl
def Zj : aH prog 61 = true := by kernel_rfl
def Zk : aH prog 63 = true := by kernel_rfl
def EZ : aH prog 64 = true := by kernel_rfl
def Zl : aH prog 66 = true := by kernel_rfl
def RH : aH prog 68 = true := by kernel_rfl
def RI : aH prog 69 = true := by kernel_rfl
def Zm : aH prog 7 = true := by kernel_rfl
def Zn : aH prog 71 = true := by kernel_rfl
def Zo : aH prog 79 = true := by kernel_rfl
def Zp : aH prog 80 = true := by kernel_rfl
def Zq : aH prog 81 = true := by kernel_rfl
def Zr : aH prog 82 = true := by kernel_rfl
def Zs : aH prog 83 = true := by kernel_rfl
def Zt : aH prog 84 = true := by kernel_rfl
def Zu : aH prog 85 = true := by kernel_rfl
def Zv : aH prog 86 = true := by kernel_rfl
def Zw : aH prog 87 = true := by kernel_rfl
def Zx : aH prog 88 = true := by kernel_rfl
def Zy : aH prog 89 = true := by kernel_rfl
def Zz : aH prog 90 = true := by kernel_rfl
def ZA : aH prog 91 = true := by kernel_rfl
def ZB : aH prog 93 = true := by kernel_rfl
def ZC : aH prog 94 = true := by kernel_rfl
def ZD : aH prog 96 = true := by kernel_rfl
def RJ : aH prog 97 = true := by kernel_rfl
def ZE : aH prog 99 = true := by kernel_rfl
def ZF : bO prog 124 0 = some 0 := by kernel_rfl
def Fc : bO prog 124 1 = some 1 := by kernel_rfl
def RK : bO prog 192 0 = some 0 := by kernel_rfl
def Ae : bO prog 192 1 = some 1 := by kernel_rfl
def Af : bO prog 192 2 = some 2 := by kernel_rfl
def ZG : bO prog 268 0 = some 0 := by kernel_rfl
def RL : bO prog 268 1 = some 1 := by kernel_rfl
def RM : bO prog 268 2 = some 2 := by kernel_rfl
def mP : eC prog 121 = some (52, 4, 64) := by kernel_rfl
def Fe : eC prog 122 = some (243, 1, 24) := by kernel_rfl
def nB : eC prog 243 = some (268, 3, 40) := by kernel_rfl
def Ag : eC prog 48 = some (59, 1, 24) := by kernel_rfl
def ZH : cO prog 121 = some (false, 1) := by kernel_rfl
def Ff : cO prog 122 = some (false, 1) := by kernel_rfl
def tZ : cO prog 124 = some (true, 2) := by kernel_rfl
def Fg : cO prog 22 = some (false, 1) := by kernel_rfl
def ZI : cO prog 243 = some (false, 1) := by kernel_rfl
def RN : cO prog 5 = some (false, 1) := by kernel_rfl
def Ah : eU prog 124 = some (.agg #[.slice none 0 0, .slice none 0 0]) := by kernel_rfl
def ZJ : eU prog 192 = some (.agg #[.slice none 0 0, .int .i64 0, .int .i64 0]) := by kernel_rfl
def RO : eU prog 243 = some (.slice none 0 0) := by kernel_rfl
def Ai : eU prog 268 = some (.agg #[.int .i64 0, .int .i64 0, .slice none 0 0]) := by kernel_rfl
def Fh : eU prog 59 = some (.slice none 0 0) := by kernel_rfl
def Aj {Fz : ay} {w : World} : aL [sl qi [], sl (.own 243 1) []] Fz w (Value.cells (.agg #[.slice none 0 0, .slice none 0 0])).toList [] := eW (eW (ky))
def ZK {Fz : ay} {w : World} : aL [sl (.own 5 1) [], val (.int .i64 0), val (.int .i64 0)] Fz w (Value.cells (.agg #[.slice none 0 0, .int .i64 0, .int .i64 0])).toList [] := eW (cU rfl (cU rfl (ky)))
def ZL {Fz : ay} {w : World} : aL [val (.int .i64 0), val (.int .i64 0), sl ab []] Fz w (Value.cells (.agg #[.int .i64 0, .int .i64 0, .slice none 0 0])).toList [] := cU rfl (cU rfl (eW (ky)))
end Go.Proofs.YtmekkgdboplbjaaGreat
