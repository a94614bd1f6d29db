/- Facts about the program. No condition. -/
import Derived.Test.YtmekkgdboplbjaaGreatDoorCE0
set_option linter.all false
namespace Go.Proofs.YtmekkgdboplbjaaGreatDoor
open Go Go.RowKit M PV Tryz
set_option maxRecDepth 10000
def KS : aE prog 121 = true := by kernel_rfl
def xe : aE prog 132 = true := by kernel_rfl
def Sf : aE prog 14 = true := by kernel_rfl
def Sg : aE prog 15 = true := by kernel_rfl
def Sh : aE prog 151 = true := by kernel_rfl
def jh : aE prog 152 = true := by kernel_rfl
def Si : aE prog 153 = true := by kernel_rfl
def Sj : aE prog 154 = true := by kernel_rfl
def Sk : aE prog 155 = true := by kernel_rfl
def Sl : aE prog 156 = true := by kernel_rfl
def Sm : aE prog 157 = true := by kernel_rfl
def Sn : aE prog 158 = true := by kernel_rfl
def So : aE prog 159 = true := by kernel_rfl
def Sp : aE prog 16 = true := by kernel_rfl
def KT : aE prog 160 = true := by kernel_rfl
def Sq : aE prog 164 = true := by kernel_rfl
def Sr : aE prog 165 = true := by kernel_rfl
def KU : aE prog 166 = true := by kernel_rfl
def KV : aE prog 167 = true := by kernel_rfl
def Ss : aE prog 168 = true := by kernel_rfl
def Su : aE prog 169 = true := by kernel_rfl
def Sv : aE prog 17 = true := by kernel_rfl
def Sw : aE prog 171 = true := by kernel_rfl
def Sx : aE prog 173 = true := by kernel_rfl
def Sy : aE prog 174 = true := by kernel_rfl
def Sz : aE prog 18 = true := by kernel_rfl
def SA : aE prog 180 = true := by kernel_rfl
def SB : aE prog 181 = true := by kernel_rfl
def SC : aE prog 182 = true := by kernel_rfl
def SD : aE prog 183 = true := by kernel_rfl
def SE : aE prog 19 = true := by kernel_rfl
def SF : aE prog 20 = true := by kernel_rfl
def SG : aE prog 203 = true := by kernel_rfl
def KW : aE prog 204 = true := by kernel_rfl
def KX : aE prog 205 = true := by kernel_rfl
def SH : aE prog 209 = true := by kernel_rfl
def Bo : aE prog 21 = true := by kernel_rfl
def SI : aE prog 22 = true := by kernel_rfl
def KY : aE prog 222 = true := by kernel_rfl
def KZ : aE prog 223 = true := by kernel_rfl
def La : aE prog 224 = true := by kernel_rfl
def SJ : aE prog 225 = true := by kernel_rfl
def SK : aE prog 226 = true := by kernel_rfl
def SL : aE prog 23 = true := by kernel_rfl
def SM : aE prog 231 = true := by kernel_rfl
def Bp : aE prog 235 = true := by kernel_rfl
def Lb : aE prog 236 = true := by kernel_rfl
def SN : aE prog 24 = true := by kernel_rfl
def SO : aE prog 25 = true := by kernel_rfl
def SP : aE prog 253 = true := by kernel_rfl
def Bq : aE prog 254 = true := by kernel_rfl
def SQ : aE prog 255 = true := by kernel_rfl
def SR : aE prog 256 = true := by kernel_rfl
def Lc : aE prog 257 = true := by kernel_rfl
def SS : aE prog 26 = true := by kernel_rfl
def SU : aE prog 27 = true := by kernel_rfl
def xf : aE prog 271 = true := by kernel_rfl
def Br : aE prog 272 = true := by kernel_rfl
def Bs : aE prog 273 = true := by kernel_rfl
def SV : aE prog 274 = true := by kernel_rfl
def SX : aE prog 28 = true := by kernel_rfl
def SY : aE prog 286 = true := by kernel_rfl
def SZ : aE prog 287 = true := by kernel_rfl
def Ta : aE prog 288 = true := by kernel_rfl
def Tb : aE prog 29 = true := by kernel_rfl
def Tc : aE prog 297 = true := by kernel_rfl
def Td : aE prog 298 = true := by kernel_rfl
def Te : aE prog 299 = true := by kernel_rfl
def Tf : aE prog 30 = true := by kernel_rfl
def Tg : aE prog 307 = true := by kernel_rfl
def Th : aE prog 308 = true := by kernel_rfl
def Ld : aE prog 313 = true := by kernel_rfl
def Ti : aE prog 314 = true := by kernel_rfl
def Tj : aE prog 315 = true := by kernel_rfl
def Tk : aE prog 32 = true := by kernel_rfl
def Bu : aE prog 324 = true := by kernel_rfl
def Tl : aE prog 325 = true := by kernel_rfl
def Tm : aE prog 326 = true := by kernel_rfl
def Tn : aE prog 328 = true := by kernel_rfl
def Tp : aE prog 329 = true := by kernel_rfl
def Tq : aE prog 330 = true := by kernel_rfl
def Tr : aE prog 338 = true := by kernel_rfl
def Ts : aE prog 342 = true := by kernel_rfl
def Tt : aE prog 64 = true := by kernel_rfl
def Tu : aE prog 65 = true := by kernel_rfl
def Tv : aE prog 66 = true := by kernel_rfl
def iM : aE prog 67 = true := by kernel_rfl
def Le : aE prog 68 = true := by kernel_rfl
def Bv : aE prog 69 = true := by kernel_rfl
def kJ : aE prog 70 = true := by kernel_rfl
def Tw : aE prog 71 = true := by kernel_rfl
def xg : aE prog 72 = true := by kernel_rfl
def Tx : aE prog 73 = true := by kernel_rfl
def Ty : aE prog 76 = true := by kernel_rfl
def jV : aE prog 77 = true := by kernel_rfl
def Tz : aE prog 78 = true := by kernel_rfl
def TA : aE prog 79 = true := by kernel_rfl
def TB : aE prog 80 = true := by kernel_rfl
def TC : aE prog 81 = true := by kernel_rfl
def TD : aE prog 82 = true := by kernel_rfl
def Lf : aE prog 83 = true := by kernel_rfl
def TE : aE prog 84 = true := by kernel_rfl
def Lg : aE prog 85 = true := by kernel_rfl
def Bw : aE prog 87 = true := by kernel_rfl
def Lh : aE prog 88 = true := by kernel_rfl
def TF : aE prog 89 = true := by kernel_rfl
def Bx : aE prog 91 = true := by kernel_rfl
def Li : aE prog 92 = true := by kernel_rfl
def TG : aE prog 93 = true := by kernel_rfl
def TH : aE prog 94 = true := by kernel_rfl
def TI : aE prog 95 = true := by kernel_rfl
def TJ : aE prog 96 = true := by kernel_rfl
def TK : aE prog 97 = true := by kernel_rfl
def iN : bO prog 102 0 = some 0 := by kernel_rfl
def qv : bO prog 102 1 = some 4 := by kernel_rfl
def ls : bO prog 102 2 = some 5 := by kernel_rfl
def ph : bO prog 102 3 = some 6 := by kernel_rfl
def qw : bO prog 102 4 = some 7 := by kernel_rfl
def rR : bO prog 102 5 = some 8 := by kernel_rfl
def nY : bO prog 102 6 = some 9 := by kernel_rfl
def rT : bO prog 116 0 = some 0 := by kernel_rfl
def mL : bO prog 116 1 = some 1 := by kernel_rfl
def kK : bO prog 116 2 = some 2 := by kernel_rfl
def kL : bO prog 116 3 = some 3 := by kernel_rfl
def By : bO prog 149 0 = some 0 := by kernel_rfl
def nZ : bO prog 149 1 = some 1 := by kernel_rfl
def rU : bO prog 149 2 = some 2 := by kernel_rfl
def oa : bO prog 149 3 = some 3 := by kernel_rfl
def iO : bO prog 149 4 = some 4 := by kernel_rfl
def Lj : bO prog 176 0 = some 0 := by kernel_rfl
def xh : bO prog 176 1 = some 1 := by kernel_rfl
def xi : bO prog 176 2 = some 2 := by kernel_rfl
def TL : bO prog 260 0 = some 0 := by kernel_rfl
def Bz : bO prog 260 1 = some 1 := by kernel_rfl
def TM : bO prog 307 0 = some 0 := by kernel_rfl
def Lk : bO prog 307 1 = some 1 := by kernel_rfl
def Ll : bO prog 307 2 = some 2 := by kernel_rfl
def jW : bO prog 41 0 = some 0 := by kernel_rfl
def fG : bO prog 41 1 = some 1 := by kernel_rfl
def fB : bO prog 46 0 = some 0 := by kernel_rfl
def kN : bO prog 46 1 = some 2 := by kernel_rfl
def uj : bO prog 46 2 = some 3 := by kernel_rfl
def eQ : bO prog 46 3 = some 4 := by kernel_rfl
def mM : bO prog 46 4 = some 5 := by kernel_rfl
def ob : bO prog 46 5 = some 6 := by kernel_rfl
def mN : bO prog 46 6 = some 7 := by kernel_rfl
def pi : bO prog 56 0 = some 0 := by kernel_rfl
def Lm : bO prog 56 1 = some 4 := by kernel_rfl
def Ln : bO prog 56 2 = some 5 := by kernel_rfl
def mO : bO prog 56 3 = some 6 := by kernel_rfl
def cX : ew prog 114 = some (116, 4, 48) := by kernel_rfl
def Lo : ew prog 223 = some (23, 1, 24) := by kernel_rfl
def ma : ew prog 257 = some (25, 4, 64) := by kernel_rfl
def BA : ew prog 258 = some (298, 1, 24) := by kernel_rfl
def mP : ew prog 298 = some (307, 3, 40) := by kernel_rfl
def fj : ew prog 39 = some (114, 1, 24) := by kernel_rfl
def ct : ew prog 42 = some (102, 10, 144) := by kernel_rfl
def kO : ew prog 43 = some (56, 7, 104) := by kernel_rfl
def ij : ew prog 44 = some (149, 5, 88) := by kernel_rfl
def ji : ew prog 48 = some (9, 1, 16) := by kernel_rfl
def lu : cn prog 102 = some (true, 10) := by kernel_rfl
def iP : cn prog 114 = some (false, 1) := by kernel_rfl
def fC : cn prog 116 = some (true, 4) := by kernel_rfl
def jj : cn prog 149 = some (true, 5) := by kernel_rfl
def TN : cn prog 257 = some (false, 1) := by kernel_rfl
def BB : cn prog 258 = some (false, 1) := by kernel_rfl
def rV : cn prog 260 = some (true, 2) := by kernel_rfl
def TO : cn prog 298 = some (false, 1) := by kernel_rfl
def BC : cn prog 37 = some (false, 1) := by kernel_rfl
def jX : cn prog 39 = some (false, 1) := by kernel_rfl
def cF : cn prog 41 = some (true, 2) := by kernel_rfl
def eG : cn prog 42 = some (false, 1) := by kernel_rfl
def mQ : cn prog 43 = some (false, 1) := by kernel_rfl
def oe : cn prog 44 = some (false, 1) := by kernel_rfl
def co : cn prog 46 = some (true, 8) := by kernel_rfl
def Lp : cn prog 5 = some (false, 1) := by kernel_rfl
def gV : cn prog 54 = some (false, 1) := by kernel_rfl
def qx : cn prog 56 = some (true, 7) := by kernel_rfl
def Lq : cn prog 9 = some (false, 1) := by kernel_rfl
def jl : dV prog 102 = some (.agg #[.int .i64 0, .int .i64 0, .slice none 0 0, .slice none 0 0, .int .i64 0, .slice none 0 0, .int .i64 0, .int .i64 0, .int .i64 0, .slice none 0 0]) := by kernel_rfl
def xj : dV prog 114 = some (.slice none 0 0) := by kernel_rfl
def fU : dV prog 116 = some (.agg #[.int .i64 0, .slice none 0 0, .int .i64 0, .int .i64 0]) := by kernel_rfl
def jY : dV prog 149 = some (.agg #[.int .i64 0, .int .i64 0, .slice none 0 0, .slice none 0 0, .slice none 0 0]) := by kernel_rfl
def TP : dV prog 176 = some (.agg #[.slice none 0 0, .int .i64 0, .int .i64 0]) := by kernel_rfl
def TQ : dV prog 23 = some (.slice none 0 0) := by kernel_rfl
def xk : dV prog 260 = some (.agg #[.slice none 0 0, .slice none 0 0]) := by kernel_rfl
def Lr : dV prog 298 = some (.slice none 0 0) := by kernel_rfl
def xl : dV prog 307 = some (.agg #[.int .i64 0, .int .i64 0, .slice none 0 0]) := by kernel_rfl
def og : dV prog 41 = some (.agg #[.slice none 0 0, .int .i64 0]) := by kernel_rfl
def pj : dV prog 46 = some (.agg #[.slice none 0 0, .int .i64 0, .int .i64 0, .slice none 0 0, .slice none 0 0, .slice none 0 0, .slice none 0 0, .int .i64 0]) := by kernel_rfl
def TR : dV prog 5 = some (.int .u8 0) := by kernel_rfl
def pk : dV prog 56 = some (.agg #[.int .i64 0, .int .i64 0, .slice none 0 0, .slice none 0 0, .int .i64 0, .int .i64 0, .slice none 0 0]) := by kernel_rfl
def oh : dV prog 9 = some (.string (B [])) := by kernel_rfl
def xm {Fz : av} {w : World} : aG [val (.int .i64 0), val (.int .i64 0), sl aP [], sl ae [], val (.int .i64 0), sl ae [], val (.int .i64 0), val (.int .i64 0), val (.int .i64 0), sl aR []] Fz w (Value.cells (.agg #[.int .i64 0, .int .i64 0, .slice none 0 0, .slice none 0 0, .int .i64 0, .slice none 0 0, .int .i64 0, .int .i64 0, .int .i64 0, .slice none 0 0])).toList [] := dz rfl (dz rfl (eR (eR (dz rfl (eR (dz rfl (dz rfl (dz rfl (eR (kl))))))))))
def pm {Fz : av} {w : World} : aG [val (.int .i64 0), sl ae [], val (.int .i64 0), val (.int .i64 0)] Fz w (Value.cells (.agg #[.int .i64 0, .slice none 0 0, .int .i64 0, .int .i64 0])).toList [] := dz rfl (eR (dz rfl (dz rfl (kl))))
def qy {Fz : av} {w : World} : aG [val (.int .i64 0), val (.int .i64 0), sl ae [], sl ae [], sl ae []] Fz w (Value.cells (.agg #[.int .i64 0, .int .i64 0, .slice none 0 0, .slice none 0 0, .slice none 0 0])).toList [] := dz rfl (dz rfl (eR (eR (eR (kl)))))
def TS {Fz : av} {w : World} : aG [sl (.own 5 1) [], val (.int .i64 0), val (.int .i64 0)] Fz w (Value.cells (.agg #[.slice none 0 0, .int .i64 0, .int .i64 0])).toList [] := eR (dz rfl (dz rfl (kl)))
def xn {Fz : av} {w : World} : aG [sl pz [], sl (.own 298 1) []] Fz w (Value.cells (.agg #[.slice none 0 0, .slice none 0 0])).toList [] := eR (eR (kl))
def TT {Fz : av} {w : World} : aG [val (.int .i64 0), val (.int .i64 0), sl ae []] Fz w (Value.cells (.agg #[.int .i64 0, .int .i64 0, .slice none 0 0])).toList [] := dz rfl (dz rfl (eR (kl)))
def oi {Fz : av} {w : World} : aG [sl bQ [], val (.int .i64 0)] Fz w (Value.cells (.agg #[.slice none 0 0, .int .i64 0])).toList [] := eR (dz rfl (kl))
def pn {Fz : av} {w : World} : aG [sl bQ [], val (.int .i64 0), val (.int .i64 0), sl ae [], sl dr [], sl cQ [], sl cH [], val (.int .i64 0)] Fz w (Value.cells (.agg #[.slice none 0 0, .int .i64 0, .int .i64 0, .slice none 0 0, .slice none 0 0, .slice none 0 0, .slice none 0 0, .int .i64 0])).toList [] := eR (dz rfl (dz rfl (eR (eR (eR (eR (dz rfl (kl))))))))
def xo {Fz : av} {w : World} : aG [val (.int .i64 0), val (.int .i64 0), sl aP [], sl ae [], val (.int .i64 0), val (.int .i64 0), sl aR []] Fz w (Value.cells (.agg #[.int .i64 0, .int .i64 0, .slice none 0 0, .slice none 0 0, .int .i64 0, .int .i64 0, .slice none 0 0])).toList [] := dz rfl (dz rfl (eR (eR (dz rfl (dz rfl (eR (kl)))))))
end Go.Proofs.YtmekkgdboplbjaaGreatDoor
