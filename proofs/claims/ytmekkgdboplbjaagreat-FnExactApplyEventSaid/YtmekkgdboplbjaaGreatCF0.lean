/- Facts about the program. No condition. -/
import Derived.Test.YtmekkgdboplbjaaGreatCE0
set_option linter.all false
namespace Go.Proofs.YtmekkgdboplbjaaGreat
open Go Go.RowKit M PV Tryz
set_option maxRecDepth 10000
def Rp : aw prog 100 = true := by kernel_rfl
def KF : aw prog 102 = true := by kernel_rfl
def Rq : aw prog 103 = true := by kernel_rfl
def Rr : aw prog 12 = true := by kernel_rfl
def wv : aw prog 14 = true := by kernel_rfl
def KG : aw prog 143 = true := by kernel_rfl
def Rs : aw prog 145 = true := by kernel_rfl
def Rt : aw prog 146 = true := by kernel_rfl
def Ru : aw prog 147 = true := by kernel_rfl
def Rv : aw prog 148 = true := by kernel_rfl
def KH : aw prog 149 = true := by kernel_rfl
def Rw : aw prog 150 = true := by kernel_rfl
def Rx : aw prog 151 = true := by kernel_rfl
def Ry : aw prog 152 = true := by kernel_rfl
def AY : aw prog 153 = true := by kernel_rfl
def KI : aw prog 155 = true := by kernel_rfl
def ww : aw prog 156 = true := by kernel_rfl
def Rz : aw prog 157 = true := by kernel_rfl
def RA : aw prog 158 = true := by kernel_rfl
def RB : aw prog 159 = true := by kernel_rfl
def RC : aw prog 161 = true := by kernel_rfl
def RD : aw prog 162 = true := by kernel_rfl
def RE : aw prog 163 = true := by kernel_rfl
def RF : aw prog 171 = true := by kernel_rfl
def RG : aw prog 176 = true := by kernel_rfl
def wx : aw prog 177 = true := by kernel_rfl
def RH : aw prog 178 = true := by kernel_rfl
def RI : aw prog 180 = true := by kernel_rfl
def RJ : aw prog 184 = true := by kernel_rfl
def KJ : aw prog 190 = true := by kernel_rfl
def RK : aw prog 191 = true := by kernel_rfl
def AZ : aw prog 195 = true := by kernel_rfl
def KK : aw prog 196 = true := by kernel_rfl
def RL : aw prog 198 = true := by kernel_rfl
def KL : aw prog 227 = true := by kernel_rfl
def RM : aw prog 228 = true := by kernel_rfl
def A0 : aw prog 229 = true := by kernel_rfl
def KM : aw prog 23 = true := by kernel_rfl
def RN : aw prog 230 = true := by kernel_rfl
def RO : aw prog 231 = true := by kernel_rfl
def RP : aw prog 232 = true := by kernel_rfl
def RQ : aw prog 233 = true := by kernel_rfl
def RR : aw prog 24 = true := by kernel_rfl
def RS : aw prog 243 = true := by kernel_rfl
def A3 : aw prog 244 = true := by kernel_rfl
def RT : aw prog 245 = true := by kernel_rfl
def RU : aw prog 246 = true := by kernel_rfl
def RW : aw prog 248 = true := by kernel_rfl
def RX : aw prog 249 = true := by kernel_rfl
def RY : aw prog 250 = true := by kernel_rfl
def RZ : aw prog 253 = true := by kernel_rfl
def R1 : aw prog 254 = true := by kernel_rfl
def R2 : aw prog 258 = true := by kernel_rfl
def R3 : aw prog 259 = true := by kernel_rfl
def R4 : aw prog 271 = true := by kernel_rfl
def KN : aw prog 272 = true := by kernel_rfl
def R5 : aw prog 273 = true := by kernel_rfl
def R6 : aw prog 274 = true := by kernel_rfl
def R7 : aw prog 279 = true := by kernel_rfl
def R8 : aw prog 283 = true := by kernel_rfl
def KO : aw prog 29 = true := by kernel_rfl
def R9 : aw prog 37 = true := by kernel_rfl
def A4 : aw prog 39 = true := by kernel_rfl
def A5 : aw prog 41 = true := by kernel_rfl
def KP : aw prog 43 = true := by kernel_rfl
def Sa : aw prog 44 = true := by kernel_rfl
def Sb : aw prog 45 = true := by kernel_rfl
def KQ : aw prog 53 = true := by kernel_rfl
def Sc : aw prog 54 = true := by kernel_rfl
def KR : aw prog 60 = true := by kernel_rfl
def Sd : aw prog 61 = true := by kernel_rfl
def Se : aw prog 63 = true := by kernel_rfl
def KS : aw prog 64 = true := by kernel_rfl
def Sf : aw prog 66 = true := by kernel_rfl
def KT : aw prog 68 = true := by kernel_rfl
def Sg : aw prog 69 = true := by kernel_rfl
def Sh : aw prog 82 = true := by kernel_rfl
def Si : aw prog 83 = true := by kernel_rfl
def Sj : aw prog 84 = true := by kernel_rfl
def Sk : aw prog 85 = true := by kernel_rfl
def Sl : aw prog 86 = true := by kernel_rfl
def Sm : aw prog 87 = true := by kernel_rfl
def Sn : aw prog 88 = true := by kernel_rfl
def So : aw prog 89 = true := by kernel_rfl
def Sp : aw prog 90 = true := by kernel_rfl
def Sq : aw prog 94 = true := by kernel_rfl
def KU : aw prog 97 = true := by kernel_rfl
def Sr : aw prog 99 = true := by kernel_rfl
def Ss : aW prog 124 0 = some 0 := by kernel_rfl
def A6 : aW prog 124 1 = some 1 := by kernel_rfl
def Su : aW prog 268 0 = some 0 := by kernel_rfl
def KV : aW prog 268 1 = some 1 := by kernel_rfl
def KW : aW prog 268 2 = some 2 := by kernel_rfl
def la : cY prog 121 = some (52, 4, 64) := by kernel_rfl
def A7 : cY prog 122 = some (243, 1, 24) := by kernel_rfl
def ma : cY prog 243 = some (268, 3, 40) := by kernel_rfl
def Sv : bO prog 121 = some (false, 1) := by kernel_rfl
def A8 : bO prog 122 = some (false, 1) := by kernel_rfl
def rz : bO prog 124 = some (true, 2) := by kernel_rfl
def Sw : bO prog 243 = some (false, 1) := by kernel_rfl
def tz : bO prog 80 = some (true, 8) := by kernel_rfl
def wy : eb prog 124 = some (.agg #[.slice none 0 0, .slice none 0 0]) := by kernel_rfl
def KX : eb prog 243 = some (.slice none 0 0) := by kernel_rfl
def wz : eb prog 268 = some (.agg #[.int .i64 0, .int .i64 0, .slice none 0 0]) := by kernel_rfl
def wB {Fz : av} {w : World} : aJ [sl oK [], sl (.own 243 1) []] Fz w (Value.cells (.agg #[.slice none 0 0, .slice none 0 0])).toList [] := ed (ed (iN))
def Sx {Fz : av} {w : World} : aJ [val (.int .i64 0), val (.int .i64 0), sl aa []] Fz w (Value.cells (.agg #[.int .i64 0, .int .i64 0, .slice none 0 0])).toList [] := cw rfl (cw rfl (ed (iN)))
end Go.Proofs.YtmekkgdboplbjaaGreat
