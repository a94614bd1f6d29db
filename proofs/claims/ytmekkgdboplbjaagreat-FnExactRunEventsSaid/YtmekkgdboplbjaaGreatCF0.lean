/- Facts about the program. No condition. -/
import Derived.Test.YtmekkgdboplbjaaGreatCE0
set_option linter.all false
namespace Go.Proofs.YtmekkgdboplbjaaGreat
open Go Go.RowKit M PV Tryz
set_option maxRecDepth 10000
def Wx : ax prog 100 = true := by kernel_rfl
def Oy : ax prog 102 = true := by kernel_rfl
def Wy : ax prog 103 = true := by kernel_rfl
def Wz : ax prog 12 = true := by kernel_rfl
def yk : ax prog 14 = true := by kernel_rfl
def Oz : ax prog 143 = true := by kernel_rfl
def WA : ax prog 145 = true := by kernel_rfl
def WB : ax prog 146 = true := by kernel_rfl
def WC : ax prog 147 = true := by kernel_rfl
def WD : ax prog 148 = true := by kernel_rfl
def OA : ax prog 149 = true := by kernel_rfl
def WE : ax prog 150 = true := by kernel_rfl
def WF : ax prog 151 = true := by kernel_rfl
def WG : ax prog 152 = true := by kernel_rfl
def CV : ax prog 153 = true := by kernel_rfl
def OB : ax prog 155 = true := by kernel_rfl
def yl : ax prog 156 = true := by kernel_rfl
def WH : ax prog 157 = true := by kernel_rfl
def WI : ax prog 158 = true := by kernel_rfl
def WJ : ax prog 159 = true := by kernel_rfl
def WK : ax prog 161 = true := by kernel_rfl
def WL : ax prog 162 = true := by kernel_rfl
def WM : ax prog 163 = true := by kernel_rfl
def WN : ax prog 171 = true := by kernel_rfl
def WO : ax prog 176 = true := by kernel_rfl
def ym : ax prog 177 = true := by kernel_rfl
def WP : ax prog 178 = true := by kernel_rfl
def WQ : ax prog 180 = true := by kernel_rfl
def WR : ax prog 184 = true := by kernel_rfl
def OC : ax prog 190 = true := by kernel_rfl
def WS : ax prog 191 = true := by kernel_rfl
def CW : ax prog 195 = true := by kernel_rfl
def OD : ax prog 196 = true := by kernel_rfl
def WT : ax prog 198 = true := by kernel_rfl
def OE : ax prog 227 = true := by kernel_rfl
def WU : ax prog 228 = true := by kernel_rfl
def CX : ax prog 229 = true := by kernel_rfl
def WV : ax prog 23 = true := by kernel_rfl
def WW : ax prog 230 = true := by kernel_rfl
def WX : ax prog 231 = true := by kernel_rfl
def WY : ax prog 232 = true := by kernel_rfl
def WZ : ax prog 233 = true := by kernel_rfl
def Xa : ax prog 24 = true := by kernel_rfl
def Xb : ax prog 243 = true := by kernel_rfl
def CY : ax prog 244 = true := by kernel_rfl
def Xc : ax prog 245 = true := by kernel_rfl
def Xd : ax prog 246 = true := by kernel_rfl
def Xe : ax prog 248 = true := by kernel_rfl
def Xf : ax prog 249 = true := by kernel_rfl
def Xg : ax prog 250 = true := by kernel_rfl
def Xh : ax prog 253 = true := by kernel_rfl
def Xi : ax prog 254 = true := by kernel_rfl
def Xj : ax prog 258 = true := by kernel_rfl
def Xk : ax prog 259 = true := by kernel_rfl
def Xl : ax prog 271 = true := by kernel_rfl
def OF : ax prog 272 = true := by kernel_rfl
def Xm : ax prog 273 = true := by kernel_rfl
def Xn : ax prog 274 = true := by kernel_rfl
def Xo : ax prog 279 = true := by kernel_rfl
def Xp : ax prog 283 = true := by kernel_rfl
def OG : ax prog 29 = true := by kernel_rfl
def Xq : ax prog 37 = true := by kernel_rfl
def OH : ax prog 39 = true := by kernel_rfl
def CZ : ax prog 41 = true := by kernel_rfl
def OI : ax prog 43 = true := by kernel_rfl
def Xr : ax prog 45 = true := by kernel_rfl
def Xs : ax prog 46 = true := by kernel_rfl
def Xt : ax prog 47 = true := by kernel_rfl
def Xu : ax prog 48 = true := by kernel_rfl
def Xv : ax prog 49 = true := by kernel_rfl
def Xw : ax prog 50 = true := by kernel_rfl
def Xx : ax prog 51 = true := by kernel_rfl
def OJ : ax prog 53 = true := by kernel_rfl
def Xy : ax prog 54 = true := by kernel_rfl
def OK : ax prog 60 = true := by kernel_rfl
def Xz : ax prog 61 = true := by kernel_rfl
def XA : ax prog 63 = true := by kernel_rfl
def OL : ax prog 64 = true := by kernel_rfl
def XB : ax prog 66 = true := by kernel_rfl
def OM : ax prog 68 = true := by kernel_rfl
def XC : ax prog 69 = true := by kernel_rfl
def XD : ax prog 82 = true := by kernel_rfl
def XE : ax prog 83 = true := by kernel_rfl
def XF : ax prog 84 = true := by kernel_rfl
def XG : ax prog 85 = true := by kernel_rfl
def XH : ax prog 86 = true := by kernel_rfl
def XI : ax prog 87 = true := by kernel_rfl
def XJ : ax prog 88 = true := by kernel_rfl
def XK : ax prog 89 = true := by kernel_rfl
def XL : ax prog 90 = true := by kernel_rfl
def XM : ax prog 94 = true := by kernel_rfl
def ON : ax prog 97 = true := by kernel_rfl
def XN : ax prog 99 = true := by kernel_rfl
def XO : ba prog 124 0 = some 0 := by kernel_rfl
def Da : ba prog 124 1 = some 1 := by kernel_rfl
def XP : ba prog 268 0 = some 0 := by kernel_rfl
def OO : ba prog 268 1 = some 1 := by kernel_rfl
def OP : ba prog 268 2 = some 2 := by kernel_rfl
def mx : cZ prog 121 = some (52, 4, 64) := by kernel_rfl
def Db : cZ prog 122 = some (243, 1, 24) := by kernel_rfl
def nu : cZ prog 243 = some (268, 3, 40) := by kernel_rfl
def XQ : bR prog 121 = some (false, 1) := by kernel_rfl
def Dc : bR prog 122 = some (false, 1) := by kernel_rfl
def th : bR prog 124 = some (true, 2) := by kernel_rfl
def XR : bR prog 243 = some (false, 1) := by kernel_rfl
def yn : bR prog 80 = some (true, 8) := by kernel_rfl
def XS : bR prog 97 = some (false, 1) := by kernel_rfl
def yo : eL prog 124 = some (.agg #[.slice none 0 0, .slice none 0 0]) := by kernel_rfl
def OQ : eL prog 243 = some (.slice none 0 0) := by kernel_rfl
def yp : eL prog 268 = some (.agg #[.int .i64 0, .int .i64 0, .slice none 0 0]) := by kernel_rfl
def yq {Fz : av} {w : World} : aJ [sl qc [], sl (.own 243 1) []] Fz w (Value.cells (.agg #[.slice none 0 0, .slice none 0 0])).toList [] := eM (eM (jo))
def XT {Fz : av} {w : World} : aJ [val (.int .i64 0), val (.int .i64 0), sl aa []] Fz w (Value.cells (.agg #[.int .i64 0, .int .i64 0, .slice none 0 0])).toList [] := cK rfl (cK rfl (eM (jo)))
end Go.Proofs.YtmekkgdboplbjaaGreat
