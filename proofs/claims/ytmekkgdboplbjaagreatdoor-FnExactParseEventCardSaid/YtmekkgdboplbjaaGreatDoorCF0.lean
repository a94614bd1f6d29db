/- Facts about the program. No condition. -/
import Derived.Test.YtmekkgdboplbjaaGreatDoorCE0
set_option linter.all false
namespace Go.Proofs.YtmekkgdboplbjaaGreatDoor
open Go Go.RowKit M PV Tryz
set_option maxRecDepth 10000
def Dq : aw prog 10 = true := by kernel_rfl
def rt : aw prog 105 = true := by kernel_rfl
def xV : aw prog 106 = true := by kernel_rfl
def xW : aw prog 107 = true := by kernel_rfl
def Dr : aw prog 11 = true := by kernel_rfl
def Ds : aw prog 12 = true := by kernel_rfl
def Dt : aw prog 13 = true := by kernel_rfl
def oz : aw prog 133 = true := by kernel_rfl
def Du : aw prog 134 = true := by kernel_rfl
def Dv : aw prog 135 = true := by kernel_rfl
def Dw : aw prog 136 = true := by kernel_rfl
def Dx : aw prog 138 = true := by kernel_rfl
def oA : aw prog 139 = true := by kernel_rfl
def Dy : aw prog 140 = true := by kernel_rfl
def Dz : aw prog 141 = true := by kernel_rfl
def DA : aw prog 157 = true := by kernel_rfl
def DB : aw prog 219 = true := by kernel_rfl
def DC : aw prog 220 = true := by kernel_rfl
def xX : aw prog 32 = true := by kernel_rfl
def xY : aw prog 33 = true := by kernel_rfl
def DD : aw prog 38 = true := by kernel_rfl
def ru : aw prog 39 = true := by kernel_rfl
def DE : aw prog 40 = true := by kernel_rfl
def xZ : aw prog 41 = true := by kernel_rfl
def rx : aw prog 50 = true := by kernel_rfl
def DF : aw prog 51 = true := by kernel_rfl
def gx : aw prog 52 = true := by kernel_rfl
def DG : aw prog 53 = true := by kernel_rfl
def ry : aw prog 54 = true := by kernel_rfl
def rz : aw prog 55 = true := by kernel_rfl
def DH : aw prog 56 = true := by kernel_rfl
def DI : aw prog 57 = true := by kernel_rfl
def fE : aw prog 67 = true := by kernel_rfl
def fF : aw prog 70 = true := by kernel_rfl
def ya : aw prog 72 = true := by kernel_rfl
def yb : aw prog 82 = true := by kernel_rfl
def yc : aw prog 88 = true := by kernel_rfl
def DJ : aw prog 9 = true := by kernel_rfl
def yd : aw prog 92 = true := by kernel_rfl
def ye : aw prog 99 = true := by kernel_rfl
def DK : dY prog 37 = some (5, 1, 1) := by kernel_rfl
def bp : dY prog 48 = some (9, 1, 16) := by kernel_rfl
def dw : cB prog 31 = some (true, 13) := by kernel_rfl
def bP : cB prog 9 = some (false, 1) := by kernel_rfl
def hE : dy prog 31 = some (.agg #[.int .i64 0, .int .i64 0, .int .i64 0, .slice none 0 0, .slice none 0 0, .int .i64 0, .int .i64 0, .int .i64 0, .int .i64 0, .slice none 0 0, .int .i64 0, .int .i64 0, .int .i64 0]) := by kernel_rfl
def DL : dy prog 5 = some (.int .u8 0) := by kernel_rfl
def iI : dy prog 9 = some (.string (B [])) := by kernel_rfl
def hH {Fz : aj} {w : World} : ay [val (.int .i64 0), val (.int .i64 0), val (.int .i64 0), sl cC [], sl aM [], val (.int .i64 0), val (.int .i64 0), val (.int .i64 0), val (.int .i64 0), sl aM [], val (.int .i64 0), val (.int .i64 0), val (.int .i64 0)] Fz w (Value.cells (.agg #[.int .i64 0, .int .i64 0, .int .i64 0, .slice none 0 0, .slice none 0 0, .int .i64 0, .int .i64 0, .int .i64 0, .int .i64 0, .slice none 0 0, .int .i64 0, .int .i64 0, .int .i64 0])).toList [] := cV rfl (cV rfl (cV rfl (iN (iN (cV rfl (cV rfl (cV rfl (cV rfl (iN (cV rfl (cV rfl (cV rfl (kQ)))))))))))))
end Go.Proofs.YtmekkgdboplbjaaGreatDoor
